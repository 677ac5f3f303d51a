/- The document's names: functions 75 (Name), 74 (Number), 89 (Named). -/
import Derived.Test.YtcmdmhmgffjknaaGreatDoorFacts
import Derived.Test.YtcmdmhmgffjknaaGreatDoorP3
import Derived.Test.YtcmdmhmgffjknaaGreatDoorYOps14
namespace Go.Proofs.YtcmdmhmgffjknaaGreatDoor
open Go.Sx
set_option linter.unusedVariables false

theorem dec_lt {m : Nat} (h : m < 10) : Lib.decDigits m = [UInt8.ofNat (48 + m)] := by rw [Lib.decDigits, dif_pos h]
theorem dec_ge {m : Nat} (h : ¬ m < 10) : Lib.decDigits m = Lib.decDigits (m / 10) ++ [UInt8.ofNat (48 + m % 10)] := by rw [Lib.decDigits, dif_neg h]
theorem rname_tr {W0 : World} (n : Nat) (h1 : 1 ≤ n) (h2 : n ≤ 1000000001) (Fr : List HP) : Tr W0 Tryz.prog 75 [.int .i64 (n : Int)] Fr (fun v Rs' => v = str (nameB n) ∧ Rs' = Fr) := by
 have hdl : (Lib.decDigits n).length ≤ 20 := by
  rw [Lib.decDigits_length]
  exact Nat.le_trans (nDig 9 n (Nat.lt_of_le_of_lt h2 (by decide))) (by decide)
 refine Entry.tr (N := 18) (rs := [.tmp 2]) ⟨_, Tryz.func75, rfl, by kernel_rfl, rfl, rfl⟩ rfl ?_
 refine XC.seq fun K1 hK1 => ?_
 refine XC.region ?_
 refine x_v (r_as rfl) rfl ?_
 refine XL.nil ?_
 refine hK1 _ _ ?_
 refine XC.keep [(0, _)] ⟨rfl, trivial⟩ ?_
 refine XC.seq fun K2 hK2 => ?_
 refine XC.region ?_
 refine x_v (r_as rfl) rfl ?_
 refine XL.nil ?_
 refine hK2 _ _ ?_
 refine XC.keep [(0, _), (3, _)] ⟨rfl, rfl, trivial⟩ ?_
 refine XC.seq fun K3 hK3 => ?_
 refine XC.block ?_
 refine XC.loop (σ := Nat × List UInt8) (fun s => [(0, .int .i64 (s.1 : Int)), (3, str s.2)]) (fun s => Fr) (fun s => ((s.1 = 0 ∧ s.2 = Lib.decDigits n) ∨ (0 < s.1 ∧ Lib.decDigits s.1 ++ s.2 = Lib.decDigits n)) ∧ s.1 ≤ n) (fun s => s.1) (n, []) ?_ ⟨rfl, rfl, trivial⟩ gS ?_
 ·exact ⟨.inr ⟨h1, by simp⟩, Nat.le_refl _⟩
 rintro ⟨m, out⟩ ⟨hm, hmn⟩
 dsimp only at hm hmn ⊢
 refine XC.seq fun K4 hK4 => ?_
 refine XC.seq fun K5 hK5 => ?_
 refine XC.region ?_
 refine x_v (r_mv rfl) rfl ?_
 refine x_v (r_gt rfl rfl) rfl ?_
 refine XL.nil ?_
 refine hK5 _ _ ?_
 refine XC.keep [(0, _), (3, _), (5, _)] ⟨rfl, rfl, rfl, trivial⟩ ?_
 refine XC.cond_d rfl (fun hc1 => ?_) (fun hc1 => ?_)
 ·refine XC.skip ?_
  refine hK4 _ _ ?_
  refine XC.keep [(0, _), (3, _)] ⟨rfl, rfl, trivial⟩ ?_
  refine XC.block ?_
  refine XC.seq fun K6 hK6 => ?_
  have hm2 : Lib.decDigits m ++ out = Lib.decDigits n := by rcases hm with h | h; omega; exact h.2
  have hol : (Lib.decDigits m).length + out.length ≤ 20 := by rw [← List.length_append, hm2]; exact hdl
  refine XC.region ?_
  refine x_v (r_mv rfl) rfl ?_
  refine x_v (r_rem rfl rfl (by omega)) rfl ?_
  refine x_v (yv (v' := .int .i64 ((48 + m % 10 : Nat) : Int)) (r_add rfl rfl (by omega)) (by congr 1)) rfl ?_
  refine x_v (r_cvn Tryz.underlying3 Tryz.underlying5 rfl (wrap_u8 _ (by omega))) rfl ?_
  refine x_a (r_bs (vs := [_]) rfl ⟨rfl, rfl⟩ (bs80_1_0 _)) rfl fun b10 => ?_
  refine x_v (r_text (l := [UInt8.ofNat (48 + m % 10)]) Tryz.underlying80 Tryz.underlying5 Tryz.underlying9 rfl (rd_byte (by omega) pK)) rfl ?_
  refine x_v (r_mv rfl) rfl ?_
  refine x_v (r_cat rfl rfl (by simp; omega)) rfl ?_
  refine x_v (r_as rfl) rfl ?_
  refine XL.nil ?_
  refine hK6 _ _ ?_
  refine XC.keep [(0, _), (3, _)] ⟨rfl, rfl, trivial⟩ ?_
  refine XC.region ?_
  refine x_v (r_mv rfl) rfl ?_
  refine x_v (r_quo rfl rfl (by omega)) rfl ?_
  refine x_v (r_as rfl) rfl ?_
  refine XL.nil ?_
  refine ⟨(m / 10, [UInt8.ofNat (48 + m % 10)] ++ out), ?_, ?_, ⟨rfl, rfl, trivial⟩, gS⟩
  ·exact ⟨by dsimp only; by_cases hlt : m < 10; (exact .inl ⟨by omega, by rw [← hm2, dec_lt hlt, Nat.mod_eq_of_lt hlt]⟩); exact .inr ⟨by omega, by rw [← hm2, dec_ge hlt, List.append_assoc]⟩, by dsimp only; omega⟩
  ·dsimp only; omega
 ·refine XC.exit rfl ?_
  refine hK3 _ _ ?_
  refine XC.keep [(3, _)] ⟨rfl, trivial⟩ ?_
  refine XC.seq fun K7 hK7 => ?_
  have hm3 : out = Lib.decDigits n := by rcases hm with h | h; exact h.2; omega
  refine XC.region ?_
  refine x_v (r_mv rfl) rfl ?_
  refine x_v (r_cat rfl rfl (by rw [hm3]; simp; omega)) rfl ?_
  refine x_v (r_as rfl) rfl ?_
  refine XL.nil ?_
  refine hK7 _ _ ?_
  refine XC.keep [(2, _)] ⟨rfl, trivial⟩ ?_
  refine XC.ret ?_
  exact fin1 rfl (⟨by rw [hm3]; unfold nameB; rw [itoa_nat]; rfl, rfl⟩) gS
theorem dec_head : ∀ (n : Nat), 1 ≤ n → ∃ c r, Lib.decDigits n = c :: r ∧ c.toNat ≠ 48 := by
 intro n
 induction n using Nat.strongRecOn with
 | _ n ih =>
  intro h
  by_cases hl : n < 10
  ·exact ⟨_, [], dec_lt hl, by rw [dig_nat n hl]; omega⟩
  ·obtain ⟨c, r, h1, h2⟩ := ih (n / 10) (by omega) (by omega)
   exact ⟨c, r ++ [_], by rw [dec_ge hl, h1]; rfl, h2⟩
/-- What a segment's name looks like. -/
theorem name_looks {f : List UInt8} (hp : Lib.hasPrefix f logP = true) (h : numB f ≠ 0) : 5 ≤ f.length ∧ f.length ≤ 13 ∧ (∀ c, f[4]? = some c → c.toNat ≠ 48) ∧ ∀ i c, 4 ≤ i → f[i]? = some c → 48 ≤ c.toNat ∧ c.toNat ≤ 57 := by
 obtain ⟨h1, h2, h3⟩ := num_is hp h
 obtain ⟨c, r, h4, h5⟩ := dec_head _ h2
 have hd := dec_digit (numB f)
 have hl : (Lib.decDigits (numB f)).length ≤ 9 := by
  rw [Lib.decDigits_length]
  exact nDig 8 _ (Nat.lt_of_le_of_lt h3 (by decide))
 have hn : f = logP ++ Lib.decDigits (numB f) := by rw [← itoa_nat]; exact h1
 generalize Lib.decDigits (numB f) = D at h4 hd hl hn
 subst hn
 have hL : logP.length = 4 := rfl
 refine ⟨by rw [List.length_append, h4]; simp only [List.length_cons]; omega, by rw [List.length_append]; omega, fun x hx => ?_, fun i x hi hx => ?_⟩
 ·rw [List.getElem?_append_right (by omega), h4] at hx
  have : c = x := by simpa [hL] using hx
  subst this; exact h5
 ·rw [List.getElem?_append_right (by omega)] at hx
  exact hd x (List.mem_of_getElem? hx)
theorem num_next {f : List UInt8} {i n : Nat} {x : UInt8} (h4 : 4 ≤ i) (hi : i ≤ f.length) (hn : n < 10 ^ (i - 4)) (hI : (i = 4 ∧ n = 0) ∨ (5 ≤ i ∧ 1 ≤ n ∧ Lib.decDigits n = (f.drop 4).take (i - 4))) (hx : f[i]? = some x) (h48 : 48 ≤ x.toNat) (h57 : x.toNat ≤ 57) (h0 : i = 4 → x.toNat ≠ 48) :
  4 ≤ i + 1 ∧ i + 1 ≤ f.length ∧ n * 10 + (x.toNat - 48) < 10 ^ (i + 1 - 4) ∧ ((i + 1 = 4 ∧ n * 10 + (x.toNat - 48) = 0) ∨ (5 ≤ i + 1 ∧ 1 ≤ n * 10 + (x.toNat - 48) ∧ Lib.decDigits (n * 10 + (x.toNat - 48)) = (f.drop 4).take (i + 1 - 4))) := by
 have hlt := (List.getElem?_eq_some_iff.1 hx).1
 have e1 : i + 1 - 4 = (i - 4) + 1 := by omega
 have e2 : (f.drop 4)[i - 4]? = some x := by rw [List.getElem?_drop, show 4 + (i - 4) = i by omega, hx]
 have e3 : UInt8.ofNat (48 + (x.toNat - 48)) = x := by rw [show 48 + (x.toNat - 48) = x.toNat by omega, UInt8.ofNat_toNat]
 have ep : 10 ^ (i - 4 + 1) = 10 ^ (i - 4) * 10 := Nat.pow_succ ..
 rw [e1, List.take_add_one, e2, ep]
 refine ⟨by omega, by omega, by omega, .inr ?_⟩
 rcases hI with ⟨rfl, rfl⟩ | ⟨h5, h1, h2⟩
 ·have := h0 rfl
  refine ⟨by omega, by omega, ?_⟩
  rw [Nat.zero_mul, Nat.zero_add, dec_lt (by omega), e3]; rfl
 ·refine ⟨by omega, by omega, ?_⟩
  rw [dec_ge (by omega), show (n * 10 + (x.toNat - 48)) / 10 = n by omega, show (n * 10 + (x.toNat - 48)) % 10 = x.toNat - 48 by omega, e3, h2]; rfl
theorem rnumber_tr {W0 : World} (f : List UInt8) (hp : Lib.hasPrefix f logP = true) (Fr : List HP) : Tr W0 Tryz.prog 74 [str f] Fr (fun v Rs' => v = .int .i64 (numB f : Int) ∧ Rs' = Fr) := by
 have hlk := name_looks hp
 obtain ⟨d, hfd⟩ : ∃ d, f = logP ++ d := by
  unfold Lib.hasPrefix at hp
  exact ⟨_, (List.prefix_iff_eq_append.1 (List.isPrefixOf_iff_prefix.1 hp)).symm⟩
 have hL : logP.length = 4 := rfl
 have hfl : f.length = 4 + d.length := by rw [hfd, List.length_append, hL]
 have h4 : f.take 4 = logP := by rw [hfd]; rfl
 refine Entry.tr (N := 48) (rs := [.tmp 2]) ⟨_, Tryz.func74, rfl, by kernel_rfl, rfl, rfl⟩ rfl ?_
 refine XC.seq fun K1 hK1 => ?_
 refine XC.region ?_
 refine x_v (r_as rfl) rfl ?_
 refine XL.nil ?_
 refine hK1 _ _ ?_
 refine XC.keep [(0, _)] ⟨rfl, trivial⟩ ?_
 refine XC.seq fun K2 hK2 => ?_
 refine XC.region ?_
 refine x_v (r_as rfl) rfl ?_
 refine XL.nil ?_
 refine hK2 _ _ ?_
 refine XC.keep [(0, _), (3, _)] ⟨rfl, rfl, trivial⟩ ?_
 refine XC.seq fun K3 hK3 => ?_
 refine XC.seq fun K4 hK4 => ?_
 refine XC.region ?_
 refine x_v (r_mv rfl) rfl ?_
 refine x_v (r_lens Tryz.underlying9 rfl) rfl ?_
 refine x_v (r_lt rfl rfl) rfl ?_
 refine x_v (r_mv rfl) rfl ?_
 refine XL.splitd 8 rfl (fun hg8 => ?_) (fun hg8 => ?_)
 ·refine x_unwant rfl rfl rfl rfl rfl ?_
  refine x_unwant rfl rfl rfl rfl rfl ?_
  refine x_unwant rfl rfl rfl rfl rfl ?_
  refine x_v (r_pk_t rfl rfl) rfl ?_
  refine x_v (r_mv rfl) rfl ?_
  refine x_unwant rfl rfl rfl rfl rfl ?_
  refine x_unwant rfl rfl rfl rfl rfl ?_
  refine x_unwant rfl rfl rfl rfl rfl ?_
  refine x_v (r_pk_t rfl rfl) rfl ?_
  refine x_v (r_mv rfl) rfl ?_
  refine x_unwant rfl rfl rfl rfl rfl ?_
  refine x_unwant rfl rfl rfl rfl rfl ?_
  refine x_unwant rfl rfl rfl rfl rfl ?_
  refine x_v (r_pk_t rfl rfl) rfl ?_
  refine XL.nil ?_
  refine hK4 _ _ ?_
  refine XC.keep [(0, _), (3, _), (22, _)] ⟨rfl, rfl, rfl, trivial⟩ ?_
  refine XC.cond_t rfl ?_
  refine XC.seq fun K5 hK5 => ?_
  refine XC.region ?_
  refine x_v (r_as rfl) rfl ?_
  refine XL.nil ?_
  refine hK5 _ _ ?_
  refine XC.keep [(2, _)] ⟨rfl, trivial⟩ ?_
  refine XC.ret ?_
  have hz : numB f = 0 := Decidable.byContradiction fun h => by obtain ⟨q1, q2, q3, q4⟩ := hlk h; first | omega | exact absurd rfl (by assumption) | exact q3 x4 hx4 (by omega) | (have q5 := q4 i x (by omega) hx; omega)
  rw [hz]
  exact fin1 rfl (⟨rfl, rfl⟩) gS
 ·refine x_want rfl rfl rfl ?_
  refine x_v (r_mv rfl) rfl ?_
  refine x_want rfl rfl rfl ?_
  refine x_v (r_lens Tryz.underlying9 rfl) rfl ?_
  refine x_want rfl rfl rfl ?_
  refine x_v (r_gt rfl rfl) rfl ?_
  refine x_v (r_pk_f rfl rfl) rfl ?_
  refine x_v (r_mv rfl) rfl ?_
  refine XL.splitd 13 rfl (fun hg13 => ?_) (fun hg13 => ?_)
  ·refine x_unwant rfl rfl rfl rfl rfl ?_
   refine x_unwant rfl rfl rfl rfl rfl ?_
   refine x_unwant rfl rfl rfl rfl rfl ?_
   refine x_v (r_pk_t rfl rfl) rfl ?_
   refine x_v (r_mv rfl) rfl ?_
   refine x_unwant rfl rfl rfl rfl rfl ?_
   refine x_unwant rfl rfl rfl rfl rfl ?_
   refine x_unwant rfl rfl rfl rfl rfl ?_
   refine x_v (r_pk_t rfl rfl) rfl ?_
   refine XL.nil ?_
   refine hK4 _ _ ?_
   refine XC.keep [(0, _), (3, _), (22, _)] ⟨rfl, rfl, rfl, trivial⟩ ?_
   refine XC.cond_t rfl ?_
   refine XC.seq fun K6 hK6 => ?_
   refine XC.region ?_
   refine x_v (r_as rfl) rfl ?_
   refine XL.nil ?_
   refine hK6 _ _ ?_
   refine XC.keep [(2, _)] ⟨rfl, trivial⟩ ?_
   refine XC.ret ?_
   have hz : numB f = 0 := Decidable.byContradiction fun h => by obtain ⟨q1, q2, q3, q4⟩ := hlk h; first | omega | exact absurd rfl (by assumption) | exact q3 x4 hx4 (by omega) | (have q5 := q4 i x (by omega) hx; omega)
   rw [hz]
   exact fin1 rfl (⟨rfl, rfl⟩) gS
  ·refine x_want rfl rfl rfl ?_
   refine x_v (r_mv rfl) rfl ?_
   refine x_want rfl rfl rfl ?_
   refine x_v (yv (v' := str logP) (r_ssl 0 4 Tryz.underlying9 rfl rfl ⟨_, by rfl⟩ (by omega) (by omega)) (by rw [List.drop_zero, Nat.sub_zero, h4])) rfl ?_
   obtain ⟨x4, hx4⟩ : ∃ x, f[4]? = some x := ⟨_, List.getElem?_eq_getElem (by omega)⟩
   refine x_want rfl rfl rfl ?_
   refine x_v (r_sne rfl rfl) rfl ?_
   refine x_v (r_pk_f rfl rfl) rfl ?_
   refine x_v (r_mv rfl) rfl ?_
   refine XL.splitd 18 rfl (fun hg18 => ?_) (fun hg18 => ?_)
   ·refine x_unwant rfl rfl rfl rfl rfl ?_
    refine x_unwant rfl rfl rfl rfl rfl ?_
    refine x_unwant rfl rfl rfl rfl rfl ?_
    refine x_v (r_pk_t rfl rfl) rfl ?_
    refine XL.nil ?_
    refine hK4 _ _ ?_
    refine XC.keep [(0, _), (3, _), (22, _)] ⟨rfl, rfl, rfl, trivial⟩ ?_
    refine XC.cond_t rfl ?_
    refine XC.seq fun K7 hK7 => ?_
    refine XC.region ?_
    refine x_v (r_as rfl) rfl ?_
    refine XL.nil ?_
    refine hK7 _ _ ?_
    refine XC.keep [(2, _)] ⟨rfl, trivial⟩ ?_
    refine XC.ret ?_
    have hz : numB f = 0 := Decidable.byContradiction fun h => by obtain ⟨q1, q2, q3, q4⟩ := hlk h; first | omega | exact absurd rfl (by assumption) | exact q3 x4 hx4 (by omega) | (have q5 := q4 i x (by omega) hx; omega)
    rw [hz]
    exact fin1 rfl (⟨rfl, rfl⟩) gS
   ·refine x_want rfl rfl rfl ?_
    refine x_v (r_mv rfl) rfl ?_
    refine x_want rfl rfl rfl ?_
    refine x_v (r_six (k := 4) Tryz.underlying9 rfl rfl (by omega) hx4) rfl ?_
    refine x_want rfl rfl rfl ?_
    refine x_v (r_eq rfl rfl) rfl ?_
    refine x_v (r_pk_f rfl rfl) rfl ?_
    refine XL.nil ?_
    refine hK4 _ _ ?_
    refine XC.keep [(0, _), (3, _), (22, _)] ⟨rfl, rfl, rfl, trivial⟩ ?_
    refine XC.cond_d rfl (fun hc4 => ?_) (fun hc4 => ?_)
    ·refine XC.seq fun K8 hK8 => ?_
     refine XC.region ?_
     refine x_v (r_as rfl) rfl ?_
     refine XL.nil ?_
     refine hK8 _ _ ?_
     refine XC.keep [(2, _)] ⟨rfl, trivial⟩ ?_
     refine XC.ret ?_
     have hz : numB f = 0 := Decidable.byContradiction fun h => by obtain ⟨q1, q2, q3, q4⟩ := hlk h; first | omega | exact absurd rfl (by assumption) | exact q3 x4 hx4 (by omega) | (have q5 := q4 i x (by omega) hx; omega)
     rw [hz]
     exact fin1 rfl (⟨rfl, rfl⟩) gS
    ·refine XC.skip ?_
     refine hK3 _ _ ?_
     refine XC.keep [(0, _), (3, _)] ⟨rfl, rfl, trivial⟩ ?_
     refine XC.seq fun K9 hK9 => ?_
     refine XC.seq fun K10 hK10 => ?_
     refine XC.region ?_
     refine x_v (r_as rfl) rfl ?_
     refine XL.nil ?_
     refine hK10 _ _ ?_
     refine XC.keep [(0, _), (3, _), (4, _)] ⟨rfl, rfl, rfl, trivial⟩ ?_
     refine XC.block ?_
     refine XC.loop (σ := Nat × Nat) (fun s => [(0, str f), (3, .int .i64 (s.2 : Int)), (4, .int .i64 (s.1 : Int))]) (fun s => Fr) (fun s => 4 ≤ s.1 ∧ s.1 ≤ f.length ∧ s.2 < 10 ^ (s.1 - 4) ∧ ((s.1 = 4 ∧ s.2 = 0) ∨ (5 ≤ s.1 ∧ 1 ≤ s.2 ∧ Lib.decDigits s.2 = (f.drop 4).take (s.1 - 4)))) (fun s => f.length - s.1) (4, 0) ?_ ⟨rfl, rfl, rfl, trivial⟩ gS ?_
     ·exact ⟨Nat.le_refl _, by dsimp only; omega, by decide, .inl ⟨rfl, rfl⟩⟩
     rintro ⟨i, n⟩ ⟨hi4, hi, hn, hI⟩
     dsimp only at hi4 hi hn hI ⊢
     have hn9 : n < 1000000000 := Nat.lt_of_lt_of_le hn (Nat.le_trans (Nat.pow_le_pow_right (by decide) (show i - 4 ≤ 9 by omega)) (by decide))
     refine XC.seq fun K11 hK11 => ?_
     refine XC.seq fun K12 hK12 => ?_
     refine XC.region ?_
     refine x_v (r_mv rfl) rfl ?_
     refine x_v (r_mv rfl) rfl ?_
     refine x_v (r_lens Tryz.underlying9 rfl) rfl ?_
     refine x_v (r_lt rfl rfl) rfl ?_
     refine XL.nil ?_
     refine hK12 _ _ ?_
     refine XC.keep [(0, _), (3, _), (4, _), (26, _)] ⟨rfl, rfl, rfl, rfl, trivial⟩ ?_
     refine XC.cond_d rfl (fun hc5 => ?_) (fun hc5 => ?_)
     ·refine XC.skip ?_
      refine hK11 _ _ ?_
      refine XC.keep [(0, _), (3, _), (4, _)] ⟨rfl, rfl, rfl, trivial⟩ ?_
      refine XC.seq fun K13 hK13 => ?_
      refine XC.block ?_
      refine XC.seq fun K14 hK14 => ?_
      refine XC.seq fun K15 hK15 => ?_
      obtain ⟨x, hx⟩ : ∃ x, f[i]? = some x := ⟨_, List.getElem?_eq_getElem (by omega)⟩
      have hx256 : x.toNat < 256 := x.toBitVec.isLt
      refine XC.region ?_
      refine x_v (r_mv rfl) rfl ?_
      refine x_v (r_mv rfl) rfl ?_
      refine x_v (r_six (k := i) Tryz.underlying9 rfl rfl (by omega) hx) rfl ?_
      refine x_v (r_lt rfl rfl) rfl ?_
      refine x_v (r_mv rfl) rfl ?_
      refine XL.splitd 33 rfl (fun hg33 => ?_) (fun hg33 => ?_)
      ·refine x_unwant rfl rfl rfl rfl rfl ?_
       refine x_unwant rfl rfl rfl rfl rfl ?_
       refine x_unwant rfl rfl rfl rfl rfl ?_
       refine x_unwant rfl rfl rfl rfl rfl ?_
       refine x_v (r_pk_t rfl rfl) rfl ?_
       refine XL.nil ?_
       refine hK15 _ _ ?_
       refine XC.keep [(0, _), (3, _), (4, _), (38, _)] ⟨rfl, rfl, rfl, rfl, trivial⟩ ?_
       refine XC.cond_t rfl ?_
       refine XC.seq fun K16 hK16 => ?_
       refine XC.region ?_
       refine x_v (r_as rfl) rfl ?_
       refine XL.nil ?_
       refine hK16 _ _ ?_
       refine XC.keep [(2, _)] ⟨rfl, trivial⟩ ?_
       refine XC.ret ?_
       have hz : numB f = 0 := Decidable.byContradiction fun h => by obtain ⟨q1, q2, q3, q4⟩ := hlk h; first | omega | exact absurd rfl (by assumption) | exact q3 x4 hx4 (by omega) | (have q5 := q4 i x (by omega) hx; omega)
       rw [hz]
       exact fin1 rfl (⟨rfl, rfl⟩) gS
      ·refine x_want rfl rfl rfl ?_
       refine x_v (r_mv rfl) rfl ?_
       refine x_want rfl rfl rfl ?_
       refine x_v (r_mv rfl) rfl ?_
       refine x_want rfl rfl rfl ?_
       refine x_v (r_six (k := i) Tryz.underlying9 rfl rfl (by omega) hx) rfl ?_
       refine x_want rfl rfl rfl ?_
       refine x_v (r_gt rfl rfl) rfl ?_
       refine x_v (r_pk_f rfl rfl) rfl ?_
       refine XL.nil ?_
       refine hK15 _ _ ?_
       refine XC.keep [(0, _), (3, _), (4, _), (38, _)] ⟨rfl, rfl, rfl, rfl, trivial⟩ ?_
       refine XC.cond_d rfl (fun hc7 => ?_) (fun hc7 => ?_)
       ·refine XC.seq fun K17 hK17 => ?_
        refine XC.region ?_
        refine x_v (r_as rfl) rfl ?_
        refine XL.nil ?_
        refine hK17 _ _ ?_
        refine XC.keep [(2, _)] ⟨rfl, trivial⟩ ?_
        refine XC.ret ?_
        have hz : numB f = 0 := Decidable.byContradiction fun h => by obtain ⟨q1, q2, q3, q4⟩ := hlk h; first | omega | exact absurd rfl (by assumption) | exact q3 x4 hx4 (by omega) | (have q5 := q4 i x (by omega) hx; omega)
        rw [hz]
        exact fin1 rfl (⟨rfl, rfl⟩) gS
       ·refine XC.skip ?_
        refine hK14 _ _ ?_
        refine XC.keep [(0, _), (3, _), (4, _)] ⟨rfl, rfl, rfl, trivial⟩ ?_
        refine XC.region ?_
        refine x_v (r_mv rfl) rfl ?_
        refine x_v (r_mul rfl rfl (by omega)) rfl ?_
        refine x_v (r_mv rfl) rfl ?_
        refine x_v (r_mv rfl) rfl ?_
        refine x_v (r_six (k := i) Tryz.underlying9 rfl rfl (by omega) hx) rfl ?_
        refine x_v (r_cvn Tryz.underlying5 Tryz.underlying3 rfl (IntWalk.i64_in _ (by omega))) rfl ?_
        refine x_v (r_add rfl rfl (by omega)) rfl ?_
        refine x_v (yv (v' := .int .i64 ((n * 10 + (x.toNat - 48) : Nat) : Int)) (r_sub rfl rfl (by omega)) (congrArg (Value.int .i64) (by omega))) rfl ?_
        refine x_v (r_as rfl) rfl ?_
        refine XL.nil ?_
        refine hK13 _ _ ?_
        refine XC.keep [(0, _), (3, _), (4, _)] ⟨rfl, rfl, rfl, trivial⟩ ?_
        refine XC.region ?_
        refine x_v (r_mv rfl) rfl ?_
        refine x_v (r_add rfl rfl (by omega)) rfl ?_
        refine x_v (r_as rfl) rfl ?_
        refine XL.nil ?_
        refine ⟨(i + 1, n * 10 + (x.toNat - 48)), ?_, ?_, ⟨rfl, rfl, rfl, trivial⟩, gS⟩
        ·exact num_next hi4 hi hn hI hx (by omega) (by omega) (fun e => by subst e; rw [hx] at hx4; injection hx4 with e2; rw [e2]; omega)
        ·dsimp only; omega
     ·refine XC.exit rfl ?_
      refine hK9 _ _ ?_
      refine XC.keep [(3, _)] ⟨rfl, trivial⟩ ?_
      refine XC.seq fun K18 hK18 => ?_
      refine XC.region ?_
      refine x_v (r_mv rfl) rfl ?_
      refine x_v (r_as rfl) rfl ?_
      refine XL.nil ?_
      refine hK18 _ _ ?_
      refine XC.keep [(2, _)] ⟨rfl, trivial⟩ ?_
      refine XC.ret ?_
      have hI2 : 5 ≤ i ∧ 1 ≤ n ∧ Lib.decDigits n = (f.drop 4).take (i - 4) := by rcases hI with h | h; omega; exact h
      have hfn : f = nameB n := by unfold nameB; rw [itoa_nat, hI2.2.2, List.take_of_length_le (by rw [List.length_drop]; omega), hfd]; rfl
      have hnb : numB f = n := by rw [hfn]; exact num_name n hI2.2.1 (by omega)
      rw [hnb]
      exact fin1 rfl (⟨rfl, rfl⟩) gS
theorem named_tr {W0 : World} (s : List UInt8) (Fr : List HP) (hs : s.length ≤ maxS) : Tr W0 Tryz.prog 89 [str s] Fr (fun v Rs' => v = .bool (fineB s) ∧ Rs' = Fr) := by
 have hmax : maxS = 140737488355328 := rfl
 refine Entry.tr (N := 41) (rs := [.tmp 2]) ⟨_, Tryz.func89, rfl, by kernel_rfl, rfl, rfl⟩ rfl ?_
 refine XC.seq fun K1 hK1 => ?_
 refine XC.region ?_
 refine x_v (r_as rfl) rfl ?_
 refine XL.nil ?_
 refine hK1 _ _ ?_
 refine XC.keep [(0, _)] ⟨rfl, trivial⟩ ?_
 refine XC.seq fun K2 hK2 => ?_
 refine XC.seq fun K3 hK3 => ?_
 refine XC.region ?_
 refine x_v (r_as rfl) rfl ?_
 refine XL.nil ?_
 refine hK3 _ _ ?_
 refine XC.keep [(0, _), (3, _)] ⟨rfl, rfl, trivial⟩ ?_
 refine XC.block ?_
 refine XC.loop (σ := Nat) (fun i => [(0, str s), (3, .int .i64 (i : Int))]) (fun i => Fr) (fun i => i ≤ s.length ∧ ∀ c ∈ s.take i, oddN c.toNat = false) (fun i => s.length - i) 0 ?_ ⟨rfl, rfl, trivial⟩ gS ?_
 ·exact ⟨Nat.zero_le _, by simp⟩
 rintro i ⟨hi, hI⟩
 refine XC.seq fun K4 hK4 => ?_
 refine XC.seq fun K5 hK5 => ?_
 refine XC.region ?_
 refine x_v (r_mv rfl) rfl ?_
 refine x_v (r_mv rfl) rfl ?_
 refine x_v (r_lens Tryz.underlying9 rfl) rfl ?_
 refine x_v (r_lt rfl rfl) rfl ?_
 refine XL.nil ?_
 refine hK5 _ _ ?_
 refine XC.keep [(0, _), (3, _), (8, _)] ⟨rfl, rfl, rfl, trivial⟩ ?_
 refine XC.cond_d rfl (fun hc1 => ?_) (fun hc1 => ?_)
 ·refine XC.skip ?_
  refine hK4 _ _ ?_
  refine XC.keep [(0, _), (3, _)] ⟨rfl, rfl, trivial⟩ ?_
  refine XC.seq fun K6 hK6 => ?_
  refine XC.block ?_
  refine XC.seq fun K7 hK7 => ?_
  obtain ⟨x, hx⟩ : ∃ x, s[i]? = some x := ⟨_, List.getElem?_eq_getElem (by omega)⟩
  refine XC.region ?_
  refine x_v (r_mv rfl) rfl ?_
  refine x_v (r_mv rfl) rfl ?_
  refine x_v (r_six (k := i) Tryz.underlying9 rfl rfl (by omega) hx) rfl ?_
  refine x_v (r_as rfl) rfl ?_
  refine XL.nil ?_
  refine hK7 _ _ ?_
  refine XC.keep [(0, _), (3, _), (4, _)] ⟨rfl, rfl, rfl, trivial⟩ ?_
  refine XC.seq fun K8 hK8 => ?_
  refine XC.region ?_
  refine x_v (r_mv rfl) rfl ?_
  refine x_v (r_ge rfl rfl) rfl ?_
  refine x_v (r_mv rfl) rfl ?_
  refine XL.splitd 16 rfl (fun hg16 => ?_) (fun hg16 => ?_)
  ·refine x_want rfl rfl rfl ?_
   refine x_v (r_mv rfl) rfl ?_
   refine x_want rfl rfl rfl ?_
   refine x_v (r_le rfl rfl) rfl ?_
   refine x_v (r_pk_t rfl rfl) rfl ?_
   refine x_v (r_mv rfl) rfl ?_
   refine XL.splitd 20 rfl (fun hg20 => ?_) (fun hg20 => ?_)
   ·refine x_unwant rfl rfl rfl rfl rfl ?_
    refine x_unwant rfl rfl rfl rfl rfl ?_
    refine x_unwant rfl rfl rfl rfl rfl ?_
    refine x_unwantu rfl rfl rfl rfl rfl ?_
    refine x_unwantu rfl rfl rfl rfl rfl ?_
    refine x_unwant rfl rfl rfl rfl rfl ?_
    refine x_v (r_pk_t rfl rfl) rfl ?_
    refine x_v (r_mv rfl) rfl ?_
    refine x_unwant rfl rfl rfl rfl rfl ?_
    refine x_unwant rfl rfl rfl rfl rfl ?_
    refine x_v (r_pk_t rfl rfl) rfl ?_
    refine x_v (r_not rfl) rfl ?_
    refine XL.nil ?_
    refine hK8 _ _ ?_
    refine XC.keep [(0, _), (3, _), (32, _)] ⟨rfl, rfl, rfl, trivial⟩ ?_
    refine XC.cond_f rfl ?_
    refine XC.skip ?_
    refine hK6 _ _ ?_
    refine XC.keep [(0, _), (3, _)] ⟨rfl, rfl, trivial⟩ ?_
    refine XC.region ?_
    refine x_v (r_mv rfl) rfl ?_
    refine x_v (r_add rfl rfl (by omega)) rfl ?_
    refine x_v (r_as rfl) rfl ?_
    refine XL.nil ?_
    refine ⟨i + 1, ?_, ?_, ⟨rfl, rfl, trivial⟩, gS⟩
    ·exact ⟨by omega, fun c hc => by rw [List.take_add_one, hx] at hc; rcases List.mem_append.1 hc with h | h; (exact hI c h); (simp at h; subst h; unfold oddN; rw [decide_eq_false_iff_not]; omega)⟩
    ·omega
   ·refine x_want rfl rfl rfl ?_
    refine x_v (r_mv rfl) rfl ?_
    refine x_want rfl rfl rfl ?_
    refine x_v (r_ge rfl rfl) rfl ?_
    refine x_want rfl rfl rfl ?_
    refine x_v (r_mv rfl) rfl ?_
    refine XL.splitd 23 rfl (fun hg23 => ?_) (fun hg23 => ?_)
    ·refine x_want rfl rfl rfl ?_
     refine x_v (r_mv rfl) rfl ?_
     refine x_want rfl rfl rfl ?_
     refine x_v (r_le rfl rfl) rfl ?_
     refine x_want rfl rfl rfl ?_
     refine x_v (r_pk_t rfl rfl) rfl ?_
     refine x_v (r_pk_f rfl rfl) rfl ?_
     refine x_v (r_mv rfl) rfl ?_
     refine XL.splitd 28 rfl (fun hg28 => ?_) (fun hg28 => ?_)
     ·refine x_unwant rfl rfl rfl rfl rfl ?_
      refine x_unwant rfl rfl rfl rfl rfl ?_
      refine x_v (r_pk_t rfl rfl) rfl ?_
      refine x_v (r_not rfl) rfl ?_
      refine XL.nil ?_
      refine hK8 _ _ ?_
      refine XC.keep [(0, _), (3, _), (32, _)] ⟨rfl, rfl, rfl, trivial⟩ ?_
      refine XC.cond_f rfl ?_
      refine XC.skip ?_
      refine hK6 _ _ ?_
      refine XC.keep [(0, _), (3, _)] ⟨rfl, rfl, trivial⟩ ?_
      refine XC.region ?_
      refine x_v (r_mv rfl) rfl ?_
      refine x_v (r_add rfl rfl (by omega)) rfl ?_
      refine x_v (r_as rfl) rfl ?_
      refine XL.nil ?_
      refine ⟨i + 1, ?_, ?_, ⟨rfl, rfl, trivial⟩, gS⟩
      ·exact ⟨by omega, fun c hc => by rw [List.take_add_one, hx] at hc; rcases List.mem_append.1 hc with h | h; (exact hI c h); (simp at h; subst h; unfold oddN; rw [decide_eq_false_iff_not]; omega)⟩
      ·omega
     ·refine x_want rfl rfl rfl ?_
      refine x_v (r_mv rfl) rfl ?_
      refine x_want rfl rfl rfl ?_
      refine x_v (r_eq rfl rfl) rfl ?_
      refine x_v (r_pk_f rfl rfl) rfl ?_
      refine x_v (r_not_d rfl) rfl ?_
      refine XL.nil ?_
      refine hK8 _ _ ?_
      refine XC.keep [(0, _), (3, _), (32, _)] ⟨rfl, rfl, rfl, trivial⟩ ?_
      refine XC.cond_d rfl (fun hc4 => ?_) (fun hc4 => ?_)
      ·refine XC.seq fun K9 hK9 => ?_
       refine XC.region ?_
       refine x_v (r_as rfl) rfl ?_
       refine XL.nil ?_
       refine hK9 _ _ ?_
       refine XC.keep [(2, _)] ⟨rfl, trivial⟩ ?_
       refine XC.ret ?_
       exact fin1 rfl (⟨congrArg Value.bool (by first | (symm; unfold fineB; rw [decide_eq_false_iff_not]; exact fun h => by have h3 := h.2.2 x (List.mem_of_getElem? hx); unfold oddN at h3; rw [decide_eq_false_iff_not] at h3; omega) | (unfold fineB; rw [List.take_of_length_le (by omega)] at hI; rw [decide_eq_decide]; exact ⟨fun h => ⟨fun e => by subst e; simp at *, by omega, hI⟩, fun h => by omega⟩) | (symm; unfold fineB; rw [decide_eq_false_iff_not]; rintro ⟨h1, _⟩; exact h1 (List.eq_nil_of_length_eq_zero (by omega)))), rfl⟩) gS
      ·refine XC.skip ?_
       refine hK6 _ _ ?_
       refine XC.keep [(0, _), (3, _)] ⟨rfl, rfl, trivial⟩ ?_
       refine XC.region ?_
       refine x_v (r_mv rfl) rfl ?_
       refine x_v (r_add rfl rfl (by omega)) rfl ?_
       refine x_v (r_as rfl) rfl ?_
       refine XL.nil ?_
       refine ⟨i + 1, ?_, ?_, ⟨rfl, rfl, trivial⟩, gS⟩
       ·exact ⟨by omega, fun c hc => by rw [List.take_add_one, hx] at hc; rcases List.mem_append.1 hc with h | h; (exact hI c h); (simp at h; subst h; unfold oddN; rw [decide_eq_false_iff_not]; omega)⟩
       ·omega
    ·refine x_unwant rfl rfl rfl rfl rfl ?_
     refine x_unwant rfl rfl rfl rfl rfl ?_
     refine x_want rfl rfl rfl ?_
     refine x_v (r_pk_f rfl rfl) rfl ?_
     refine x_v (r_pk_f rfl rfl) rfl ?_
     refine x_v (r_mv rfl) rfl ?_
     refine x_want rfl rfl rfl ?_
     refine x_v (r_mv rfl) rfl ?_
     refine x_want rfl rfl rfl ?_
     refine x_v (r_eq rfl rfl) rfl ?_
     refine x_v (r_pk_f rfl rfl) rfl ?_
     refine x_v (r_not_d rfl) rfl ?_
     refine XL.nil ?_
     refine hK8 _ _ ?_
     refine XC.keep [(0, _), (3, _), (32, _)] ⟨rfl, rfl, rfl, trivial⟩ ?_
     refine XC.cond_d rfl (fun hc5 => ?_) (fun hc5 => ?_)
     ·refine XC.seq fun K10 hK10 => ?_
      refine XC.region ?_
      refine x_v (r_as rfl) rfl ?_
      refine XL.nil ?_
      refine hK10 _ _ ?_
      refine XC.keep [(2, _)] ⟨rfl, trivial⟩ ?_
      refine XC.ret ?_
      exact fin1 rfl (⟨congrArg Value.bool (by first | (symm; unfold fineB; rw [decide_eq_false_iff_not]; exact fun h => by have h3 := h.2.2 x (List.mem_of_getElem? hx); unfold oddN at h3; rw [decide_eq_false_iff_not] at h3; omega) | (unfold fineB; rw [List.take_of_length_le (by omega)] at hI; rw [decide_eq_decide]; exact ⟨fun h => ⟨fun e => by subst e; simp at *, by omega, hI⟩, fun h => by omega⟩) | (symm; unfold fineB; rw [decide_eq_false_iff_not]; rintro ⟨h1, _⟩; exact h1 (List.eq_nil_of_length_eq_zero (by omega)))), rfl⟩) gS
     ·refine XC.skip ?_
      refine hK6 _ _ ?_
      refine XC.keep [(0, _), (3, _)] ⟨rfl, rfl, trivial⟩ ?_
      refine XC.region ?_
      refine x_v (r_mv rfl) rfl ?_
      refine x_v (r_add rfl rfl (by omega)) rfl ?_
      refine x_v (r_as rfl) rfl ?_
      refine XL.nil ?_
      refine ⟨i + 1, ?_, ?_, ⟨rfl, rfl, trivial⟩, gS⟩
      ·exact ⟨by omega, fun c hc => by rw [List.take_add_one, hx] at hc; rcases List.mem_append.1 hc with h | h; (exact hI c h); (simp at h; subst h; unfold oddN; rw [decide_eq_false_iff_not]; omega)⟩
      ·omega
  ·refine x_unwant rfl rfl rfl rfl rfl ?_
   refine x_unwant rfl rfl rfl rfl rfl ?_
   refine x_v (r_pk_f rfl rfl) rfl ?_
   refine x_v (r_mv rfl) rfl ?_
   refine x_want rfl rfl rfl ?_
   refine x_v (r_mv rfl) rfl ?_
   refine x_want rfl rfl rfl ?_
   refine x_v (r_ge rfl rfl) rfl ?_
   refine x_want rfl rfl rfl ?_
   refine x_v (r_mv rfl) rfl ?_
   refine XL.splitd 23 rfl (fun hg23 => ?_) (fun hg23 => ?_)
   ·refine x_want rfl rfl rfl ?_
    refine x_v (r_mv rfl) rfl ?_
    refine x_want rfl rfl rfl ?_
    refine x_v (r_le rfl rfl) rfl ?_
    refine x_want rfl rfl rfl ?_
    refine x_v (r_pk_t rfl rfl) rfl ?_
    refine x_v (r_pk_f rfl rfl) rfl ?_
    refine x_v (r_mv rfl) rfl ?_
    refine XL.splitd 28 rfl (fun hg28 => ?_) (fun hg28 => ?_)
    ·refine x_unwant rfl rfl rfl rfl rfl ?_
     refine x_unwant rfl rfl rfl rfl rfl ?_
     refine x_v (r_pk_t rfl rfl) rfl ?_
     refine x_v (r_not rfl) rfl ?_
     refine XL.nil ?_
     refine hK8 _ _ ?_
     refine XC.keep [(0, _), (3, _), (32, _)] ⟨rfl, rfl, rfl, trivial⟩ ?_
     refine XC.cond_f rfl ?_
     refine XC.skip ?_
     refine hK6 _ _ ?_
     refine XC.keep [(0, _), (3, _)] ⟨rfl, rfl, trivial⟩ ?_
     refine XC.region ?_
     refine x_v (r_mv rfl) rfl ?_
     refine x_v (r_add rfl rfl (by omega)) rfl ?_
     refine x_v (r_as rfl) rfl ?_
     refine XL.nil ?_
     refine ⟨i + 1, ?_, ?_, ⟨rfl, rfl, trivial⟩, gS⟩
     ·exact ⟨by omega, fun c hc => by rw [List.take_add_one, hx] at hc; rcases List.mem_append.1 hc with h | h; (exact hI c h); (simp at h; subst h; unfold oddN; rw [decide_eq_false_iff_not]; omega)⟩
     ·omega
    ·refine x_want rfl rfl rfl ?_
     refine x_v (r_mv rfl) rfl ?_
     refine x_want rfl rfl rfl ?_
     refine x_v (r_eq rfl rfl) rfl ?_
     refine x_v (r_pk_f rfl rfl) rfl ?_
     refine x_v (r_not_d rfl) rfl ?_
     refine XL.nil ?_
     refine hK8 _ _ ?_
     refine XC.keep [(0, _), (3, _), (32, _)] ⟨rfl, rfl, rfl, trivial⟩ ?_
     refine XC.cond_d rfl (fun hc7 => ?_) (fun hc7 => ?_)
     ·refine XC.seq fun K11 hK11 => ?_
      refine XC.region ?_
      refine x_v (r_as rfl) rfl ?_
      refine XL.nil ?_
      refine hK11 _ _ ?_
      refine XC.keep [(2, _)] ⟨rfl, trivial⟩ ?_
      refine XC.ret ?_
      exact fin1 rfl (⟨congrArg Value.bool (by first | (symm; unfold fineB; rw [decide_eq_false_iff_not]; exact fun h => by have h3 := h.2.2 x (List.mem_of_getElem? hx); unfold oddN at h3; rw [decide_eq_false_iff_not] at h3; omega) | (unfold fineB; rw [List.take_of_length_le (by omega)] at hI; rw [decide_eq_decide]; exact ⟨fun h => ⟨fun e => by subst e; simp at *, by omega, hI⟩, fun h => by omega⟩) | (symm; unfold fineB; rw [decide_eq_false_iff_not]; rintro ⟨h1, _⟩; exact h1 (List.eq_nil_of_length_eq_zero (by omega)))), rfl⟩) gS
     ·refine XC.skip ?_
      refine hK6 _ _ ?_
      refine XC.keep [(0, _), (3, _)] ⟨rfl, rfl, trivial⟩ ?_
      refine XC.region ?_
      refine x_v (r_mv rfl) rfl ?_
      refine x_v (r_add rfl rfl (by omega)) rfl ?_
      refine x_v (r_as rfl) rfl ?_
      refine XL.nil ?_
      refine ⟨i + 1, ?_, ?_, ⟨rfl, rfl, trivial⟩, gS⟩
      ·exact ⟨by omega, fun c hc => by rw [List.take_add_one, hx] at hc; rcases List.mem_append.1 hc with h | h; (exact hI c h); (simp at h; subst h; unfold oddN; rw [decide_eq_false_iff_not]; omega)⟩
      ·omega
   ·refine x_unwant rfl rfl rfl rfl rfl ?_
    refine x_unwant rfl rfl rfl rfl rfl ?_
    refine x_want rfl rfl rfl ?_
    refine x_v (r_pk_f rfl rfl) rfl ?_
    refine x_v (r_pk_f rfl rfl) rfl ?_
    refine x_v (r_mv rfl) rfl ?_
    refine x_want rfl rfl rfl ?_
    refine x_v (r_mv rfl) rfl ?_
    refine x_want rfl rfl rfl ?_
    refine x_v (r_eq rfl rfl) rfl ?_
    refine x_v (r_pk_f rfl rfl) rfl ?_
    refine x_v (r_not_d rfl) rfl ?_
    refine XL.nil ?_
    refine hK8 _ _ ?_
    refine XC.keep [(0, _), (3, _), (32, _)] ⟨rfl, rfl, rfl, trivial⟩ ?_
    refine XC.cond_d rfl (fun hc8 => ?_) (fun hc8 => ?_)
    ·refine XC.seq fun K12 hK12 => ?_
     refine XC.region ?_
     refine x_v (r_as rfl) rfl ?_
     refine XL.nil ?_
     refine hK12 _ _ ?_
     refine XC.keep [(2, _)] ⟨rfl, trivial⟩ ?_
     refine XC.ret ?_
     exact fin1 rfl (⟨congrArg Value.bool (by first | (symm; unfold fineB; rw [decide_eq_false_iff_not]; exact fun h => by have h3 := h.2.2 x (List.mem_of_getElem? hx); unfold oddN at h3; rw [decide_eq_false_iff_not] at h3; omega) | (unfold fineB; rw [List.take_of_length_le (by omega)] at hI; rw [decide_eq_decide]; exact ⟨fun h => ⟨fun e => by subst e; simp at *, by omega, hI⟩, fun h => by omega⟩) | (symm; unfold fineB; rw [decide_eq_false_iff_not]; rintro ⟨h1, _⟩; exact h1 (List.eq_nil_of_length_eq_zero (by omega)))), rfl⟩) gS
    ·refine XC.skip ?_
     refine hK6 _ _ ?_
     refine XC.keep [(0, _), (3, _)] ⟨rfl, rfl, trivial⟩ ?_
     refine XC.region ?_
     refine x_v (r_mv rfl) rfl ?_
     refine x_v (r_add rfl rfl (by omega)) rfl ?_
     refine x_v (r_as rfl) rfl ?_
     refine XL.nil ?_
     refine ⟨i + 1, ?_, ?_, ⟨rfl, rfl, trivial⟩, gS⟩
     ·exact ⟨by omega, fun c hc => by rw [List.take_add_one, hx] at hc; rcases List.mem_append.1 hc with h | h; (exact hI c h); (simp at h; subst h; unfold oddN; rw [decide_eq_false_iff_not]; omega)⟩
     ·omega
 ·refine XC.exit rfl ?_
  refine hK2 _ _ ?_
  refine XC.keep [(0, _)] ⟨rfl, trivial⟩ ?_
  refine XC.seq fun K13 hK13 => ?_
  refine XC.region ?_
  refine x_v (r_mv rfl) rfl ?_
  refine x_v (r_lens Tryz.underlying9 rfl) rfl ?_
  refine x_v (r_ge rfl rfl) rfl ?_
  refine x_v (r_mv rfl) rfl ?_
  refine XL.splitd 36 rfl (fun hg36 => ?_) (fun hg36 => ?_)
  ·refine x_want rfl rfl rfl ?_
   refine x_v (r_mv rfl) rfl ?_
   refine x_want rfl rfl rfl ?_
   refine x_v (r_lens Tryz.underlying9 rfl) rfl ?_
   refine x_want rfl rfl rfl ?_
   refine x_v (r_le rfl rfl) rfl ?_
   refine x_v (r_pk_t rfl rfl) rfl ?_
   refine x_v (r_as rfl) rfl ?_
   refine XL.nil ?_
   refine hK13 _ _ ?_
   refine XC.keep [(2, _)] ⟨rfl, trivial⟩ ?_
   refine XC.ret ?_
   exact fin1 rfl (⟨congrArg Value.bool (by first | (symm; unfold fineB; rw [decide_eq_false_iff_not]; exact fun h => by have h3 := h.2.2 x (List.mem_of_getElem? hx); unfold oddN at h3; rw [decide_eq_false_iff_not] at h3; omega) | (unfold fineB; rw [List.take_of_length_le (by omega)] at hI; rw [decide_eq_decide]; exact ⟨fun h => ⟨fun e => by subst e; simp at *, by omega, hI⟩, fun h => by omega⟩) | (symm; unfold fineB; rw [decide_eq_false_iff_not]; rintro ⟨h1, _⟩; exact h1 (List.eq_nil_of_length_eq_zero (by omega)))), rfl⟩) gS
  ·refine x_unwant rfl rfl rfl rfl rfl ?_
   refine x_unwant rfl rfl rfl rfl rfl ?_
   refine x_unwant rfl rfl rfl rfl rfl ?_
   refine x_v (r_pk_f rfl rfl) rfl ?_
   refine x_v (r_as rfl) rfl ?_
   refine XL.nil ?_
   refine hK13 _ _ ?_
   refine XC.keep [(2, _)] ⟨rfl, trivial⟩ ?_
   refine XC.ret ?_
   exact fin1 rfl (⟨congrArg Value.bool (by first | (symm; unfold fineB; rw [decide_eq_false_iff_not]; exact fun h => by have h3 := h.2.2 x (List.mem_of_getElem? hx); unfold oddN at h3; rw [decide_eq_false_iff_not] at h3; omega) | (unfold fineB; rw [List.take_of_length_le (by omega)] at hI; rw [decide_eq_decide]; exact ⟨fun h => ⟨fun e => by subst e; simp at *, by omega, hI⟩, fun h => by omega⟩) | (symm; unfold fineB; rw [decide_eq_false_iff_not]; rintro ⟨h1, _⟩; exact h1 (List.eq_nil_of_length_eq_zero (by omega)))), rfl⟩) gS
end Go.Proofs.YtcmdmhmgffjknaaGreatDoor
/- The law's functions: 23 (Same), 17 (begins). -/
namespace Go.Proofs.YtcmdmhmgffjknaaGreatDoor
open Go.Sx
set_option linter.unusedVariables false

theorem rd_take {α : Type} {f : α → List Value} {m : Nat} (hf : ∀ x, (f x).length = m) {W0 : World} {Fr : List HP} {A : Option Addr} {L : List α} (h : Rdb W0 Fr A L.length m (cells f L)) {j : Nat} (hj : j ≤ L.length) : Rdb W0 Fr A (L.take j).length m (cells f (L.take j)) := by
 have hl : (L.take j).length = j := by rw [List.length_take]; omega
 refine ⟨by rw [cells_len hf], fun hn => ?_⟩
 obtain ⟨b, o, e, k⟩ := h.at_ (by omega)
 refine ⟨b, o, e, fun w hw i u hu => k w hw i u ?_⟩
 rw [← cells_take hf, List.getElem?_take] at hu
 split at hu
 ·exact hu
 ·cases hu
theorem rd_drop {α : Type} {f : α → List Value} {m : Nat} (hf : ∀ x, (f x).length = m) {W0 : World} {Fr : List HP} {A : Option Addr} {L : List α} {c : Nat} (h : Rdb W0 Fr A L.length m (cells f L)) (hc : L.length ≤ c) {j : Nat} (hj : j ≤ L.length) : Rdb W0 Fr (if c = j then A else A.map (·.add (j * m))) (L.drop j).length m (cells f (L.drop j)) := by
 have h1 := h.cut (lo := j) (hi := L.length) (cap := c) hj (Nat.le_refl _) hc
 have hl : (L.drop j).length = L.length - j := List.length_drop ..
 rw [hl]
 rw [cells_drop hf, show ((L.length - j) * m) = (L.drop j).length * m by rw [hl], List.take_of_length_le (by rw [cells_len hf]; exact Nat.le_refl _)] at h1
 exact h1
theorem tk_eq {α : Type} {x y : List α} {i : Nat} {a b : α} (h : x.take i = y.take i) (ha : x[i]? = some a) (hb : y[i]? = some b) (e : a = b) : x.take (i + 1) = y.take (i + 1) := by
 subst e; rw [List.take_add_one, List.take_add_one, h, ha, hb]
theorem same_tr {W0 : World} {Fr : List HP} (A B : Option Addr) (c d : Nat) (x y : List (List UInt8)) (hx : Rdb W0 Fr A x.length 1 (cells sv x)) (hy : Rdb W0 Fr B y.length 1 (cells sv y)) (hl : x.length ≤ 9223372036854775807) :
  Tr W0 Tryz.prog 23 [.slice A x.length c, .slice B y.length d] Fr (fun v Rs' => v = .bool (decide (x = y)) ∧ Rs' = Fr) := by
 have hmax : maxS = 140737488355328 := rfl
 refine Entry.tr (N := 26) (rs := [.tmp 4]) ⟨_, Tryz.func23, rfl, by kernel_rfl, rfl, rfl⟩ rfl ?_
 refine XC.seq fun K1 hK1 => ?_
 refine XC.region ?_
 refine x_v (r_as rfl) rfl ?_
 refine XL.nil ?_
 refine hK1 _ _ ?_
 refine XC.keep [(0, _), (1, _)] ⟨rfl, rfl, trivial⟩ ?_
 refine XC.seq fun K2 hK2 => ?_
 refine XC.seq fun K3 hK3 => ?_
 refine XC.region ?_
 refine x_v (r_mv rfl) rfl ?_
 refine x_v (r_lensl Tryz.underlying22 rfl) rfl ?_
 refine x_v (r_mv rfl) rfl ?_
 refine x_v (r_lensl Tryz.underlying22 rfl) rfl ?_
 refine x_v (r_ne rfl rfl) rfl ?_
 refine XL.nil ?_
 refine hK3 _ _ ?_
 refine XC.keep [(0, _), (1, _), (10, _)] ⟨rfl, rfl, rfl, trivial⟩ ?_
 refine XC.cond_d rfl (fun hc1 => ?_) (fun hc1 => ?_)
 ·refine XC.seq fun K4 hK4 => ?_
  refine XC.region ?_
  refine x_v (r_as rfl) rfl ?_
  refine XL.nil ?_
  refine hK4 _ _ ?_
  refine XC.keep [(4, _)] ⟨rfl, trivial⟩ ?_
  refine XC.ret ?_
  exact fin1 rfl (⟨by rw [decide_eq_false (by intro e; subst e; omega)], rfl⟩) gS
 ·refine XC.skip ?_
  refine hK2 _ _ ?_
  refine XC.keep [(0, _), (1, _)] ⟨rfl, rfl, trivial⟩ ?_
  refine XC.seq fun K5 hK5 => ?_
  refine XC.seq fun K6 hK6 => ?_
  refine XC.region ?_
  refine x_v (r_as rfl) rfl ?_
  refine XL.nil ?_
  refine hK6 _ _ ?_
  refine XC.keep [(0, _), (1, _), (5, _)] ⟨rfl, rfl, rfl, trivial⟩ ?_
  refine XC.block ?_
  refine XC.loop (σ := Nat) (fun i => [(0, .slice A x.length c), (1, .slice B y.length d), (5, .int .i64 (i : Int))]) (fun i => Fr) (fun i => i ≤ x.length ∧ x.take i = y.take i) (fun i => x.length - i) 0 ?_ ⟨rfl, rfl, rfl, trivial⟩ gS ?_
  ·exact ⟨Nat.zero_le _, by simp⟩
  rintro i ⟨hi, hI⟩
  refine XC.seq fun K7 hK7 => ?_
  refine XC.seq fun K8 hK8 => ?_
  refine XC.region ?_
  refine x_v (r_mv rfl) rfl ?_
  refine x_v (r_mv rfl) rfl ?_
  refine x_v (r_lensl Tryz.underlying22 rfl) rfl ?_
  refine x_v (r_lt rfl rfl) rfl ?_
  refine XL.nil ?_
  refine hK8 _ _ ?_
  refine XC.keep [(0, _), (1, _), (5, _), (14, _)] ⟨rfl, rfl, rfl, rfl, trivial⟩ ?_
  refine XC.cond_d rfl (fun hc2 => ?_) (fun hc2 => ?_)
  ·refine XC.skip ?_
   refine hK7 _ _ ?_
   refine XC.keep [(0, _), (1, _), (5, _)] ⟨rfl, rfl, rfl, trivial⟩ ?_
   refine XC.seq fun K9 hK9 => ?_
   refine XC.block ?_
   refine XC.seq fun K10 hK10 => ?_
   obtain ⟨a, ha⟩ : ∃ a, x[i]? = some a := ⟨_, List.getElem?_eq_getElem (by omega)⟩
   obtain ⟨b, hb⟩ : ∃ b, y[i]? = some b := ⟨_, List.getElem?_eq_getElem (by omega)⟩
   obtain ⟨xb, xo, rfl, hat⟩ := hx.at_ (by omega)
   obtain ⟨yb, yo, rfl, hbt⟩ := hy.at_ (by omega)
   refine XC.draw Fr false [(0, false), (1, false), (2, false), (3, false), (4, false), (5, false), (6, false), (7, false), (8, false)] (by kernel_rfl) (by kernel_rfl) ?_
   refine y_v rfl (r_mv rfl) gT rfl ?_
   refine y_v rfl (r_mv rfl) gT rfl ?_
   refine y_v rfl (r_ia (k := i) Tryz.underlying22 ty9 rfl rfl (by omega) (by omega)) gT rfl ?_
   refine y_v rfl (r_ldr (v := str a) ty9 rfl (fun w hw => hat w hw (i * 1) _ (by rw [Nat.mul_one]; exact sv_get ha))) gT rfl ?_
   refine y_v rfl (r_mv rfl) gT rfl ?_
   refine y_v rfl (r_mv rfl) gT rfl ?_
   refine y_v rfl (r_ia (k := i) Tryz.underlying22 ty9 rfl rfl (by omega) (by omega)) gT rfl ?_
   refine y_v rfl (r_ldr (v := str b) ty9 rfl (fun w hw => hbt w hw (i * 1) _ (by rw [Nat.mul_one]; exact sv_get hb))) gT rfl ?_
   refine y_v rfl (r_sne rfl rfl) gT rfl ?_
   refine XH.nil ?_
   refine hK10 _ _ ?_
   refine XC.keep [(0, _), (1, _), (5, _), (25, _)] ⟨rfl, rfl, rfl, rfl, trivial⟩ ?_
   refine XC.cond_d rfl (fun hc3 => ?_) (fun hc3 => ?_)
   ·refine XC.seq fun K11 hK11 => ?_
    refine XC.region ?_
    refine x_v (r_as rfl) rfl ?_
    refine XL.nil ?_
    refine hK11 _ _ ?_
    refine XC.keep [(4, _)] ⟨rfl, trivial⟩ ?_
    refine XC.ret ?_
    exact fin1 rfl (⟨by rw [decide_eq_false (by intro e; subst e; rw [ha] at hb; injection hb with hb; simp_all)], rfl⟩) gS
   ·refine XC.skip ?_
    refine hK9 _ _ ?_
    refine XC.keep [(0, _), (1, _), (5, _)] ⟨rfl, rfl, rfl, trivial⟩ ?_
    refine XC.region ?_
    refine x_v (r_mv rfl) rfl ?_
    refine x_v (r_add rfl rfl (by omega)) rfl ?_
    refine x_v (r_as rfl) rfl ?_
    refine XL.nil ?_
    refine ⟨i + 1, ?_, ?_, ⟨rfl, rfl, rfl, trivial⟩, gS⟩
    ·exact ⟨by omega, tk_eq hI ha hb (by simp_all)⟩
    ·omega
  ·refine XC.exit rfl ?_
   refine hK5 _ _ ?_
   refine XC.keep [] trivial ?_
   refine XC.seq fun K12 hK12 => ?_
   refine XC.region ?_
   refine x_v (r_as rfl) rfl ?_
   refine XL.nil ?_
   refine hK12 _ _ ?_
   refine XC.keep [(4, _)] ⟨rfl, trivial⟩ ?_
   refine XC.ret ?_
   exact fin1 rfl (⟨by rw [decide_eq_true (by have e1 : i = x.length := (by omega); have e2 : x.length = y.length := (by omega); rw [e1, List.take_length, e2, List.take_length] at hI; exact hI)], rfl⟩) gS
def beginsB (a b : List (List UInt8)) : Bool := decide (a.length ≤ b.length ∧ a = b.take a.length)
theorem begins_tr {W0 : World} {Fr : List HP} (A B : Option Addr) (c d : Nat) (x y : List (List UInt8)) (hx : Rdb W0 Fr A x.length 1 (cells sv x)) (hy : Rdb W0 Fr B y.length 1 (cells sv y)) (hl : x.length ≤ 9223372036854775807) (hd : y.length ≤ d) :
  Tr W0 Tryz.prog 17 [.slice A x.length c, .slice B y.length d] Fr (fun v Rs' => v = .bool (beginsB x y) ∧ Rs' = Fr) := by
 have hmax : maxS = 140737488355328 := rfl
 refine Entry.tr (N := 18) (rs := [.tmp 4]) ⟨_, Tryz.func17, rfl, by kernel_rfl, rfl, rfl⟩ rfl ?_
 refine XC.seq fun K1 hK1 => ?_
 refine XC.region ?_
 refine x_v (r_as rfl) rfl ?_
 refine XL.nil ?_
 refine hK1 _ _ ?_
 refine XC.keep [(0, _), (1, _)] ⟨rfl, rfl, trivial⟩ ?_
 refine XC.seq fun K2 hK2 => ?_
 refine XC.region ?_
 refine x_v (r_mv rfl) rfl ?_
 refine x_v (r_lensl Tryz.underlying22 rfl) rfl ?_
 refine x_v (r_mv rfl) rfl ?_
 refine x_v (r_lensl Tryz.underlying22 rfl) rfl ?_
 refine x_v (r_le rfl rfl) rfl ?_
 refine x_v (r_mv rfl) rfl ?_
 refine XL.splitd 10 rfl (fun hg10 => ?_) (fun hg10 => ?_)
 ·refine x_want rfl rfl rfl ?_
  have hxy : x.length ≤ y.length := by omega
  have htl : (y.take x.length).length = x.length := by rw [List.length_take]; omega
  refine x_v (r_mv rfl) rfl ?_
  refine x_want rfl rfl rfl ?_
  refine x_v (r_mv rfl) rfl ?_
  refine x_want rfl rfl rfl ?_
  refine x_v (r_mv rfl) rfl ?_
  refine x_want rfl rfl rfl ?_
  refine x_v (r_lensl Tryz.underlying22 rfl) rfl ?_
  refine x_want rfl rfl rfl ?_
  refine x_v (yv (v' := .slice B (y.take x.length).length d) (r_sll0 x.length Tryz.underlying22 ty9 rfl ⟨_, by rfl⟩ (by omega)) (by rw [htl])) rfl ?_
  refine x_want rfl rfl rfl ?_
  refine x_c (r_call0 (args := [_, _]) ⟨rfl, rfl, rfl⟩ (same_tr A B c d x (y.take x.length) hx (rd_take sv_len hy hxy) hl) gS) rfl ?_
  rintro _ _ ⟨rfl, hRs⟩
  rw [hRs]
  refine x_v (r_pk_t rfl rfl) rfl ?_
  refine x_v (r_as rfl) rfl ?_
  refine XL.nil ?_
  refine hK2 _ _ ?_
  refine XC.keep [(4, _)] ⟨rfl, trivial⟩ ?_
  refine XC.ret ?_
  exact fin1 rfl (⟨by unfold beginsB; first | (rw [Value.bool.injEq, decide_eq_decide]; exact ⟨fun h => ⟨hxy, h⟩, fun h => h.2⟩) | (rw [decide_eq_false (fun h => by omega)]), rfl⟩) gS
 ·refine x_unwant rfl rfl rfl rfl rfl ?_
  refine x_unwant rfl rfl rfl rfl rfl ?_
  refine x_unwant rfl rfl rfl rfl rfl ?_
  refine x_unwant rfl rfl rfl rfl rfl ?_
  refine x_unwant rfl rfl rfl rfl rfl ?_
  refine x_unwant rfl rfl rfl rfl rfl ?_
  refine x_v (r_pk_f rfl rfl) rfl ?_
  refine x_v (r_as rfl) rfl ?_
  refine XL.nil ?_
  refine hK2 _ _ ?_
  refine XC.keep [(4, _)] ⟨rfl, trivial⟩ ?_
  refine XC.ret ?_
  exact fin1 rfl (⟨by unfold beginsB; first | (rw [Value.bool.injEq, decide_eq_decide]; exact ⟨fun h => ⟨hxy, h⟩, fun h => h.2⟩) | (rw [decide_eq_false (fun h => by omega)]), rfl⟩) gS
end Go.Proofs.YtcmdmhmgffjknaaGreatDoor
/- The document's drive in memory; functions 18 (New), 45 (Fuse), 91 (step), 90 (At), 52 (Read), 51 (Names). -/
namespace Go.Sx
set_option linter.unusedVariables false
section
variable {C : Cx} {e : Env} {Rs : List HP} {x y : Operand} {ty : TypeId}
theorem rd_pre {W0 : World} {Fr : List HP} {A : Option Addr} {N n sz : Nat} {ys : List Value} (h : Rdb W0 Fr A N sz ys) (hn : n ≤ N) : Rdb W0 Fr A n sz (ys.take (n * sz)) := by
 have hle : n * sz ≤ N * sz := Nat.mul_le_mul_right _ hn
 refine ⟨by rw [List.length_take, h.len]; omega, fun h0 => ?_⟩
 obtain ⟨b, o, e, k⟩ := h.at_ (by omega)
 refine ⟨b, o, e, fun w hw i u hu => k w hw i u ?_⟩
 rw [List.getElem?_take] at hu
 split at hu
 ·exact hu
 ·cases hu
theorem own_slA {W0 w : World} {A : Option Addr} {n c E sz : Nat} {xs : List Value} {Fr : List HP} (h : Own W0 w (sl A n c E sz xs :: Fr)) : 0 < n → ∃ g, A = some ⟨g, 0, none⟩ := fun hn => by
 rcases h.sl_open with ⟨_, h, _⟩ | ⟨g, cur, h1, _⟩
 ·omega
 ·exact ⟨g, h1⟩
/-- append(s[:n:n], xs...), s owned: it is in place when nothing is put. -/
theorem r_appc {A A2 : Option Addr} {n N m c2 K E sz by_ : Nat} {zv : Value} {t : TypeId} {ys news : List Value} {Fr : List HP} (hT : C.P.underlying t = some (.slice E)) {ag : Bool} (hE : Ty C.P E sz by_ zv ag) (hz : zv.cells.size = sz) (hsz : 0 < sz)
  (hx : ev e x = some (.slice A n n)) (hy : ev e y = some (.slice A2 m c2)) (hp : Pick Rs (sl A N K E sz ys) Fr) (hn : n ≤ N) (hr : Rdb C.W0 Rs A2 m sz news) (h63 : n + m ≤ maxLen) (hb : (n + m) * by_ ≤ 140737488355328) :
  Acts C e Rs (.call { callee := .builtin .append, args := #[x, y], argTypes := #[t, t] }) ty (fun q : { q : Option Addr × Nat × Nat // n + m ≤ q.2.1 ∧ q.2.1 ≤ q.2.2 } => .slice q.1.1 (n + m) q.1.2.1) (fun q => sl q.1.1 (n + m) q.1.2.2 E sz (ys.take (n * sz) ++ news) :: Fr) := by
 intro a w ha hw
 have hw1 := hw.pick hp
 obtain ⟨k1, k2, k3⟩ := hw1.sl_len
 rcases Nat.eq_zero_or_pos m with rfl | hm
 ·obtain ⟨i, i1, i2, i3, i4⟩ := hE.get
  have hnew : news = [] := List.eq_nil_of_length_eq_zero (by rw [hr.len, Nat.zero_mul])
  subst hnew
  have hsrc : Src C.P i.size t (.slice A2 0 c2) 0 [] w := by
   cases A2 with
   | none => exact Src.ofNil w hT c2
   | some a2 => exact Src.ofSlice w hT a2 0 c2 [] (by simp) (by simp) (by simp)
  have hrun := run_append_nothing (P := C.P) w t t ty E i hT i1 A n n (Nat.le_refl _) _ hsrc
  refine ⟨⟨(A, n, K), by dsimp only; omega, by dsimp only; omega⟩, w, ?_, ?_⟩
  ·simp [execOp, resolve, invoke, builtin, ha.ev hx, ha.ev hy, hrun]
  ·have := hw1.imp (fun h => sl_take hn)
   simpa using this
 ·have ho := rd_pre (Rdb.of_sl (W0 := C.W0) hp k1 (own_slA hw1)) hn
  obtain ⟨q, w', h1, h2⟩ := r_appf (C := C) (Rs := Rs) (ty := ty) hT hE hz hsz hx hy ho hr hm h63 hb a w ha hw
  have h3 : Own C.W0 w' (sl q.1 (n + m) q.2 E sz (ys.take (n * sz) ++ news) :: Fr) := Gets.own (Gets.drop _ (Gets.done _)) (h2.pick (Pick.tail _ hp))
  have h4 := h3.sl_len.2.1
  exact ⟨⟨(q.1, q.2, q.2), h4, Nat.le_refl _⟩, w', h1, h3⟩
end
end Go.Sx
namespace Go.Proofs.YtcmdmhmgffjknaaGreatDoor
open Go.Sx
set_option linter.unusedVariables false

/-- A file of the document's drive. -/
def rf (t : List UInt8 × Fi) : List Value := [str t.1, str (t.2.bytes.take t.2.sure), str (t.2.bytes.drop t.2.sure), .bool t.2.old]
theorem rf_len (t : List UInt8 × Fi) : (rf t).length = 4 := rfl
def rcl (A : Option Addr) (n c : Nat) (D : Dk) : List Value := [.slice A n c, .int .i64 D.fuse, .bool D.off, .int .i64 (D.steps : Int)]
def rdk (b : Nat) (D : Dk) : HP := fun h => ∃ q : Option Addr × Nat × Nat, (D.files.length ≤ q.2.1 ∧ q.2.1 ≤ q.2.2) ∧ sep (blk b 87 (rcl q.1 D.files.length q.2.1 D)) (sl q.1 D.files.length q.2.2 129 4 (cells rf D.files)) h
theorem rdk_open {W0 w : World} {b : Nat} {D : Dk} {Rs : List HP} (H : Own W0 w (rdk b D :: Rs)) : ∃ q : Option Addr × Nat × Nat, (D.files.length ≤ q.2.1 ∧ q.2.1 ≤ q.2.2) ∧ Own W0 w (blk b 87 (rcl q.1 D.files.length q.2.1 D) :: sl q.1 D.files.length q.2.2 129 4 (cells rf D.files) :: Rs) := by
 obtain ⟨q, h1, h2⟩ := H.exp
 exact ⟨q, h1, h2.unstash⟩
theorem rdk_shut {W0 w : World} {b : Nat} {D : Dk} {A : Option Addr} {c K : Nat} {Rs : List HP} (h : D.files.length ≤ c ∧ c ≤ K) (H : Own W0 w (blk b 87 (rcl A D.files.length c D) :: sl A D.files.length K 129 4 (cells rf D.files) :: Rs)) : Own W0 w (rdk b D :: Rs) :=
 H.stash.imp fun g r => ⟨(A, c, K), h, r⟩
/-- A contract over the opened drive, told of the closed one. -/
theorem rdk_tr {W0 : World} {f : FuncId} {args : List Value} {b : Nat} {D : Dk} {Fr : List HP} {Post : Value → List HP → Prop} (hth : ∃ fn c, Tryz.prog.funcs[f]? = some fn ∧ (fn.name == "runtime.NumGoroutine") = false ∧ fn.body = some c)
  (k : ∀ A c K, D.files.length ≤ c → c ≤ K → Tr W0 Tryz.prog f args (blk b 87 (rcl A D.files.length c D) :: sl A D.files.length K 129 4 (cells rf D.files) :: Fr) (fun v Rs' => ∃ A2 c2 K2 D2 X, (D2.files.length ≤ c2 ∧ c2 ≤ K2) ∧ Rs' = blk b 87 (rcl A2 D2.files.length c2 D2) :: sl A2 D2.files.length K2 129 4 (cells rf D2.files) :: X ∧ Post v (rdk b D2 :: X))) :
  Tr W0 Tryz.prog f args (rdk b D :: Fr) Post :=
 Tr.opn (p := fun q : Option Addr × Nat × Nat => D.files.length ≤ q.2.1 ∧ q.2.1 ≤ q.2.2) (fun q => blk b 87 (rcl q.1 D.files.length q.2.1 D) :: sl q.1 D.files.length q.2.2 129 4 (cells rf D.files) :: Fr) hth (fun w hw => rdk_open hw)
  (fun q hq => (k q.1 q.2.1 q.2.2 hq.1 hq.2).out fun v Rs' w ⟨A2, c2, K2, D2, X, h1, h2, h3⟩ ho => by subst h2; exact ⟨_, h3, rdk_shut h1 ho⟩)
theorem rnew_tr {W0 : World} (Fr : List HP) : Tr W0 Tryz.prog 18 [] Fr (fun v Rs' => ∃ b, v = .pointer (some ⟨b, 0, none⟩) ∧ Rs' = rdk b emptyD :: Fr) := by
 refine Tr.out (Post := fun v Rs' => ∃ b, v = .pointer (some ⟨b, 0, none⟩) ∧ Rs' = blk b 87 (rcl none 0 0 emptyD) :: sl none 0 0 129 4 [] :: Fr) ?_ (fun v Rs' w ⟨b, h1, h2⟩ ho => ⟨rdk b emptyD :: Fr, ⟨b, h1, rfl⟩, by subst h2; exact rdk_shut (D := emptyD) (A := none) (c := 0) (K := 0) ⟨Nat.le_refl _, Nat.le_refl _⟩ ho⟩)
 refine Entry.tr (N := 3) (rs := [.tmp 0]) ⟨_, Tryz.func18, rfl, by kernel_rfl, rfl, rfl⟩ rfl ?_
 refine XC.seq fun K1 hK1 => ?_
 refine XC.region ?_
 refine x_v (r_as rfl) rfl ?_
 refine XL.nil ?_
 refine hK1 _ _ ?_
 refine XC.keep [] trivial ?_
 refine XC.seq fun K2 hK2 => ?_
 refine XC.region ?_
 refine x_v (r_bd (vs := [_]) rfl ⟨rfl, rfl⟩ (bd87_1 _)) rfl ?_
 refine x_a (r_bx rfl rfl) rfl fun b2 => ?_
 refine XL.nil_ 129 4 ?_
 refine x_v (r_as rfl) rfl ?_
 refine XL.nil ?_
 refine hK2 _ _ ?_
 refine XC.keep [(0, _)] ⟨rfl, trivial⟩ ?_
 refine XC.ret ?_
 exact fin1 rfl (⟨b2, rfl, rfl⟩) gS
theorem rfuse_th : ∃ fn c, Tryz.prog.funcs[45]? = some fn ∧ (fn.name == "runtime.NumGoroutine") = false ∧ fn.body = some c := ⟨_, _, Tryz.func45, by kernel_rfl, rfl⟩
theorem rfuse_tr {W0 : World} (b : Nat) (D : Dk) (n : Int) (Fr : List HP) : Tr W0 Tryz.prog 45 [.pointer (some ⟨b, 0, none⟩), .int .i64 n] (rdk b D :: Fr) (fun v Rs' => v = .tuple #[] ∧ Rs' = rdk b (fuseD D n) :: Fr) := by
 refine rdk_tr rfuse_th fun A c K h1 h2 => ?_
 unfold rcl
 refine Entry.tr (N := 9) (rs := []) ⟨_, Tryz.func45, rfl, by kernel_rfl, rfl, rfl⟩ rfl ?_
 refine XC.region ?_
 refine x_v (r_mv rfl) rfl ?_
 refine x_v (r_mv rfl) rfl ?_
 refine x_v (r_max rfl rfl) rfl ?_
 refine x_v (r_nc rfl) rfl ?_
 refine x_v (r_fa fo87_1 rfl) rfl ?_
 refine x_e (r_st ty3 rfl rfl rfl rfl rfl uD oV) ?_
 refine XL.nil ?_
 exact fin0 (⟨A, c, K, fuseD D n, Fr, ⟨h1, h2⟩, rfl, rfl, rfl⟩) gS
def offD (D : Dk) : Dk := { D with off := true }
theorem rstep_tr {W0 : World} (b : Nat) (D : Dk) (A : Option Addr) (n c : Nat) (Fr : List HP) (hf : -1 ≤ D.fuse ∧ D.fuse < 9223372036854775808) (hs : D.steps ≤ 1000000000) : Tr W0 Tryz.prog 91 [.pointer (some ⟨b, 0, none⟩)] (blk b 87 (rcl A n c D) :: Fr) (fun v Rs' => v = .bool (decide (D.fuse ≠ 0)) ∧ Rs' = blk b 87 (rcl A n c (if D.fuse = 0 then offD D else stepD D)) :: Fr) := by
 unfold rcl
 refine Entry.tr (N := 30) (rs := [.tmp 2]) ⟨_, Tryz.func91, rfl, by kernel_rfl, rfl, rfl⟩ rfl ?_
 refine XC.seq fun K1 hK1 => ?_
 refine XC.region ?_
 refine x_v (r_as rfl) rfl ?_
 refine XL.nil ?_
 refine hK1 _ _ ?_
 refine XC.keep [(0, _)] ⟨rfl, trivial⟩ ?_
 refine XC.seq fun K2 hK2 => ?_
 refine XC.seq fun K3 hK3 => ?_
 refine XC.region ?_
 refine x_v (r_mv rfl) rfl ?_
 refine x_v (r_nc rfl) rfl ?_
 refine x_v (r_fa fo87_1 rfl) rfl ?_
 refine x_v (r_ld ty3 rfl pK (by rfl)) rfl ?_
 refine x_v (r_eq rfl rfl) rfl ?_
 refine XL.nil ?_
 refine hK3 _ _ ?_
 refine XC.keep [(0, _), (7, _)] ⟨rfl, rfl, trivial⟩ ?_
 refine XC.cond_d rfl (fun hc1 => ?_) (fun hc1 => ?_)
 ·refine XC.seq fun K4 hK4 => ?_
  refine XC.region ?_
  refine x_v (r_mv rfl) rfl ?_
  refine x_v (r_nc rfl) rfl ?_
  refine x_v (r_fa fo87_2 rfl) rfl ?_
  refine x_e (r_st ty4 rfl rfl rfl rfl rfl uD oV) ?_
  refine XL.nil ?_
  refine hK4 _ _ ?_
  refine XC.keep [] trivial ?_
  refine XC.seq fun K5 hK5 => ?_
  refine XC.region ?_
  refine x_v (r_as rfl) rfl ?_
  refine XL.nil ?_
  refine hK5 _ _ ?_
  refine XC.keep [(2, _)] ⟨rfl, trivial⟩ ?_
  refine XC.ret ?_
  rw [if_pos (by assumption), decide_eq_false (by intro h; exact h (by assumption))]
  exact fin1 rfl (⟨rfl, rfl⟩) gS
 ·refine XC.skip ?_
  refine hK2 _ _ ?_
  refine XC.keep [(0, _)] ⟨rfl, trivial⟩ ?_
  refine XC.seq fun K6 hK6 => ?_
  refine XC.seq fun K7 hK7 => ?_
  refine XC.region ?_
  refine x_v (r_mv rfl) rfl ?_
  refine x_v (r_nc rfl) rfl ?_
  refine x_v (r_fa fo87_1 rfl) rfl ?_
  refine x_v (r_ld ty3 rfl pK (by rfl)) rfl ?_
  refine x_v (r_gt rfl rfl) rfl ?_
  refine XL.nil ?_
  refine hK7 _ _ ?_
  refine XC.keep [(0, _), (15, _)] ⟨rfl, rfl, trivial⟩ ?_
  refine XC.cond_d rfl (fun hc2 => ?_) (fun hc2 => ?_)
  ·refine XC.region ?_
   refine x_v (r_mv rfl) rfl ?_
   refine x_v (r_nc rfl) rfl ?_
   refine x_v (r_fa fo87_1 rfl) rfl ?_
   refine x_v (r_ld ty3 rfl pK (by rfl)) rfl ?_
   refine x_v (r_sub rfl rfl (by omega)) rfl ?_
   refine x_v (r_nc rfl) rfl ?_
   refine x_v (r_fa fo87_1 rfl) rfl ?_
   refine x_e (r_st ty3 rfl rfl rfl rfl rfl uD oV) ?_
   refine XL.nil ?_
   refine hK6 _ _ ?_
   refine XC.keep [(0, _)] ⟨rfl, trivial⟩ ?_
   refine XC.seq fun K8 hK8 => ?_
   refine XC.region ?_
   refine x_v (r_mv rfl) rfl ?_
   refine x_v (r_nc rfl) rfl ?_
   refine x_v (r_fa fo87_3 rfl) rfl ?_
   refine x_v (r_ld ty3 rfl pK (by rfl)) rfl ?_
   refine x_v (r_add rfl rfl (by omega)) rfl ?_
   refine x_v (r_nc rfl) rfl ?_
   refine x_v (r_fa fo87_3 rfl) rfl ?_
   refine x_e (r_st ty3 rfl rfl rfl rfl rfl uD oV) ?_
   refine XL.nil ?_
   refine hK8 _ _ ?_
   refine XC.keep [] trivial ?_
   refine XC.seq fun K9 hK9 => ?_
   refine XC.region ?_
   refine x_v (r_as rfl) rfl ?_
   refine XL.nil ?_
   refine hK9 _ _ ?_
   refine XC.keep [(2, _)] ⟨rfl, trivial⟩ ?_
   refine XC.ret ?_
   rw [if_neg (by assumption), decide_eq_true (by assumption)]
   unfold stepD
   dsimp only
   rw [show max (D.fuse - 1) (-1) = D.fuse - 1 by omega]
   exact fin1 rfl (⟨rfl, rfl⟩) gS
  ·refine XC.skip ?_
   refine hK6 _ _ ?_
   refine XC.keep [(0, _)] ⟨rfl, trivial⟩ ?_
   refine XC.seq fun K10 hK10 => ?_
   refine XC.region ?_
   refine x_v (r_mv rfl) rfl ?_
   refine x_v (r_nc rfl) rfl ?_
   refine x_v (r_fa fo87_3 rfl) rfl ?_
   refine x_v (r_ld ty3 rfl pK (by rfl)) rfl ?_
   refine x_v (r_add rfl rfl (by omega)) rfl ?_
   refine x_v (r_nc rfl) rfl ?_
   refine x_v (r_fa fo87_3 rfl) rfl ?_
   refine x_e (r_st ty3 rfl rfl rfl rfl rfl uD oV) ?_
   refine XL.nil ?_
   refine hK10 _ _ ?_
   refine XC.keep [] trivial ?_
   refine XC.seq fun K11 hK11 => ?_
   refine XC.region ?_
   refine x_v (r_as rfl) rfl ?_
   refine XL.nil ?_
   refine hK11 _ _ ?_
   refine XC.keep [(2, _)] ⟨rfl, trivial⟩ ?_
   refine XC.ret ?_
   rw [if_neg (by assumption), decide_eq_true (by assumption)]
   unfold stepD
   dsimp only
   rw [show max (D.fuse - 1) (-1) = D.fuse by omega]
   exact fin1 rfl (⟨rfl, rfl⟩) gS
/-! a file's place -/
theorem not_lt_ne : ∀ {a b : List UInt8}, ¬ a < b → ¬ a = b → b < a
 | [], [], _, h => absurd rfl h
 | [], y :: b, h, _ => absurd (List.nil_lt_cons ..) h
 | x :: a, [], _, _ => List.nil_lt_cons ..
 | x :: a, y :: b, h1, h2 => by
  rw [List.cons_lt_cons_iff] at h1 ⊢
  by_cases hxy : x = y
  ·subst hxy
   exact .inr ⟨rfl, not_lt_ne (fun q => h1 (.inr ⟨rfl, q⟩)) (fun q => h2 (by rw [q]))⟩
  ·refine .inl ?_
   have h3 : ¬ x < y := fun q => h1 (.inl q)
   rw [UInt8.lt_iff_toNat_lt] at h3 ⊢
   have h4 : x.toNat ≠ y.toNat := fun q => hxy (UInt8.toNat_inj.1 q)
   omega
structure AtP (L : List (List UInt8 × Fi)) (n : List UInt8) (i : Nat) (b : Bool) : Prop where
 le : i ≤ L.length
 lt : ∀ t ∈ L.take i, t.1 < n
 yes : b = true → ∃ x, L[i]? = some (n, x)
 no : b = false → ∀ t, L[i]? = some t → n < t.1
theorem setF_between : ∀ (L1 L2 : List (List UInt8 × Fi)) (n : List UInt8) (x : Fi), (∀ t ∈ L1, t.1 < n) → (∀ t ∈ L2, n < t.1) → setF (L1 ++ L2) n x = L1 ++ (n, x) :: L2
 | [], [], n, x, _, _ => rfl
 | [], (m, y) :: L2, n, x, _, h => by
  have := h (m, y) (by simp)
  dsimp only at this
  rw [List.nil_append, setF, if_neg (fun e => by subst e; exact List.lt_irrefl _ this), if_pos this]; rfl
 | (m, y) :: L1, L2, n, x, h1, h2 => by
  have := h1 (m, y) (by simp)
  dsimp only at this
  rw [List.cons_append, setF, if_neg (fun e => by subst e; exact List.lt_irrefl _ this), if_neg (fun e => List.lt_irrefl _ (List.lt_trans this e)), setF_between L1 L2 n x (fun t ht => h1 t (by simp [ht])) h2]; rfl
theorem AtP.found {L : List (List UInt8 × Fi)} {n : List UInt8} {i : Nat} (hs : L.Pairwise (fun a b => a.1 < b.1)) (h : AtP L n i true) : ∃ x, L[i]? = some (n, x) ∧ getF L n = some x ∧ L = L.take i ++ (n, x) :: L.drop (i + 1) := by
 obtain ⟨x, hx⟩ := h.yes rfl
 have hd : L.drop i = (n, x) :: L.drop (i + 1) := by
  obtain ⟨h1, h2⟩ := List.getElem?_eq_some_iff.1 hx
  rw [List.drop_eq_getElem_cons h1, h2]
 refine ⟨x, hx, getF_of_mem hs (List.mem_of_getElem? hx), ?_⟩
 rw [← hd, List.take_append_drop]
theorem AtP.gone {L : List (List UInt8 × Fi)} {n : List UInt8} {i : Nat} (hs : L.Pairwise (fun a b => a.1 < b.1)) (h : AtP L n i false) : getF L n = none ∧ ∀ y, setF L n y = L.take i ++ (n, y) :: L.drop i := by
 have hd : ∀ t ∈ L.drop i, n < t.1 := by
  intro t ht
  cases hq : L.drop i with
  | nil => rw [hq] at ht; cases ht
  | cons y r =>
   have hy : L[i]? = some y := by
    have := List.getElem?_drop (xs := L) (i := i) (j := 0)
    rw [hq] at this
    simpa using this.symm
   have h1 := h.no rfl y hy
   have hp := hs.sublist (List.drop_sublist i L)
   rw [hq, List.pairwise_cons] at hp
   rw [hq] at ht
   rcases List.mem_cons.1 ht with rfl | ht
   ·exact h1
   ·exact List.lt_trans h1 (hp.1 t ht)
 have hset : ∀ y, setF L n y = L.take i ++ (n, y) :: L.drop i := fun y => by
  have := setF_between (L.take i) (L.drop i) n y h.lt hd
  rwa [List.take_append_drop] at this
 refine ⟨?_, hset⟩
 rcases getF_split L n with ⟨h1, _⟩ | ⟨L1, x, L2, hL, h1, _⟩
 ·exact h1
 ·have hm : (n, x) ∈ L.take i ++ L.drop i := by rw [List.take_append_drop, hL]; simp
  rcases List.mem_append.1 hm with hm | hm
  ·exact absurd (h.lt _ hm) (List.lt_irrefl _)
  ·exact absurd (hd _ hm) (List.lt_irrefl _)
theorem at_tr {W0 : World} (b : Nat) (D : Dk) (A : Option Addr) (c K : Nat) (n : List UInt8) (Fr : List HP) (hl : D.files.length ≤ 1000000000) :
  Tr W0 Tryz.prog 90 [.pointer (some ⟨b, 0, none⟩), str n] (blk b 87 (rcl A D.files.length c D) :: sl A D.files.length K 129 4 (cells rf D.files) :: Fr) (fun v Rs' => ∃ i q, v = .tuple #[.int .i64 ((i : Nat) : Int), .bool q] ∧ AtP D.files n i q ∧ Rs' = blk b 87 (rcl A D.files.length c D) :: sl A D.files.length K 129 4 (cells rf D.files) :: Fr) := by
 unfold rcl
 refine Entry.tr (N := 48) (rs := [.tmp 4, .tmp 5]) ⟨_, Tryz.func90, rfl, by kernel_rfl, rfl, rfl⟩ rfl ?_
 refine XC.seq fun K1 hK1 => ?_
 refine XC.region ?_
 refine x_v (r_as rfl) rfl ?_
 refine x_v (r_as rfl) rfl ?_
 refine XL.nil ?_
 refine hK1 _ _ ?_
 refine XC.keep [(0, _), (1, _)] ⟨rfl, rfl, trivial⟩ ?_
 refine XC.seq fun K2 hK2 => ?_
 refine XC.slnn (pK : Pick _ (sl A D.files.length K 129 4 (cells rf D.files)) _) fun hsl hsA => ?_
 have hrd : Rdb W0 [sl A D.files.length K 129 4 (cells rf D.files)] A D.files.length 4 (cells rf D.files) := Rdb.of_sl (.head _ _) hsl hsA
 refine XC.region ?_
 refine x_v (r_as rfl) rfl ?_
 refine XL.nil ?_
 refine hK2 _ _ ?_
 refine XC.keep [(0, _), (1, _), (6, _)] ⟨rfl, rfl, rfl, trivial⟩ ?_
 refine XC.seqcut (σ := Nat) (fun i => [(0, .pointer (some ⟨b, 0, none⟩)), (1, str n), (6, .int .i64 (i : Int))]) (fun i => blk b 87 [.slice A D.files.length c, .int .i64 D.fuse, .bool D.off, .int .i64 (D.steps : Int)] :: sl A D.files.length K 129 4 (cells rf D.files) :: Fr) (fun i => i ≤ D.files.length ∧ (∀ t ∈ D.files.take i, t.1 < n) ∧ ∀ t, D.files[i]? = some t → ¬ t.1 < n) ?_ ?_
 ·refine XC.block ?_
  refine XC.loop (σ := Nat) (fun i => [(0, .pointer (some ⟨b, 0, none⟩)), (1, str n), (6, .int .i64 (i : Int))]) (fun i => blk b 87 [.slice A D.files.length c, .int .i64 D.fuse, .bool D.off, .int .i64 (D.steps : Int)] :: sl A D.files.length K 129 4 (cells rf D.files) :: Fr) (fun i => i ≤ D.files.length ∧ ∀ t ∈ D.files.take i, t.1 < n) (fun i => D.files.length - i) 0 ?_ ⟨rfl, rfl, rfl, trivial⟩ gS ?_
  ·exact ⟨Nat.zero_le _, by simp⟩
  rintro i ⟨hi, hlt⟩
  refine XC.seq fun K4 hK4 => ?_
  refine XC.seq fun K5 hK5 => ?_
  refine XC.region ?_
  refine x_v (r_mv rfl) rfl ?_
  refine x_v (r_mv rfl) rfl ?_
  refine x_v (r_nc rfl) rfl ?_
  refine x_v (r_fa fo87_0 rfl) rfl ?_
  refine x_v (r_ld ty85 rfl pK (by rfl)) rfl ?_
  refine x_v (r_lensl Tryz.underlying85 rfl) rfl ?_
  refine x_v (r_lt rfl rfl) rfl ?_
  refine x_v (r_mv rfl) rfl ?_
  refine XL.splitd 14 rfl (fun hg14 => ?_) (fun hg14 => ?_)
  ·refine x_want rfl rfl rfl ?_
   refine x_v (r_mv rfl) rfl ?_
   refine x_want rfl rfl rfl ?_
   refine x_v (r_nc rfl) rfl ?_
   refine x_want rfl rfl rfl ?_
   refine x_v (r_fa fo87_0 rfl) rfl ?_
   refine x_want rfl rfl rfl ?_
   refine x_v (r_ld ty85 rfl pK (by rfl)) rfl ?_
   refine x_want rfl rfl rfl ?_
   refine x_v (r_mv rfl) rfl ?_
   refine x_want rfl rfl rfl ?_
   obtain ⟨t, hx⟩ : ∃ t, D.files[i]? = some t := ⟨_, List.getElem?_eq_getElem (by omega)⟩
   obtain ⟨sb, so, hpA, hat⟩ := hrd.at_ (by omega)
   refine x_v (r_ia (k := i) Tryz.underlying85 ty129 (by rw [hpA]; rfl) rfl (by omega) (by omega)) rfl ?_
   refine x_want rfl rfl rfl ?_
   refine x_v (r_fa fo129_0 rfl) rfl ?_
   refine x_want rfl rfl rfl ?_
   refine x_v (r_ldr (v := str t.1) ty9 rfl (fun w hw => hat w (Gets.own gS hw) _ _ (cells_get rf_len D.files _ _ hx 0 _ rfl))) rfl ?_
   refine x_want rfl rfl rfl ?_
   refine x_v (r_mv rfl) rfl ?_
   refine x_want rfl rfl rfl ?_
   refine x_v (r_slt rfl rfl) rfl ?_
   refine x_v (r_pk_t rfl rfl) rfl ?_
   refine XL.nil ?_
   refine hK5 _ _ ?_
   refine XC.keep [(0, _), (1, _), (6, _), (25, _)] ⟨rfl, rfl, rfl, rfl, trivial⟩ ?_
   refine XC.cond_d rfl (fun hc1 => ?_) (fun hc1 => ?_)
   ·refine XC.skip ?_
    refine hK4 _ _ ?_
    refine XC.keep [(0, _), (1, _), (6, _)] ⟨rfl, rfl, rfl, trivial⟩ ?_
    refine XC.block ?_
    refine XC.region ?_
    refine x_v (r_mv rfl) rfl ?_
    refine x_v (r_add rfl rfl (by omega)) rfl ?_
    refine x_v (r_as rfl) rfl ?_
    refine XL.nil ?_
    refine ⟨i + 1, ?_, ?_, ⟨rfl, rfl, rfl, trivial⟩, gS⟩
    ·exact ⟨by omega, fun y hy => by rw [List.take_add_one, hx] at hy; rcases List.mem_append.1 hy with h | h; (exact hlt y h); (simp at h; subst h; assumption)⟩
    ·omega
   ·refine XC.exit rfl ?_
    exact ⟨i, ⟨hi, hlt, fun y hy => by rw [hx] at hy; injection hy with hy; rw [← hy]; assumption⟩, ⟨rfl, rfl, rfl, trivial⟩, gS⟩
  ·refine x_unwant rfl rfl rfl rfl rfl ?_
   refine x_unwant rfl rfl rfl rfl rfl ?_
   refine x_unwant rfl rfl rfl rfl rfl ?_
   refine x_unwant rfl rfl rfl rfl rfl ?_
   refine x_unwant rfl rfl rfl rfl rfl ?_
   refine x_unwant rfl rfl rfl rfl rfl ?_
   refine x_unwant rfl rfl rfl rfl rfl ?_
   refine x_unwant rfl rfl rfl rfl rfl ?_
   refine x_unwant rfl rfl rfl rfl rfl ?_
   refine x_unwant rfl rfl rfl rfl rfl ?_
   refine x_v (r_pk_f rfl rfl) rfl ?_
   refine XL.nil ?_
   refine hK5 _ _ ?_
   refine XC.keep [(0, _), (1, _), (6, _), (25, _)] ⟨rfl, rfl, rfl, rfl, trivial⟩ ?_
   refine XC.cond_f rfl ?_
   refine XC.exit rfl ?_
   exact ⟨i, ⟨hi, hlt, fun y hy => by have := (List.getElem?_eq_some_iff.1 hy).1; omega⟩, ⟨rfl, rfl, rfl, trivial⟩, gS⟩
 ·rintro i ⟨hi, hlt, hge⟩
  refine XC.seq fun K6 hK6 => ?_
  refine XC.draw (blk b 87 [.slice A D.files.length c, .int .i64 D.fuse, .bool D.off, .int .i64 (D.steps : Int)] :: sl A D.files.length K 129 4 (cells rf D.files) :: []) false [(0, false), (1, false), (2, false), (3, false), (4, false), (5, false), (6, false), (7, false), (8, false), (9, false), (10, false), (11, false), (12, false), (13, false), (14, false), (15, false), (16, false), (17, false), (18, false), (19, false), (20, false), (21, false)] (by kernel_rfl) (by kernel_rfl) ?_
  refine y_v rfl (r_mv rfl) gT rfl ?_
  refine y_v rfl (r_mv rfl) gT rfl ?_
  refine y_v rfl (r_mv rfl) gT rfl ?_
  refine y_v rfl (r_nc rfl) gT rfl ?_
  refine y_v rfl (r_fa fo87_0 rfl) gT rfl ?_
  refine y_v rfl (r_ld ty85 rfl pK (by rfl)) gT rfl ?_
  refine y_v rfl (r_lensl Tryz.underlying85 rfl) gT rfl ?_
  refine y_v rfl (r_lt rfl rfl) gT rfl ?_
  refine y_v rfl (r_mv rfl) gT rfl ?_
  refine XH.splitd 36 rfl (fun hg36 => ?_) (fun hg36 => ?_)
  ·refine y_vg rfl rfl rfl (r_mv rfl) gT rfl ?_
   refine y_vg rfl rfl rfl (r_nc rfl) gT rfl ?_
   refine y_vg rfl rfl rfl (r_fa fo87_0 rfl) gT rfl ?_
   refine y_vg rfl rfl rfl (r_ld ty85 rfl pK (by rfl)) gT rfl ?_
   obtain ⟨t, hx⟩ : ∃ t, D.files[i]? = some t := ⟨_, List.getElem?_eq_getElem (by omega)⟩
   obtain ⟨sb, so, hpA, hat⟩ := hrd.at_ (by omega)
   refine y_vg rfl rfl rfl (r_mv rfl) gT rfl ?_
   refine y_vg rfl rfl rfl (r_ia (k := i) Tryz.underlying85 ty129 (by rw [hpA]; rfl) rfl (by omega) (by omega)) gT rfl ?_
   refine y_vg rfl rfl rfl (r_fa fo129_0 rfl) gT rfl ?_
   refine y_vg rfl rfl rfl (r_ldr (v := str t.1) ty9 rfl (fun w hw => hat w (Gets.own gS hw) _ _ (cells_get rf_len D.files _ _ hx 0 _ rfl))) gT rfl ?_
   refine y_vg rfl rfl rfl (r_mv rfl) gT rfl ?_
   refine y_vg rfl rfl rfl (r_seq rfl rfl) gT rfl ?_
   refine y_v rfl (r_pk_t rfl rfl) gT rfl ?_
   refine y_v rfl (r_as rfl) gT rfl ?_
   refine y_v rfl (r_as rfl) gT rfl ?_
   refine XH.nil ?_
   refine hK6 _ _ ?_
   refine XC.keep [(4, _), (5, _)] ⟨rfl, rfl, trivial⟩ ?_
   refine XC.ret ?_
   exact fin2 rfl rfl (⟨i, _, rfl, ⟨hi, hlt, fun h => by rw [decide_eq_true_iff] at h; exact ⟨t.2, by rw [hx, ← h]⟩, fun h y hy => by rw [decide_eq_false_iff_not] at h; rw [hx] at hy; injection hy with hy; subst hy; exact not_lt_ne (hge _ hx) h⟩, rfl⟩) gS
  ·refine y_un rfl rfl rfl (fun _ h => Gets.own gS h) rfl ?_
   refine y_un rfl rfl rfl (fun _ h => Gets.own gS h) rfl ?_
   refine y_un rfl rfl rfl (fun _ h => Gets.own gS h) rfl ?_
   refine y_un rfl rfl rfl (fun _ h => Gets.own gS h) rfl ?_
   refine y_un rfl rfl rfl (fun _ h => Gets.own gS h) rfl ?_
   refine y_un rfl rfl rfl (fun _ h => Gets.own gS h) rfl ?_
   refine y_un rfl rfl rfl (fun _ h => Gets.own gS h) rfl ?_
   refine y_un rfl rfl rfl (fun _ h => Gets.own gS h) rfl ?_
   refine y_un rfl rfl rfl (fun _ h => Gets.own gS h) rfl ?_
   refine y_un rfl rfl rfl (fun _ h => Gets.own gS h) rfl ?_
   refine y_v rfl (r_pk_f rfl rfl) gT rfl ?_
   refine y_v rfl (r_as rfl) gT rfl ?_
   refine y_v rfl (r_as rfl) gT rfl ?_
   refine XH.nil ?_
   refine hK6 _ _ ?_
   refine XC.keep [(4, _), (5, _)] ⟨rfl, rfl, trivial⟩ ?_
   refine XC.ret ?_
   exact fin2 rfl rfl (⟨i, false, rfl, ⟨hi, hlt, (fun h => by cases h), fun _ y hy => by have := (List.getElem?_eq_some_iff.1 hy).1; omega⟩, rfl⟩) gS
theorem rread_th : ∃ fn c, Tryz.prog.funcs[52]? = some fn ∧ (fn.name == "runtime.NumGoroutine") = false ∧ fn.body = some c := ⟨_, _, Tryz.func52, by kernel_rfl, rfl⟩
theorem rread_tr {W0 : World} (b : Nat) (D : Dk) (n : List UInt8) (Fr : List HP) (hok : DkOk D) (hl : D.files.length ≤ 1000000000) : Tr W0 Tryz.prog 52 [.pointer (some ⟨b, 0, none⟩), str n] (rdk b D :: Fr) (fun v Rs' => v = .tuple #[str (readD D n).1, .bool (readD D n).2] ∧ Rs' = rdk b D :: Fr) := by
 have hmax : maxS = 140737488355328 := rfl
 refine rdk_tr rread_th fun A c K h1 h2 => ?_
 refine Entry.tr (N := 39) (rs := [.tmp 4, .tmp 5]) ⟨_, Tryz.func52, rfl, by kernel_rfl, rfl, rfl⟩ rfl ?_
 refine XC.seq fun K1 hK1 => ?_
 refine XC.region ?_
 refine x_v (r_as rfl) rfl ?_
 refine x_v (r_as rfl) rfl ?_
 refine XL.nil ?_
 refine hK1 _ _ ?_
 refine XC.keep [(0, _), (1, _)] ⟨rfl, rfl, trivial⟩ ?_
 refine XC.seq fun K2 hK2 => ?_
 refine XC.region ?_
 refine x_v (r_mv rfl) rfl ?_
 refine x_v (r_mv rfl) rfl ?_
 refine x_c (r_call0 (args := [_, _]) ⟨rfl, rfl, rfl⟩ (at_tr b D A c K n Fr hl) gS) rfl ?_
 rintro _ _ ⟨i, q, rfl, hat, hRs⟩
 rw [hRs]
 unfold rcl
 refine x_v (r_mv rfl) rfl ?_
 refine x_v (r_ex rfl rfl) rfl ?_
 refine x_v (r_ex rfl rfl) rfl ?_
 refine x_v (r_as rfl) rfl ?_
 refine x_v (r_as rfl) rfl ?_
 refine XL.nil ?_
 refine hK2 _ _ ?_
 refine XC.keep [(0, _), (6, _), (7, _)] ⟨rfl, rfl, rfl, trivial⟩ ?_
 refine XC.seq fun K3 hK3 => ?_
 refine XC.seq fun K4 hK4 => ?_
 refine XC.region ?_
 refine x_v (r_mv rfl) rfl ?_
 refine x_v (r_nc rfl) rfl ?_
 refine x_v (r_fa fo87_2 rfl) rfl ?_
 refine x_v (r_ld ty4 rfl pK (by rfl)) rfl ?_
 refine x_v (r_mv rfl) rfl ?_
 refine XL.split 18 rfl (fun hg18 => ?_) (fun hg18 => ?_)
 ·refine x_unwant rfl rfl rfl rfl rfl ?_
  refine x_unwant rfl rfl rfl rfl rfl ?_
  refine x_v (r_pk_t rfl rfl) rfl ?_
  refine XL.nil ?_
  refine hK4 _ _ ?_
  refine XC.keep [(0, _), (6, _), (21, _)] ⟨rfl, rfl, rfl, trivial⟩ ?_
  refine XC.cond_t rfl ?_
  refine XC.seq fun K5 hK5 => ?_
  refine XC.region ?_
  refine x_v (r_as rfl) rfl ?_
  refine x_v (r_as rfl) rfl ?_
  refine XL.nil ?_
  refine hK5 _ _ ?_
  refine XC.keep [(4, _), (5, _)] ⟨rfl, rfl, trivial⟩ ?_
  refine XC.ret ?_
  have hR : readD D n = ([], false) := by unfold readD; rw [if_pos hg18]
  rw [hR]
  exact fin2 rfl rfl (⟨A, c, K, D, Fr, ⟨h1, h2⟩, rfl, rfl, rfl⟩) gS
 ·refine x_want rfl rfl rfl ?_
  refine x_v (r_mv rfl) rfl ?_
  refine x_want rfl rfl rfl ?_
  refine x_v (r_not rfl) rfl ?_
  refine x_v (r_pk_f rfl rfl) rfl ?_
  refine XL.nil ?_
  refine hK4 _ _ ?_
  refine XC.keep [(0, _), (6, _), (21, _)] ⟨rfl, rfl, rfl, trivial⟩ ?_
  refine XC.cond rfl (fun hc2 => ?_) (fun hc2 => ?_)
  ·refine XC.seq fun K6 hK6 => ?_
   refine XC.region ?_
   refine x_v (r_as rfl) rfl ?_
   refine x_v (r_as rfl) rfl ?_
   refine XL.nil ?_
   refine hK6 _ _ ?_
   refine XC.keep [(4, _), (5, _)] ⟨rfl, rfl, trivial⟩ ?_
   refine XC.ret ?_
   have hq : q = false := by simpa using (by assumption : (!q) = true)
   subst hq
   have hR : readD D n = ([], false) := by unfold readD; rw [(hat.gone hok.srt).1]; split <;> rfl
   rw [hR]
   exact fin2 rfl rfl (⟨A, c, K, D, Fr, ⟨h1, h2⟩, rfl, rfl, rfl⟩) gS
  ·refine XC.skip ?_
   refine hK3 _ _ ?_
   refine XC.keep [(0, _), (6, _)] ⟨rfl, rfl, trivial⟩ ?_
   refine XC.seq fun K7 hK7 => ?_
   have hq : q = true := by simpa using (by assumption : (!q) = false)
   subst hq
   obtain ⟨x, hx, hgx, _⟩ := hat.found hok.srt
   have hoff : D.off = false := by simpa using hg18
   have hR : readD D n = (x.bytes, true) := by unfold readD; rw [if_neg (by rw [hoff]; decide), hgx]
   have hxl := (hok.fi _ (List.mem_of_getElem? hx)).2.1
   dsimp only at hxl
   have hil := (List.getElem?_eq_some_iff.1 hx).1
   refine XC.slnn (pK : Pick _ (sl A D.files.length K 129 4 (cells rf D.files)) _) fun hsl hsA => ?_
   have hrd : Rdb W0 [sl A D.files.length K 129 4 (cells rf D.files)] A D.files.length 4 (cells rf D.files) := Rdb.of_sl (.head _ _) hsl hsA
   obtain ⟨sb, so, hpA, hatr⟩ := hrd.at_ (by omega)
   refine XC.draw (blk b 87 [.slice A D.files.length c, .int .i64 D.fuse, .bool D.off, .int .i64 (D.steps : Int)] :: sl A D.files.length K 129 4 (cells rf D.files) :: []) false [(0, false), (1, false), (2, false), (3, false), (4, false), (5, false), (6, false), (7, false), (8, false), (9, false), (10, false), (11, false), (12, false), (13, false), (14, false), (15, false), (16, false), (17, false), (18, false)] (by kernel_rfl) (by kernel_rfl) ?_
   refine y_v rfl (r_mv rfl) gT rfl ?_
   refine y_v rfl (r_nc rfl) gT rfl ?_
   refine y_v rfl (r_fa fo87_0 rfl) gT rfl ?_
   refine y_v rfl (r_ld ty85 rfl pK (by rfl)) gT rfl ?_
   refine y_v rfl (r_mv rfl) gT rfl ?_
   refine y_v rfl (r_ia (k := i) Tryz.underlying85 ty129 (by rw [hpA]; rfl) rfl (by omega) (by omega)) gT rfl ?_
   refine y_v rfl (r_fa fo129_1 rfl) gT rfl ?_
   refine y_v rfl (r_ldr (v := str (x.bytes.take x.sure)) ty9 rfl (fun w hw => hatr w (Gets.own gS hw) _ _ (cells_get rf_len D.files _ _ hx 1 _ rfl))) gT rfl ?_
   refine y_v rfl (r_mv rfl) gT rfl ?_
   refine y_v rfl (r_nc rfl) gT rfl ?_
   refine y_v rfl (r_fa fo87_0 rfl) gT rfl ?_
   refine y_v rfl (r_ld ty85 rfl pK (by rfl)) gT rfl ?_
   refine y_v rfl (r_mv rfl) gT rfl ?_
   refine y_v rfl (r_ia (k := i) Tryz.underlying85 ty129 (by rw [hpA]; rfl) rfl (by omega) (by omega)) gT rfl ?_
   refine y_v rfl (r_fa fo129_2 rfl) gT rfl ?_
   refine y_v rfl (r_ldr (v := str (x.bytes.drop x.sure)) ty9 rfl (fun w hw => hatr w (Gets.own gS hw) _ _ (cells_get rf_len D.files _ _ hx 2 _ rfl))) gT rfl ?_
   refine y_v rfl (r_cat rfl rfl (by rw [List.length_take, List.length_drop]; omega)) gT rfl ?_
   refine y_v rfl (r_as rfl) gT rfl ?_
   refine y_v rfl (r_as rfl) gT rfl ?_
   refine XH.nil ?_
   refine hK7 _ _ ?_
   refine XC.keep [(4, _), (5, _)] ⟨rfl, rfl, trivial⟩ ?_
   refine XC.ret ?_
   rw [hR, List.take_append_drop]
   exact fin2 rfl rfl (⟨A, c, K, D, Fr, ⟨h1, h2⟩, rfl, rfl, rfl⟩) gS
end Go.Proofs.YtcmdmhmgffjknaaGreatDoor
/- What is found behind each act, wherever the power goes: plain facts. -/
namespace Go.Proofs.YtcmdmhmgffjknaaGreatDoor
open Go.Sx
set_option linter.unusedVariables false

/-- A log that has segments. -/
structure Has (D : Dk) (L : Lg) (base : List UInt8) (list : List (List UInt8)) (s : Nat → List UInt8) (C : List (List UInt8)) : Prop where
 fs : Fs D.files s (fun k => L.first ≤ k ∧ k ≤ L.number)
 lk : Link s L.first L.number C
 kd : (readS (s L.first)).kind = 1
 ba : (readS (s L.first)).base = base
 li : C ++ (scanF (s L.number)).1.tail = list
 go : L.good = (scanF (s L.number)).2
 to : L.torn = decide (L.good < (s L.number).length)
/-- A log that is open, over a drive that is on. -/
def Live (D : Dk) (L : Lg) (base : List UInt8) (list : List (List UInt8)) : Prop := D.off = false ∧ ((D.files = [] ∧ L = ⟨0, 0, false, 0⟩ ∧ base = [] ∧ list = []) ∨ ∃ s C, Has D L base list s C)
/-- What a drive's log tells. -/
def Fnd (D : Dk) (R : List UInt8 → List (List UInt8) → Prop) : Prop := ∃ L b g D', openL D = (0, some (L, b, g), D') ∧ Live D' L b g ∧ D'.fuse = -1 ∧ R b g
/-- .. behind any loss of power. -/
def Aft (D : Dk) (R : List UInt8 → List (List UInt8) → Prop) : Prop := ∀ ks, Fnd (crashD D ks) R
theorem Fnd.mono {D : Dk} {R R' : List UInt8 → List (List UInt8) → Prop} (h : Fnd D R) (k : ∀ b g, R b g → R' b g) : Fnd D R' := let ⟨L, b, g, D', h1, h2, h3, h4⟩ := h; ⟨L, b, g, D', h1, h2, h3, k _ _ h4⟩
theorem fnd_core {D : Dk} {s : Nat → List UInt8} {p : Nat → Prop} {f n : Nat} {C : List (List UInt8)} (R : List UInt8 → List (List UInt8) → Prop) (h : Fs D.files s p) (ho : D.off = false) (hfu : D.fuse = -1) (hl : Link s f n C) (hin : ∀ k, f ≤ k → k ≤ n → p k) (hk : (readS (s f)).kind = 1)
  (hlt : ∀ k, p k → n < k → (readS (s k)).kind ≠ 1) (hnx : p (n + 1) → followsF (readS (s (n + 1))) (readS (s n)) = none) (hR : R (readS (s f)).base (C ++ (scanF (s n)).1.tail)) : Fnd D R := by
 obtain ⟨D', h1, h2, h3, h4, _⟩ := open_core h ho hfu hl hin hk hlt hnx
 exact ⟨_, _, _, D', h1, ⟨h3, .inr ⟨s, C, h2, hl, hk, rfl, rfl, rfl, rfl⟩⟩, h4, hR⟩
theorem fnd_none {D : Dk} {s : Nat → List UInt8} {p : Nat → Prop} (R : List UInt8 → List (List UInt8) → Prop) (h : Fs D.files s p) (ho : D.off = false) (hfu : D.fuse = -1) (hk : ∀ k, p k → (readS (s k)).kind ≠ 1) (hR : R [] []) : Fnd D R := by
 obtain ⟨D', h1, h2, h3, h4, _⟩ := open_none h ho hfu hk
 exact ⟨_, _, _, D', h1, ⟨h3, .inl ⟨h2.nil fun _ h => h, rfl, rfl, rfl⟩⟩, h4, hR⟩
/-- Opened once more it tells the same, and nothing is written. -/
theorem live_open {D : Dk} {L : Lg} {base : List UInt8} {list : List (List UInt8)} (h : Live D L base list) (hfu : D.fuse = -1) : openL D = (0, some (L, base, list), D) := by
 obtain ⟨ho, ⟨hf, rfl, rfl, rfl⟩ | ⟨s, C, h⟩⟩ := h
 ·have hF : Fs D.files (fun _ => []) (fun _ => False) := by rw [hf]; exact Fs.empty _
  obtain ⟨D', h1, _, _, _, h5⟩ := open_none hF ho hfu (fun _ h => h.elim)
  rw [h1, h5 fun _ h => h]
 ·obtain ⟨D', h1, _, _, _, h5⟩ := open_core h.fs ho hfu h.lk (fun k a b => ⟨a, b⟩) h.kd (fun k hk hn => absurd hk.2 (by omega)) (fun hp => absurd hp.2 (by omega))
  rw [h1, h5 fun _ h => h, h.ba, h.li]
  have e : (⟨L.number, (scanF (s L.number)).2, decide ((scanF (s L.number)).2 < (s L.number).length), L.first⟩ : Lg) = L := by
   rw [← h.go, ← h.to]
  rw [e]
/-- A log's files; what is found where one more file says nothing. -/
theorem live_re {D : Dk} {L : Lg} {base : List UInt8} {list : List (List UInt8)} (h : Live D L base list) : ∃ s p, Fs D.files s p ∧ (∀ k, p k ↔ max L.first 1 ≤ k ∧ k ≤ L.number) ∧
  ∀ D2 s2 p2, D2.off = false → D2.fuse = -1 → Fs D2.files s2 p2 → (∀ k, p k → p2 k ∧ s2 k = s k) → (∀ k, p2 k → p k ∨ (k = L.number + 1 ∧ openF (s2 k) = none)) → Fnd D2 (fun b g => b = base ∧ g = list) := by
 obtain ⟨ho, ⟨hf, rfl, rfl, rfl⟩ | ⟨s, C, h⟩⟩ := h
 ·refine ⟨fun _ => [], fun _ => False, by rw [hf]; exact Fs.empty _, fun k => ⟨fun h => h.elim, fun h => by dsimp only at h; omega⟩, fun D2 s2 p2 ho2 hf2 h2 h3 h4 => ?_⟩
  exact fnd_none _ h2 ho2 hf2 (fun k hk => by rw [readS_zero ((h4 k hk).resolve_left id).2]; exact fun e => by cases e) ⟨rfl, rfl⟩
 ·have hle := h.lk.le
  have h1 := h.fs.num L.first ⟨Nat.le_refl _, hle⟩
  refine ⟨s, _, h.fs, fun k => ?_, fun D2 s2 p2 ho2 hf2 h2 h3 h4 => ?_⟩
  ·rw [show max L.first 1 = L.first by omega]
  ·have e : ∀ k, L.first ≤ k → k ≤ L.number → s2 k = s k := fun k a b => (h3 k ⟨a, b⟩).2
   have z : ∀ k, p2 k → L.number < k → (readS (s2 k)).kind = 0 := fun k hk hn => by
    rcases h4 k hk with h5 | h5
    ·omega
    ·rw [readS_zero h5.2]
   refine fnd_core (f := L.first) (n := L.number) (C := C) _ h2 ho2 hf2 (h.lk.congr (fun k a b => e k a (by omega)) (by rw [e _ hle (Nat.le_refl _)]) (by rw [e _ hle (Nat.le_refl _)])) (fun k a b => (h3 k ⟨a, b⟩).1) ?_ (fun k hk hn => ?_) (fun hp => ?_) ⟨?_, ?_⟩
   ·rw [e _ (Nat.le_refl _) hle]; exact h.kd
   ·rw [z k hk hn]; decide
   ·exact follows_zero (by rw [z _ hp (by omega)]; decide)
   ·rw [e _ (Nat.le_refl _) hle]; exact h.ba
   ·rw [e _ hle (Nat.le_refl _)]; exact h.li
theorem live_aft {D : Dk} {L : Lg} {base : List UInt8} {list : List (List UInt8)} (h : Live D L base list) : Aft D (fun b g => b = base ∧ g = list) := fun ks => by
 obtain ⟨s, p, h1, h2, h3⟩ := live_re h
 refine h3 _ s p rfl rfl ?_ (fun k hk => ⟨hk, rfl⟩) (fun k hk => .inl hk)
 show Fs (crashL D.files ks) s p
 rw [crash_all h1.st]; exact h1
theorem ready_ok {D : Dk} (ho : D.off = false) {n : Nat} (h : n ≤ 1000000001) : readyE D (nameB n) = 0 := by
 unfold readyE
 rw [if_neg (by rw [fine_name n h]; decide), if_neg (by rw [ho]; decide)]
/-- Bytes put into a file so that they last, or not. -/
theorem write_cases {D : Dk} {s : Nat → List UInt8} {p : Nat → Prop} (h : Fs D.files s p) (ho : D.off = false) (n : Nat) (h1 : 1 ≤ n) (h2 : n ≤ 999999999) (x y : List UInt8) (hx : (p n ∧ x = s n) ∨ (¬ p n ∧ x = [])) (hy : y ≠ []) :
  writeD D (nameB n) y = (52, D) ∨
  (∃ D1, writeD D (nameB n) y = (50, D1) ∧ D1.off = true ∧ ∀ ks, Fs (crashL D1.files ks) s p ∨ ∃ j, Fs (crashL D1.files ks) (upS s n (x ++ y.take j)) (fun k => p k ∨ k = n)) ∨
  (∃ D1, writeD D (nameB n) y = (0, D1) ∧ D1.off = false ∧ Fs D1.files (upS s n (x ++ y)) (fun k => p k ∨ k = n)) := by
 obtain ⟨o, hg, hop⟩ : ∃ o, (getF D.files (nameB n)).getD ⟨[], 0, false⟩ = ⟨x, x.length, o⟩ ∧ (o = false → ¬ p n) := by
  rcases hx with ⟨hp, rfl⟩ | ⟨hp, rfl⟩
  ·exact ⟨true, by rw [h.has n hp]; rfl, fun h => by cases h⟩
  ·exact ⟨false, by rw [h.not (by omega) hp]; rfl, fun _ => hp⟩
 have hA : appendD D (nameB n) y = if 1048576 < y.length + x.length then (52, D) else if D.fuse = 0 then (50, { D with off := true }) else (0, { stepD D with files := setF D.files (nameB n) ⟨x ++ y, x.length, o⟩ }) := by
  unfold appendD
  rw [if_neg (by rw [ready_ok ho (by omega)]; decide)]
  dsimp only
  rw [hg]
 unfold writeD
 rw [hA]
 by_cases hc1 : 1048576 < y.length + x.length
 ·rw [if_pos hc1]
  dsimp only
  rw [if_pos (by decide)]
  exact .inl rfl
 rw [if_neg hc1]
 by_cases hc2 : D.fuse = 0
 ·rw [if_pos hc2]
  dsimp only
  rw [if_pos (by decide)]
  refine .inr (.inl ⟨_, rfl, rfl, fun ks => .inl ?_⟩)
  show Fs (crashL D.files ks) s p
  rw [crash_all h.st]; exact h
 rw [if_neg hc2]
 dsimp only
 rw [if_neg (by decide)]
 have hgs : getF (setF D.files (nameB n) ⟨x ++ y, x.length, o⟩) (nameB n) = some ⟨x ++ y, x.length, o⟩ := by rw [getF_setF, if_pos rfl]
 have hrd : readyE { stepD D with files := setF D.files (nameB n) ⟨x ++ y, x.length, o⟩ } (nameB n) = 0 := ready_ok (by exact ho) (by omega)
 have hS : syncD { stepD D with files := setF D.files (nameB n) ⟨x ++ y, x.length, o⟩ } (nameB n) = if max (D.fuse - 1) (-1) = 0 then (50, { { stepD D with files := setF D.files (nameB n) ⟨x ++ y, x.length, o⟩ } with off := true }) else (0, { stepD { stepD D with files := setF D.files (nameB n) ⟨x ++ y, x.length, o⟩ } with files := setF (setF D.files (nameB n) ⟨x ++ y, x.length, o⟩) (nameB n) ⟨x ++ y, (x ++ y).length, true⟩ }) := by
  unfold syncD knownD
  rw [if_neg (by rw [hrd]; decide)]
  dsimp only
  rw [hgs]
  rfl
 rw [hS]
 by_cases hc3 : max (D.fuse - 1) (-1) = 0
 ·rw [if_pos hc3]
  refine .inr (.inl ⟨_, rfl, rfl, fun ks => ?_⟩)
  show Fs (crashL (setF D.files (nameB n) ⟨x ++ y, x.length, o⟩) ks) s p ∨ _
  have hw : x.length < (x ++ y).length := by
   have := List.length_pos_iff.2 hy
   rw [List.length_append]; omega
  obtain ⟨j, hj, hcut⟩ := cut_is x y o (ks.headD 0)
  have hcr := crash_one h.srt h.st (nameB n) ⟨x ++ y, x.length, o⟩ hw ks
  rw [hcut] at hcr
  dsimp only at hcr
  show Fs (crashL (setF D.files (nameB n) ⟨x ++ y, x.length, o⟩) ks) s p ∨ ∃ j, Fs (crashL (setF D.files (nameB n) ⟨x ++ y, x.length, o⟩) ks) (upS s n (x ++ y.take j)) (fun k => p k ∨ k = n)
  rw [hcr]
  by_cases hold : (o || decide (0 < j)) = true
  ·rw [if_pos hold, hold]
   exact .inr ⟨j, h.set n _ h1 h2⟩
  ·rw [if_neg hold]
   have ho2 : o = false := by cases o; rfl; exact absurd rfl hold
   exact .inl ((h.del n (by omega)).congr (fun k => ⟨fun hk => ⟨hk, fun e => by subst e; exact hop ho2 hk⟩, fun hk => hk.1⟩) (fun _ _ => rfl))
 ·rw [if_neg hc3]
  refine .inr (.inr ⟨_, rfl, ho, ?_⟩)
  show Fs (setF (setF D.files (nameB n) ⟨x ++ y, x.length, o⟩) (nameB n) ⟨x ++ y, (x ++ y).length, true⟩) _ _
  rw [setF_setF]
  exact h.set n _ h1 h2
theorem tail_app {l m : List (List UInt8)} (h : 0 < l.length) : (l ++ m).tail = l.tail ++ m := by
 match l, h with
 | _ :: _, _ => rfl
/-- More put behind the last segment. -/
theorem put_same {D : Dk} {L : Lg} {base : List UInt8} {list : List (List UInt8)} {s : Nat → List UInt8} {C : List (List UInt8)} (h : Has D L base list s C) (ht : L.torn = false) (y : List UInt8) :
  Link (upS s L.number (s L.number ++ y)) L.first L.number C ∧ (readS (upS s L.number (s L.number ++ y) L.first)).kind = 1 ∧ (readS (upS s L.number (s L.number ++ y) L.first)).base = base ∧ C ++ (scanF (s L.number ++ y)).1.tail = list ++ (scanF y).1 ∧ (scanF (s L.number ++ y)).2 = L.good + (scanF y).2 := by
 have hle := h.lk.le
 have hk : (readS (s L.number)).kind ≠ 0 := by
  by_cases e : L.first = L.number
  ·rw [← e, h.kd]; decide
  ·rw [h.lk.kind L.number (by omega) (Nat.le_refl _)]; decide
 obtain ⟨r1, r2, r3⟩ := readS_app hk y
 have hto := h.to
 rw [ht] at hto
 have hgl : (scanF (s L.number)).2 = (s L.number).length := by
  have := scan_le (s L.number)
  have := h.go
  have : ¬ L.good < (s L.number).length := fun e => by rw [decide_eq_true e] at hto; cases hto
  omega
 rw [scan_app hgl y]
 refine ⟨h.lk.congr (fun k a b => upS_ne _ _ (by omega)) (by rw [upS_at]; exact r1) (by rw [upS_at]; exact r3), ?_, ?_, ?_, ?_⟩
 ·by_cases e : L.first = L.number
  ·rw [e, upS_at, r1, ← e]; exact h.kd
  ·rw [upS_ne _ _ e]; exact h.kd
 ·by_cases e : L.first = L.number
  ·rw [e, upS_at, r2, ← e]; exact h.ba
  ·rw [upS_ne _ _ e]; exact h.ba
 ·dsimp only
  rw [tail_app (scan_pos hk).1, ← List.append_assoc, h.li]
 ·dsimp only
  rw [h.go]
/-- A segment more. -/
theorem put_next {D : Dk} {L : Lg} {base : List UInt8} {list : List (List UInt8)} {s : Nat → List UInt8} {C : List (List UInt8)} (h : Has D L base list s C) (c : List UInt8) (hk : (readS c).kind = 2) (hb : (readS c).behind = L.good) :
  Link (upS s (L.number + 1) c) L.first (L.number + 1) list ∧ (readS (upS s (L.number + 1) c L.first)).kind = 1 ∧ (readS (upS s (L.number + 1) c L.first)).base = base := by
 have hle := h.lk.le
 have hk0 : (readS (s L.number)).kind ≠ 0 := by
  by_cases e : L.first = L.number
  ·rw [← e, h.kd]; decide
  ·rw [h.lk.kind L.number (by omega) (Nat.le_refl _)]; decide
 obtain ⟨p1, p2⟩ := scan_pos hk0
 have hsl := scan_le (s L.number)
 have hgo := h.go
 refine ⟨?_, by rw [upS_ne _ _ (by omega)]; exact h.kd, by rw [upS_ne _ _ (by omega)]; exact h.ba⟩
 rw [← h.li]
 refine .on (h.lk.congr (fun k a b => upS_ne _ _ (by omega)) (by rw [upS_ne _ _ (by omega)]) (by rw [upS_ne _ _ (by omega)])) ?_
 rw [upS_at, upS_ne _ _ (by omega)]
 unfold followsF
 rw [readS_bytes, hk, hb, if_neg (by rintro (e | e | e); exact e rfl; omega; omega), Int.toNat_natCast, hgo, scan_take, if_neg (by rintro (e | e); exact e rfl; omega)]
theorem sealB_nil {rs : List (List UInt8)} (h : sealB rs = []) : rs = [] := by
 match rs, h with
 | [], _ => rfl
 | p :: rs, h =>
  have e : sealB (p :: rs) = frameB p ++ sealB rs := by simp [sealB]
  rw [e] at h
  have h2 := (List.append_eq_nil_iff.1 h).1
  have := frameB_len p
  rw [h2] at this
  simp only [List.length_nil] at this
  omega
theorem seal_two (h : List UInt8) (rs : List (List UInt8)) : sealB [h] ++ sealB rs = sealB (h :: rs) := by simp [sealB]
end Go.Proofs.YtcmdmhmgffjknaaGreatDoor
/- Records put, a base laid: what a log has behind it, or finds behind a loss of power: plain facts. -/
namespace Go.Proofs.YtcmdmhmgffjknaaGreatDoor
open Go.Sx
set_option linter.unusedVariables false

/-- A first segment's content, whole or cut. -/
theorem first_seg {rs : List (List UInt8)} (hr : ∀ p ∈ rs, p.length ≤ 1048576) {y : List UInt8} {l : List (List UInt8)} {e : Nat} (hs : scanF (sealB [numsB [1, 0]] ++ y) = (numsB [1, 0] :: l, e)) (D : Dk) (hF : Fs D.files (upS (fun _ => []) 1 (sealB [numsB [1, 0]] ++ y)) (fun k => False ∨ k = 1)) :
  Has D ⟨1, e, decide (e < (sealB [numsB [1, 0]] ++ y).length), 1⟩ [] l (upS (fun _ => []) 1 (sealB [numsB [1, 0]] ++ y)) [] := by
 refine ⟨hF.congr (fun k => ⟨fun h => .inr (by dsimp only at h; omega), fun h => by obtain rfl := h.resolve_left id; exact ⟨Nat.le_refl _, Nat.le_refl _⟩⟩) (fun _ _ => rfl), .one, ?_, ?_, ?_, ?_, ?_⟩
 ·dsimp only; rw [upS_at, readS_first]
 ·dsimp only; rw [upS_at, readS_first]
 ·dsimp only; rw [upS_at, hs]; rfl
 ·dsimp only; rw [upS_at, hs]
 ·dsimp only; rw [upS_at]
theorem ne52 {D : Dk} : ((52 : Int), D).1 ≠ 0 := by show ¬ (52 : Int) = 0; decide
theorem ne50 {D : Dk} : ((50 : Int), D).1 ≠ 0 := by show ¬ (50 : Int) = 0; decide
theorem nums_fit (a b : Nat) (ha : a ≤ 1000000000) (hb : b ≤ 1000000000) : (numsB [a, b]).length ≤ 1048576 ∧ numsB [a, b] ≠ [] := by
 have hmax : maxS = 140737488355328 := rfl
 have := numsB_len2 a b (by omega) (by omega)
 exact ⟨by omega, this.2⟩
theorem append_step {D : Dk} {L : Lg} {base : List UInt8} {list : List (List UInt8)} (hl : Live D L base list) (hg : L.good ≤ 1000000000) (rs : List (List UInt8)) :
  ((appendL L D rs).1 = 0 ∧ Live (appendL L D rs).2.2 (appendL L D rs).2.1 base (list ++ rs)) ∨
  ((appendL L D rs).1 = 50 ∧ (appendL L D rs).2.2.off = true ∧ (appendL L D rs).2.1 = L ∧ Aft (appendL L D rs).2.2 (fun b g => b = base ∧ ∃ i, g = list ++ rs.take i)) ∨
  ((appendL L D rs).1 ≠ 0 ∧ (appendL L D rs).1 ≠ 50 ∧ (appendL L D rs).2 = (L, D)) := by
 unfold appendL
 by_cases h1 : ∃ r ∈ rs, 8192 < r.length
 ·rw [if_pos h1]; exact .inr (.inr ⟨(by show ¬ (4 : Int) = 0; decide), (by show ¬ (4 : Int) = 50; decide), rfl⟩)
 rw [if_neg h1]
 by_cases h2 : 65536 < (sealB rs).length
 ·rw [if_pos h2]; exact .inr (.inr ⟨(by show ¬ (4 : Int) = 0; decide), (by show ¬ (4 : Int) = 50; decide), rfl⟩)
 rw [if_neg h2]
 by_cases h3 : sealB rs = []
 ·rw [if_pos h3]; obtain rfl := sealB_nil h3; exact .inl ⟨rfl, by rw [List.append_nil]; exact hl⟩
 rw [if_neg h3]
 have hr : ∀ p ∈ rs, p.length ≤ 1048576 := fun p hp => by
  have : ¬ 8192 < p.length := fun h => h1 ⟨p, hp, h⟩
  omega
 obtain ⟨ho, ⟨hf, rfl, rfl, rfl⟩ | ⟨s, C, h⟩⟩ := hl
 ·have hp : planL ⟨0, 0, false, 0⟩ = some (numsB [1, 0], 1, 0, false) := by unfold planL; rw [if_pos rfl]
  obtain ⟨n1, n2⟩ := nums_fit 1 0 (by decide) (by decide)
  have hfu : fullB (numsB [1, 0]) (sealB rs) = sealB [numsB [1, 0]] ++ sealB rs := by unfold fullB; rw [if_neg n2]
  rw [hp]
  dsimp only
  rw [hfu]
  have hF : Fs D.files (fun _ => []) (fun _ => False) := by rw [hf]; exact Fs.empty _
  have hne : sealB [numsB [1, 0]] ++ sealB rs ≠ [] := fun e => h3 (List.append_eq_nil_iff.1 e).2
  rcases write_cases hF ho 1 (by decide) (by decide) [] (sealB [numsB [1, 0]] ++ sealB rs) (.inr ⟨id, rfl⟩) hne with hw | ⟨D1, hw, ho1, hcr⟩ | ⟨D1, hw, ho1, hF1⟩
  ·rw [hw, if_pos ne52]; exact .inr (.inr ⟨(by show ¬ (52 : Int) = 0; decide), (by show ¬ (52 : Int) = 50; decide), rfl⟩)
  ·rw [hw, if_pos ne50]
   refine .inr (.inl ⟨rfl, ho1, rfl, fun ks => ?_⟩)
   rcases hcr ks with hc | ⟨j, hc⟩
   ·exact fnd_none _ (D := crashD D1 ks) hc rfl rfl (fun k h => h.elim) ⟨rfl, 0, rfl⟩
   ·rw [List.nil_append] at hc
    rcases cut_head n1 hr j with hz | ⟨y, i, e, hy, hs⟩
    ·refine fnd_none _ (D := crashD D1 ks) hc rfl rfl (fun k hk => ?_) ⟨rfl, 0, rfl⟩
     obtain rfl := hk.resolve_left id
     rw [upS_at, readS_zero hz]; exact fun h => by cases h
    ·rw [hy] at hc
     have hH := first_seg hr hs (crashD D1 ks) hc
     have hx := live_aft (D := crashD D1 ks) (L := ⟨1, e, decide (e < (sealB [numsB [1, 0]] ++ y).length), 1⟩) ⟨rfl, .inr ⟨_, _, hH⟩⟩ []
     have e : crashD (crashD D1 ks) [] = crashD D1 ks := by
      show (⟨crashL (crashL D1.files ks) [], -1, false, D1.steps⟩ : Dk) = ⟨crashL D1.files ks, -1, false, D1.steps⟩
      rw [crash_all (L := crashL D1.files ks) hH.fs.st]
     rw [e] at hx
     exact hx.mono (fun b g h => ⟨h.1, i, by rw [h.2]; rfl⟩)
  ·rw [hw, if_neg (fun h => h rfl)]
   refine .inl ⟨rfl, ho1, .inr ?_⟩
   rw [List.nil_append] at hF1
   have hs := scanF_sealed (numsB [1, 0] :: rs) (fun p hp => by rcases List.mem_cons.1 hp with rfl | hp; exact n1; exact hr p hp)
   rw [← seal_two] at hs
   have hH := first_seg hr hs D1 hF1
   rw [decide_eq_false (by omega)] at hH
   refine ⟨upS (fun _ => []) 1 (sealB [numsB [1, 0]] ++ sealB rs), [], ?_⟩
   show Has D1 ⟨1, 0 + (sealB [numsB [1, 0]] ++ sealB rs).length, false, 1⟩ [] rs _ _
   rw [Nat.zero_add]
   exact hH
 ·have hle := h.lk.le
  have hnum := h.fs.num L.number ⟨hle, Nat.le_refl _⟩
  have hfn := h.fs.num L.first ⟨Nat.le_refl _, hle⟩
  have hmx : max L.first 1 = L.first := by omega
  obtain ⟨n1, n2⟩ := nums_fit 2 L.good (by decide) hg
  by_cases hsp : (L.torn || decide (2048 ≤ (L.good : Int))) = true
  ·by_cases h9 : L.number = 999999999
   ·have hp : planL L = none := by unfold planL; rw [if_neg (by omega), if_pos hsp, if_pos h9]
    rw [hp]
    exact .inr (.inr ⟨(by show ¬ (52 : Int) = 0; decide), (by show ¬ (52 : Int) = 50; decide), rfl⟩)
   ·have hp : planL L = some (numsB [2, L.good], L.number + 1, 0, false) := by unfold planL; rw [if_neg (by omega), if_pos hsp, if_neg h9]
    have hfu : fullB (numsB [2, L.good]) (sealB rs) = sealB [numsB [2, L.good]] ++ sealB rs := by unfold fullB; rw [if_neg n2]
    rw [hp]
    dsimp only
    rw [hfu]
    have hne : sealB [numsB [2, L.good]] ++ sealB rs ≠ [] := fun e => h3 (List.append_eq_nil_iff.1 e).2
    have key : ∀ (D1 : Dk) (y : List UInt8) (l : List (List UInt8)) (e : Nat), scanF (sealB [numsB [2, L.good]] ++ y) = (numsB [2, L.good] :: l, e) → Fs D1.files (upS s (L.number + 1) (sealB [numsB [2, L.good]] ++ y)) (fun k => (L.first ≤ k ∧ k ≤ L.number) ∨ k = L.number + 1) →
      Has D1 ⟨L.number + 1, e, decide (e < (sealB [numsB [2, L.good]] ++ y).length), L.first⟩ base (list ++ l) (upS s (L.number + 1) (sealB [numsB [2, L.good]] ++ y)) list := fun D1 y l e hs hF1 => by
     obtain ⟨q1, q2, q3⟩ := put_next h (sealB [numsB [2, L.good]] ++ y) (by rw [readS_on _ _ hg]) (by rw [readS_on _ _ hg])
     refine ⟨hF1.congr (fun k => ⟨fun h => by dsimp only at h; omega, fun h => by dsimp only; omega⟩) (fun _ _ => rfl), q1, q2, q3, ?_, ?_, ?_⟩
     ·dsimp only; rw [upS_at, hs]; rfl
     ·dsimp only; rw [upS_at, hs]
     ·dsimp only; rw [upS_at]
    rcases write_cases h.fs ho (L.number + 1) (by omega) (by omega) [] (sealB [numsB [2, L.good]] ++ sealB rs) (.inr ⟨fun e => by omega, rfl⟩) hne with hw | ⟨D1, hw, ho1, hcr⟩ | ⟨D1, hw, ho1, hF1⟩
    ·rw [hw, if_pos ne52]; exact .inr (.inr ⟨(by show ¬ (52 : Int) = 0; decide), (by show ¬ (52 : Int) = 50; decide), rfl⟩)
    ·rw [hw, if_pos ne50]
     refine .inr (.inl ⟨rfl, ho1, rfl, fun ks => ?_⟩)
     obtain ⟨s0, p0, hF0, hp0, hre⟩ := live_re (D := D) (L := L) (base := base) (list := list) ⟨ho, .inr ⟨s, C, h⟩⟩
     show Fnd (crashD D1 ks) _
     rcases hcr ks with hc | ⟨j, hc⟩
     ·exact fnd_core (f := L.first) (n := L.number) (C := C) _ (D := crashD D1 ks) hc rfl rfl h.lk (fun k a b => ⟨a, b⟩) h.kd (fun k hk hn => absurd hk.2 (by omega)) (fun hp => absurd hp.2 (by omega)) ⟨h.ba, 0, by rw [h.li]; simp⟩
     ·rw [List.nil_append] at hc
      rcases cut_head n1 hr j with hz | ⟨y, i, e, hy, hs⟩
      ·have hu : ∀ k, k ≤ L.number → upS s (L.number + 1) ((sealB [numsB [2, L.good]] ++ sealB rs).take j) k = s k := fun k hk => upS_ne _ _ (by omega)
       refine fnd_core (f := L.first) (n := L.number) (C := C) _ (D := crashD D1 ks) hc rfl rfl (h.lk.congr (fun k a b => hu k (by omega)) (by rw [hu _ (Nat.le_refl _)]) (by rw [hu _ (Nat.le_refl _)])) (fun k a b => .inl ⟨a, b⟩) (by rw [hu _ hle]; exact h.kd) (fun k hk hn => ?_) (fun hp => ?_) ⟨by rw [hu _ hle]; exact h.ba, 0, by rw [hu _ (Nat.le_refl _), h.li]; simp⟩
       ·obtain rfl : k = L.number + 1 := by omega
        rw [upS_at, readS_zero hz]; exact fun h => by cases h
       ·rw [upS_at, readS_zero hz]; exact follows_zero (fun h => by cases h)
      ·rw [hy] at hc
       have hH := key (crashD D1 ks) y _ e hs hc
       refine fnd_core (f := L.first) (n := L.number + 1) (C := list) _ (D := crashD D1 ks) hH.fs rfl rfl hH.lk (fun k a b => ⟨a, b⟩) hH.kd (fun k hk hn => absurd hk.2 (by dsimp only; omega)) (fun hp => absurd hp.2 (by dsimp only; omega)) ⟨hH.ba, i, hH.li⟩
    ·rw [hw, if_neg (fun h => h rfl)]
     refine .inl ⟨rfl, ho1, .inr ?_⟩
     rw [List.nil_append] at hF1
     have hs := scanF_sealed (numsB [2, L.good] :: rs) (fun p hp => by rcases List.mem_cons.1 hp with rfl | hp; exact n1; exact hr p hp)
     rw [← seal_two] at hs
     have hH := key D1 _ _ _ hs hF1
     rw [decide_eq_false (by omega)] at hH
     refine ⟨upS s (L.number + 1) (sealB [numsB [2, L.good]] ++ sealB rs), list, ?_⟩
     show Has D1 ⟨L.number + 1, 0 + (sealB [numsB [2, L.good]] ++ sealB rs).length, false, max L.first 1⟩ base (list ++ rs) _ _
     rw [Nat.zero_add, hmx]
     exact hH
  ·have htn : L.torn = false := by cases ht : L.torn; rfl; rw [ht] at hsp; exact absurd rfl hsp
   have hp : planL L = some ([], L.number, L.good, L.torn) := by unfold planL; rw [if_neg (by omega), if_neg hsp]
   have hfu : fullB [] (sealB rs) = sealB rs := by unfold fullB; rw [if_pos rfl]
   rw [hp]
   dsimp only
   rw [hfu]
   have hps : ∀ k, ((L.first ≤ k ∧ k ≤ L.number) ∨ k = L.number) ↔ (L.first ≤ k ∧ k ≤ L.number) := fun k => by omega
   rcases write_cases h.fs ho L.number (by omega) (by omega) (s L.number) (sealB rs) (.inl ⟨⟨hle, Nat.le_refl _⟩, rfl⟩) h3 with hw | ⟨D1, hw, ho1, hcr⟩ | ⟨D1, hw, ho1, hF1⟩
   ·rw [hw, if_pos ne52]; exact .inr (.inr ⟨(by show ¬ (52 : Int) = 0; decide), (by show ¬ (52 : Int) = 50; decide), rfl⟩)
   ·rw [hw, if_pos ne50]
    refine .inr (.inl ⟨rfl, ho1, rfl, fun ks => ?_⟩)
    show Fnd (crashD D1 ks) _
    rcases hcr ks with hc | ⟨j, hc⟩
    ·exact fnd_core (f := L.first) (n := L.number) (C := C) _ (D := crashD D1 ks) hc rfl rfl h.lk (fun k a b => ⟨a, b⟩) h.kd (fun k hk hn => absurd hk.2 (by omega)) (fun hp => absurd hp.2 (by omega)) ⟨h.ba, 0, by rw [h.li]; simp⟩
    ·obtain ⟨i, e, hs⟩ := scan_cut rs hr j
     obtain ⟨q1, q2, q3, q4, q5⟩ := put_same h htn ((sealB rs).take j)
     refine fnd_core (f := L.first) (n := L.number) (C := C) _ (D := crashD D1 ks) hc rfl rfl q1 (fun k a b => .inl ⟨a, b⟩) q2 (fun k hk hn => by omega) (fun hp => by omega) ⟨q3, i, ?_⟩
     rw [upS_at, q4, hs]
   ·rw [hw, if_neg (fun h => h rfl)]
    refine .inl ⟨rfl, ho1, .inr ?_⟩
    have hs := scanF_sealed rs hr
    obtain ⟨q1, q2, q3, q4, q5⟩ := put_same h htn (sealB rs)
    rw [hs] at q4 q5
    dsimp only at q4 q5
    have hgl : L.good = (s L.number).length := by
     have hto := h.to
     rw [htn] at hto
     have := scan_le (s L.number)
     have := h.go
     have : ¬ L.good < (s L.number).length := fun e => by rw [decide_eq_true e] at hto; cases hto
     omega
    refine ⟨upS s L.number (s L.number ++ sealB rs), C, ?_⟩
    show Has D1 ⟨L.number, L.good + (sealB rs).length, L.torn, max L.first 1⟩ base (list ++ rs) _ C
    rw [hmx]
    refine ⟨hF1.congr (fun k => (hps k).symm) (fun _ _ => rfl), q1, q2, q3, ?_, ?_, ?_⟩
    ·dsimp only; rw [upS_at]; exact q4
    ·dsimp only; rw [upS_at]; exact q5.symm
    ·dsimp only; rw [upS_at, htn, List.length_append, ← hgl]; exact (decide_eq_false (by omega)).symm
/-! a base laid -/
theorem rem_fs {s : Nat → List UInt8} : ∀ (cnt : Nat) (D : Dk) (n : Nat) (p : Nat → Prop), Fs D.files s p → D.off = false → (∀ k, n ≤ k → k < n + cnt → p k) →
  (∃ D', remD D n cnt = (0, D') ∧ D'.off = false ∧ Fs D'.files s (fun k => p k ∧ ¬ (n ≤ k ∧ k < n + cnt))) ∨
  (∃ D' m, remD D n cnt = (50, D') ∧ D'.off = true ∧ Fs D'.files s (fun k => p k ∧ ¬ (n ≤ k ∧ k < m)) ∧ m ≤ n + cnt)
 | 0, D, n, p, h, ho, _ => .inl ⟨D, rfl, ho, h.congr (fun k => ⟨fun h => h.1, fun h => ⟨h, by omega⟩⟩) (fun _ _ => rfl)⟩
 | cnt + 1, D, n, p, h, ho, hp => by
  have hpn := hp n (Nat.le_refl _) (by omega)
  have hb := h.num n hpn
  rw [remD, remove_ok h ho hpn]
  by_cases hf : D.fuse = 0
  ·rw [if_pos hf]
   dsimp only
   rw [if_pos (by decide)]
   exact .inr ⟨_, n, rfl, rfl, h.congr (fun k => ⟨fun h => h.1, fun h => ⟨h, by omega⟩⟩) (fun _ _ => rfl), by omega⟩
  ·rw [if_neg hf]
   dsimp only
   rw [if_neg (fun h => h rfl)]
   rcases rem_fs cnt { stepD D with files := delF D.files (nameB n) } (n + 1) (fun k => p k ∧ k ≠ n) (h.del n (by omega)) ho (fun k a b => ⟨hp k (by omega) (by omega), by omega⟩) with ⟨D', h1, h2, h3⟩ | ⟨D', m, h1, h2, h3, h4⟩
   ·exact .inl ⟨D', h1, h2, h3.congr (fun k => ⟨fun ⟨a, b⟩ => ⟨⟨a, fun e => b ⟨by omega, by omega⟩⟩, fun e => b ⟨by omega, by omega⟩⟩, fun ⟨⟨a, c⟩, b⟩ => ⟨a, fun e => b ⟨by omega, by omega⟩⟩⟩) (fun _ _ => rfl)⟩
   ·by_cases hm : m ≤ n
    ·exact .inr ⟨D', n + 1, h1, h2, h3.congr (fun k => ⟨fun ⟨a, b⟩ => ⟨⟨a, fun e => b ⟨by omega, by omega⟩⟩, fun e => by omega⟩, fun ⟨⟨a, c⟩, b⟩ => ⟨a, fun e => c (by omega)⟩⟩) (fun _ _ => rfl), by omega⟩
    ·exact .inr ⟨D', m, h1, h2, h3.congr (fun k => ⟨fun ⟨a, b⟩ => ⟨⟨a, fun e => b ⟨by omega, by omega⟩⟩, fun e => b ⟨by omega, by omega⟩⟩, fun ⟨⟨a, c⟩, b⟩ => ⟨a, fun e => b ⟨by omega, by omega⟩⟩⟩) (fun _ _ => rfl), by omega⟩
theorem base_is (b : List UInt8) (h : b.length ≤ 524288) : ∃ hd, baseB b = sealB [hd] ∧ hd.length ≤ 1048576 ∧ scanF (baseB b) = ([hd], (baseB b).length) ∧ baseB b ≠ [] := by
 obtain ⟨h1, h2⟩ := head_len b h
 have hlen : (numsB [1] ++ textB [b]).length ≤ 1048576 := by rw [List.length_append]; omega
 refine ⟨_, rfl, hlen, scanF_sealed [numsB [1] ++ textB [b]] (fun p hp => by simp only [List.mem_singleton] at hp; subst hp; exact hlen), fun e => ?_⟩
 have := sealB_nil (rs := [numsB [1] ++ textB [b]]) e
 cases this
theorem lay_step {D : Dk} {L : Lg} {base : List UInt8} {list : List (List UInt8)} (hl : Live D L base list) (b : List UInt8) :
  ((layL L D b).1 = 0 ∧ Live (layL L D b).2.2 (layL L D b).2.1 b []) ∨
  ((layL L D b).1 = 50 ∧ (layL L D b).2.2.off = true ∧ ((layL L D b).2.1 = L ∨ ((layL L D b).2.1 = ⟨L.number + 1, (baseB b).length, false, L.number + 1⟩ ∧ L.number < 999999999 ∧ b.length ≤ 524288)) ∧ Aft (layL L D b).2.2 (fun b' g => (b' = base ∧ g = list) ∨ (b' = b ∧ g = []))) ∨
  ((layL L D b).1 ≠ 0 ∧ (layL L D b).1 ≠ 50 ∧ (layL L D b).2 = (L, D)) := by
 unfold layL
 by_cases h1 : 524288 < b.length
 ·rw [if_pos h1]; exact .inr (.inr ⟨(by show ¬ (4 : Int) = 0; decide), (by show ¬ (4 : Int) = 50; decide), rfl⟩)
 rw [if_neg h1]
 by_cases h2 : L.number = 999999999
 ·rw [if_pos h2]; exact .inr (.inr ⟨(by show ¬ (52 : Int) = 0; decide), (by show ¬ (52 : Int) = 50; decide), rfl⟩)
 rw [if_neg h2]
 obtain ⟨hd, e1, e2, e3, e4⟩ := base_is b (by omega)
 have hrb : readS (baseB b) = ⟨baseB b, 1, b, 0⟩ := by have := readS_base b [] (by omega); rwa [List.append_nil] at this
 obtain ⟨s, p, hF, hp, hre⟩ := live_re hl
 have hn9 : L.number ≤ 999999998 := by
  by_cases hz : L.number = 0
  ·omega
  ·obtain ⟨_, ⟨_, rfl, _, _⟩ | ⟨s, C, h⟩⟩ := hl
   ·dsimp only; omega
   ·have := (h.fs.num L.number ⟨h.lk.le, Nat.le_refl _⟩).2
    omega
 have hnp : ¬ p (L.number + 1) := fun e => by have := (hp _).1 e; omega
 have laid : ∀ (D1 : Dk) (q : Nat → Prop), Fs D1.files (upS s (L.number + 1) (baseB b)) q → q (L.number + 1) → (∀ k, q k → k ≤ L.number + 1) → D1.off = false → D1.fuse = -1 → Fnd D1 (fun b' g => (b' = base ∧ g = list) ∨ (b' = b ∧ g = [])) := fun D1 q hq hq1 hq2 ho1 hf1 => by
  refine fnd_core (f := L.number + 1) (n := L.number + 1) (C := []) _ hq ho1 hf1 .one (fun k a c => by obtain rfl : k = L.number + 1 := (by omega); exact hq1) (by rw [upS_at, hrb]) (fun k hk hn => absurd (hq2 k hk) (by omega)) (fun hk => absurd (hq2 _ hk) (by omega)) (.inr ?_)
  rw [upS_at, hrb, e3]
  exact ⟨rfl, rfl⟩
 rcases write_cases hF hl.1 (L.number + 1) (by omega) (by omega) [] (baseB b) (.inr ⟨hnp, rfl⟩) e4 with hw | ⟨D1, hw, ho1, hcr⟩ | ⟨D1, hw, ho1, hF1⟩
 ·rw [hw, if_pos ne52]; exact .inr (.inr ⟨(by show ¬ (52 : Int) = 0; decide), (by show ¬ (52 : Int) = 50; decide), rfl⟩)
 ·rw [hw, if_pos ne50]
  refine .inr (.inl ⟨rfl, ho1, .inl rfl, fun ks => ?_⟩)
  show Fnd (crashD D1 ks) _
  rcases hcr ks with hc | ⟨j, hc⟩
  ·exact (hre (crashD D1 ks) s p rfl rfl hc (fun k hk => ⟨hk, rfl⟩) (fun k hk => .inl hk)).mono (fun _ _ h => .inl h)
  ·rw [List.nil_append] at hc
   by_cases hj : j < (baseB b).length
   ·have hz : openF ((baseB b).take j) = none := by
     have e5 : baseB b = frameB hd := by rw [e1]; simp [sealB]
     rw [e5] at hj ⊢
     exact openF_cut e2 hj
    refine (hre (crashD D1 ks) _ _ rfl rfl hc (fun k hk => ⟨.inl hk, upS_ne _ _ (fun e => by subst e; exact hnp hk)⟩) (fun k hk => ?_)).mono (fun _ _ h => .inl h)
    rcases hk with hk | rfl
    ·exact .inl hk
    ·exact .inr ⟨rfl, by rw [upS_at]; exact hz⟩
   ·rw [List.take_of_length_le (by omega)] at hc
    exact laid (crashD D1 ks) _ hc (.inr rfl) (fun k hk => hk.elim (fun h => by have := (hp k).1 h; omega) (fun h => by omega)) rfl rfl
 ·rw [hw, if_neg (fun h => h rfl)]
  rw [List.nil_append] at hF1
  dsimp only
  rcases rem_fs (L.number + 1 - max L.first 1) D1 (max L.first 1) _ hF1 ho1 (fun k a c => .inl ((hp k).2 ⟨a, by omega⟩)) with ⟨D2, r1, r2, r3⟩ | ⟨D2, m, r1, r2, r3, r4⟩
  ·rw [r1]
   refine .inl ⟨rfl, r2, .inr ⟨upS s (L.number + 1) (baseB b), [], ?_⟩⟩
   show Has D2 ⟨L.number + 1, (baseB b).length, false, L.number + 1⟩ b [] _ _
   refine ⟨r3.congr (fun k => ?_) (fun _ _ => rfl), .one, by dsimp only; rw [upS_at, hrb], by dsimp only; rw [upS_at, hrb], by dsimp only; rw [upS_at, e3]; rfl, by dsimp only; rw [upS_at, e3], by dsimp only; rw [upS_at]; exact (decide_eq_false (by omega)).symm⟩
   dsimp only
   constructor
   ·intro hk
    obtain rfl : k = L.number + 1 := by omega
    exact ⟨.inr rfl, by omega⟩
   ·rintro ⟨hk | rfl, hn⟩
    ·have := (hp k).1 hk
     exact absurd ⟨this.1, by omega⟩ hn
    ·omega
  ·rw [r1]
   refine .inr (.inl ⟨rfl, r2, .inr ⟨rfl, by omega, by omega⟩, fun ks => ?_⟩)
   have r5 : Fs (crashD D2 ks).files (upS s (L.number + 1) (baseB b)) (fun k => (p k ∨ k = L.number + 1) ∧ ¬ (max L.first 1 ≤ k ∧ k < m)) := by show Fs (crashL D2.files ks) _ _; rw [crash_all r3.st]; exact r3
   refine laid (crashD D2 ks) _ r5 ⟨.inr rfl, by omega⟩ (fun k hk => hk.1.elim (fun h => by have := (hp k).1 h; omega) (fun h => by omega)) rfl rfl
end Go.Proofs.YtcmdmhmgffjknaaGreatDoor
/- A log through acts, dead or alive: plain facts. -/
namespace Go.Sx
theorem XL.sllen {C : Cx} {ops : Array Oper} {l : List Oper} {κ : _} {e : Env} {Rs : List HP} {A : Option Addr} {n c E sz : Nat} {xs : List Value} {Fr : List HP} (hp : Pick Rs (sl A n c E sz xs) Fr) (k : xs.length = n * sz → n ≤ c → c ≤ maxLen → XL C ops l κ e Rs) : XL C ops l κ e Rs :=
 fun a w ha hw => let ⟨h1, h2, h3⟩ := (hw.pick hp).sl_len; k h1 h2 h3 a w ha hw
end Go.Sx
namespace Go.Proofs.YtcmdmhmgffjknaaGreatDoor
open Go.Sx
set_option linter.unusedVariables false

def LB (L : Lg) : Prop := L.number ≤ 999999999 ∧ L.good ≤ 100000000 ∧ L.first ≤ 999999999
theorem live_lb {D : Dk} {L : Lg} {b : List UInt8} {g : List (List UInt8)} (hok : DkOk D) (h : Live D L b g) : LB L := by
 obtain ⟨_, ⟨_, rfl, _, _⟩ | ⟨s, C, h⟩⟩ := h
 ·exact ⟨by decide, by decide, by decide⟩
 ·have hle := h.lk.le
  have h1 := h.fs.num L.number ⟨hle, Nat.le_refl _⟩
  have h2 := h.fs.num L.first ⟨Nat.le_refl _, hle⟩
  have h3 := (hok.fi _ (getF_mem (h.fs.has L.number ⟨hle, Nat.le_refl _⟩))).2.1
  dsimp only at h3
  have h4 := scan_le (s L.number)
  have h5 := h.go
  exact ⟨h1.2, by omega, h2.2⟩
theorem append_off {D : Dk} (L : Lg) (ho : D.off = true) (rs : List (List UInt8)) : (appendL L D rs).2 = (L, D) := by
 have hw : ∀ n s, (writeD D (nameB n) s).1 ≠ 0 ∧ (writeD D (nameB n) s).2 = D := fun n s => by
  have he : readyE D (nameB n) ≠ 0 := by
   unfold readyE
   split
   ·decide
   ·decide
  have hA : appendD D (nameB n) s = (readyE D (nameB n), D) := by unfold appendD; rw [if_pos he]
  unfold writeD
  rw [hA]
  dsimp only
  rw [if_pos he]
  exact ⟨he, rfl⟩
 unfold appendL
 split
 ·rfl
 split
 ·rfl
 split
 ·rfl
 split
 ·rfl
 ·rename_i h n g t hp
  obtain ⟨h1, h2⟩ := hw n (fullB h (sealB rs))
  rw [if_pos h1, h2]
theorem lay_off {D : Dk} (L : Lg) (ho : D.off = true) (b : List UInt8) : (layL L D b).2 = (L, D) := by
 have hw : ∀ n s, (writeD D (nameB n) s).1 ≠ 0 ∧ (writeD D (nameB n) s).2 = D := fun n s => by
  have he : readyE D (nameB n) ≠ 0 := by
   unfold readyE
   split
   ·decide
   ·decide
  have hA : appendD D (nameB n) s = (readyE D (nameB n), D) := by unfold appendD; rw [if_pos he]
  unfold writeD
  rw [hA]
  dsimp only
  rw [if_pos he]
  exact ⟨he, rfl⟩
 unfold layL
 split
 ·rfl
 split
 ·rfl
 ·obtain ⟨h1, h2⟩ := hw (L.number + 1) (baseB b)
  rw [if_pos h1, h2]
/-- What is found at last is something. -/
def Sound (D : Dk) (L : Lg) : Prop := (∃ b g, Live D L b g) ∨ (D.off = true ∧ LB L ∧ Aft D (fun _ _ => True))
theorem Sound.lb {D : Dk} {L : Lg} (hok : DkOk D) (h : Sound D L) : LB L := by
 rcases h with ⟨b, g, h⟩ | ⟨_, h, _⟩
 ·exact live_lb hok h
 ·exact h
theorem Sound.aft {D : Dk} {L : Lg} (h : Sound D L) : Aft D (fun _ _ => True) := by
 rcases h with ⟨b, g, h⟩ | ⟨_, _, h⟩
 ·exact fun ks => (live_aft h ks).mono (fun _ _ _ => trivial)
 ·exact h
theorem Sound.app {D : Dk} {L : Lg} (hok : DkOk D) (h : Sound D L) (rs : List (List UInt8)) : Sound (appendL L D rs).2.2 (appendL L D rs).2.1 := by
 have hb := h.lb hok
 rcases h with ⟨b, g, h⟩ | ⟨h1, h2, h3⟩
 ·rcases append_step h (by have := hb.2.1; omega) rs with ⟨_, h⟩ | ⟨_, h1, h2, h3⟩ | ⟨_, _, h1⟩
  ·exact .inl ⟨_, _, h⟩
  ·exact .inr ⟨h1, by rw [h2]; exact hb, fun ks => (h3 ks).mono (fun _ _ _ => trivial)⟩
  ·rw [h1]; exact .inl ⟨_, _, h⟩
 ·rw [append_off L h1 rs]; exact .inr ⟨h1, h2, h3⟩
theorem baseB_len (b : List UInt8) (h : b.length ≤ 524288) : (baseB b).length ≤ 600000 := by
 obtain ⟨h1, h2⟩ := head_len b h
 have := seal_one_len (numsB [1] ++ textB [b]) (by rw [List.length_append]; omega)
 unfold baseB
 rw [List.length_append] at this
 omega
theorem Sound.lay {D : Dk} {L : Lg} (hok : DkOk D) (h : Sound D L) (t : List UInt8) : Sound (layL L D t).2.2 (layL L D t).2.1 := by
 have hb := h.lb hok
 rcases h with ⟨b, g, h⟩ | ⟨h1, h2, h3⟩
 ·rcases lay_step h t with ⟨_, h⟩ | ⟨_, h1, h2, h3⟩ | ⟨_, _, h1⟩
  ·exact .inl ⟨_, _, h⟩
  ·refine .inr ⟨h1, ?_, fun ks => (h3 ks).mono (fun _ _ _ => trivial)⟩
   rcases h2 with h2 | ⟨h2, h4, h5⟩
   ·rw [h2]; exact hb
   ·rw [h2]; have := baseB_len t h5; exact ⟨by dsimp only; omega, by dsimp only; omega, by dsimp only; omega⟩
  ·rw [h1]; exact .inl ⟨_, _, h⟩
 ·rw [lay_off L h1 t]; exact .inr ⟨h1, h2, h3⟩
theorem live_fuse {D : Dk} {L : Lg} {b : List UInt8} {g : List (List UInt8)} (h : Live D L b g) (n : Int) : Live (fuseD D n) L b g := by
 obtain ⟨ho, h⟩ := h
 refine ⟨ho, ?_⟩
 rcases h with h | ⟨s, C, h⟩
 ·exact .inl h
 ·exact .inr ⟨s, C, ⟨h.fs, h.lk, h.kd, h.ba, h.li, h.go, h.to⟩⟩
theorem Sound.fuse {D : Dk} {L : Lg} (h : Sound D L) (n : Int) : Sound (fuseD D n) L := by
 rcases h with ⟨b, g, h⟩ | ⟨h1, h2, h3⟩
 ·exact .inl ⟨b, g, live_fuse h n⟩
 ·exact .inr ⟨h1, h2, h3⟩
theorem live_empty : Live emptyD L0 [] [] := ⟨rfl, .inl ⟨rfl, rfl, rfl, rfl⟩⟩
theorem live_crash {D : Dk} {L : Lg} {b : List UInt8} {g : List (List UInt8)} (h : Live D L b g) (hf : D.fuse = -1) (ks : List Int) : crashD D ks = D := by
 obtain ⟨s, p, h1, _, _⟩ := live_re h
 unfold crashD
 rw [crash_all h1.st]
 obtain ⟨ho, _⟩ := h
 cases D
 dsimp only at hf ho
 rw [hf, ho]
/-! as many steps and files as there may be -/
theorem remD_phi : ∀ (k : Nat) (D : Dk) (n : Nat), phi (remD D n k).2 ≤ phi D
 | 0, D, n => Nat.le_refl _
 | k + 1, D, n => by
  have h1 := removeD_phi D (nameB n)
  rw [remD]
  split
  ·exact h1
  ·exact Nat.le_trans (remD_phi k _ _) h1
theorem appendL_phi (L : Lg) (D : Dk) (rs : List (List UInt8)) : phi (appendL L D rs).2.2 ≤ phi D + 4 := by
 unfold appendL
 split
 ·exact Nat.le_add_right _ _
 split
 ·exact Nat.le_add_right _ _
 split
 ·exact Nat.le_add_right _ _
 split
 ·exact Nat.le_add_right _ _
 ·rename_i h n g t hp
  have := writeD_phi D (nameB n) (fullB h (sealB rs))
  split <;> exact this
theorem layL_phi (L : Lg) (D : Dk) (b : List UInt8) : phi (layL L D b).2.2 ≤ phi D + 4 := by
 unfold layL
 split
 ·exact Nat.le_add_right _ _
 split
 ·exact Nat.le_add_right _ _
 ·have h1 := writeD_phi D (nameB (L.number + 1)) (baseB b)
  split
  ·exact h1
  ·exact Nat.le_trans (remD_phi _ _ _) h1
theorem cleanL_phi (a b : Nat) : ∀ (N : List (List UInt8)) (D : Dk), phi (cleanL a b N D).2 ≤ phi D
 | [], D => Nat.le_refl _
 | x :: N, D => by
  have h1 := removeD_phi D x
  rw [cleanL]
  split
  ·split
   ·exact h1
   ·exact Nat.le_trans (cleanL_phi a b N _) h1
  ·exact cleanL_phi a b N D
theorem openL_phi (D : Dk) : phi (openL D).2.2 ≤ phi D := by
 unfold openL
 split
 ·exact Nat.le_refl _
 split
 ·exact cleanL_phi _ _ _ _
 ·exact cleanL_phi _ _ _ _
theorem crashL_len : ∀ (F : List (List UInt8 × Fi)) (ks : List Int), (crashL F ks).length ≤ F.length
 | [], ks => Nat.le_refl _
 | (n, x) :: F, ks => by
  have h1 := crashL_len F ks
  have h2 := crashL_len F ks.tail
  rw [crashL]
  split
  ·split
   ·simp only [List.length_cons]; omega
   ·simp only [List.length_cons]; omega
  ·split
   ·simp only [List.length_cons]; omega
   ·simp only [List.length_cons]; omega
theorem crashD_phi (D : Dk) (ks : List Int) : phi (crashD D ks) ≤ phi D := by
 have := crashL_len D.files ks
 unfold phi crashD
 dsimp only; omega
theorem fuseD_phi (D : Dk) (n : Int) : phi (fuseD D n) = phi D := rfl
end Go.Proofs.YtcmdmhmgffjknaaGreatDoor
/- The document's drive: function 49 (Append). -/
namespace Go.Proofs.YtcmdmhmgffjknaaGreatDoor
open Go.Sx
set_option linter.unusedVariables false

theorem rf_one (t : List UInt8 × Fi) : (rf t).all (·.oneCell') = true := rfl
theorem cells_set {α : Type} {f : α → List Value} {m : Nat} (hf : ∀ x, (f x).length = m) {j : Nat} {v : Value} (hj : j < m) : ∀ (L : List α) (i : Nat) (a a' : α), L[i]? = some a → (f a).set j v = f a' → (cells f L).set (i * m + j) v = cells f (L.set i a')
 | [], i, a, a', h, _ => by simp at h
 | y :: L, 0, a, a', h, e => by
  simp at h; subst h
  rw [cells_cons, List.set_cons_zero, cells_cons, Nat.zero_mul, Nat.zero_add, List.set_append_left _ _ (by rw [hf]; exact hj), e]
 | y :: L, i + 1, a, a', h, e => by
  have ih := cells_set hf hj L i a a' (by simpa using h) e
  rw [cells_cons, List.set_cons_succ, cells_cons, List.set_append_right _ _ (by rw [hf, Nat.add_mul]; omega), hf, ← ih]
  congr 2
  rw [Nat.add_mul]; omega
theorem AtP.x0 {D : Dk} {n : List UInt8} {i : Nat} {q : Bool} (h : AtP D.files n i q) (hok : DkOk D) : ∃ x0, (getF D.files n).getD ⟨[], 0, false⟩ = x0 ∧ (q = true → D.files[i]? = some (n, x0)) ∧ (q = false → x0 = ⟨[], 0, false⟩ ∧ x0.bytes.length = 0) ∧ x0.sure ≤ x0.bytes.length ∧ x0.bytes.length ≤ 1048576 := by
 cases q with
 | true =>
  obtain ⟨x, h1, h2, _⟩ := h.found hok.srt
  have := hok.fi _ (List.mem_of_getElem? h1)
  exact ⟨x, by rw [h2]; rfl, fun _ => h1, (fun h => by cases h), this.1, this.2.1⟩
 | false =>
  exact ⟨⟨[], 0, false⟩, by rw [(h.gone hok.srt).1]; rfl, (fun h => by cases h), fun _ => ⟨rfl, rfl⟩, Nat.le_refl _, Nat.zero_le _⟩
theorem app_is {D : Dk} {n : List UInt8} {x0 : Fi} (hfi : fineB n = true) (hoff : D.off = false) (hx : (getF D.files n).getD ⟨[], 0, false⟩ = x0) (s : List UInt8) : appendD D n s = if 1048576 < s.length + x0.bytes.length then (52, D) else if D.fuse = 0 then (50, offD D) else (0, { stepD D with files := setF D.files n ⟨x0.bytes ++ s, x0.sure, x0.old⟩ }) := by
 have he : readyE D n = 0 := by unfold readyE; rw [if_neg (by rw [hfi]; decide), if_neg (by rw [hoff]; decide)]
 unfold appendD
 rw [if_neg (by rw [he]; decide)]
 dsimp only
 rw [hx]
 rfl
theorem set_at {L : List (List UInt8 × Fi)} (hs : L.Pairwise (fun a b => a.1 < b.1)) {n : List UInt8} {i : Nat} {x : Fi} (h : L[i]? = some (n, x)) (y : Fi) : L.set i (n, y) = setF L n y := by
 obtain ⟨h1, h2⟩ := List.getElem?_eq_some_iff.1 h
 have e : L = L.take i ++ (n, x) :: L.drop (i + 1) := by rw [← h2, ← List.drop_eq_getElem_cons h1, List.take_append_drop]
 rw [List.set_eq_take_append_cons_drop, if_pos h1]
 conv => rhs; rw [e]
 rw [setF_at (by rw [← e]; exact hs)]
theorem app_old {L : List (List UInt8 × Fi)} (hs : L.Pairwise (fun a b => a.1 < b.1)) {n : List UInt8} {i : Nat} {q : Bool} {x : Fi} (hat : AtP L n i q) (h : L[i]? = some (n, x)) (y : Fi) : L.set i (n, y) = setF L n y := set_at hs h y
theorem app_new {L : List (List UInt8 × Fi)} (hs : L.Pairwise (fun a b => a.1 < b.1)) {n : List UInt8} {i : Nat} {q : Bool} {x0 : Fi} (hat : AtP L n i q) (hq : x0 = ⟨[], 0, false⟩ ∧ q = false) (s : List UInt8) :
  (L.take i ++ [(n, (⟨[], 0, false⟩ : Fi))] ++ L.drop i)[i]? = some (n, x0) ∧ (L.take i ++ [(n, (⟨[], 0, false⟩ : Fi))] ++ L.drop i).set i (n, ⟨x0.bytes ++ s, x0.sure, x0.old⟩) = setF L n ⟨x0.bytes ++ s, x0.sure, x0.old⟩ := by
 obtain ⟨rfl, rfl⟩ := hq
 have hle := hat.le
 have htl : (L.take i).length = i := by rw [List.length_take]; omega
 refine ⟨by rw [List.append_assoc, List.getElem?_append_right (by omega), htl, Nat.sub_self]; rfl, ?_⟩
 rw [(hat.gone hs).2, List.append_assoc, List.set_append_right _ _ (by omega), htl, Nat.sub_self]
 rfl
theorem app_cell {n s : List UInt8} {x : Fi} (h : x.sure ≤ x.bytes.length) : (rf (n, x)).set 2 (str (x.bytes.drop x.sure ++ s)) = rf (n, ⟨x.bytes ++ s, x.sure, x.old⟩) := by
 show [str n, str (x.bytes.take x.sure), str (x.bytes.drop x.sure ++ s), .bool x.old] = [str n, str ((x.bytes ++ s).take x.sure), str ((x.bytes ++ s).drop x.sure), .bool x.old]
 rw [List.take_append_of_le_length h, List.drop_append_of_le_length h]
theorem rappend_th : ∃ fn c, Tryz.prog.funcs[49]? = some fn ∧ (fn.name == "runtime.NumGoroutine") = false ∧ fn.body = some c := ⟨_, _, Tryz.func49, by kernel_rfl, rfl⟩
theorem rappend_tr {W0 : World} (b : Nat) (D : Dk) (n s : List UInt8) (Fr : List HP) (hok : DkOk D) (hl : D.files.length ≤ 1000000000) (hst : D.steps ≤ 1000000000) (hnl : n.length ≤ maxS) (hsl0 : s.length ≤ maxS) : Tr W0 Tryz.prog 49 [.pointer (some ⟨b, 0, none⟩), str n, str s] (rdk b D :: Fr) (fun v Rs' => v = .int .i64 (appendD D n s).1 ∧ Rs' = rdk b (appendD D n s).2 :: Fr) := by
 have hmax : maxS = 140737488355328 := rfl
 refine rdk_tr rappend_th fun A c K h1 h2 => ?_
 refine Entry.tr (N := 95) (rs := [.tmp 6]) ⟨_, Tryz.func49, rfl, by kernel_rfl, rfl, rfl⟩ rfl ?_
 refine XC.seq fun K1 hK1 => ?_
 refine XC.region ?_
 refine x_v (r_as rfl) rfl ?_
 refine XL.nil ?_
 refine hK1 _ _ ?_
 refine XC.keep [(0, _), (1, _), (2, _)] ⟨rfl, rfl, rfl, trivial⟩ ?_
 refine XC.seq fun K2 hK2 => ?_
 refine XC.seq fun K3 hK3 => ?_
 refine XC.region ?_
 refine x_v (r_mv rfl) rfl ?_
 refine x_c (r_call0 (args := [_]) ⟨rfl, rfl⟩ (named_tr n _ hnl) gS) rfl ?_
 rintro _ _ ⟨rfl, hRs⟩
 rw [hRs]
 unfold rcl
 refine x_v (r_not rfl) rfl ?_
 refine XL.nil ?_
 refine hK3 _ _ ?_
 refine XC.keep [(0, _), (1, _), (2, _), (12, _)] ⟨rfl, rfl, rfl, rfl, trivial⟩ ?_
 refine XC.cond rfl (fun hc1 => ?_) (fun hc1 => ?_)
 ·refine XC.seq fun K4 hK4 => ?_
  refine XC.region ?_
  refine x_v (r_as rfl) rfl ?_
  refine XL.nil ?_
  refine hK4 _ _ ?_
  refine XC.keep [(6, _)] ⟨rfl, trivial⟩ ?_
  refine XC.ret ?_
  have hfi : fineB n = false := by simpa using hc1
  have he : readyE D n = 1 := by unfold readyE; rw [if_pos hfi]
  have hA : appendD D n s = (1, D) := by unfold appendD; rw [he]; rfl
  rw [hA]
  exact fin1 rfl (⟨A, c, K, D, Fr, ⟨h1, h2⟩, rfl, rfl, rfl⟩) gS
 ·refine XC.skip ?_
  refine hK2 _ _ ?_
  refine XC.keep [(0, _), (1, _), (2, _)] ⟨rfl, rfl, rfl, trivial⟩ ?_
  refine XC.seq fun K5 hK5 => ?_
  refine XC.seq fun K6 hK6 => ?_
  refine XC.region ?_
  refine x_v (r_mv rfl) rfl ?_
  refine x_v (r_nc rfl) rfl ?_
  refine x_v (r_fa fo87_2 rfl) rfl ?_
  refine x_v (r_ld ty4 rfl pK (by rfl)) rfl ?_
  refine XL.nil ?_
  refine hK6 _ _ ?_
  refine XC.keep [(0, _), (1, _), (2, _), (16, _)] ⟨rfl, rfl, rfl, rfl, trivial⟩ ?_
  refine XC.cond rfl (fun hc2 => ?_) (fun hc2 => ?_)
  ·refine XC.seq fun K7 hK7 => ?_
   refine XC.region ?_
   refine x_v (r_as rfl) rfl ?_
   refine XL.nil ?_
   refine hK7 _ _ ?_
   refine XC.keep [(6, _)] ⟨rfl, trivial⟩ ?_
   refine XC.ret ?_
   have hfi : fineB n = true := by simpa using hc1
   have he : readyE D n = 50 := by unfold readyE; rw [if_neg (by rw [hfi]; decide), if_pos hc2]
   have hA : appendD D n s = (50, D) := by unfold appendD; rw [he]; rfl
   rw [hA]
   exact fin1 rfl (⟨A, c, K, D, Fr, ⟨h1, h2⟩, rfl, rfl, rfl⟩) gS
  ·refine XC.skip ?_
   refine hK5 _ _ ?_
   refine XC.keep [(0, _), (1, _), (2, _)] ⟨rfl, rfl, rfl, trivial⟩ ?_
   refine XC.seq fun K8 hK8 => ?_
   have hfi : fineB n = true := by simpa using hc1
   have hoff : D.off = false := by simpa using hc2
   refine XC.region ?_
   refine x_v (r_mv rfl) rfl ?_
   refine x_v (r_mv rfl) rfl ?_
   refine x_c (r_call0 (args := [_, _]) ⟨rfl, rfl, rfl⟩ (at_tr b D A c K n Fr hl) gS) rfl ?_
   rintro _ _ ⟨i, q, rfl, hat, hRs⟩
   rw [hRs]
   unfold rcl
   obtain ⟨x0, hx0, hx1, hx2, hx3⟩ := hat.x0 hok
   have hA := app_is hfi hoff hx0 s
   have htd : (x0.bytes.take x0.sure).length + (x0.bytes.drop x0.sure).length = x0.bytes.length := by rw [← List.length_append, List.take_append_drop]
   refine XL.slnn (pK : Pick _ (sl A D.files.length K 129 4 (cells rf D.files)) _) fun hsl hsA => ?_
   have hrd : Rdb W0 [sl A D.files.length K 129 4 (cells rf D.files)] A D.files.length 4 (cells rf D.files) := Rdb.of_sl (.head _ _) hsl hsA
   refine x_v (r_mv rfl) rfl ?_
   refine x_v (r_ex rfl rfl) rfl ?_
   refine x_v (r_ex rfl rfl) rfl ?_
   refine x_v (r_as rfl) rfl ?_
   refine x_v (r_as rfl) rfl ?_
   refine XL.nil ?_
   refine hK8 _ _ ?_
   refine XC.keep [(0, _), (1, _), (2, _), (7, _), (8, _)] ⟨rfl, rfl, rfl, rfl, rfl, trivial⟩ ?_
   refine XC.seqcut (σ := Unit) (fun q2 => [(0, .pointer (some ⟨b, 0, none⟩)), (1, str n), (2, str s), (7, .int .i64 (i : Int)), (8, .bool q)]) (fun q2 => blk b 87 [.slice A D.files.length c, .int .i64 D.fuse, .bool D.off, .int .i64 (D.steps : Int)] :: sl A D.files.length K 129 4 (cells rf D.files) :: Fr) (fun q2 => ¬ 1048576 < s.length + x0.bytes.length) ?_ ?_
   ·refine XC.seq fun K10 hK10 => ?_
    refine XC.draw (blk b 87 [.slice A D.files.length c, .int .i64 D.fuse, .bool D.off, .int .i64 (D.steps : Int)] :: sl A D.files.length K 129 4 (cells rf D.files) :: []) false [(0, false), (1, false), (2, false), (3, false), (4, false), (5, false), (6, false), (7, false), (8, false), (9, false), (10, false), (11, false), (12, false), (13, false), (14, false), (15, false), (16, false), (17, false), (18, false), (19, false), (20, false), (21, false), (22, false), (23, false), (24, false), (25, false), (26, false), (27, false), (28, false), (29, false), (30, false)] (by kernel_rfl) (by kernel_rfl) ?_
    refine y_v rfl (r_mv rfl) gT rfl ?_
    refine y_v rfl (r_mv rfl) gT rfl ?_
    refine XH.split 24 rfl (fun hg24 => ?_) (fun hg24 => ?_)
    ·refine y_vg rfl rfl rfl (r_mv rfl) gT rfl ?_
     refine y_vg rfl rfl rfl (r_lens Tryz.underlying9 rfl) gT rfl ?_
     refine y_vg rfl rfl rfl (r_mv rfl) gT rfl ?_
     refine y_vg rfl rfl rfl (r_nc rfl) gT rfl ?_
     refine y_vg rfl rfl rfl (r_fa fo87_0 rfl) gT rfl ?_
     refine y_vg rfl rfl rfl (r_ld ty85 rfl pK (by rfl)) gT rfl ?_
     refine y_vg rfl rfl rfl (r_mv rfl) gT rfl ?_
     have hx := hx1 hg24
     have hil := (List.getElem?_eq_some_iff.1 hx).1
     obtain ⟨sb, so, hpA, hatr⟩ := hrd.at_ (by omega)
     refine y_vg rfl rfl rfl (r_ia (k := i) Tryz.underlying85 ty129 (by rw [hpA]; rfl) rfl (by omega) (by omega)) gT rfl ?_
     refine y_vg rfl rfl rfl (r_fa fo129_1 rfl) gT rfl ?_
     refine y_vg rfl rfl rfl (r_ldr (v := str (x0.bytes.take x0.sure)) ty9 rfl (fun w hw => hatr w (Gets.own gS hw) _ _ (cells_get rf_len D.files _ _ hx 1 _ rfl))) gT rfl ?_
     refine y_vg rfl rfl rfl (r_lens Tryz.underlying9 rfl) gT rfl ?_
     refine y_vg rfl rfl rfl (r_sub rfl rfl (by omega)) gT rfl ?_
     refine y_vg rfl rfl rfl (r_mv rfl) gT rfl ?_
     refine y_vg rfl rfl rfl (r_nc rfl) gT rfl ?_
     refine y_vg rfl rfl rfl (r_fa fo87_0 rfl) gT rfl ?_
     refine y_vg rfl rfl rfl (r_ld ty85 rfl pK (by rfl)) gT rfl ?_
     refine y_vg rfl rfl rfl (r_mv rfl) gT rfl ?_
     refine y_vg rfl rfl rfl (r_ia (k := i) Tryz.underlying85 ty129 (by rw [hpA]; rfl) rfl (by omega) (by omega)) gT rfl ?_
     refine y_vg rfl rfl rfl (r_fa fo129_2 rfl) gT rfl ?_
     refine y_vg rfl rfl rfl (r_ldr (v := str (x0.bytes.drop x0.sure)) ty9 rfl (fun w hw => hatr w (Gets.own gS hw) _ _ (cells_get rf_len D.files _ _ hx 2 _ rfl))) gT rfl ?_
     refine y_vg rfl rfl rfl (r_lens Tryz.underlying9 rfl) gT rfl ?_
     refine y_vg rfl rfl rfl (r_sub rfl rfl (by omega)) gT rfl ?_
     refine y_vg rfl rfl rfl (r_gt rfl rfl) gT rfl ?_
     refine y_v rfl (r_pk_t rfl rfl) gT rfl ?_
     refine y_v rfl (r_mv rfl) gT rfl ?_
     refine XH.splitd 49 rfl (fun hg49 => ?_) (fun hg49 => ?_)
     ·refine y_un rfl rfl rfl (fun _ h => Gets.own gS h) rfl ?_
      refine y_un rfl rfl rfl (fun _ h => Gets.own gS h) rfl ?_
      refine y_un rfl rfl rfl (fun _ h => Gets.own gS h) rfl ?_
      refine y_v rfl (r_pk_t rfl rfl) gT rfl ?_
      refine XH.nil ?_
      refine hK10 _ _ ?_
      refine XC.keep [(0, _), (1, _), (2, _), (7, _), (8, _), (53, _)] ⟨rfl, rfl, rfl, rfl, rfl, rfl, trivial⟩ ?_
      refine XC.cond_t rfl ?_
      refine XC.seq fun K11 hK11 => ?_
      refine XC.region ?_
      refine x_v (r_as rfl) rfl ?_
      refine XL.nil ?_
      refine hK11 _ _ ?_
      refine XC.keep [(6, _)] ⟨rfl, trivial⟩ ?_
      refine XC.ret ?_
      rw [hA, if_pos (by first | omega | (have := hx2 (by simpa using hg24); omega))]
      exact fin1 rfl (⟨A, c, K, D, Fr, ⟨h1, h2⟩, rfl, rfl, rfl⟩) gS
     ·refine y_vg rfl rfl rfl (r_mv rfl) gT rfl ?_
      refine y_vg rfl rfl rfl (r_lens Tryz.underlying9 rfl) gT rfl ?_
      refine y_vg rfl rfl rfl (r_gt rfl rfl) gT rfl ?_
      refine y_v rfl (r_pk_f rfl rfl) gT rfl ?_
      refine XH.nil ?_
      refine hK10 _ _ ?_
      refine XC.keep [(0, _), (1, _), (2, _), (7, _), (8, _), (53, _)] ⟨rfl, rfl, rfl, rfl, rfl, rfl, trivial⟩ ?_
      refine XC.cond_d rfl (fun hc4 => ?_) (fun hc4 => ?_)
      ·refine XC.seq fun K12 hK12 => ?_
       refine XC.region ?_
       refine x_v (r_as rfl) rfl ?_
       refine XL.nil ?_
       refine hK12 _ _ ?_
       refine XC.keep [(6, _)] ⟨rfl, trivial⟩ ?_
       refine XC.ret ?_
       rw [hA, if_pos (by first | omega | (have := hx2 (by simpa using hg24); omega))]
       exact fin1 rfl (⟨A, c, K, D, Fr, ⟨h1, h2⟩, rfl, rfl, rfl⟩) gS
      ·refine XC.skip ?_
       exact ⟨(), (by first | omega | (have := hx2 (by simpa using hg24); omega)), ⟨rfl, rfl, rfl, rfl, rfl, trivial⟩, gS⟩
    ·refine y_un rfl rfl rfl (fun _ h => Gets.own gS h) rfl ?_
     refine y_un rfl rfl rfl (fun _ h => Gets.own gS h) rfl ?_
     refine y_un rfl rfl rfl (fun _ h => Gets.own gS h) rfl ?_
     refine y_un rfl rfl rfl (fun _ h => Gets.own gS h) rfl ?_
     refine y_un rfl rfl rfl (fun _ h => Gets.own gS h) rfl ?_
     refine y_un rfl rfl rfl (fun _ h => Gets.own gS h) rfl ?_
     refine y_un rfl rfl rfl (fun _ h => Gets.own gS h) rfl ?_
     refine y_un rfl rfl rfl (fun _ h => Gets.own gS h) rfl ?_
     refine y_un rfl rfl rfl (fun _ h => Gets.own gS h) rfl ?_
     refine y_un rfl rfl rfl (fun _ h => Gets.own gS h) rfl ?_
     refine y_un rfl rfl rfl (fun _ h => Gets.own gS h) rfl ?_
     refine y_un rfl rfl rfl (fun _ h => Gets.own gS h) rfl ?_
     refine y_un rfl rfl rfl (fun _ h => Gets.own gS h) rfl ?_
     refine y_un rfl rfl rfl (fun _ h => Gets.own gS h) rfl ?_
     refine y_un rfl rfl rfl (fun _ h => Gets.own gS h) rfl ?_
     refine y_un rfl rfl rfl (fun _ h => Gets.own gS h) rfl ?_
     refine y_un rfl rfl rfl (fun _ h => Gets.own gS h) rfl ?_
     refine y_un rfl rfl rfl (fun _ h => Gets.own gS h) rfl ?_
     refine y_un rfl rfl rfl (fun _ h => Gets.own gS h) rfl ?_
     refine y_un rfl rfl rfl (fun _ h => Gets.own gS h) rfl ?_
     refine y_un rfl rfl rfl (fun _ h => Gets.own gS h) rfl ?_
     refine y_un rfl rfl rfl (fun _ h => Gets.own gS h) rfl ?_
     refine y_un rfl rfl rfl (fun _ h => Gets.own gS h) rfl ?_
     refine y_v rfl (r_pk_f rfl rfl) gT rfl ?_
     refine y_v rfl (r_mv rfl) gT rfl ?_
     refine y_vg rfl rfl rfl (r_mv rfl) gT rfl ?_
     refine y_vg rfl rfl rfl (r_lens Tryz.underlying9 rfl) gT rfl ?_
     refine y_vg rfl rfl rfl (r_gt rfl rfl) gT rfl ?_
     refine y_v rfl (r_pk_f rfl rfl) gT rfl ?_
     refine XH.nil ?_
     refine hK10 _ _ ?_
     refine XC.keep [(0, _), (1, _), (2, _), (7, _), (8, _), (53, _)] ⟨rfl, rfl, rfl, rfl, rfl, rfl, trivial⟩ ?_
     refine XC.cond_d rfl (fun hc5 => ?_) (fun hc5 => ?_)
     ·refine XC.seq fun K13 hK13 => ?_
      refine XC.region ?_
      refine x_v (r_as rfl) rfl ?_
      refine XL.nil ?_
      refine hK13 _ _ ?_
      refine XC.keep [(6, _)] ⟨rfl, trivial⟩ ?_
      refine XC.ret ?_
      rw [hA, if_pos (by first | omega | (have := hx2 (by simpa using hg24); omega))]
      exact fin1 rfl (⟨A, c, K, D, Fr, ⟨h1, h2⟩, rfl, rfl, rfl⟩) gS
     ·refine XC.skip ?_
      exact ⟨(), (by first | omega | (have := hx2 (by simpa using hg24); omega)), ⟨rfl, rfl, rfl, rfl, rfl, trivial⟩, gS⟩
   ·rintro ⟨⟩ hfit
    refine XC.seq fun K14 hK14 => ?_
    refine XC.seq fun K15 hK15 => ?_
    refine XC.region ?_
    refine x_v (r_mv rfl) rfl ?_
    refine x_c (r_call0 (args := [_]) ⟨rfl, rfl⟩ (rstep_tr b D A D.files.length c (sl A D.files.length K 129 4 (cells rf D.files) :: Fr) hok.fuse hst) gS) rfl ?_
    rintro _ _ ⟨hv55, hRs⟩
    rw [hRs]
    subst hv55
    rcases Decidable.em (D.fuse = 0) with hf0 | hf0
    ·rw [if_pos hf0, decide_eq_false (fun h => h hf0)]
     unfold rcl
     refine x_v (r_not rfl) rfl ?_
     refine XL.nil ?_
     refine hK15 _ _ ?_
     refine XC.keep [(0, _), (1, _), (2, _), (7, _), (8, _), (56, _)] ⟨rfl, rfl, rfl, rfl, rfl, rfl, trivial⟩ ?_
     refine XC.cond_t rfl ?_
     refine XC.seq fun K16 hK16 => ?_
     refine XC.region ?_
     refine x_v (r_as rfl) rfl ?_
     refine XL.nil ?_
     refine hK16 _ _ ?_
     refine XC.keep [(6, _)] ⟨rfl, trivial⟩ ?_
     refine XC.ret ?_
     rw [hA, if_neg hfit, if_pos hf0]
     exact fin1 rfl (⟨A, c, K, offD D, Fr, ⟨h1, h2⟩, rfl, rfl, rfl⟩) gS
    ·rw [if_neg hf0, decide_eq_true hf0]
     unfold rcl stepD
     dsimp only
     refine x_v (r_not rfl) rfl ?_
     refine XL.nil ?_
     refine hK15 _ _ ?_
     refine XC.keep [(0, _), (1, _), (2, _), (7, _), (8, _), (56, _)] ⟨rfl, rfl, rfl, rfl, rfl, rfl, trivial⟩ ?_
     refine XC.cond_f rfl ?_
     refine XC.skip ?_
     refine hK14 _ _ ?_
     refine XC.keep [(0, _), (1, _), (2, _), (7, _), (8, _)] ⟨rfl, rfl, rfl, rfl, rfl, trivial⟩ ?_
     refine XC.seqcut (σ := Option Addr × Nat × Nat × List (List UInt8 × Fi)) (fun q2 => [(0, .pointer (some ⟨b, 0, none⟩)), (2, str s), (7, .int .i64 (i : Int))]) (fun q2 => blk b 87 [.slice q2.1 q2.2.2.2.length q2.2.1, .int .i64 (max (D.fuse - 1) (-1)), .bool D.off, .int .i64 ((D.steps + 1 : Nat) : Int)] :: sl q2.1 q2.2.2.2.length q2.2.2.1 129 4 (cells rf q2.2.2.2) :: Fr) (fun q2 => (q2.2.2.2.length ≤ q2.2.1 ∧ q2.2.1 ≤ q2.2.2.1) ∧ q2.2.2.2[i]? = some (n, x0) ∧ q2.2.2.2.set i (n, ⟨x0.bytes ++ s, x0.sure, x0.old⟩) = setF D.files n ⟨x0.bytes ++ s, x0.sure, x0.old⟩ ∧ q2.2.2.2.length ≤ 1000000001) ?_ ?_
     ·refine XC.seq fun K18 hK18 => ?_
      refine XC.region ?_
      refine x_v (r_mv rfl) rfl ?_
      refine x_v (r_not rfl) rfl ?_
      refine XL.nil ?_
      refine hK18 _ _ ?_
      refine XC.keep [(0, _), (1, _), (2, _), (7, _), (58, _)] ⟨rfl, rfl, rfl, rfl, rfl, trivial⟩ ?_
      refine XC.cond rfl (fun hc8 => ?_) (fun hc8 => ?_)
      ·refine XC.seq fun K19 hK19 => ?_
       refine XC.region ?_
       refine x_a (r_bs (vs := []) rfl rfl bs85_0_) rfl fun b59 => ?_
       refine XL.shut_ (g := b59) (n := 0) (c := 0) (sz := 4) (cur := []) (xs := []) pK (Nat.le_refl _) (Nat.zero_le _) rfl rfl ?_
       refine x_v (r_mv rfl) rfl ?_
       refine x_v (r_nc rfl) rfl ?_
       refine x_v (r_fa fo87_0 rfl) rfl ?_
       refine x_v (r_ld ty85 rfl pK (by rfl)) rfl ?_
       refine x_v (r_mv rfl) rfl ?_
       refine x_v (yv (v' := .slice (if c = i then A else A.map (·.add (i * 4))) (D.files.drop i).length (c - i)) (r_sll i D.files.length Tryz.underlying85 ty129 rfl ⟨_, by rfl⟩ rfl hat.le h1) (by rw [List.length_drop])) rfl ?_
       refine x_a (r_app Tryz.underlying85 ty129 rfl (by decide) rfl rfl pK ((rd_drop rf_len hrd h1 hat.le).mono (fun w hw => Gets.own gS hw)) (cells_one' rf_one _) (by rw [List.length_drop]; unfold maxLen; omega) (by rw [List.length_drop]; omega)) rfl fun ⟨A66, c66⟩ => ?_
       simp only [Nat.zero_add, List.nil_append]
       refine XL.slnn (pK : Pick _ (sl A66 (D.files.drop i).length c66 129 4 (cells rf (D.files.drop i))) _) fun hl66 hA66 => ?_
       refine x_v (r_as rfl) rfl ?_
       refine XL.nil ?_
       refine hK19 _ _ ?_
       refine XC.keep [(0, _), (1, _), (2, _), (7, _), (9, _)] ⟨rfl, rfl, rfl, rfl, rfl, trivial⟩ ?_
       have hile := hat.le
       have hdl : (D.files.drop i).length = D.files.length - i := List.length_drop ..
       have htl : (D.files.take i).length = i := by rw [List.length_take]; omega
       refine XC.region ?_
       refine x_v (r_mv rfl) rfl ?_
       refine x_v (r_mv rfl) rfl ?_
       refine x_v (r_nc rfl) rfl ?_
       refine x_v (r_fa fo87_0 rfl) rfl ?_
       refine x_v (r_ld ty85 rfl pK (by rfl)) rfl ?_
       refine x_v (r_mv rfl) rfl ?_
       refine x_v (r_mv rfl) rfl ?_
       refine x_v (r_slf i Tryz.underlying85 ty129 rfl ⟨_, _, rfl, rfl⟩ ⟨_, _, rfl, rfl⟩ (by omega)) rfl ?_
       refine x_v (r_mv rfl) rfl ?_
       refine x_v (r_bd (vs := [_]) rfl ⟨rfl, rfl⟩ (bd129_0 _)) rfl ?_
       refine x_a (r_bs (vs := [_]) rfl ⟨rfl, rfl⟩ (bs85_1_0 _ _ _ _)) rfl fun b77 => ?_
       refine x_a (r_appf (xs := (cells rf D.files).take (i * 4)) (news := cells rf [(n, ⟨[], 0, false⟩)]) Tryz.underlying85 ty129 rfl (by decide) rfl rfl (rd_pre (hrd.mono (fun w h => Gets.own gS h)) hat.le) (Rdb.of_blk pK 0 rfl (fun _ _ h => by rw [Nat.zero_add]; exact h)) (by decide) (by unfold maxLen; omega) (by omega)) rfl fun ⟨A78, c78⟩ => ?_
       dsimp only
       rw [cells_take rf_len, ← cells_app]
       refine x_v (r_mv rfl) rfl ?_
       refine x_a (r_app Tryz.underlying85 ty129 rfl (by decide) rfl rfl pK (Rdb.of_sl pK hl66 hA66) (cells_one' rf_one _) (by unfold maxLen; omega) (by omega)) rfl fun ⟨A80, c80⟩ => ?_
       dsimp only
       rw [← cells_app]
       refine XL.sllen (pK : Pick _ (sl A80 _ c80 129 4 _) _) fun _ hc80 _ => ?_
       refine x_v (r_nc rfl) rfl ?_
       refine x_v (r_fa fo87_0 rfl) rfl ?_
       refine x_e (r_st ty85 rfl rfl rfl rfl rfl uD oV) ?_
       refine XL.nil ?_
       have hnew : (D.files.take i ++ [(n, (⟨[], 0, false⟩ : Fi))] ++ D.files.drop i).length = i + 1 + (D.files.drop i).length := by rw [List.length_append, List.length_append, htl]; rfl
       rw [← hnew]
       exact ⟨(A80, c80, c80, D.files.take i ++ [(n, (⟨[], 0, false⟩ : Fi))] ++ D.files.drop i), ⟨⟨by dsimp only; rw [hnew]; exact hc80, Nat.le_refl _⟩, (app_new hok.srt hat ⟨(hx2 (by simpa using hc8)).1, by simpa using hc8⟩ s).1, (app_new hok.srt hat ⟨(hx2 (by simpa using hc8)).1, by simpa using hc8⟩ s).2, by dsimp only; rw [hnew]; omega⟩, ⟨rfl, rfl, rfl, trivial⟩, gS⟩
      ·refine XC.skip ?_
       exact ⟨(A, c, K, D.files), ⟨⟨h1, h2⟩, hx1 (by simpa using hc8), app_old hok.srt hat (hx1 (by simpa using hc8)) _, by dsimp only; omega⟩, ⟨rfl, rfl, rfl, trivial⟩, gS⟩
     ·rintro ⟨A4, c4, K4, L4⟩ ⟨hcK, hx, hset, hl4⟩
      dsimp only at hcK hx hset hl4 ⊢
      have hil := (List.getElem?_eq_some_iff.1 hx).1
      refine XC.seq fun K20 hK20 => ?_
      refine XC.openp (pK : Pick _ (sl A4 L4.length K4 129 4 (cells rf L4)) _) (by omega) fun g cur hAg k1 k2 k3 k4 => ?_
      subst hAg
      refine XC.region ?_
      refine x_v (r_mv rfl) rfl ?_
      refine x_v (r_nc rfl) rfl ?_
      refine x_v (r_fa fo87_0 rfl) rfl ?_
      refine x_v (r_ld ty85 rfl pK (by rfl)) rfl ?_
      refine x_v (r_mv rfl) rfl ?_
      refine x_v (r_ia (k := i) Tryz.underlying85 ty129 rfl rfl (by omega) (by omega)) rfl ?_
      refine x_v (r_fa fo129_2 rfl) rfl ?_
      refine x_v (r_ld (v := str (x0.bytes.drop x0.sure)) ty9 rfl pK (elem_at rf_len k4 hx 2 _ rfl)) rfl ?_
      refine x_v (r_mv rfl) rfl ?_
      refine x_v (r_cat rfl rfl (by omega)) rfl ?_
      refine x_v (r_ia (k := i) Tryz.underlying85 ty129 rfl rfl (by omega) (by omega)) rfl ?_
      refine x_v (r_fa fo129_2 rfl) rfl ?_
      refine x_e (r_st (vs := [str (x0.bytes.drop x0.sure ++ s)]) ty9 rfl rfl rfl rfl rfl uD (Over.set (by omega) _)) ?_
      refine XL.nil ?_
      refine hK20 _ _ ?_
      refine XC.keep [] trivial ?_
      refine XC.seq fun K21 hK21 => ?_
      simp only [Nat.zero_add]
      have hcs : (cur.set (i * 4 + 2) (str (x0.bytes.drop x0.sure ++ s))).take (L4.length * 4) = cells rf (L4.set i (n, ⟨x0.bytes ++ s, x0.sure, x0.old⟩)) := by rw [List.take_set, k4]; exact cells_set rf_len (by decide) L4 i _ _ hx (app_cell hx3.1)
      refine XC.shut_ (n := L4.length) pK k1 k2 (by rw [List.length_set]; exact k3) hcs ?_
      refine XC.region ?_
      refine x_v (r_as rfl) rfl ?_
      refine XL.nil ?_
      refine hK21 _ _ ?_
      refine XC.keep [(6, _)] ⟨rfl, trivial⟩ ?_
      refine XC.ret ?_
      rw [hA, if_neg hfit, if_neg hf0]
      have hsl4 : (setF D.files n ⟨x0.bytes ++ s, x0.sure, x0.old⟩).length = L4.length := by rw [← hset, List.length_set]
      rw [hset, ← hsl4] 
      exact fin1 rfl (⟨_, c4, K4, { stepD D with files := setF D.files n ⟨x0.bytes ++ s, x0.sure, x0.old⟩ }, Fr, ⟨by dsimp only; rw [hsl4]; exact hcK.1, hcK.2⟩, rfl, rfl, rfl⟩) gS
end Go.Proofs.YtcmdmhmgffjknaaGreatDoor
/- The document's drive: functions 50 (Sync), 77 (Remove), 51 (Names). -/
namespace Go.Proofs.YtcmdmhmgffjknaaGreatDoor
open Go.Sx
set_option linter.unusedVariables false

theorem knw_1 {D : Dk} {n : List UInt8} {k : Fi → Dk → Dk} (h : fineB n = false) : knownD D n k = (1, D) := by
 have he : readyE D n = 1 := by unfold readyE; rw [if_pos h]
 unfold knownD; rw [he]; rfl
theorem knw_50 {D : Dk} {n : List UInt8} {k : Fi → Dk → Dk} (h : fineB n = true) (ho : D.off = true) : knownD D n k = (50, D) := by
 have he : readyE D n = 50 := by unfold readyE; rw [if_neg (by rw [h]; decide), if_pos ho]
 unfold knownD; rw [he]; rfl
theorem knw_51 {D : Dk} {n : List UInt8} {k : Fi → Dk → Dk} (h : fineB n = true) (ho : D.off = false) (hg : getF D.files n = none) : knownD D n k = (51, D) := by
 have he : readyE D n = 0 := by unfold readyE; rw [if_neg (by rw [h]; decide), if_neg (by rw [ho]; decide)]
 unfold knownD; rw [he, hg]; rfl
theorem knw_is {D : Dk} {n : List UInt8} {k : Fi → Dk → Dk} {x : Fi} (h : fineB n = true) (ho : D.off = false) (hg : getF D.files n = some x) : knownD D n k = if D.fuse = 0 then (50, offD D) else (0, k x (stepD D)) := by
 have he : readyE D n = 0 := by unfold readyE; rw [if_neg (by rw [h]; decide), if_neg (by rw [ho]; decide)]
 unfold knownD; rw [he, hg]; rfl
def f4 (q : List UInt8 × List UInt8 × List UInt8 × Bool) : List Value := [str q.1, str q.2.1, str q.2.2.1, .bool q.2.2.2]
theorem f4_len (q : List UInt8 × List UInt8 × List UInt8 × Bool) : (f4 q).length = 4 := rfl
def quad (t : List UInt8 × Fi) : List UInt8 × List UInt8 × List UInt8 × Bool := (t.1, t.2.bytes.take t.2.sure, t.2.bytes.drop t.2.sure, t.2.old)
theorem cells_quad : ∀ L : List (List UInt8 × Fi), cells rf L = cells f4 (L.map quad)
 | [] => rfl
 | t :: L => by rw [cells_cons, cells_quad L, List.map_cons, cells_cons]; rfl
theorem sync_cells {L : List (List UInt8 × Fi)} {cur : List Value} {i : Nat} {n : List UInt8} {x : Fi} (k4 : cur.take (L.length * 4) = cells rf L) (hx : L[i]? = some (n, x)) :
  (((cur.set (i * 4 + 1) (str x.bytes)).set (i * 4 + 2) (str [])).set (i * 4 + 3) (.bool true)).take (L.length * 4) = cells rf (L.set i (n, ⟨x.bytes, x.bytes.length, true⟩)) := by
 rw [List.take_set, List.take_set, List.take_set, k4, cells_quad, cells_quad, List.map_set]
 have hil := (List.getElem?_eq_some_iff.1 hx).1
 have hm : (L.map quad)[i]? = some (n, x.bytes.take x.sure, x.bytes.drop x.sure, x.old) := by rw [List.getElem?_map, hx]; rfl
 generalize hM : L.map quad = M at hm
 have hml : i < M.length := by rw [← hM, List.length_map]; exact hil
 rw [cells_set f4_len (by decide) M i _ (n, x.bytes, x.bytes.drop x.sure, x.old) hm rfl,
  cells_set f4_len (by decide) _ i (n, x.bytes, x.bytes.drop x.sure, x.old) (n, x.bytes, [], x.old) (by rw [List.getElem?_set_self hml]) rfl,
  cells_set f4_len (by decide) _ i (n, x.bytes, [], x.old) (n, x.bytes, [], true) (by rw [List.set_set, List.getElem?_set_self hml]) rfl, List.set_set, List.set_set]
 have e : quad (n, ⟨x.bytes, x.bytes.length, true⟩) = (n, x.bytes, [], true) := by unfold quad; dsimp only; rw [List.take_length, List.drop_length]
 rw [e]
theorem rsync_th : ∃ fn c, Tryz.prog.funcs[50]? = some fn ∧ (fn.name == "runtime.NumGoroutine") = false ∧ fn.body = some c := ⟨_, _, Tryz.func50, by kernel_rfl, rfl⟩
theorem rsync_tr {W0 : World} (b : Nat) (D : Dk) (n : List UInt8) (Fr : List HP) (hok : DkOk D) (hl : D.files.length ≤ 1000000000) (hst : D.steps ≤ 1000000000) (hnl : n.length ≤ maxS) : Tr W0 Tryz.prog 50 [.pointer (some ⟨b, 0, none⟩), str n] (rdk b D :: Fr) (fun v Rs' => v = .int .i64 (syncD D n).1 ∧ Rs' = rdk b (syncD D n).2 :: Fr) := by
 have hmax : maxS = 140737488355328 := rfl
 refine rdk_tr rsync_th fun A c K h1 h2 => ?_
 refine Entry.tr (N := 58) (rs := [.tmp 4]) ⟨_, Tryz.func50, rfl, by kernel_rfl, rfl, rfl⟩ rfl ?_
 refine XC.seq fun K1 hK1 => ?_
 refine XC.region ?_
 refine x_v (r_as rfl) rfl ?_
 refine XL.nil ?_
 refine hK1 _ _ ?_
 refine XC.keep [(0, _), (1, _)] ⟨rfl, rfl, trivial⟩ ?_
 refine XC.seq fun K2 hK2 => ?_
 refine XC.seq fun K3 hK3 => ?_
 refine XC.region ?_
 refine x_v (r_mv rfl) rfl ?_
 refine x_c (r_call0 (args := [_]) ⟨rfl, rfl⟩ (named_tr n _ hnl) gS) rfl ?_
 rintro _ _ ⟨rfl, hRs⟩
 rw [hRs]
 unfold rcl
 refine x_v (r_not rfl) rfl ?_
 refine XL.nil ?_
 refine hK3 _ _ ?_
 refine XC.keep [(0, _), (1, _), (9, _)] ⟨rfl, rfl, rfl, trivial⟩ ?_
 refine XC.cond rfl (fun hc1 => ?_) (fun hc1 => ?_)
 ·refine XC.seq fun K4 hK4 => ?_
  refine XC.region ?_
  refine x_v (r_as rfl) rfl ?_
  refine XL.nil ?_
  refine hK4 _ _ ?_
  refine XC.keep [(4, _)] ⟨rfl, trivial⟩ ?_
  refine XC.ret ?_
  have hfi : fineB n = false := by simpa using hc1
  rw [show syncD D n = (1, D) from knw_1 hfi]
  exact fin1 rfl (⟨A, c, K, D, Fr, ⟨h1, h2⟩, rfl, rfl, rfl⟩) gS
 ·refine XC.skip ?_
  refine hK2 _ _ ?_
  refine XC.keep [(0, _), (1, _)] ⟨rfl, rfl, trivial⟩ ?_
  refine XC.seq fun K5 hK5 => ?_
  refine XC.seq fun K6 hK6 => ?_
  refine XC.region ?_
  refine x_v (r_mv rfl) rfl ?_
  refine x_v (r_nc rfl) rfl ?_
  refine x_v (r_fa fo87_2 rfl) rfl ?_
  refine x_v (r_ld ty4 rfl pK (by rfl)) rfl ?_
  refine XL.nil ?_
  refine hK6 _ _ ?_
  refine XC.keep [(0, _), (1, _), (13, _)] ⟨rfl, rfl, rfl, trivial⟩ ?_
  refine XC.cond rfl (fun hc2 => ?_) (fun hc2 => ?_)
  ·refine XC.seq fun K7 hK7 => ?_
   refine XC.region ?_
   refine x_v (r_as rfl) rfl ?_
   refine XL.nil ?_
   refine hK7 _ _ ?_
   refine XC.keep [(4, _)] ⟨rfl, trivial⟩ ?_
   refine XC.ret ?_
   have hfi : fineB n = true := by simpa using hc1
   rw [show syncD D n = (50, D) from knw_50 hfi hc2]
   exact fin1 rfl (⟨A, c, K, D, Fr, ⟨h1, h2⟩, rfl, rfl, rfl⟩) gS
  ·refine XC.skip ?_
   refine hK5 _ _ ?_
   refine XC.keep [(0, _), (1, _)] ⟨rfl, rfl, trivial⟩ ?_
   refine XC.seq fun K8 hK8 => ?_
   have hfi : fineB n = true := by simpa using hc1
   have hoff : D.off = false := by simpa using hc2
   refine XC.region ?_
   refine x_v (r_mv rfl) rfl ?_
   refine x_v (r_mv rfl) rfl ?_
   refine x_c (r_call0 (args := [_, _]) ⟨rfl, rfl, rfl⟩ (at_tr b D A c K n Fr hl) gS) rfl ?_
   rintro _ _ ⟨i, q, rfl, hat, hRs⟩
   rw [hRs]
   unfold rcl
   refine XL.slnn (pK : Pick _ (sl A D.files.length K 129 4 (cells rf D.files)) _) fun hsl hsA => ?_
   have hrd : Rdb W0 [sl A D.files.length K 129 4 (cells rf D.files)] A D.files.length 4 (cells rf D.files) := Rdb.of_sl (.head _ _) hsl hsA
   refine x_v (r_mv rfl) rfl ?_
   refine x_v (r_ex rfl rfl) rfl ?_
   refine x_v (r_ex rfl rfl) rfl ?_
   refine x_v (r_as rfl) rfl ?_
   refine x_v (r_as rfl) rfl ?_
   refine XL.nil ?_
   refine hK8 _ _ ?_
   refine XC.keep [(0, _), (5, _), (6, _)] ⟨rfl, rfl, rfl, trivial⟩ ?_
   refine XC.seq fun K9 hK9 => ?_
   refine XC.seq fun K10 hK10 => ?_
   refine XC.region ?_
   refine x_v (r_mv rfl) rfl ?_
   refine x_v (r_not rfl) rfl ?_
   refine XL.nil ?_
   refine hK10 _ _ ?_
   refine XC.keep [(0, _), (5, _), (21, _)] ⟨rfl, rfl, rfl, trivial⟩ ?_
   refine XC.cond rfl (fun hc3 => ?_) (fun hc3 => ?_)
   ·refine XC.seq fun K11 hK11 => ?_
    refine XC.region ?_
    refine x_v (r_as rfl) rfl ?_
    refine XL.nil ?_
    refine hK11 _ _ ?_
    refine XC.keep [(4, _)] ⟨rfl, trivial⟩ ?_
    refine XC.ret ?_
    have hq : q = false := by simpa using hc3
    subst hq
    rw [show syncD D n = (51, D) from knw_51 hfi hoff (hat.gone hok.srt).1]
    exact fin1 rfl (⟨A, c, K, D, Fr, ⟨h1, h2⟩, rfl, rfl, rfl⟩) gS
   ·refine XC.skip ?_
    refine hK9 _ _ ?_
    refine XC.keep [(0, _), (5, _)] ⟨rfl, rfl, trivial⟩ ?_
    refine XC.seq fun K12 hK12 => ?_
    refine XC.seq fun K13 hK13 => ?_
    have hq : q = true := by simpa using hc3
    subst hq
    obtain ⟨x, hx, hgx, hLe⟩ := hat.found hok.srt
    have hkn := fun k => knw_is (k := k) hfi hoff hgx
    have hil := (List.getElem?_eq_some_iff.1 hx).1
    have hxok := hok.fi _ (List.mem_of_getElem? hx)
    obtain ⟨hx3, hx4, _⟩ := hxok
    dsimp only at hx3 hx4
    refine XC.region ?_
    refine x_v (r_mv rfl) rfl ?_
    refine x_c (r_call0 (args := [_]) ⟨rfl, rfl⟩ (rstep_tr b D A D.files.length c (sl A D.files.length K 129 4 (cells rf D.files) :: Fr) hok.fuse hst) gS) rfl ?_
    rintro _ _ ⟨hv55, hRs⟩
    rw [hRs]
    subst hv55
    rcases Decidable.em (D.fuse = 0) with hf0 | hf0
    ·rw [if_pos hf0, decide_eq_false (fun h => h hf0)]
     unfold rcl
     refine x_v (r_not rfl) rfl ?_
     refine XL.nil ?_
     refine hK13 _ _ ?_
     refine XC.keep [(0, _), (5, _), (24, _)] ⟨rfl, rfl, rfl, trivial⟩ ?_
     refine XC.cond_t rfl ?_
     refine XC.seq fun K14 hK14 => ?_
     refine XC.region ?_
     refine x_v (r_as rfl) rfl ?_
     refine XL.nil ?_
     refine hK14 _ _ ?_
     refine XC.keep [(4, _)] ⟨rfl, trivial⟩ ?_
     refine XC.ret ?_
     rw [show syncD D n = (50, offD D) from (hkn _).trans (if_pos hf0)]
     exact fin1 rfl (⟨A, c, K, offD D, Fr, ⟨h1, h2⟩, rfl, rfl, rfl⟩) gS
    ·rw [if_neg hf0, decide_eq_true hf0]
     unfold rcl stepD
     dsimp only
     refine x_v (r_not rfl) rfl ?_
     refine XL.nil ?_
     refine hK13 _ _ ?_
     refine XC.keep [(0, _), (5, _), (24, _)] ⟨rfl, rfl, rfl, trivial⟩ ?_
     refine XC.cond_f rfl ?_
     refine XC.skip ?_
     refine hK12 _ _ ?_
     refine XC.keep [(0, _), (5, _)] ⟨rfl, rfl, trivial⟩ ?_
     refine XC.seq fun K15 hK15 => ?_
     refine XC.openp (pK : Pick _ (sl A D.files.length K 129 4 (cells rf D.files)) _) (by omega) fun g cur hAg k1 k2 k3 k4 => ?_
     subst hAg
     refine XC.draw (blk b 87 [.slice (some ⟨g, 0, none⟩) D.files.length c, .int .i64 (max (D.fuse - 1) (-1)), .bool D.off, .int .i64 ((D.steps + 1 : Nat) : Int)] :: blk g 129 cur :: []) true [(0, false), (1, false), (2, false), (3, false), (4, false), (5, false), (6, false), (7, false), (8, false), (9, false), (10, false), (11, false), (12, false), (13, false), (14, false), (15, false), (16, false), (17, false), (18, false), (19, true)] (by kernel_rfl) (by kernel_rfl) ?_
     refine y_v rfl (r_mv rfl) gT rfl ?_
     refine y_v rfl (r_nc rfl) gT rfl ?_
     refine y_v rfl (r_fa fo87_0 rfl) gT rfl ?_
     refine y_v rfl (r_ld ty85 rfl pK (by rfl)) gT rfl ?_
     refine y_v rfl (r_mv rfl) gT rfl ?_
     refine y_v rfl (r_ia (k := i) Tryz.underlying85 ty129 rfl rfl (by omega) (by omega)) gT rfl ?_
     refine y_v rfl (r_fa fo129_1 rfl) gT rfl ?_
     refine y_v rfl (r_ld (v := str (x.bytes.take x.sure)) ty9 rfl pK (elem_at rf_len k4 hx 1 _ rfl)) gT rfl ?_
     refine y_v rfl (r_mv rfl) gT rfl ?_
     refine y_v rfl (r_nc rfl) gT rfl ?_
     refine y_v rfl (r_fa fo87_0 rfl) gT rfl ?_
     refine y_v rfl (r_ld ty85 rfl pK (by rfl)) gT rfl ?_
     refine y_v rfl (r_mv rfl) gT rfl ?_
     refine y_v rfl (r_ia (k := i) Tryz.underlying85 ty129 rfl rfl (by omega) (by omega)) gT rfl ?_
     refine y_v rfl (r_fa fo129_2 rfl) gT rfl ?_
     refine y_v rfl (r_ld (v := str (x.bytes.drop x.sure)) ty9 rfl pK (elem_at rf_len k4 hx 2 _ rfl)) gT rfl ?_
     refine y_v rfl (yv (v' := str x.bytes) (r_cat rfl rfl (by rw [List.length_take, List.length_drop]; omega)) (by rw [List.take_append_drop])) gT rfl ?_
     refine y_v rfl (r_ia (k := i) Tryz.underlying85 ty129 rfl rfl (by omega) (by omega)) gT rfl ?_
     refine y_v rfl (r_fa fo129_1 rfl) gT rfl ?_
     refine y_e rfl (r_st (vs := [str x.bytes]) ty9 rfl rfl rfl rfl rfl uD (Over.set (by omega) _)) (fun h => absurd h (by decide)) ?_
     refine XH.nil ?_
     refine hK15 _ _ ?_
     refine XC.keep [(0, _), (5, _)] ⟨rfl, rfl, trivial⟩ ?_
     refine XC.seq fun K16 hK16 => ?_
     refine XC.region ?_
     refine x_v (r_mv rfl) rfl ?_
     refine x_v (r_nc rfl) rfl ?_
     refine x_v (r_fa fo87_0 rfl) rfl ?_
     refine x_v (r_ld ty85 rfl pK (by rfl)) rfl ?_
     refine x_v (r_mv rfl) rfl ?_
     refine x_v (r_ia (k := i) Tryz.underlying85 ty129 rfl rfl (by omega) (by omega)) rfl ?_
     refine x_v (r_fa fo129_2 rfl) rfl ?_
     refine x_e (r_st (vs := [str []]) ty9 rfl rfl rfl rfl rfl uD (Over.set (by rw [List.length_set]; omega) _)) ?_
     refine XL.nil ?_
     refine hK16 _ _ ?_
     refine XC.keep [(0, _), (5, _)] ⟨rfl, rfl, trivial⟩ ?_
     refine XC.seq fun K17 hK17 => ?_
     refine XC.region ?_
     refine x_v (r_mv rfl) rfl ?_
     refine x_v (r_nc rfl) rfl ?_
     refine x_v (r_fa fo87_0 rfl) rfl ?_
     refine x_v (r_ld ty85 rfl pK (by rfl)) rfl ?_
     refine x_v (r_mv rfl) rfl ?_
     refine x_v (r_ia (k := i) Tryz.underlying85 ty129 rfl rfl (by omega) (by omega)) rfl ?_
     refine x_v (r_fa fo129_3 rfl) rfl ?_
     refine x_e (r_st (vs := [.bool true]) ty4 rfl rfl rfl rfl rfl uD (Over.set (by rw [List.length_set, List.length_set]; omega) _)) ?_
     refine XL.nil ?_
     refine hK17 _ _ ?_
     refine XC.keep [] trivial ?_
     refine XC.seq fun K18 hK18 => ?_
     simp only [Nat.zero_add]
     have hcs := sync_cells k4 hx
     refine XC.shut_ (n := D.files.length) pK k1 k2 (by rw [List.length_set, List.length_set, List.length_set]; exact k3) hcs ?_
     refine XC.region ?_
     refine x_v (r_as rfl) rfl ?_
     refine XL.nil ?_
     refine hK18 _ _ ?_
     refine XC.keep [(4, _)] ⟨rfl, trivial⟩ ?_
     refine XC.ret ?_
     have hset := set_at hok.srt hx ⟨x.bytes, x.bytes.length, true⟩
     have hsl4 : (setF D.files n ⟨x.bytes, x.bytes.length, true⟩).length = D.files.length := by rw [← hset, List.length_set]
     rw [show syncD D n = _ from (hkn _).trans (if_neg hf0), hset, ← hsl4]
     exact fin1 rfl (⟨_, c, K, { stepD D with files := setF D.files n ⟨x.bytes, x.bytes.length, true⟩ }, Fr, ⟨by dsimp only; rw [hsl4]; exact h1, h2⟩, rfl, rfl, rfl⟩) gS
theorem rremove_th : ∃ fn c, Tryz.prog.funcs[77]? = some fn ∧ (fn.name == "runtime.NumGoroutine") = false ∧ fn.body = some c := ⟨_, _, Tryz.func77, by kernel_rfl, rfl⟩
theorem rremove_tr {W0 : World} (b : Nat) (D : Dk) (n : List UInt8) (Fr : List HP) (hok : DkOk D) (hl : D.files.length ≤ 1000000000) (hst : D.steps ≤ 1000000000) (hnl : n.length ≤ maxS) : Tr W0 Tryz.prog 77 [.pointer (some ⟨b, 0, none⟩), str n] (rdk b D :: Fr) (fun v Rs' => v = .int .i64 (removeD D n).1 ∧ Rs' = rdk b (removeD D n).2 :: Fr) := by
 have hmax : maxS = 140737488355328 := rfl
 refine rdk_tr rremove_th fun A c K h1 h2 => ?_
 refine Entry.tr (N := 43) (rs := [.tmp 4]) ⟨_, Tryz.func77, rfl, by kernel_rfl, rfl, rfl⟩ rfl ?_
 refine XC.seq fun K1 hK1 => ?_
 refine XC.region ?_
 refine x_v (r_as rfl) rfl ?_
 refine XL.nil ?_
 refine hK1 _ _ ?_
 refine XC.keep [(0, _), (1, _)] ⟨rfl, rfl, trivial⟩ ?_
 refine XC.seq fun K2 hK2 => ?_
 refine XC.seq fun K3 hK3 => ?_
 refine XC.region ?_
 refine x_v (r_mv rfl) rfl ?_
 refine x_c (r_call0 (args := [_]) ⟨rfl, rfl⟩ (named_tr n _ hnl) gS) rfl ?_
 rintro _ _ ⟨rfl, hRs⟩
 rw [hRs]
 unfold rcl
 refine x_v (r_not rfl) rfl ?_
 refine XL.nil ?_
 refine hK3 _ _ ?_
 refine XC.keep [(0, _), (1, _), (9, _)] ⟨rfl, rfl, rfl, trivial⟩ ?_
 refine XC.cond rfl (fun hc1 => ?_) (fun hc1 => ?_)
 ·refine XC.seq fun K4 hK4 => ?_
  refine XC.region ?_
  refine x_v (r_as rfl) rfl ?_
  refine XL.nil ?_
  refine hK4 _ _ ?_
  refine XC.keep [(4, _)] ⟨rfl, trivial⟩ ?_
  refine XC.ret ?_
  have hfi : fineB n = false := by simpa using hc1
  rw [show removeD D n = (1, D) from knw_1 hfi]
  exact fin1 rfl (⟨A, c, K, D, Fr, ⟨h1, h2⟩, rfl, rfl, rfl⟩) gS
 ·refine XC.skip ?_
  refine hK2 _ _ ?_
  refine XC.keep [(0, _), (1, _)] ⟨rfl, rfl, trivial⟩ ?_
  refine XC.seq fun K5 hK5 => ?_
  refine XC.seq fun K6 hK6 => ?_
  refine XC.region ?_
  refine x_v (r_mv rfl) rfl ?_
  refine x_v (r_nc rfl) rfl ?_
  refine x_v (r_fa fo87_2 rfl) rfl ?_
  refine x_v (r_ld ty4 rfl pK (by rfl)) rfl ?_
  refine XL.nil ?_
  refine hK6 _ _ ?_
  refine XC.keep [(0, _), (1, _), (13, _)] ⟨rfl, rfl, rfl, trivial⟩ ?_
  refine XC.cond rfl (fun hc2 => ?_) (fun hc2 => ?_)
  ·refine XC.seq fun K7 hK7 => ?_
   refine XC.region ?_
   refine x_v (r_as rfl) rfl ?_
   refine XL.nil ?_
   refine hK7 _ _ ?_
   refine XC.keep [(4, _)] ⟨rfl, trivial⟩ ?_
   refine XC.ret ?_
   have hfi : fineB n = true := by simpa using hc1
   rw [show removeD D n = (50, D) from knw_50 hfi hc2]
   exact fin1 rfl (⟨A, c, K, D, Fr, ⟨h1, h2⟩, rfl, rfl, rfl⟩) gS
  ·refine XC.skip ?_
   refine hK5 _ _ ?_
   refine XC.keep [(0, _), (1, _)] ⟨rfl, rfl, trivial⟩ ?_
   refine XC.seq fun K8 hK8 => ?_
   have hfi : fineB n = true := by simpa using hc1
   have hoff : D.off = false := by simpa using hc2
   refine XC.region ?_
   refine x_v (r_mv rfl) rfl ?_
   refine x_v (r_mv rfl) rfl ?_
   refine x_c (r_call0 (args := [_, _]) ⟨rfl, rfl, rfl⟩ (at_tr b D A c K n Fr hl) gS) rfl ?_
   rintro _ _ ⟨i, q, rfl, hat, hRs⟩
   rw [hRs]
   unfold rcl
   refine XL.slnn (pK : Pick _ (sl A D.files.length K 129 4 (cells rf D.files)) _) fun hsl hsA => ?_
   have hrd : Rdb W0 [sl A D.files.length K 129 4 (cells rf D.files)] A D.files.length 4 (cells rf D.files) := Rdb.of_sl (.head _ _) hsl hsA
   refine x_v (r_mv rfl) rfl ?_
   refine x_v (r_ex rfl rfl) rfl ?_
   refine x_v (r_ex rfl rfl) rfl ?_
   refine x_v (r_as rfl) rfl ?_
   refine x_v (r_as rfl) rfl ?_
   refine XL.nil ?_
   refine hK8 _ _ ?_
   refine XC.keep [(0, _), (5, _), (6, _)] ⟨rfl, rfl, rfl, trivial⟩ ?_
   refine XC.seq fun K9 hK9 => ?_
   refine XC.seq fun K10 hK10 => ?_
   refine XC.region ?_
   refine x_v (r_mv rfl) rfl ?_
   refine x_v (r_not rfl) rfl ?_
   refine XL.nil ?_
   refine hK10 _ _ ?_
   refine XC.keep [(0, _), (5, _), (21, _)] ⟨rfl, rfl, rfl, trivial⟩ ?_
   refine XC.cond rfl (fun hc3 => ?_) (fun hc3 => ?_)
   ·refine XC.seq fun K11 hK11 => ?_
    refine XC.region ?_
    refine x_v (r_as rfl) rfl ?_
    refine XL.nil ?_
    refine hK11 _ _ ?_
    refine XC.keep [(4, _)] ⟨rfl, trivial⟩ ?_
    refine XC.ret ?_
    have hq : q = false := by simpa using hc3
    subst hq
    rw [show removeD D n = (51, D) from knw_51 hfi hoff (hat.gone hok.srt).1]
    exact fin1 rfl (⟨A, c, K, D, Fr, ⟨h1, h2⟩, rfl, rfl, rfl⟩) gS
   ·refine XC.skip ?_
    refine hK9 _ _ ?_
    refine XC.keep [(0, _), (5, _)] ⟨rfl, rfl, trivial⟩ ?_
    refine XC.seq fun K12 hK12 => ?_
    refine XC.seq fun K13 hK13 => ?_
    have hq : q = true := by simpa using hc3
    subst hq
    obtain ⟨x, hx, hgx, hLe⟩ := hat.found hok.srt
    have hkn := fun k => knw_is (k := k) hfi hoff hgx
    have hil := (List.getElem?_eq_some_iff.1 hx).1
    have hxok := hok.fi _ (List.mem_of_getElem? hx)
    obtain ⟨hx3, hx4, _⟩ := hxok
    dsimp only at hx3 hx4
    refine XC.region ?_
    refine x_v (r_mv rfl) rfl ?_
    refine x_c (r_call0 (args := [_]) ⟨rfl, rfl⟩ (rstep_tr b D A D.files.length c (sl A D.files.length K 129 4 (cells rf D.files) :: Fr) hok.fuse hst) gS) rfl ?_
    rintro _ _ ⟨hv55, hRs⟩
    rw [hRs]
    subst hv55
    rcases Decidable.em (D.fuse = 0) with hf0 | hf0
    ·rw [if_pos hf0, decide_eq_false (fun h => h hf0)]
     unfold rcl
     refine x_v (r_not rfl) rfl ?_
     refine XL.nil ?_
     refine hK13 _ _ ?_
     refine XC.keep [(0, _), (5, _), (24, _)] ⟨rfl, rfl, rfl, trivial⟩ ?_
     refine XC.cond_t rfl ?_
     refine XC.seq fun K14 hK14 => ?_
     refine XC.region ?_
     refine x_v (r_as rfl) rfl ?_
     refine XL.nil ?_
     refine hK14 _ _ ?_
     refine XC.keep [(4, _)] ⟨rfl, trivial⟩ ?_
     refine XC.ret ?_
     rw [show removeD D n = (50, offD D) from (hkn _).trans (if_pos hf0)]
     exact fin1 rfl (⟨A, c, K, offD D, Fr, ⟨h1, h2⟩, rfl, rfl, rfl⟩) gS
    ·rw [if_neg hf0, decide_eq_true hf0]
     unfold rcl stepD
     dsimp only
     refine x_v (r_not rfl) rfl ?_
     refine XL.nil ?_
     refine hK13 _ _ ?_
     refine XC.keep [(0, _), (5, _), (24, _)] ⟨rfl, rfl, rfl, trivial⟩ ?_
     refine XC.cond_f rfl ?_
     refine XC.skip ?_
     refine hK12 _ _ ?_
     refine XC.keep [(0, _), (5, _)] ⟨rfl, rfl, trivial⟩ ?_
     refine XC.seq fun K15 hK15 => ?_
     refine XC.draw (blk b 87 [.slice A D.files.length c, .int .i64 (max (D.fuse - 1) (-1)), .bool D.off, .int .i64 ((D.steps + 1 : Nat) : Int)] :: []) true [(0, false), (1, false), (2, false), (3, false), (4, false), (5, false), (6, false), (7, false), (8, false), (9, false), (10, false), (11, false), (12, false), (13, false), (14, false), (15, true), (16, false), (17, false), (18, true)] (by kernel_rfl) (by kernel_rfl) ?_
     refine y_v rfl (r_mv rfl) gT rfl ?_
     refine y_v rfl (r_mv rfl) gT rfl ?_
     refine y_v rfl (r_nc rfl) gT rfl ?_
     refine y_v rfl (r_fa fo87_0 rfl) gT rfl ?_
     refine y_v rfl (r_ld ty85 rfl pK (by rfl)) gT rfl ?_
     refine y_v rfl (r_mv rfl) gT rfl ?_
     refine y_v rfl (r_mv rfl) gT rfl ?_
     refine y_v rfl (r_slf i Tryz.underlying85 ty129 rfl ⟨_, _, rfl, rfl⟩ ⟨_, _, rfl, rfl⟩ (by omega)) gT rfl ?_
     refine y_v rfl (r_mv rfl) gT rfl ?_
     refine y_v rfl (r_nc rfl) gT rfl ?_
     refine y_v rfl (r_fa fo87_0 rfl) gT rfl ?_
     refine y_v rfl (r_ld ty85 rfl pK (by rfl)) gT rfl ?_
     refine y_v rfl (r_mv rfl) gT rfl ?_
     refine y_v rfl (r_add rfl rfl (by omega)) gT rfl ?_
     refine y_v rfl (yv (v' := .slice (if c = i + 1 then A else A.map (·.add ((i + 1) * 4))) (D.files.drop (i + 1)).length (c - (i + 1))) (r_sll (i + 1) D.files.length Tryz.underlying85 ty129 rfl ⟨_, by rfl⟩ rfl (by omega) h1) (by rw [List.length_drop])) gT rfl ?_
     refine y_a rfl (r_appc Tryz.underlying85 ty129 rfl (by decide) rfl rfl (pK : Pick _ (sl A D.files.length K 129 4 (cells rf D.files)) _) hat.le ((rd_drop rf_len hrd h1 (show i + 1 ≤ D.files.length by omega)).mono (fun w hw => Gets.own gS hw)) (by rw [List.length_drop]; unfold maxLen; omega) (by rw [List.length_drop]; omega)) (fun _ _ _ h => Gets.own gS h) rfl fun ⟨⟨A40, c40, K40⟩, h40, h40b⟩ => ?_
     dsimp only at h40 h40b ⊢
     rw [cells_take rf_len, ← cells_app]
     refine y_v rfl (r_nc rfl) gT rfl ?_
     refine y_v rfl (r_fa fo87_0 rfl) gT rfl ?_
     refine y_e rfl (r_st ty85 rfl rfl rfl rfl rfl uD oV) (fun h => absurd h (by decide)) ?_
     refine XH.nil ?_
     refine hK15 _ _ ?_
     refine XC.keep [] trivial ?_
     refine XC.seq fun K16 hK16 => ?_
     have hdel : delF D.files n = D.files.take i ++ D.files.drop (i + 1) := (congrArg (fun z => delF z n) hLe).trans (delF_at (by rw [← hLe]; exact hok.srt))
     have hlen : i + (D.files.drop (i + 1)).length = (D.files.take i ++ D.files.drop (i + 1)).length := by rw [List.length_append, List.length_take]; omega
     rw [hlen, ← hdel]
     rw [hlen, ← hdel] at h40
     refine XC.region ?_
     refine x_v (r_as rfl) rfl ?_
     refine XL.nil ?_
     refine hK16 _ _ ?_
     refine XC.keep [(4, _)] ⟨rfl, trivial⟩ ?_
     refine XC.ret ?_
     rw [show removeD D n = _ from (hkn _).trans (if_neg hf0)]
     exact fin1 rfl (⟨A40, c40, K40, { stepD D with files := delF D.files n }, Fr, ⟨h40, h40b⟩, rfl, rfl, rfl⟩) gS
/-! names that begin so -/
def nmF (D : Dk) (p : List UInt8) (i : Nat) : List (List UInt8) := ((D.files.map (·.1)).take i).filter (fun n => Lib.hasPrefix n p)
theorem pre_dec (n p : List UInt8) : Lib.hasPrefix n p = decide (p.length ≤ n.length ∧ n.take p.length = p) := by
 unfold Lib.hasPrefix
 rw [Bool.eq_iff_iff, List.isPrefixOf_iff_prefix, decide_eq_true_iff]
 constructor
 ·intro h
  exact ⟨h.length_le, (List.prefix_iff_eq_take.1 h).symm⟩
 ·rintro ⟨_, h⟩
  rw [← h]; exact List.take_prefix _ _
theorem nm_snoc (D : Dk) (p : List UInt8) {i : Nat} {t : List UInt8 × Fi} (hx : D.files[i]? = some t) : nmF D p (i + 1) = if Lib.hasPrefix t.1 p = true then nmF D p i ++ [t.1] else nmF D p i :=
 filter_snoc _ _ i t.1 (by rw [List.getElem?_map, hx]; rfl)
theorem nm_len (D : Dk) (p : List UInt8) (i : Nat) : (nmF D p i).length ≤ D.files.length := by
 unfold nmF
 refine Nat.le_trans (List.length_filter_le _ _) ?_
 rw [List.length_take, List.length_map]; omega
theorem nm_all (D : Dk) (p : List UInt8) {i : Nat} (h : (D.off = true ∧ i = 0) ∨ (D.off = false ∧ i = D.files.length)) : nmF D p i = namesD D p := by
 unfold nmF namesD
 rcases h with ⟨h, rfl⟩ | ⟨h, rfl⟩
 ·rw [if_pos h]; rfl
 ·rw [if_neg (by rw [h]; decide), List.take_of_length_le (by rw [List.length_map]; exact Nat.le_refl _)]
theorem rnames_th : ∃ fn c, Tryz.prog.funcs[51]? = some fn ∧ (fn.name == "runtime.NumGoroutine") = false ∧ fn.body = some c := ⟨_, _, Tryz.func51, by kernel_rfl, rfl⟩
theorem rnames_tr {W0 : World} (b : Nat) (D : Dk) (p : List UInt8) (Fr : List HP) (hl : D.files.length ≤ 1000000000) : Tr W0 Tryz.prog 51 [.pointer (some ⟨b, 0, none⟩), str p] (rdk b D :: Fr) (fun v Rs' => ∃ A c, v = .slice A (namesD D p).length c ∧ Rs' = rdk b D :: sl A (namesD D p).length c 9 1 (cells sv (namesD D p)) :: Fr) := by
 have hmax : maxS = 140737488355328 := rfl
 refine rdk_tr rnames_th fun A c K h1 h2 => ?_
 refine Tr.nil_ 9 1 ?_
 unfold rcl
 refine Entry.tr (N := 50) (rs := [.tmp 4]) ⟨_, Tryz.func51, rfl, by kernel_rfl, rfl, rfl⟩ rfl ?_
 refine XC.seq fun K1 hK1 => ?_
 refine XC.region ?_
 refine x_v (r_as rfl) rfl ?_
 refine XL.nil ?_
 refine hK1 _ _ ?_
 refine XC.keep [(0, _), (1, _)] ⟨rfl, rfl, trivial⟩ ?_
 refine XC.seq fun K2 hK2 => ?_
 refine XC.slnn (pK : Pick _ (sl A D.files.length K 129 4 (cells rf D.files)) _) fun hsl hsA => ?_
 have hrd : Rdb W0 [sl A D.files.length K 129 4 (cells rf D.files)] A D.files.length 4 (cells rf D.files) := Rdb.of_sl (.head _ _) hsl hsA
 refine XC.region ?_
 refine x_v (r_as rfl) rfl ?_
 refine XL.nil ?_
 refine hK2 _ _ ?_
 refine XC.keep [(0, _), (1, _), (5, _)] ⟨rfl, rfl, rfl, trivial⟩ ?_
 refine XC.seq fun K3 hK3 => ?_
 refine XC.seq fun K4 hK4 => ?_
 refine XC.region ?_
 refine x_v (r_as rfl) rfl ?_
 refine XL.nil ?_
 refine hK4 _ _ ?_
 refine XC.keep [(0, _), (1, _), (5, _), (6, _)] ⟨rfl, rfl, rfl, rfl, trivial⟩ ?_
 refine XC.block ?_
 refine XC.loop (σ := Nat × Option Addr × Nat) (fun q => [(0, .pointer (some ⟨b, 0, none⟩)), (1, str p), (5, .slice q.2.1 (nmF D p q.1).length q.2.2), (6, .int .i64 (q.1 : Int))]) (fun q => blk b 87 [.slice A D.files.length c, .int .i64 D.fuse, .bool D.off, .int .i64 (D.steps : Int)] :: sl A D.files.length K 129 4 (cells rf D.files) :: sl q.2.1 (nmF D p q.1).length q.2.2 9 1 (cells sv (nmF D p q.1)) :: Fr) (fun q => q.1 ≤ D.files.length ∧ (D.off = true → q.1 = 0)) (fun q => D.files.length - q.1) (0, none, 0) ?_ ⟨rfl, rfl, rfl, rfl, trivial⟩ gS ?_
 ·exact ⟨Nat.zero_le _, fun _ => rfl⟩
 rintro ⟨i, A2, c2⟩ ⟨hi, hio⟩
 dsimp only at hi hio ⊢
 refine XC.seq fun K5 hK5 => ?_
 refine XC.seq fun K6 hK6 => ?_
 refine XC.region ?_
 refine x_v (r_mv rfl) rfl ?_
 refine x_v (r_mv rfl) rfl ?_
 refine x_v (r_nc rfl) rfl ?_
 refine x_v (r_fa fo87_0 rfl) rfl ?_
 refine x_v (r_ld ty85 rfl pK (by rfl)) rfl ?_
 refine x_v (r_lensl Tryz.underlying85 rfl) rfl ?_
 refine x_v (r_lt rfl rfl) rfl ?_
 refine x_v (r_mv rfl) rfl ?_
 refine XL.splitd 15 rfl (fun hg15 => ?_) (fun hg15 => ?_)
 ·refine x_want rfl rfl rfl ?_
  refine x_v (r_mv rfl) rfl ?_
  refine x_want rfl rfl rfl ?_
  refine x_v (r_nc rfl) rfl ?_
  refine x_want rfl rfl rfl ?_
  refine x_v (r_fa fo87_2 rfl) rfl ?_
  refine x_want rfl rfl rfl ?_
  refine x_v (r_ld ty4 rfl pK (by rfl)) rfl ?_
  refine x_want rfl rfl rfl ?_
  refine x_v (r_not rfl) rfl ?_
  refine x_v (r_pk_t rfl rfl) rfl ?_
  refine XL.nil ?_
  refine hK6 _ _ ?_
  refine XC.keep [(0, _), (1, _), (5, _), (6, _), (21, _)] ⟨rfl, rfl, rfl, rfl, rfl, trivial⟩ ?_
  refine XC.cond rfl (fun hc1 => ?_) (fun hc1 => ?_)
  ·refine XC.skip ?_
   refine hK5 _ _ ?_
   refine XC.keep [(0, _), (1, _), (5, _), (6, _)] ⟨rfl, rfl, rfl, rfl, trivial⟩ ?_
   refine XC.seq fun K7 hK7 => ?_
   refine XC.block ?_
   refine XC.seq fun K8 hK8 => ?_
   have hoff : D.off = false := by simpa using ‹(!D.off) = true›
   obtain ⟨t, hx⟩ : ∃ t, D.files[i]? = some t := ⟨_, List.getElem?_eq_getElem (by omega)⟩
   obtain ⟨sb, so, hpA, hatr⟩ := hrd.at_ (by omega)
   have hsn := nm_snoc D p hx
   refine XC.region ?_
   refine x_v (r_mv rfl) rfl ?_
   refine x_v (r_nc rfl) rfl ?_
   refine x_v (r_fa fo87_0 rfl) rfl ?_
   refine x_v (r_ld ty85 rfl pK (by rfl)) rfl ?_
   refine x_v (r_mv rfl) rfl ?_
   refine x_v (r_ia (k := i) Tryz.underlying85 ty129 (by rw [hpA]; rfl) rfl (by omega) (by omega)) rfl ?_
   refine x_v (r_fa fo129_0 rfl) rfl ?_
   refine x_v (r_ldr (v := str t.1) ty9 rfl (fun w hw => hatr w (Gets.own gS hw) _ _ (cells_get rf_len D.files _ _ hx 0 _ rfl))) rfl ?_
   refine x_v (r_as rfl) rfl ?_
   refine XL.nil ?_
   refine hK8 _ _ ?_
   refine XC.keep [(0, _), (1, _), (5, _), (6, _), (7, _)] ⟨rfl, rfl, rfl, rfl, rfl, trivial⟩ ?_
   refine XC.seq fun K9 hK9 => ?_
   refine XC.region ?_
   refine x_v (r_mv rfl) rfl ?_
   refine x_v (r_lens Tryz.underlying9 rfl) rfl ?_
   refine x_v (r_mv rfl) rfl ?_
   refine x_v (r_lens Tryz.underlying9 rfl) rfl ?_
   refine x_v (r_ge rfl rfl) rfl ?_
   refine x_v (r_mv rfl) rfl ?_
   refine XL.splitd 37 rfl (fun hg37 => ?_) (fun hg37 => ?_)
   ·refine x_want rfl rfl rfl ?_
    refine x_v (r_mv rfl) rfl ?_
    refine x_want rfl rfl rfl ?_
    refine x_v (r_mv rfl) rfl ?_
    refine x_want rfl rfl rfl ?_
    refine x_v (r_lens Tryz.underlying9 rfl) rfl ?_
    refine x_want rfl rfl rfl ?_
    refine x_v (yv (v' := str (t.1.take p.length)) (r_ssl 0 p.length Tryz.underlying9 rfl rfl ⟨_, by rfl⟩ (by omega) (by omega)) (by rw [List.drop_zero, Nat.sub_zero])) rfl ?_
    refine x_want rfl rfl rfl ?_
    refine x_v (r_mv rfl) rfl ?_
    refine x_want rfl rfl rfl ?_
    refine x_v (r_seq rfl rfl) rfl ?_
    refine x_v (r_pk_t rfl rfl) rfl ?_
    refine XL.nil ?_
    refine hK9 _ _ ?_
    refine XC.keep [(0, _), (1, _), (5, _), (6, _), (7, _), (44, _)] ⟨rfl, rfl, rfl, rfl, rfl, rfl, trivial⟩ ?_
    refine XC.cond_d rfl (fun hc2 => ?_) (fun hc2 => ?_)
    ·have hpre : Lib.hasPrefix t.1 p = true := by rw [pre_dec, decide_eq_true_iff]; exact ⟨by omega, by assumption⟩
     refine XC.region ?_
     refine x_v (r_mv rfl) rfl ?_
     refine x_v (r_mv rfl) rfl ?_
     refine x_a (r_bs (vs := [_]) rfl ⟨rfl, rfl⟩ (bs22_1_0 _)) rfl fun b47 => ?_
     refine x_a (r_app Tryz.underlying22 ty9 rfl (by decide) rfl rfl pK (Rdb.of_blk (cs := [str t.1]) (xs := [str t.1]) pK 0 (by rfl) (fun j u hu => by simpa using hu)) rfl (by have := nm_len D p i; unfold maxLen; omega) (by have := nm_len D p i; omega)) rfl fun ⟨A48, c48⟩ => ?_
     refine x_v (r_as rfl) rfl ?_
     refine XL.nil ?_
     refine hK7 _ _ ?_
     refine XC.keep [(0, _), (1, _), (5, _), (6, _)] ⟨rfl, rfl, rfl, rfl, trivial⟩ ?_
     refine XC.region ?_
     refine x_v (r_mv rfl) rfl ?_
     refine x_v (r_add rfl rfl (by omega)) rfl ?_
     refine x_v (r_as rfl) rfl ?_
     refine XL.nil ?_
     rw [show (nmF D p i).length + 1 = (nmF D p (i + 1)).length by rw [hsn, if_pos hpre]; simp, show cells sv (nmF D p i) ++ [str t.1] = cells sv (nmF D p (i + 1)) by rw [hsn, if_pos hpre, cells_app]; rfl]
     refine ⟨(i + 1, A48, c48), ?_, ?_, ⟨rfl, rfl, rfl, rfl, trivial⟩, gS⟩
     ·exact ⟨by dsimp only; omega, fun h => by rw [hoff] at h; cases h⟩
     ·dsimp only; omega
    ·refine XC.skip ?_
     refine hK7 _ _ ?_
     refine XC.keep [(0, _), (1, _), (5, _), (6, _)] ⟨rfl, rfl, rfl, rfl, trivial⟩ ?_
     refine XC.region ?_
     refine x_v (r_mv rfl) rfl ?_
     refine x_v (r_add rfl rfl (by omega)) rfl ?_
     refine x_v (r_as rfl) rfl ?_
     refine XL.nil ?_
     rw [show nmF D p i = nmF D p (i + 1) by rw [hsn, if_neg (by rw [pre_dec, decide_eq_true_iff]; rintro ⟨z1, z2⟩; first | omega | exact absurd z2 (by assumption))]]
     refine ⟨(i + 1, A2, c2), ?_, ?_, ⟨rfl, rfl, rfl, rfl, trivial⟩, gS⟩
     ·exact ⟨by dsimp only; omega, fun h => by rw [hoff] at h; cases h⟩
     ·dsimp only; omega
   ·refine x_unwant rfl rfl rfl rfl rfl ?_
    refine x_unwant rfl rfl rfl rfl rfl ?_
    refine x_unwant rfl rfl rfl rfl rfl ?_
    refine x_unwant rfl rfl rfl rfl rfl ?_
    refine x_unwant rfl rfl rfl rfl rfl ?_
    refine x_unwant rfl rfl rfl rfl rfl ?_
    refine x_v (r_pk_f rfl rfl) rfl ?_
    refine XL.nil ?_
    refine hK9 _ _ ?_
    refine XC.keep [(0, _), (1, _), (5, _), (6, _), (7, _), (44, _)] ⟨rfl, rfl, rfl, rfl, rfl, rfl, trivial⟩ ?_
    refine XC.cond_f rfl ?_
    refine XC.skip ?_
    refine hK7 _ _ ?_
    refine XC.keep [(0, _), (1, _), (5, _), (6, _)] ⟨rfl, rfl, rfl, rfl, trivial⟩ ?_
    refine XC.region ?_
    refine x_v (r_mv rfl) rfl ?_
    refine x_v (r_add rfl rfl (by omega)) rfl ?_
    refine x_v (r_as rfl) rfl ?_
    refine XL.nil ?_
    rw [show nmF D p i = nmF D p (i + 1) by rw [hsn, if_neg (by rw [pre_dec, decide_eq_true_iff]; rintro ⟨z1, z2⟩; first | omega | exact absurd z2 (by assumption))]]
    refine ⟨(i + 1, A2, c2), ?_, ?_, ⟨rfl, rfl, rfl, rfl, trivial⟩, gS⟩
    ·exact ⟨by dsimp only; omega, fun h => by rw [hoff] at h; cases h⟩
    ·dsimp only; omega
  ·refine XC.exit rfl ?_
   refine hK3 _ _ ?_
   refine XC.keep [(5, _)] ⟨rfl, trivial⟩ ?_
   refine XC.seq fun K10 hK10 => ?_
   refine XC.region ?_
   refine x_v (r_mv rfl) rfl ?_
   refine x_v (r_as rfl) rfl ?_
   refine XL.nil ?_
   refine hK10 _ _ ?_
   refine XC.keep [(4, _)] ⟨rfl, trivial⟩ ?_
   refine XC.ret ?_
   have hN : nmF D p i = namesD D p := by by_cases ho : D.off = true; (exact nm_all D p (.inl ⟨ho, hio ho⟩)); exact nm_all D p (.inr ⟨by simpa using ho, by first | omega | (exfalso; apply ho; simpa using hc1)⟩)
   exact fin1 rfl (⟨A, c, K, D, sl A2 (nmF D p i).length c2 9 1 (cells sv (nmF D p i)) :: Fr, ⟨h1, h2⟩, rfl, A2, c2, by rw [hN], by rw [hN]⟩) gS
 ·refine x_unwant rfl rfl rfl rfl rfl ?_
  refine x_unwant rfl rfl rfl rfl rfl ?_
  refine x_unwant rfl rfl rfl rfl rfl ?_
  refine x_unwant rfl rfl rfl rfl rfl ?_
  refine x_unwant rfl rfl rfl rfl rfl ?_
  refine x_v (r_pk_f rfl rfl) rfl ?_
  refine XL.nil ?_
  refine hK6 _ _ ?_
  refine XC.keep [(0, _), (1, _), (5, _), (6, _), (21, _)] ⟨rfl, rfl, rfl, rfl, rfl, trivial⟩ ?_
  refine XC.cond_f rfl ?_
  refine XC.exit rfl ?_
  refine hK3 _ _ ?_
  refine XC.keep [(5, _)] ⟨rfl, trivial⟩ ?_
  refine XC.seq fun K11 hK11 => ?_
  refine XC.region ?_
  refine x_v (r_mv rfl) rfl ?_
  refine x_v (r_as rfl) rfl ?_
  refine XL.nil ?_
  refine hK11 _ _ ?_
  refine XC.keep [(4, _)] ⟨rfl, trivial⟩ ?_
  refine XC.ret ?_
  have hN : nmF D p i = namesD D p := by by_cases ho : D.off = true; (exact nm_all D p (.inl ⟨ho, hio ho⟩)); exact nm_all D p (.inr ⟨by simpa using ho, by first | omega | (exfalso; apply ho; simpa using hc1)⟩)
  exact fin1 rfl (⟨A, c, K, D, sl A2 (nmF D p i).length c2 9 1 (cells sv (nmF D p i)) :: Fr, ⟨h1, h2⟩, rfl, A2, c2, by rw [hN], by rw [hN]⟩) gS
end Go.Proofs.YtcmdmhmgffjknaaGreatDoor
/- The document's drive: function 46 (Crash). -/
namespace Go.Proofs.YtcmdmhmgffjknaaGreatDoor
open Go.Sx
set_option linter.unusedVariables false

def kpN (x : Fi) (ks : List Int) : Nat := (min (max (ks.headD 0) 0) ((x.bytes.length - x.sure : Nat) : Int)).toNat
theorem kpN_le (x : Fi) (ks : List Int) : kpN x ks ≤ (x.bytes.drop x.sure).length := by unfold kpN; rw [List.length_drop]; omega
theorem kpN_is {x : Fi} {ks : List Int} {k : Nat} {v : Int} (hv : ks[k]? = some v) (h : x.sure ≤ x.bytes.length) : min (max v 0) ((x.bytes.drop x.sure).length : Int) = ((kpN x (ks.drop k) : Nat) : Int) := by
 have e : (ks.drop k).headD 0 = v := by
  obtain ⟨h1, h2⟩ := List.getElem?_eq_some_iff.1 hv
  rw [List.drop_eq_getElem_cons h1, h2]; rfl
 unfold kpN
 rw [e, List.length_drop]; omega
theorem kpN_nil {x : Fi} {ks : List Int} {k : Nat} (hk : ks.length ≤ k) (h : x.sure ≤ x.bytes.length) : kpN x (ks.drop k) = 0 := by
 unfold kpN
 rw [List.drop_of_length_le hk]
 show (min (max (0 : Int) 0) _).toNat = 0
 omega
theorem cut_is2 (x : Fi) (ks : List Int) : cutF x (ks.headD 0) = ⟨x.bytes.take (x.sure + kpN x ks), x.sure + kpN x ks, x.old || decide (0 < kpN x ks)⟩ := by
 unfold cutF kpN
 congr 2
 rw [decide_eq_decide]; omega
theorem cut_last {x : Fi} {ks : List Int} {m : Nat} (hm : m = kpN x ks) (h : x.sure ≤ x.bytes.length) : x.bytes.take x.sure ++ (x.bytes.drop x.sure).take m = (cutF x (ks.headD 0)).bytes.take (cutF x (ks.headD 0)).sure := by
 rw [cut_is2, ← hm]
 dsimp only
 rw [List.take_take, Nat.min_self, List.take_add]
theorem cut_wait {x : Fi} {ks : List Int} {m : Nat} (hm : m = kpN x ks) (h : x.sure ≤ x.bytes.length) : ([] : List UInt8) = (cutF x (ks.headD 0)).bytes.drop (cutF x (ks.headD 0)).sure := by
 rw [cut_is2]
 dsimp only
 rw [List.drop_of_length_le (by rw [List.length_take]; omega)]
theorem cut_old {x : Fi} {ks : List Int} {m : Nat} (hm : m = kpN x ks) : (cutF x (ks.headD 0)).old = (x.old || decide (0 < m)) := by rw [cut_is2, ← hm]
theorem crash_step {F Lo : List (List UInt8 × Fi)} (ks : List Int) {i k : Nat} {t : List UInt8 × Fi} (h : crashL F ks = Lo ++ crashL (F.drop i) (ks.drop k)) (hx : F[i]? = some t) :
  (t.2.bytes.drop t.2.sure ≠ [] → crashL F ks = Lo ++ (if (cutF t.2 ((ks.drop k).headD 0)).old = true then (t.1, cutF t.2 ((ks.drop k).headD 0)) :: crashL (F.drop (i + 1)) (ks.drop (k + 1)) else crashL (F.drop (i + 1)) (ks.drop (k + 1)))) ∧
  (t.2.bytes.drop t.2.sure = [] → crashL F ks = Lo ++ (if t.2.old = true then (t.1, t.2) :: crashL (F.drop (i + 1)) (ks.drop k) else crashL (F.drop (i + 1)) (ks.drop k))) := by
 obtain ⟨h1, h2⟩ := List.getElem?_eq_some_iff.1 hx
 have e : F.drop i = t :: F.drop (i + 1) := by rw [List.drop_eq_getElem_cons h1, h2]
 have e2 : (ks.drop k).tail = ks.drop (k + 1) := by rw [List.tail_drop]
 obtain ⟨n, x⟩ := t
 rw [h, e, crashL, e2]
 dsimp only
 constructor
 ·intro hw
  rw [if_pos (by
   have := List.length_pos_iff.2 hw
   rw [List.length_drop] at this; omega)]
 ·intro hw
  rw [if_neg (by
   have := congrArg List.length hw
   rw [List.length_drop] at this
   simp only [List.length_nil] at this; omega)]
theorem rcrash_th : ∃ fn c, Tryz.prog.funcs[46]? = some fn ∧ (fn.name == "runtime.NumGoroutine") = false ∧ fn.body = some c := ⟨_, _, Tryz.func46, by kernel_rfl, rfl⟩
theorem rcrash_tr {W0 : World} (b : Nat) (D : Dk) (B : Option Addr) (cb : Nat) (ks : List Int) (Fr : List HP) (hok : DkOk D) (hl : D.files.length ≤ 1000000000) (hkr : Rdb W0 Fr B ks.length 1 (iv ks)) (hkl : ks.length ≤ maxS) : Tr W0 Tryz.prog 46 [.pointer (some ⟨b, 0, none⟩), .slice B ks.length cb] (rdk b D :: Fr) (fun v Rs' => v = .tuple #[] ∧ Rs' = rdk b (crashD D ks) :: Fr) := by
 have hmax : maxS = 140737488355328 := rfl
 refine rdk_tr rcrash_th fun A c K h1 h2 => ?_
 refine Tr.nil_ 129 4 ?_
 unfold rcl
 refine Entry.tr (N := 75) (rs := []) ⟨_, Tryz.func46, rfl, by kernel_rfl, rfl, rfl⟩ rfl ?_
 refine XC.seq fun K1 hK1 => ?_
 refine XC.slnn (pK : Pick _ (sl A D.files.length K 129 4 (cells rf D.files)) _) fun hsl hsA => ?_
 have hrd : Rdb W0 [sl A D.files.length K 129 4 (cells rf D.files)] A D.files.length 4 (cells rf D.files) := Rdb.of_sl (.head _ _) hsl hsA
 refine XC.region ?_
 refine x_v (r_as rfl) rfl ?_
 refine XL.nil ?_
 refine hK1 _ _ ?_
 refine XC.keep [(0, _), (1, _), (4, _)] ⟨rfl, rfl, rfl, trivial⟩ ?_
 refine XC.seq fun K2 hK2 => ?_
 refine XC.region ?_
 refine x_v (r_as rfl) rfl ?_
 refine XL.nil ?_
 refine hK2 _ _ ?_
 refine XC.keep [(0, _), (1, _), (4, _), (5, _)] ⟨rfl, rfl, rfl, rfl, trivial⟩ ?_
 refine XC.seq fun K3 hK3 => ?_
 refine XC.seq fun K4 hK4 => ?_
 refine XC.region ?_
 refine x_v (r_as rfl) rfl ?_
 refine XL.nil ?_
 refine hK4 _ _ ?_
 refine XC.keep [(0, _), (1, _), (4, _), (5, _), (6, _)] ⟨rfl, rfl, rfl, rfl, rfl, trivial⟩ ?_
 refine XC.block ?_
 refine XC.loop (σ := Nat × Nat × List (List UInt8 × Fi) × Option Addr × Nat) (fun q => [(0, .pointer (some ⟨b, 0, none⟩)), (1, .slice B ks.length cb), (4, .slice q.2.2.2.1 q.2.2.1.length q.2.2.2.2), (5, .int .i64 (q.2.1 : Int)), (6, .int .i64 (q.1 : Int))]) (fun q => blk b 87 [.slice A D.files.length c, .int .i64 D.fuse, .bool D.off, .int .i64 (D.steps : Int)] :: sl A D.files.length K 129 4 (cells rf D.files) :: sl q.2.2.2.1 q.2.2.1.length q.2.2.2.2 129 4 (cells rf q.2.2.1) :: Fr) (fun q => q.1 ≤ D.files.length ∧ q.2.1 ≤ q.1 ∧ q.2.2.1.length ≤ q.1 ∧ crashL D.files ks = q.2.2.1 ++ crashL (D.files.drop q.1) (ks.drop q.2.1)) (fun q => D.files.length - q.1) (0, 0, [], none, 0) ?_ ⟨rfl, rfl, rfl, rfl, rfl, trivial⟩ gS ?_
 ·exact ⟨Nat.zero_le _, Nat.le_refl _, Nat.zero_le _, rfl⟩
 rintro ⟨i, k, Lo, A5, c5⟩ ⟨hi, hk, hLo, hcr⟩
 dsimp only at hi hk hLo hcr ⊢
 refine XC.seq fun K5 hK5 => ?_
 refine XC.seq fun K6 hK6 => ?_
 refine XC.region ?_
 refine x_v (r_mv rfl) rfl ?_
 refine x_v (r_mv rfl) rfl ?_
 refine x_v (r_nc rfl) rfl ?_
 refine x_v (r_fa fo87_0 rfl) rfl ?_
 refine x_v (r_ld ty85 rfl pK (by rfl)) rfl ?_
 refine x_v (r_lensl Tryz.underlying85 rfl) rfl ?_
 refine x_v (r_lt rfl rfl) rfl ?_
 refine XL.nil ?_
 refine hK6 _ _ ?_
 refine XC.keep [(0, _), (1, _), (4, _), (5, _), (6, _), (15, _)] ⟨rfl, rfl, rfl, rfl, rfl, rfl, trivial⟩ ?_
 refine XC.cond_d rfl (fun hc1 => ?_) (fun hc1 => ?_)
 ·refine XC.skip ?_
  refine hK5 _ _ ?_
  refine XC.keep [(0, _), (1, _), (4, _), (5, _), (6, _)] ⟨rfl, rfl, rfl, rfl, rfl, trivial⟩ ?_
  refine XC.seq fun K7 hK7 => ?_
  refine XC.block ?_
  refine XC.seq fun K8 hK8 => ?_
  obtain ⟨t, hx⟩ : ∃ t, D.files[i]? = some t := ⟨_, List.getElem?_eq_getElem (by omega)⟩
  obtain ⟨sb, so, hpA, hatr⟩ := hrd.at_ (by omega)
  have htok := hok.fi t (List.mem_of_getElem? hx)
  obtain ⟨hx3, hx4, _⟩ := htok
  have hstep := crash_step ks hcr hx
  refine XC.region ?_
  refine x_v (r_mv rfl) rfl ?_
  refine x_v (r_nc rfl) rfl ?_
  refine x_v (r_fa fo87_0 rfl) rfl ?_
  refine x_v (r_ld ty85 rfl pK (by rfl)) rfl ?_
  refine x_v (r_mv rfl) rfl ?_
  refine x_v (r_ia (k := i) Tryz.underlying85 ty129 (by rw [hpA]; rfl) rfl (by omega) (by omega)) rfl ?_
  refine x_v (r_ldar (l' := rf t) ty129 rfl rfl (fun w hw j u hu => by rw [Nat.add_assoc]; exact hatr w (Gets.own gS hw) (i * 4 + j) u (cells_get rf_len D.files i t hx j u hu))) rfl ?_
  unfold rf
  refine x_a (r_al ty129 rfl) rfl fun b7 => ?_
  refine x_e (r_st ty129 rfl rfl rfl rfl rfl uD oV) ?_
  refine XL.nil ?_
  refine hK8 _ _ ?_
  refine XC.keep [(0, _), (1, _), (4, _), (5, _), (6, _), (7, _)] ⟨rfl, rfl, rfl, rfl, rfl, rfl, trivial⟩ ?_
  refine XC.seqcut (σ := Nat × List UInt8 × List UInt8 × Bool) (fun q => [(0, .pointer (some ⟨b, 0, none⟩)), (1, .slice B ks.length cb), (4, .slice A5 Lo.length c5), (5, .int .i64 (q.1 : Int)), (6, .int .i64 (i : Int)), (7, .pointer (some ⟨b7, 0, none⟩))]) (fun q => blk b7 129 [str t.1, str q.2.1, str q.2.2.1, .bool q.2.2.2] :: blk b 87 [.slice A D.files.length c, .int .i64 D.fuse, .bool D.off, .int .i64 (D.steps : Int)] :: sl A D.files.length K 129 4 (cells rf D.files) :: sl A5 Lo.length c5 129 4 (cells rf Lo) :: Fr) (fun q => q.1 ≤ i + 1 ∧ ∃ y : Fi, q.2.1 = y.bytes.take y.sure ∧ q.2.2.1 = y.bytes.drop y.sure ∧ q.2.2.2 = y.old ∧ crashL D.files ks = Lo ++ (if y.old = true then (t.1, y) :: crashL (D.files.drop (i + 1)) (ks.drop q.1) else crashL (D.files.drop (i + 1)) (ks.drop q.1))) ?_ ?_
  ·refine XC.seq fun K10 hK10 => ?_
   refine XC.region ?_
   refine x_v (r_fa fo129_2 rfl) rfl ?_
   refine x_v (r_ld ty9 rfl pK (by rfl)) rfl ?_
   refine x_v (r_sne rfl rfl) rfl ?_
   refine XL.nil ?_
   refine hK10 _ _ ?_
   refine XC.keep [(0, _), (1, _), (4, _), (5, _), (6, _), (7, _), (27, _)] ⟨rfl, rfl, rfl, rfl, rfl, rfl, rfl, trivial⟩ ?_
   refine XC.cond_d rfl (fun hc2 => ?_) (fun hc2 => ?_)
   ·refine XC.seq fun K11 hK11 => ?_
    refine XC.region ?_
    refine x_v (r_as rfl) rfl ?_
    refine XL.nil ?_
    refine hK11 _ _ ?_
    refine XC.keep [(0, _), (1, _), (4, _), (5, _), (6, _), (7, _), (8, _)] ⟨rfl, rfl, rfl, rfl, rfl, rfl, rfl, trivial⟩ ?_
    refine XC.seqcut (σ := Nat) (fun q => [(0, .pointer (some ⟨b, 0, none⟩)), (1, .slice B ks.length cb), (4, .slice A5 Lo.length c5), (5, .int .i64 (k : Int)), (6, .int .i64 (i : Int)), (7, .pointer (some ⟨b7, 0, none⟩)), (8, .int .i64 (q : Int))]) (fun q => blk b7 129 [str t.1, str (t.2.bytes.take t.2.sure), str (t.2.bytes.drop t.2.sure), .bool t.2.old] :: blk b 87 [.slice A D.files.length c, .int .i64 D.fuse, .bool D.off, .int .i64 (D.steps : Int)] :: sl A D.files.length K 129 4 (cells rf D.files) :: sl A5 Lo.length c5 129 4 (cells rf Lo) :: Fr) (fun q => q = kpN t.2 (ks.drop k)) ?_ ?_
    ·refine XC.seq fun K13 hK13 => ?_
     refine XC.region ?_
     refine x_v (r_mv rfl) rfl ?_
     refine x_v (r_mv rfl) rfl ?_
     refine x_v (r_lensl Tryz.underlying25 rfl) rfl ?_
     refine x_v (r_lt rfl rfl) rfl ?_
     refine XL.nil ?_
     refine hK13 _ _ ?_
     refine XC.keep [(0, _), (1, _), (4, _), (5, _), (6, _), (7, _), (8, _), (31, _)] ⟨rfl, rfl, rfl, rfl, rfl, rfl, rfl, rfl, trivial⟩ ?_
     refine XC.cond_d rfl (fun hc3 => ?_) (fun hc3 => ?_)
     ·refine XC.draw (blk b7 129 [str t.1, str (t.2.bytes.take t.2.sure), str (t.2.bytes.drop t.2.sure), .bool t.2.old] :: Fr) false [(0, false), (1, false), (2, false), (3, false), (4, false), (5, false), (6, false), (7, false), (8, false), (9, false)] (by kernel_rfl) (by kernel_rfl) ?_
      refine y_v rfl (r_mv rfl) gT rfl ?_
      refine y_v rfl (r_mv rfl) gT rfl ?_
      obtain ⟨v, hv⟩ : ∃ v, ks[k]? = some v := ⟨_, List.getElem?_eq_getElem (by omega)⟩
      obtain ⟨kb, ko, hkA, hkat⟩ := hkr.at_ (by omega)
      refine y_v rfl (r_ia (k := k) Tryz.underlying25 ty3 (by rw [hkA]; rfl) rfl (by omega) (by omega)) gT rfl ?_
      refine y_v rfl (r_ldr (v := .int .i64 v) ty3 rfl (fun w hw => hkat w (Gets.own gS hw) (k * 1) _ (by rw [Nat.mul_one]; exact iv_get hv))) gT rfl ?_
      refine y_v rfl (r_max rfl rfl) gT rfl ?_
      refine y_v rfl (r_fa fo129_2 rfl) gT rfl ?_
      refine y_v rfl (r_ld ty9 rfl pK (by rfl)) gT rfl ?_
      refine y_v rfl (r_lens Tryz.underlying9 rfl) gT rfl ?_
      refine y_v rfl (yv (v' := .int .i64 ((kpN t.2 (ks.drop k) : Nat) : Int)) (r_min rfl rfl) (congrArg (Value.int .i64) (kpN_is hv hx3))) gT rfl ?_
      refine y_v rfl (r_as rfl) gT rfl ?_
      refine XH.nil ?_
      exact ⟨kpN t.2 (ks.drop k), rfl, ⟨rfl, rfl, rfl, rfl, rfl, rfl, rfl, trivial⟩, gS⟩
     ·refine XC.skip ?_
      exact ⟨0, (kpN_nil (by omega) hx3).symm, ⟨rfl, rfl, rfl, rfl, rfl, rfl, rfl, trivial⟩, gS⟩
    ·rintro m hm
     have hml : m ≤ (t.2.bytes.drop t.2.sure).length := by rw [hm]; exact kpN_le _ _
     refine XC.seq fun K14 hK14 => ?_
     refine XC.region ?_
     refine x_v (r_mv rfl) rfl ?_
     refine x_v (r_add rfl rfl (by omega)) rfl ?_
     refine x_v (r_as rfl) rfl ?_
     refine XL.nil ?_
     refine hK14 _ _ ?_
     refine XC.keep [(0, _), (1, _), (4, _), (5, _), (6, _), (7, _), (8, _)] ⟨rfl, rfl, rfl, rfl, rfl, rfl, rfl, trivial⟩ ?_
     refine XC.seq fun K15 hK15 => ?_
     refine XC.draw (blk b7 129 [str t.1, str (t.2.bytes.take t.2.sure), str (t.2.bytes.drop t.2.sure), .bool t.2.old] :: []) true [(0, false), (1, false), (2, false), (3, false), (4, false), (5, false), (6, false), (7, false), (8, true)] (by kernel_rfl) (by kernel_rfl) ?_
     refine y_v rfl (r_fa fo129_1 rfl) gT rfl ?_
     refine y_v rfl (r_ld ty9 rfl pK (by rfl)) gT rfl ?_
     refine y_v rfl (r_fa fo129_2 rfl) gT rfl ?_
     refine y_v rfl (r_ld ty9 rfl pK (by rfl)) gT rfl ?_
     refine y_v rfl (r_mv rfl) gT rfl ?_
     refine y_v rfl (yv (v' := str ((t.2.bytes.drop t.2.sure).take m)) (r_ssl 0 m Tryz.underlying9 rfl rfl ⟨_, by rfl⟩ (by omega) hml) (by rw [List.drop_zero, Nat.sub_zero])) gT rfl ?_
     refine y_v rfl (r_cat rfl rfl (by rw [List.length_take, List.length_take, List.length_drop]; omega)) gT rfl ?_
     refine y_v rfl (r_fa fo129_1 rfl) gT rfl ?_
     refine y_e rfl (r_st ty9 rfl rfl rfl rfl rfl uD oV) (fun h => absurd h (by decide)) ?_
     refine XH.nil ?_
     refine hK15 _ _ ?_
     refine XC.keep [(0, _), (1, _), (4, _), (5, _), (6, _), (7, _), (8, _)] ⟨rfl, rfl, rfl, rfl, rfl, rfl, rfl, trivial⟩ ?_
     refine XC.seq fun K16 hK16 => ?_
     refine XC.region ?_
     refine x_v (r_fa fo129_2 rfl) rfl ?_
     refine x_e (r_st ty9 rfl rfl rfl rfl rfl uD oV) ?_
     refine XL.nil ?_
     refine hK16 _ _ ?_
     refine XC.keep [(0, _), (1, _), (4, _), (5, _), (6, _), (7, _), (8, _)] ⟨rfl, rfl, rfl, rfl, rfl, rfl, rfl, trivial⟩ ?_
     refine XC.region ?_
     refine x_v (r_fa fo129_3 rfl) rfl ?_
     refine x_v (r_ld ty4 rfl pK (by rfl)) rfl ?_
     refine x_v (r_mv rfl) rfl ?_
     refine XL.split 54 rfl (fun hg54 => ?_) (fun hg54 => ?_)
     ·refine x_unwant rfl rfl rfl rfl rfl ?_
      refine x_unwant rfl rfl rfl rfl rfl ?_
      refine x_v (r_pk_t rfl rfl) rfl ?_
      refine x_v (r_fa fo129_3 rfl) rfl ?_
      refine x_e (r_st ty4 rfl rfl rfl rfl rfl uD oV) ?_
      refine XL.nil ?_
      exact ⟨(k + 1, t.2.bytes.take t.2.sure ++ (t.2.bytes.drop t.2.sure).take m, [], true), ⟨by dsimp only; omega, cutF t.2 ((ks.drop k).headD 0), cut_last hm hx3, cut_wait hm hx3, by rw [cut_old hm, hg54]; rfl, hstep.1 (by assumption)⟩, ⟨rfl, rfl, rfl, rfl, rfl, rfl, trivial⟩, gS⟩
     ·refine x_want rfl rfl rfl ?_
      refine x_v (r_mv rfl) rfl ?_
      refine x_want rfl rfl rfl ?_
      refine x_v (r_gt rfl rfl) rfl ?_
      refine x_v (r_pk_f rfl rfl) rfl ?_
      refine x_v (r_fa fo129_3 rfl) rfl ?_
      refine x_e (r_st ty4 rfl rfl rfl rfl rfl uD oV) ?_
      refine XL.nil ?_
      exact ⟨(k + 1, t.2.bytes.take t.2.sure ++ (t.2.bytes.drop t.2.sure).take m, [], decide (0 < (m : Int))), ⟨by dsimp only; omega, cutF t.2 ((ks.drop k).headD 0), cut_last hm hx3, cut_wait hm hx3, by rw [cut_old hm, hg54]; simp, hstep.1 (by assumption)⟩, ⟨rfl, rfl, rfl, rfl, rfl, rfl, trivial⟩, gS⟩
   ·refine XC.skip ?_
    exact ⟨(k, t.2.bytes.take t.2.sure, t.2.bytes.drop t.2.sure, t.2.old), ⟨by dsimp only; omega, t.2, rfl, rfl, rfl, hstep.2 (Decidable.not_not.1 (by assumption))⟩, ⟨rfl, rfl, rfl, rfl, rfl, rfl, trivial⟩, gS⟩
  ·rintro ⟨k2, la, wa, su⟩ ⟨hk2, y, rfl, rfl, rfl, hcr2⟩
   dsimp only at hk2 hcr2 ⊢
   refine XC.seq fun K17 hK17 => ?_
   refine XC.region ?_
   refine x_v (r_fa fo129_3 rfl) rfl ?_
   refine x_v (r_ld ty4 rfl pK (by rfl)) rfl ?_
   refine XL.nil ?_
   refine hK17 _ _ ?_
   refine XC.keep [(0, _), (1, _), (4, _), (5, _), (6, _), (7, _), (60, _)] ⟨rfl, rfl, rfl, rfl, rfl, rfl, rfl, trivial⟩ ?_
   refine XC.cond rfl (fun hc4 => ?_) (fun hc4 => ?_)
   ·have hys : y.old = true := by assumption
    refine XC.region ?_
    refine x_v (r_mv rfl) rfl ?_
    refine x_v (r_lda (l' := [_, _, _, _]) ty129 rfl pK rfl (Sub.get sU)) rfl ?_
    refine x_a (r_bs (vs := [_]) rfl ⟨rfl, rfl⟩ (bs85_1_0 _ _ _ _)) rfl fun b63 => ?_
    refine x_a (r_app Tryz.underlying85 ty129 rfl (by decide) rfl rfl pK (Rdb.of_blk (cs := rf (t.1, y)) (xs := cells rf [(t.1, y)]) pK 0 rfl (fun j u hu => by rw [cells_one] at hu; simpa using hu)) (cells_one' rf_one _) (by unfold maxLen; omega) (by omega)) rfl fun ⟨A64, c64⟩ => ?_
    refine x_v (r_as rfl) rfl ?_
    refine XL.nil ?_
    refine hK7 _ _ ?_
    refine XC.keep [(0, _), (1, _), (4, _), (5, _), (6, _)] ⟨rfl, rfl, rfl, rfl, rfl, trivial⟩ ?_
    refine XC.region ?_
    refine x_v (r_mv rfl) rfl ?_
    refine x_v (r_add rfl rfl (by omega)) rfl ?_
    refine x_v (r_as rfl) rfl ?_
    refine XL.nil ?_
    rw [show Lo.length + 1 = (Lo ++ [(t.1, y)]).length by simp, ← cells_app]
    refine ⟨(i + 1, k2, Lo ++ [(t.1, y)], A64, c64), ?_, ?_, ⟨rfl, rfl, rfl, rfl, rfl, trivial⟩, gS⟩
    ·exact ⟨by dsimp only; omega, by dsimp only; omega, by dsimp only; rw [List.length_append]; simp; omega, by dsimp only; rw [hcr2, if_pos hys, List.append_assoc]; rfl⟩
    ·dsimp only; omega
   ·refine XC.skip ?_
    refine hK7 _ _ ?_
    refine XC.keep [(0, _), (1, _), (4, _), (5, _), (6, _)] ⟨rfl, rfl, rfl, rfl, rfl, trivial⟩ ?_
    refine XC.region ?_
    refine x_v (r_mv rfl) rfl ?_
    refine x_v (r_add rfl rfl (by omega)) rfl ?_
    refine x_v (r_as rfl) rfl ?_
    refine XL.nil ?_
    refine ⟨(i + 1, k2, Lo, A5, c5), ?_, ?_, ⟨rfl, rfl, rfl, rfl, rfl, trivial⟩, gS⟩
    ·exact ⟨by dsimp only; omega, by dsimp only; omega, by dsimp only; omega, by dsimp only; rw [hcr2, if_neg (by rw [hc4]; decide)]⟩
    ·dsimp only; omega
 ·refine XC.exit rfl ?_
  refine hK3 _ _ ?_
  refine XC.keep [(0, _), (4, _)] ⟨rfl, rfl, trivial⟩ ?_
  refine XC.seq fun K18 hK18 => ?_
  obtain rfl : i = D.files.length := by omega
  have hLe : crashL D.files ks = Lo := by rw [hcr, List.drop_of_length_le (Nat.le_refl _)]; unfold crashL; simp
  refine XC.sllen (pK : Pick _ (sl A5 Lo.length c5 129 4 (cells rf Lo)) _) fun _ hc5 _ => ?_
  refine XC.region ?_
  refine x_v (r_mv rfl) rfl ?_
  refine x_v (r_mv rfl) rfl ?_
  refine x_v (r_nc rfl) rfl ?_
  refine x_v (r_fa fo87_0 rfl) rfl ?_
  refine x_e (r_st ty85 rfl rfl rfl rfl rfl uD oV) ?_
  refine XL.nil ?_
  refine hK18 _ _ ?_
  refine XC.keep [(0, _)] ⟨rfl, trivial⟩ ?_
  refine XC.seq fun K19 hK19 => ?_
  refine XC.region ?_
  refine x_v (r_mv rfl) rfl ?_
  refine x_v (r_nc rfl) rfl ?_
  refine x_v (r_fa fo87_1 rfl) rfl ?_
  refine x_e (r_st ty3 rfl rfl rfl rfl rfl uD oV) ?_
  refine XL.nil ?_
  refine hK19 _ _ ?_
  refine XC.keep [(0, _)] ⟨rfl, trivial⟩ ?_
  refine XC.region ?_
  refine x_v (r_mv rfl) rfl ?_
  refine x_v (r_nc rfl) rfl ?_
  refine x_v (r_fa fo87_2 rfl) rfl ?_
  refine x_e (r_st ty4 rfl rfl rfl rfl rfl uD oV) ?_
  refine XL.nil ?_
  exact fin0 (⟨A5, c5, c5, crashD D ks, Fr, ⟨by show (crashL D.files ks).length ≤ c5; rw [hLe]; exact hc5, Nat.le_refl _⟩, by show _ = blk b 87 (rcl A5 (crashL D.files ks).length c5 (crashD D ks)) :: sl A5 (crashL D.files ks).length c5 129 4 (cells rf (crashL D.files ks)) :: Fr; rw [hLe], rfl, rfl⟩) gS
end Go.Proofs.YtcmdmhmgffjknaaGreatDoor
/- The document's log: functions 73 (head), 81 (put). -/
namespace Go.Proofs.YtcmdmhmgffjknaaGreatDoor
open Go.Sx
set_option linter.unusedVariables false

/-! drives stay drives -/
theorem ok_off {D : Dk} (h : DkOk D) : DkOk (offD D) := ⟨h.srt, h.fi, h.fuse⟩
theorem ok_step {D : Dk} (h : DkOk D) : DkOk (stepD D) := ⟨h.srt, h.fi, by have := h.fuse; simp only [stepD]; omega⟩
theorem ok_set {D : Dk} (h : DkOk D) {n : List UInt8} {y : Fi} (hy : FiOk (n, y)) : DkOk { D with files := setF D.files n y } := ⟨srt_setF h.srt n y, fun t ht => by
 rcases mem_setF ht with h1 | h1 | h1
 ·rw [h1]; exact hy
 ·exact h.fi t h1.1
 ·exact h.fi t h1, h.fuse⟩
theorem ok_del {D : Dk} (h : DkOk D) (n : List UInt8) : DkOk { D with files := delF D.files n } := ⟨h.srt.sublist List.filter_sublist, fun t ht => h.fi t (List.mem_filter.1 ht).1, h.fuse⟩
theorem ready_fine {D : Dk} {n : List UInt8} (h : readyE D n = 0) : fineB n = true ∧ D.off = false := by
 unfold readyE at h
 split at h
 ·cases h
 ·rename_i h1
  split at h
  ·cases h
  ·rename_i h2; exact ⟨by simpa using h1, by simpa using h2⟩
theorem ok_append {D : Dk} (h : DkOk D) (n s : List UInt8) : DkOk (appendD D n s).2 := by
 unfold appendD
 split
 ·exact h
 ·rename_i he
  obtain ⟨hfi, hoff⟩ := ready_fine (Decidable.not_not.1 he)
  obtain ⟨x, hx, hxo⟩ : ∃ x, (getF D.files n).getD ⟨[], 0, false⟩ = x ∧ x.sure ≤ x.bytes.length := by
   cases hg : getF D.files n with
   | none => exact ⟨_, rfl, Nat.le_refl _⟩
   | some x => exact ⟨x, rfl, (h.fi _ (getF_mem hg)).1⟩
  dsimp only
  rw [hx]
  split
  ·exact h
  ·split
   ·exact ok_off h
   ·exact ok_set (ok_step h) ⟨by dsimp only; rw [List.length_append]; omega, by dsimp only; rw [List.length_append]; omega, hfi⟩
theorem ok_known {D : Dk} (h : DkOk D) (n : List UInt8) (k : Fi → Dk → Dk) (hk : ∀ x D2, DkOk D2 → (n, x) ∈ D2.files → fineB n = true → DkOk (k x D2)) : DkOk (knownD D n k).2 := by
 unfold knownD
 split
 ·exact h
 ·rename_i he
  obtain ⟨hfi, hoff⟩ := ready_fine (Decidable.not_not.1 he)
  split
  ·exact h
  ·rename_i x hg
   split
   ·exact ok_off h
   ·exact hk x _ (ok_step h) (getF_mem hg) hfi
theorem ok_sync {D : Dk} (h : DkOk D) (n : List UInt8) : DkOk (syncD D n).2 := ok_known h n _ fun x D2 h2 hm hf => ok_set h2 ⟨Nat.le_refl _, (h2.fi _ hm).2.1, hf⟩
theorem ok_remove {D : Dk} (h : DkOk D) (n : List UInt8) : DkOk (removeD D n).2 := ok_known h n _ fun x D2 h2 hm hf => ok_del h2 n
theorem ok_write {D : Dk} (h : DkOk D) (n s : List UInt8) : DkOk (writeD D n s).2 := by
 unfold writeD
 split
 ·exact ok_append h n s
 ·exact ok_sync (ok_append h n s) n
/-! a segment's head -/
def headF (s : List UInt8) : Int × List UInt8 × Int := if (readS s).kind = 1 then (1, (readS s).base, 0) else if (readS s).kind = 2 then (2, [], (readS s).behind) else (0, [], 0)
def headV (s : List UInt8) : Value := .tuple #[.int .i64 (headF s).1, str (headF s).2.1, .int .i64 (headF s).2.2]
theorem head_none {W0 : World} (s : List UInt8) (Fr : List HP) (hs : s.length ≤ 4194304) (hO : openF s = none) : Tr W0 Tryz.prog 73 [str s] Fr (fun v Rs' => v = headV s ∧ Rs' = Fr) := by
 have hH : headV s = .tuple #[.int .i64 0, str [], .int .i64 0] := by unfold headV headF; rw [readS_zero hO]; rfl
 rw [hH]
 refine Entry.tr (N := 40) (rs := [.tmp 2, .tmp 3, .tmp 4]) ⟨_, Tryz.func73, rfl, by kernel_rfl, rfl, rfl⟩ rfl ?_
 refine XC.seq fun K1 hK1 => ?_
 refine XC.region ?_
 refine x_v (r_as rfl) rfl ?_
 refine x_v (r_as rfl) rfl ?_
 refine x_v (r_as rfl) rfl ?_
 refine XL.nil ?_
 refine hK1 _ _ ?_
 refine XC.keep [(0, _)] ⟨rfl, trivial⟩ ?_
 refine XC.seq fun K2 hK2 => ?_
 refine XC.region ?_
 refine x_v (r_mv rfl) rfl ?_
 refine x_c (r_call0 (args := [_]) ⟨rfl, rfl⟩ (rscan_tr s Fr hs) gS) rfl ?_
 rintro _ _ ⟨A13, c13, rfl, hRs⟩
 rw [scanF_none hO] at hRs ⊢
 rw [hRs]
 refine x_v (r_mv rfl) rfl ?_
 refine x_v (r_ex rfl rfl) rfl ?_
 refine x_v (r_ex rfl rfl) rfl ?_
 refine x_v (r_as rfl) rfl ?_
 refine x_v (r_as rfl) rfl ?_
 refine XL.nil ?_
 refine hK2 _ _ ?_
 refine XC.keep [(5, _)] ⟨rfl, trivial⟩ ?_
 refine XC.seq fun K3 hK3 => ?_
 refine XC.seq fun K4 hK4 => ?_
 refine XC.region ?_
 refine x_v (r_mv rfl) rfl ?_
 refine x_v (r_lensl Tryz.underlying22 rfl) rfl ?_
 refine x_v (r_eq rfl rfl) rfl ?_
 refine XL.nil ?_
 refine hK4 _ _ ?_
 refine XC.keep [(5, _), (18, _)] ⟨rfl, rfl, trivial⟩ ?_
 refine XC.cond_d rfl (fun hc1 => ?_) (fun hc1 => ?_)
 ·refine XC.seq fun K5 hK5 => ?_
  refine XC.region ?_
  refine x_v (r_as rfl) rfl ?_
  refine x_v (r_as rfl) rfl ?_
  refine x_v (r_as rfl) rfl ?_
  refine XL.nil ?_
  refine hK5 _ _ ?_
  refine XC.keep [(2, _), (3, _), (4, _)] ⟨rfl, rfl, rfl, trivial⟩ ?_
  refine XC.ret ?_
  exact fin3 rfl rfl rfl (⟨rfl, rfl⟩) gS
 ·exfalso; (first | exact hc1 rfl | omega | simp at hc1)
theorem suf_back {p q : List UInt8} {j : Nat} (h : q = p.drop j) : p.drop (p.length - q.length) = q ∧ p.length - q.length ≤ p.length := by
 refine ⟨?_, by omega⟩
 by_cases hj : j ≤ p.length
 ·rw [h, List.length_drop, show p.length - (p.length - j) = j by omega]
 ·have : q = [] := by rw [h]; exact List.drop_of_length_le (by omega)
  rw [this, List.length_nil, Nat.sub_zero, List.drop_length]
theorem numR_back (p : List UInt8) (a : Nat) (bad : Bool) (ha : a ≤ p.length) : p.drop (p.length - (numR (p.drop a, bad)).2.1.length) = (numR (p.drop a, bad)).2.1 ∧ p.length - (numR (p.drop a, bad)).2.1.length ≤ p.length := by
 obtain ⟨j, _, _, h, _⟩ := numR_drop p a bad ha
 exact suf_back h
theorem textR_back (p : List UInt8) (a : Nat) (bad : Bool) (ha : a ≤ p.length) : p.drop (p.length - (textR (p.drop a, bad)).2.1.length) = (textR (p.drop a, bad)).2.1 ∧ p.length - (textR (p.drop a, bad)).2.1.length ≤ p.length := by
 obtain ⟨j, _, _, h, _⟩ := numR_drop p a bad ha
 have : ∃ j, (textR (p.drop a, bad)).2.1 = p.drop j := by
  unfold textR
  split
  ·exact ⟨j, h⟩
  ·split
   ·exact ⟨j + (numR (p.drop a, bad)).1.toNat, by dsimp only; rw [h, List.drop_drop]⟩
   ·exact ⟨j, h⟩
 obtain ⟨j, h⟩ := this
 exact suf_back h
theorem head_some {W0 : World} (s : List UInt8) (Fr : List HP) (hs : s.length ≤ 4194304) {p r : List UInt8} (hO : openF s = some (p, r)) : Tr W0 Tryz.prog 73 [str s] Fr (fun v Rs' => v = headV s ∧ Rs' = Fr) := by
 have hmax : maxS = 140737488355328 := rfl
 have hpl : p.length ≤ maxS := by have := (openF_is hO).2.1; omega
 have hR : readS s = if (numR (p, false)).1 = 1 then ⟨s, if doneB (textR (numR (p, false)).2).2 = true then 1 else 0, (textR (numR (p, false)).2).1, 0⟩
  else if (numR (p, false)).1 = 2 then ⟨s, if doneB (numR (numR (p, false)).2).2 = true then 2 else 0, [], (numR (numR (p, false)).2).1⟩ else ⟨s, 0, [], 0⟩ := by unfold readS; rw [hO]
 have t1 := fun b => rnumr_all (W0 := W0) b p 0 false Fr hpl (Nat.zero_le _)
 have b1 := numR_back p 0 false (Nat.zero_le _)
 rw [List.drop_zero] at b1
 simp only [List.drop_zero] at t1
 obtain ⟨k1, k2⟩ := b1
 generalize numR (p, false) = N at hR t1 k1 k2
 obtain ⟨n, q, bad⟩ := N
 dsimp only at hR t1 k1 k2
 generalize p.length - q.length = j at t1 k1 k2
 have t2 := fun b => rtextr_tr (W0 := W0) b p j bad Fr hpl k2
 have b2 := textR_back p j bad k2
 have t3 := fun b => rnumr_all (W0 := W0) b p j bad Fr hpl k2
 have b3 := numR_back p j bad k2
 rw [k1] at b2 b3
 simp only [k1] at t2 t3
 generalize textR (q, bad) = T at hR t2 b2
 generalize numR (q, bad) = M at hR t3 b3
 obtain ⟨tx, tq, tb⟩ := T
 obtain ⟨m, mq, mb⟩ := M
 dsimp only at hR t2 b2 t3 b3
 obtain ⟨u1, u2⟩ := b2
 obtain ⟨v1, v2⟩ := b3
 generalize p.length - tq.length = jt at t2 u1 u2
 generalize p.length - mq.length = jm at t3 v1 v2
 have d2 := fun b => rdoner_tr (W0 := W0) b p jt tb Fr u2
 have d3 := fun b => rdoner_tr (W0 := W0) b p jm mb Fr v2
 simp only [u1] at d2
 simp only [v1] at d3
 unfold rrc at t1 t2 t3 d2 d3
 refine Entry.tr (N := 40) (rs := [.tmp 2, .tmp 3, .tmp 4]) ⟨_, Tryz.func73, rfl, by kernel_rfl, rfl, rfl⟩ rfl ?_
 refine XC.seq fun K1 hK1 => ?_
 refine XC.region ?_
 refine x_v (r_as rfl) rfl ?_
 refine x_v (r_as rfl) rfl ?_
 refine x_v (r_as rfl) rfl ?_
 refine XL.nil ?_
 refine hK1 _ _ ?_
 refine XC.keep [(0, _)] ⟨rfl, trivial⟩ ?_
 refine XC.seq fun K2 hK2 => ?_
 refine XC.region ?_
 refine x_v (r_mv rfl) rfl ?_
 refine x_c (r_call0 (args := [_]) ⟨rfl, rfl⟩ (rscan_tr s Fr hs) gS) rfl ?_
 rintro _ _ ⟨A13, c13, rfl, hRs⟩
 rw [scanF_some hO] at hRs ⊢
 rw [hRs]
 refine x_v (r_mv rfl) rfl ?_
 refine x_v (r_ex rfl rfl) rfl ?_
 refine x_v (r_ex rfl rfl) rfl ?_
 refine x_v (r_as rfl) rfl ?_
 refine x_v (r_as rfl) rfl ?_
 refine XL.nil ?_
 refine hK2 _ _ ?_
 refine XC.keep [(5, _)] ⟨rfl, trivial⟩ ?_
 refine XC.seq fun K3 hK3 => ?_
 refine XC.seq fun K4 hK4 => ?_
 refine XC.region ?_
 refine x_v (r_mv rfl) rfl ?_
 refine x_v (r_lensl Tryz.underlying22 rfl) rfl ?_
 refine x_v (r_eq rfl rfl) rfl ?_
 refine XL.nil ?_
 refine hK4 _ _ ?_
 refine XC.keep [(5, _), (18, _)] ⟨rfl, rfl, trivial⟩ ?_
 refine XC.cond_d rfl (fun hc1 => ?_) (fun hc1 => ?_)
 ·exfalso; (simp at hc1; omega)
 ·refine XC.skip ?_
  refine hK3 _ _ ?_
  refine XC.keep [(5, _)] ⟨rfl, trivial⟩ ?_
  refine XC.seq fun K5 hK5 => ?_
  refine XC.slnn (pK : Pick _ (sl A13 (p :: (scanF r).1).length c13 9 1 (cells sv (p :: (scanF r).1))) _) fun hl hA => ?_
  obtain ⟨g, rfl⟩ := hA (by simp)
  have hrN := Rdb.of_sl (W0 := W0) (pK : Pick (sl (some ⟨g, 0, none⟩) (p :: (scanF r).1).length c13 9 1 (cells sv (p :: (scanF r).1)) :: Fr) (sl (some ⟨g, 0, none⟩) (p :: (scanF r).1).length c13 9 1 (cells sv (p :: (scanF r).1))) _) hl (fun _ => ⟨g, rfl⟩)
  obtain ⟨g2, o2, he2, hat⟩ := hrN.at_ (by simp)
  injection he2 with he2
  injection he2 with hg2 ho2
  subst hg2
  subst ho2
  refine XC.region ?_
  refine x_v (r_mv rfl) rfl ?_
  refine x_v (r_ia (k := 0) Tryz.underlying22 ty9 rfl rfl (by omega) (by simp)) rfl ?_
  refine x_v (r_ldr (v := str p) ty9 rfl (fun w hw => hat w (Gets.own gS hw) (0 * 1) _ rfl)) rfl ?_
  refine x_v (r_bd (vs := [_]) rfl ⟨rfl, rfl⟩ (bd147_0 _)) rfl ?_
  refine x_a (r_bx rfl rfl) rfl fun b23 => ?_
  refine x_v (r_as rfl) rfl ?_
  refine XL.nil ?_
  refine hK5 _ _ ?_
  refine XC.keep [(7, _)] ⟨rfl, trivial⟩ ?_
  refine XC.seq fun K6 hK6 => ?_
  refine XC.region ?_
  refine x_v (r_mv rfl) rfl ?_
  refine x_c (r_call0 (args := [_]) ⟨rfl, rfl⟩ (t1 b23) gS) rfl ?_
  rintro _ _ ⟨rfl, hRs⟩
  rw [hRs]
  refine x_v (r_as rfl) rfl ?_
  refine XL.nil ?_
  refine hK6 _ _ ?_
  refine XC.keep [(7, _), (8, _)] ⟨rfl, rfl, trivial⟩ ?_
  refine XC.seq fun K7 hK7 => ?_
  refine XC.seq fun K8 hK8 => ?_
  refine XC.region ?_
  refine x_v (r_mv rfl) rfl ?_
  refine x_v (r_eq rfl rfl) rfl ?_
  refine XL.nil ?_
  refine hK8 _ _ ?_
  refine XC.keep [(7, _), (8, _), (27, _)] ⟨rfl, rfl, rfl, trivial⟩ ?_
  refine XC.cond_d rfl (fun hc2 => ?_) (fun hc2 => ?_)
  ·refine XC.seq fun K9 hK9 => ?_
   refine XC.region ?_
   refine x_v (r_mv rfl) rfl ?_
   refine x_c (r_call0 (args := [_]) ⟨rfl, rfl⟩ (t2 b23) gS) rfl ?_
   rintro _ _ ⟨rfl, hRs⟩
   rw [hRs]
   refine x_v (r_as rfl) rfl ?_
   refine XL.nil ?_
   refine hK9 _ _ ?_
   refine XC.keep [(7, _), (8, _), (9, _)] ⟨rfl, rfl, rfl, trivial⟩ ?_
   refine XC.seq fun K10 hK10 => ?_
   refine XC.region ?_
   refine x_v (r_mv rfl) rfl ?_
   refine x_c (r_call0 (args := [_]) ⟨rfl, rfl⟩ (d2 b23) gS) rfl ?_
   rintro _ _ ⟨rfl, hRs⟩
   rw [hRs]
   refine XL.nil ?_
   refine hK10 _ _ ?_
   refine XC.keep [(7, _), (8, _), (9, _), (31, _)] ⟨rfl, rfl, rfl, rfl, trivial⟩ ?_
   refine XC.cond rfl (fun hc3 => ?_) (fun hc3 => ?_)
   ·refine XC.seq fun K11 hK11 => ?_
    refine XC.region ?_
    refine x_v (r_mv rfl) rfl ?_
    refine x_v (r_as rfl) rfl ?_
    refine x_v (r_as rfl) rfl ?_
    refine x_v (r_as rfl) rfl ?_
    refine XL.nil ?_
    refine hK11 _ _ ?_
    refine XC.keep [(2, _), (3, _), (4, _)] ⟨rfl, rfl, rfl, trivial⟩ ?_
    refine XC.ret ?_
    exact fin3 rfl rfl rfl (⟨by unfold headV headF; rw [hR]; simp_all, rfl⟩) gS
   ·refine XC.skip ?_
    refine hK7 _ _ ?_
    refine XC.keep [(7, _), (8, _)] ⟨rfl, rfl, trivial⟩ ?_
    refine XC.seq fun K12 hK12 => ?_
    refine XC.seq fun K13 hK13 => ?_
    refine XC.region ?_
    refine x_v (r_mv rfl) rfl ?_
    refine x_v (r_eq rfl rfl) rfl ?_
    refine XL.nil ?_
    refine hK13 _ _ ?_
    refine XC.keep [(7, _), (34, _)] ⟨rfl, rfl, trivial⟩ ?_
    refine XC.cond_d rfl (fun hc4 => ?_) (fun hc4 => ?_)
    ·exfalso; omega
    ·refine XC.skip ?_
     refine hK12 _ _ ?_
     refine XC.keep [] trivial ?_
     refine XC.seq fun K14 hK14 => ?_
     refine XC.region ?_
     refine x_v (r_as rfl) rfl ?_
     refine x_v (r_as rfl) rfl ?_
     refine x_v (r_as rfl) rfl ?_
     refine XL.nil ?_
     refine hK14 _ _ ?_
     refine XC.keep [(2, _), (3, _), (4, _)] ⟨rfl, rfl, rfl, trivial⟩ ?_
     refine XC.ret ?_
     exact fin3 rfl rfl rfl (⟨by unfold headV headF; rw [hR]; simp_all, rfl⟩) gS
  ·refine XC.skip ?_
   refine hK7 _ _ ?_
   refine XC.keep [(7, _), (8, _)] ⟨rfl, rfl, trivial⟩ ?_
   refine XC.seq fun K15 hK15 => ?_
   refine XC.seq fun K16 hK16 => ?_
   refine XC.region ?_
   refine x_v (r_mv rfl) rfl ?_
   refine x_v (r_eq rfl rfl) rfl ?_
   refine XL.nil ?_
   refine hK16 _ _ ?_
   refine XC.keep [(7, _), (34, _)] ⟨rfl, rfl, trivial⟩ ?_
   refine XC.cond_d rfl (fun hc5 => ?_) (fun hc5 => ?_)
   ·refine XC.seq fun K17 hK17 => ?_
    refine XC.region ?_
    refine x_v (r_mv rfl) rfl ?_
    refine x_c (r_call0 (args := [_]) ⟨rfl, rfl⟩ (t3 b23) gS) rfl ?_
    rintro _ _ ⟨rfl, hRs⟩
    rw [hRs]
    refine x_v (r_as rfl) rfl ?_
    refine XL.nil ?_
    refine hK17 _ _ ?_
    refine XC.keep [(7, _), (10, _)] ⟨rfl, rfl, trivial⟩ ?_
    refine XC.seq fun K18 hK18 => ?_
    refine XC.region ?_
    refine x_v (r_mv rfl) rfl ?_
    refine x_c (r_call0 (args := [_]) ⟨rfl, rfl⟩ (d3 b23) gS) rfl ?_
    rintro _ _ ⟨rfl, hRs⟩
    rw [hRs]
    refine XL.nil ?_
    refine hK18 _ _ ?_
    refine XC.keep [(10, _), (38, _)] ⟨rfl, rfl, trivial⟩ ?_
    refine XC.cond rfl (fun hc6 => ?_) (fun hc6 => ?_)
    ·refine XC.seq fun K19 hK19 => ?_
     refine XC.region ?_
     refine x_v (r_mv rfl) rfl ?_
     refine x_v (r_as rfl) rfl ?_
     refine x_v (r_as rfl) rfl ?_
     refine x_v (r_as rfl) rfl ?_
     refine XL.nil ?_
     refine hK19 _ _ ?_
     refine XC.keep [(2, _), (3, _), (4, _)] ⟨rfl, rfl, rfl, trivial⟩ ?_
     refine XC.ret ?_
     exact fin3 rfl rfl rfl (⟨by unfold headV headF; rw [hR]; simp_all, rfl⟩) gS
    ·refine XC.skip ?_
     refine hK15 _ _ ?_
     refine XC.keep [] trivial ?_
     refine XC.seq fun K20 hK20 => ?_
     refine XC.region ?_
     refine x_v (r_as rfl) rfl ?_
     refine x_v (r_as rfl) rfl ?_
     refine x_v (r_as rfl) rfl ?_
     refine XL.nil ?_
     refine hK20 _ _ ?_
     refine XC.keep [(2, _), (3, _), (4, _)] ⟨rfl, rfl, rfl, trivial⟩ ?_
     refine XC.ret ?_
     exact fin3 rfl rfl rfl (⟨by unfold headV headF; rw [hR]; simp_all, rfl⟩) gS
   ·refine XC.skip ?_
    refine hK15 _ _ ?_
    refine XC.keep [] trivial ?_
    refine XC.seq fun K21 hK21 => ?_
    refine XC.region ?_
    refine x_v (r_as rfl) rfl ?_
    refine x_v (r_as rfl) rfl ?_
    refine x_v (r_as rfl) rfl ?_
    refine XL.nil ?_
    refine hK21 _ _ ?_
    refine XC.keep [(2, _), (3, _), (4, _)] ⟨rfl, rfl, rfl, trivial⟩ ?_
    refine XC.ret ?_
    exact fin3 rfl rfl rfl (⟨by unfold headV headF; rw [hR]; simp_all, rfl⟩) gS
theorem head_tr {W0 : World} (s : List UInt8) (Fr : List HP) (hs : s.length ≤ 4194304) : Tr W0 Tryz.prog 73 [str s] Fr (fun v Rs' => v = headV s ∧ Rs' = Fr) := by
 cases hO : openF s with
 | none => exact head_none s Fr hs hO
 | some x => exact head_some s Fr hs (p := x.1) (r := x.2) hO
/-! bytes put so that they last -/
def rlc (m w : Nat) (L : Lg) : HP := blk m 94 [.pointer (some ⟨w, 0, none⟩), .int .i64 (L.first : Int), .int .i64 (L.number : Int), .int .i64 (L.good : Int), .bool L.torn]
theorem nameB_len {n : Nat} (h : n ≤ 1000000001) : (nameB n).length ≤ 140737488355328 := by have := fineB_len (fine_name n h); omega
theorem rput_tr {W0 : World} (m w : Nat) (L : Lg) (D : Dk) (n : Nat) (s : List UInt8) (Fr : List HP) (hok : DkOk D) (hl : phi D ≤ 900000000) (h1 : 1 ≤ n) (h2 : n ≤ 1000000001) (hsl : s.length ≤ maxS) : Tr W0 Tryz.prog 81 [.pointer (some ⟨m, 0, none⟩), .int .i64 (n : Int), str s] (rlc m w L :: rdk w D :: Fr) (fun v Rs' => v = .int .i64 (writeD D (nameB n) s).1 ∧ Rs' = rlc m w L :: rdk w (writeD D (nameB n) s).2 :: Fr) := by
 have hmax : maxS = 140737488355328 := rfl
 have hph := appendD_phi D (nameB n) s
 have ha1 : D.files.length ≤ phi D := by unfold phi; omega
 have ha2 : D.steps ≤ phi D := by unfold phi; omega
 have hb1 : (appendD D (nameB n) s).2.files.length ≤ phi (appendD D (nameB n) s).2 := by unfold phi; omega
 have hb2 : (appendD D (nameB n) s).2.steps ≤ phi (appendD D (nameB n) s).2 := by unfold phi; omega
 have hnl := nameB_len h2
 unfold rlc
 refine Entry.tr (N := 26) (rs := [.tmp 6]) ⟨_, Tryz.func81, rfl, by kernel_rfl, rfl, rfl⟩ rfl ?_
 refine XC.seq fun K1 hK1 => ?_
 refine XC.region ?_
 refine x_v (r_as rfl) rfl ?_
 refine XL.nil ?_
 refine hK1 _ _ ?_
 refine XC.keep [(0, _), (1, _), (2, _)] ⟨rfl, rfl, rfl, trivial⟩ ?_
 refine XC.seq fun K2 hK2 => ?_
 refine XC.seq fun K3 hK3 => ?_
 refine XC.draw (blk m 94 [.pointer (some ⟨w, 0, none⟩), .int .i64 (L.first : Int), .int .i64 (L.number : Int), .int .i64 (L.good : Int), .bool L.torn] :: []) false [(0, false), (1, false), (2, false), (3, false), (4, false), (6, false), (5, true), (7, true), (8, false)] (by kernel_rfl) (by kernel_rfl) ?_
 refine y_v rfl (r_mv rfl) gT rfl ?_
 refine y_v rfl (r_nc rfl) gT rfl ?_
 refine y_v rfl (r_fa fo94_0 rfl) gT rfl ?_
 refine y_v rfl (r_ld ty44 rfl pK (by rfl)) gT rfl ?_
 refine y_v rfl (r_mv rfl) gT rfl ?_
 refine y_v rfl (r_mv rfl) gT rfl ?_
 refine y_c rfl (r_call0 (args := [_]) ⟨rfl, rfl⟩ (rname_tr n h1 h2 _) gS) (by rintro _ _ _ _ ⟨_, hq⟩ h; rw [hq] at h; exact Gets.own gS h) rfl ?_
 rintro _ _ ⟨rfl, hRs⟩
 rw [hRs]
 refine y_c rfl (r_call0 (args := [_, _, _]) ⟨rfl, rfl, rfl, rfl⟩ (rappend_tr w D (nameB n) s (blk m 94 [.pointer (some ⟨w, 0, none⟩), .int .i64 (L.first : Int), .int .i64 (L.number : Int), .int .i64 (L.good : Int), .bool L.torn] :: Fr) hok (by omega) (by omega) (by omega) hsl) gS) (by rintro _ _ _ _ ⟨_, hq⟩ h; rw [hq] at h; exact Gets.own gS h) rfl ?_
 rintro _ _ ⟨rfl, hRs⟩
 rw [hRs]
 refine y_v rfl (r_as rfl) gT rfl ?_
 refine XH.nil ?_
 refine hK3 _ _ ?_
 refine XC.keep [(0, _), (1, _), (7, _)] ⟨rfl, rfl, rfl, trivial⟩ ?_
 refine XC.seq fun K4 hK4 => ?_
 refine XC.region ?_
 refine x_v (r_mv rfl) rfl ?_
 refine x_v (r_ne rfl rfl) rfl ?_
 refine XL.nil ?_
 refine hK4 _ _ ?_
 refine XC.keep [(0, _), (1, _), (7, _), (17, _)] ⟨rfl, rfl, rfl, rfl, trivial⟩ ?_
 refine XC.cond_d rfl (fun hc1 => ?_) (fun hc1 => ?_)
 ·refine XC.seq fun K5 hK5 => ?_
  refine XC.region ?_
  refine x_v (r_mv rfl) rfl ?_
  refine x_v (r_as rfl) rfl ?_
  refine XL.nil ?_
  refine hK5 _ _ ?_
  refine XC.keep [(6, _)] ⟨rfl, trivial⟩ ?_
  refine XC.ret ?_
  unfold writeD
  rw [if_pos (by assumption)]
  exact fin1 rfl (⟨rfl, rfl⟩) gS
 ·refine XC.skip ?_
  refine hK2 _ _ ?_
  refine XC.keep [(0, _), (1, _)] ⟨rfl, rfl, trivial⟩ ?_
  refine XC.seq fun K6 hK6 => ?_
  refine XC.draw (blk m 94 [.pointer (some ⟨w, 0, none⟩), .int .i64 (L.first : Int), .int .i64 (L.number : Int), .int .i64 (L.good : Int), .bool L.torn] :: []) false [(0, false), (1, false), (2, false), (3, false), (4, false), (5, true), (6, true), (7, false)] (by kernel_rfl) (by kernel_rfl) ?_
  refine y_v rfl (r_mv rfl) gT rfl ?_
  refine y_v rfl (r_nc rfl) gT rfl ?_
  refine y_v rfl (r_fa fo94_0 rfl) gT rfl ?_
  refine y_v rfl (r_ld ty44 rfl pK (by rfl)) gT rfl ?_
  refine y_v rfl (r_mv rfl) gT rfl ?_
  refine y_c rfl (r_call0 (args := [_]) ⟨rfl, rfl⟩ (rname_tr n h1 h2 _) gS) (by rintro _ _ _ _ ⟨_, hq⟩ h; rw [hq] at h; exact Gets.own gS h) rfl ?_
  rintro _ _ ⟨rfl, hRs⟩
  rw [hRs]
  refine y_c rfl (r_call0 (args := [_, _]) ⟨rfl, rfl, rfl⟩ (rsync_tr w (appendD D (nameB n) s).2 (nameB n) (blk m 94 [.pointer (some ⟨w, 0, none⟩), .int .i64 (L.first : Int), .int .i64 (L.number : Int), .int .i64 (L.good : Int), .bool L.torn] :: Fr) (ok_append hok _ _) (by omega) (by omega) (by omega)) gS) (by rintro _ _ _ _ ⟨_, hq⟩ h; rw [hq] at h; exact Gets.own gS h) rfl ?_
  rintro _ _ ⟨rfl, hRs⟩
  rw [hRs]
  refine y_v rfl (r_as rfl) gT rfl ?_
  refine XH.nil ?_
  refine hK6 _ _ ?_
  refine XC.keep [(6, _)] ⟨rfl, trivial⟩ ?_
  refine XC.ret ?_
  unfold writeD
  rw [if_neg (by assumption)]
  exact fin1 rfl (⟨rfl, rfl⟩) gS
end Go.Proofs.YtcmdmhmgffjknaaGreatDoor

/- What was written is read again: plain facts. -/
import Derived.Test.YtcmdmhmgffjknaaGreatDoorWal24
namespace Go.Proofs.YtcmdmhmgffjknaaGreatDoor
open Go.Sx
set_option linter.unusedVariables false

theorem zstep_nat (k : Nat) (acc : BitVec 64) (c : UInt8) (h1 : acc.toNat < 2 ^ (7 * k)) (h2 : (c.toNat % 128) * 2 ^ (7 * k) < 2 ^ 64) : (zstep k acc c).toNat = acc.toNat + (c.toNat % 128) * 2 ^ (7 * k) := by
  have hm : ((c.toBitVec &&& 127#8).setWidth 64).toNat = c.toNat % 128 := by
    rw [BitVec.toNat_setWidth, BitVec.toNat_and]
    have : c.toBitVec.toNat &&& (127#8).toNat = c.toNat % 128 := Nat.and_two_pow_sub_one_eq_mod c.toNat 7
    rw [this]; omega
  unfold zstep
  rw [BitVec.toNat_or, BitVec.toNat_shiftLeft, hm, Nat.shiftLeft_eq, Nat.mod_eq_of_lt h2, ← Nat.shiftLeft_eq, Nat.or_comm, ← Nat.shiftLeft_add_eq_or_of_lt h1, Nat.shiftLeft_eq]
  omega
theorem numGo_vb (r : List UInt8) : ∀ (m z k : Nat) (acc : BitVec 64), z ≤ m → acc.toNat < 2 ^ (7 * k) → z * 2 ^ (7 * k) < 2 ^ 63 → (k = 0 ∨ 0 < z) → ∃ w, numGo k acc (vb z ++ r) = some (w, r) ∧ w.toNat = acc.toNat + z * 2 ^ (7 * k) := by
  intro m
  induction m using Nat.strongRecOn with
  | _ m ih =>
    intro z k acc hz ha hb h0
    have h9 : k = 9 → z = 0 := fun h => by subst h; omega
    by_cases h : z ≤ 127
    · rw [vb_le h]
      have hc : (UInt8.ofNat z).toNat = z := by simp; omega
      refine ⟨zstep k acc (UInt8.ofNat z), ?_, ?_⟩
      · rw [List.singleton_append, numGo, if_neg (by rw [hc]; omega), if_neg (by rw [cont_iff, hc]; omega), if_neg (by rw [hc]; omega)]
      · rw [zstep_nat k acc _ ha (by rw [hc, Nat.mod_eq_of_lt (by omega)]; omega), hc, Nat.mod_eq_of_lt (by omega)]
    · rw [vb_gt h]
      have hc : (UInt8.ofNat (z % 128 + 128)).toNat = z % 128 + 128 := by simp; omega
      have hc2 : (z % 128 + 128) % 128 = z % 128 := by omega
      have hle : (z % 128) * 2 ^ (7 * k) ≤ z * 2 ^ (7 * k) := Nat.mul_le_mul_right _ (by omega)
      have hs := zstep_nat k acc (UInt8.ofNat (z % 128 + 128)) ha (by rw [hc, hc2]; omega)
      rw [hc, hc2] at hs
      have hp : 2 ^ (7 * (k + 1)) = 128 * 2 ^ (7 * k) := by rw [show 7 * (k + 1) = 7 * k + 7 by omega, Nat.pow_add]; omega
      have hz2 : z / 128 * (128 * 2 ^ (7 * k)) + z % 128 * 2 ^ (7 * k) = z * 2 ^ (7 * k) := by
        rw [← Nat.mul_assoc, ← Nat.add_mul]; congr 1; omega
      obtain ⟨w, e1, e2⟩ := ih (z / 128) (by omega) (z / 128) (k + 1) (zstep k acc (UInt8.ofNat (z % 128 + 128))) (Nat.le_refl _) (by
        rw [hs, hp]
        have : (z % 128) * 2 ^ (7 * k) ≤ 127 * 2 ^ (7 * k) := Nat.mul_le_mul_right _ (by omega)
        omega) (by rw [hp]; omega) (.inr (by omega))
      refine ⟨w, ?_, by rw [e2, hs, hp]; omega⟩
      rw [List.cons_append, numGo, if_neg (by omega), if_pos (by rw [cont_iff, hc]; omega)]
      exact e1
theorem numR_vb (n : Nat) (r : List UInt8) (h : n ≤ 1000000000000000000) : numR (vb (2 * n) ++ r, false) = ((n : Int), (r, false)) := by
  obtain ⟨w, h1, h2⟩ := numGo_vb r (2 * n) (2 * n) 0 0 (Nat.le_refl _) (by decide) (by omega) (.inl rfl)
  have h2 : w.toNat = 2 * n := by rw [h2]; simp
  have hz : zig w = n := by
    unfold zig
    have h3 : (w &&& 1#64).toNat = w.toNat % 2 := by rw [BitVec.toNat_and]; exact Nat.and_one_is_mod _
    rw [if_pos (by omega), BitVec.toNat_ushiftRight, Nat.shiftRight_eq_div_pow]
    omega
  unfold numR
  rw [if_neg (by simp)]
  dsimp only
  rw [h1]
  show (zig w, r, false) = _
  rw [hz]
theorem le32_le4 (q : BitVec 32) (x : List UInt8) : le32 (le4 q ++ x) = q := by
  show (((q.setWidth 8).setWidth 32 ||| ((q >>> 8).setWidth 8).setWidth 32 <<< 8) ||| ((q >>> 16).setWidth 8).setWidth 32 <<< 16) ||| ((q >>> 24).setWidth 8).setWidth 32 <<< 24 = q
  apply BitVec.eq_of_getLsbD_eq
  intro i hi
  simp only [BitVec.getLsbD_or, BitVec.getLsbD_shiftLeft, BitVec.getLsbD_setWidth, BitVec.getLsbD_ushiftRight]
  by_cases h1 : i < 8
  · have b1 : i < 16 := by omega
    have b2 : i < 24 := by omega
    simp [h1, hi, b1, b2]
  · by_cases h2 : i < 16
    · have e : 8 + (i - 8) = i := by omega
      have a1 : i - 8 < 8 := by omega
      have a2 : i - 8 < 32 := by omega
      have b2 : i < 24 := by omega
      simp [h1, h2, hi, e, a1, a2, b2]
    · by_cases h3 : i < 24
      · have e : 16 + (i - 16) = i := by omega
        have a1 : i - 16 < 8 := by omega
        have a2 : i - 16 < 32 := by omega
        have a3 : ¬ i - 8 < 8 := by omega
        simp [h1, h2, h3, hi, e, a1, a2, a3]
      · have e : 24 + (i - 24) = i := by omega
        have a1 : i - 24 < 8 := by omega
        have a2 : i - 24 < 32 := by omega
        have a3 : ¬ i - 8 < 8 := by omega
        have a4 : ¬ i - 16 < 8 := by omega
        simp [h1, h2, h3, hi, e, a1, a2, a3, a4]
theorem openF_frame (p r : List UInt8) (h : p.length ≤ 1048576) : openF (frameB p ++ r) = some (p, r) := by
  have e : frameB p ++ r = vb (2 * p.length) ++ (le4 (crcS p) ++ (p ++ r)) := by simp [frameB]
  have hl4 : (le4 (crcS p)).length = 4 := rfl
  unfold openF
  rw [e, numR_vb _ _ (by omega)]
  unfold openQ
  dsimp only
  have hd4 : (le4 (crcS p) ++ (p ++ r)).drop 4 = p ++ r := List.drop_left' hl4
  have hdn : (le4 (crcS p) ++ (p ++ r)).drop (4 + p.length) = r := by rw [← List.drop_drop, hd4]; exact List.drop_left' rfl
  have htk : (p ++ r).take p.length = p := List.take_left' rfl
  rw [if_pos ⟨rfl, by omega, by omega, by rw [List.length_append, hl4]; omega, by rw [List.length_append, List.length_append, hl4]; omega⟩, Int.toNat_natCast, hd4, htk, le32_le4, if_pos rfl, hdn]
theorem scanF_seal (r : List UInt8) : ∀ ps : List (List UInt8), (∀ p ∈ ps, p.length ≤ 1048576) → scanF (sealB ps ++ r) = (ps ++ (scanF r).1, (sealB ps).length + (scanF r).2)
  | [], _ => by simp [sealB]
  | p :: ps, h => by
    have e : sealB (p :: ps) ++ r = frameB p ++ (sealB ps ++ r) := by simp [sealB]
    have e2 : (sealB (p :: ps)).length = (frameB p).length + (sealB ps).length := by simp [sealB]
    rw [e, scanF_some (openF_frame p _ (h p (by simp))), scanF_seal r ps fun q hq => h q (by simp [hq]), e2]
    simp only [List.cons_append, List.length_append]
    congr 1; omega
theorem scanF_sealed (ps : List (List UInt8)) (h : ∀ p ∈ ps, p.length ≤ 1048576) : scanF (sealB ps) = (ps, (sealB ps).length) := by
  have := scanF_seal [] ps h
  rw [List.append_nil, scanF_none openF_nil] at this
  simpa using this
theorem numR_end (n : Nat) (h : n ≤ 1000000000000000000) : numR (vb (2 * n), false) = ((n : Int), ([], false)) := by
  have := numR_vb n [] h
  rwa [List.append_nil] at this
theorem textR_one (t r : List UInt8) (h : t.length ≤ 1000000000000000000) : textR (vb (2 * t.length) ++ (t ++ r), false) = (t, (r, false)) := by
  unfold textR
  rw [numR_vb _ _ h]
  dsimp only
  rw [if_neg (by decide), if_pos ⟨by omega, by rw [List.length_append]; omega⟩, Int.toNat_natCast, List.take_left' rfl, List.drop_left' rfl]
/-- A first segment's head. -/
theorem readS_base (base : List UInt8) (r : List UInt8) (h : base.length ≤ 524288) : readS (baseB base ++ r) = ⟨baseB base ++ r, 1, base, 0⟩ := by
  obtain ⟨h1, h2⟩ := head_len base h
  have hlen : (numsB [1] ++ textB [base]).length ≤ 1048576 := by rw [List.length_append]; omega
  have hb : baseB base = frameB (numsB [1] ++ textB [base]) := by simp [baseB, sealB]
  unfold readS
  rw [show openF (baseB base ++ r) = some (numsB [1] ++ textB [base], r) by rw [hb]; exact openF_frame _ _ hlen]
  dsimp only
  have e : numsB [1] ++ textB [base] = vb (2 * 1) ++ (vb (2 * base.length) ++ (base ++ [])) := by rw [numsB_one]; simp [textB]
  rw [e, numR_vb 1 _ (by omega)]
  dsimp only
  rw [if_pos (by decide), textR_one _ _ (by omega)]
  rfl
theorem readS_first (r : List UInt8) : readS (sealB [numsB [1, 0]] ++ r) = ⟨sealB [numsB [1, 0]] ++ r, 1, [], 0⟩ := by
  have h := readS_base [] r (by simp)
  have e : baseB [] = sealB [numsB [1, 0]] := by
    unfold baseB
    have : numsB [1] ++ textB [[]] = numsB [1, 0] := by simp [numsB, textB]
    rw [this]
  rw [e] at h; exact h
/-- The head of one that goes on. -/
theorem readS_on (n : Nat) (r : List UInt8) (h : n ≤ 1000000000) : readS (sealB [numsB [2, n]] ++ r) = ⟨sealB [numsB [2, n]] ++ r, 2, [], n⟩ := by
  have hmax : maxS = 140737488355328 := rfl
  have hl := (numsB_len2 2 n (by omega) (by omega)).1
  have hb : sealB [numsB [2, n]] = frameB (numsB [2, n]) := by simp [sealB]
  unfold readS
  rw [show openF (sealB [numsB [2, n]] ++ r) = some (numsB [2, n], r) by rw [hb]; exact openF_frame _ _ (by omega)]
  dsimp only
  have e : numsB [2, n] = vb (2 * 2) ++ vb (2 * n) := by simp [numsB]
  rw [e, numR_vb 2 _ (by omega)]
  dsimp only
  rw [if_neg (by decide), if_pos (by decide), numR_end n (by omega)]
  rfl
end Go.Proofs.YtcmdmhmgffjknaaGreatDoor

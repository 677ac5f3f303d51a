/- What was written is read again: plain facts. -/
import Derived.Test.YtcmdmhmgffjknaaGreatDoorA2
import Derived.Test.YtcmdmhmgffjknaaGreatDoorFacts
import Derived.Test.YtcmdmhmgffjknaaGreatDoorXRow
import Derived.Test.YtcmdmhmgffjknaaGreatDoorRows
import Derived.Lay
import Derived.Stop.LaidErr
import Derived.Lib.LaidTab
namespace Go.Proofs.YtcmdmhmgffjknaaGreatDoor
open Go.Sx
set_option linter.unusedVariables false

theorem zstep_nat (k : Nat) (acc : BitVec 64) (c : UInt8) (h1 : acc.toNat < 2 ^ (7 * k)) (h2 : (c.toNat % 128) * 2 ^ (7 * k) < 2 ^ 64) : (zstep k acc c).toNat = acc.toNat + (c.toNat % 128) * 2 ^ (7 * k) := by
 have hm : ((c.toBitVec &&& 127#8).setWidth 64).toNat = c.toNat % 128 := by
  rw [BitVec.toNat_setWidth, BitVec.toNat_and]
  have : c.toBitVec.toNat &&& (127#8).toNat = c.toNat % 128 := Nat.and_two_pow_sub_one_eq_mod c.toNat 7
  rw [this]; omega
 unfold zstep
 rw [BitVec.toNat_or, BitVec.toNat_shiftLeft, hm, Nat.shiftLeft_eq, Nat.mod_eq_of_lt h2, ← Nat.shiftLeft_eq, Nat.or_comm, ← Nat.shiftLeft_add_eq_or_of_lt h1, Nat.shiftLeft_eq]
 omega
theorem numGo_vb (r : List UInt8) : ∀ (m z k : Nat) (acc : BitVec 64), z ≤ m → acc.toNat < 2 ^ (7 * k) → z * 2 ^ (7 * k) < 2 ^ 63 → (k = 0 ∨ 0 < z) → ∃ w, numGo k acc (vb z ++ r) = some (w, r) ∧ w.toNat = acc.toNat + z * 2 ^ (7 * k) := by
 intro m
 induction m using Nat.strongRecOn with
 | _ m ih =>
  intro z k acc hz ha hb h0
  have h9 : k = 9 → z = 0 := fun h => by subst h; omega
  by_cases h : z ≤ 127
  ·rw [vb_le h]
   have hc : (UInt8.ofNat z).toNat = z := by simp; omega
   refine ⟨zstep k acc (UInt8.ofNat z), ?_, ?_⟩
   ·rw [List.singleton_append, numGo, if_neg (by rw [hc]; omega), if_neg (by rw [cont_iff, hc]; omega), if_neg (by rw [hc]; omega)]
   ·rw [zstep_nat k acc _ ha (by rw [hc, Nat.mod_eq_of_lt (by omega)]; omega), hc, Nat.mod_eq_of_lt (by omega)]
  ·rw [vb_gt h]
   have hc : (UInt8.ofNat (z % 128 + 128)).toNat = z % 128 + 128 := by simp; omega
   have hc2 : (z % 128 + 128) % 128 = z % 128 := by omega
   have hle : (z % 128) * 2 ^ (7 * k) ≤ z * 2 ^ (7 * k) := Nat.mul_le_mul_right _ (by omega)
   have hs := zstep_nat k acc (UInt8.ofNat (z % 128 + 128)) ha (by rw [hc, hc2]; omega)
   rw [hc, hc2] at hs
   have hp : 2 ^ (7 * (k + 1)) = 128 * 2 ^ (7 * k) := by rw [show 7 * (k + 1) = 7 * k + 7 by omega, Nat.pow_add]; omega
   have hz2 : z / 128 * (128 * 2 ^ (7 * k)) + z % 128 * 2 ^ (7 * k) = z * 2 ^ (7 * k) := by
    rw [← Nat.mul_assoc, ← Nat.add_mul]; congr 1; omega
   obtain ⟨w, e1, e2⟩ := ih (z / 128) (by omega) (z / 128) (k + 1) (zstep k acc (UInt8.ofNat (z % 128 + 128))) (Nat.le_refl _) (by
    rw [hs, hp]
    have : (z % 128) * 2 ^ (7 * k) ≤ 127 * 2 ^ (7 * k) := Nat.mul_le_mul_right _ (by omega)
    omega) (by rw [hp]; omega) (.inr (by omega))
   refine ⟨w, ?_, by rw [e2, hs, hp]; omega⟩
   rw [List.cons_append, numGo, if_neg (by omega), if_pos (by rw [cont_iff, hc]; omega)]
   exact e1
theorem numR_vb (n : Nat) (r : List UInt8) (h : n ≤ 1000000000000000000) : numR (vb (2 * n) ++ r, false) = ((n : Int), (r, false)) := by
 obtain ⟨w, h1, h2⟩ := numGo_vb r (2 * n) (2 * n) 0 0 (Nat.le_refl _) (by decide) (by omega) (.inl rfl)
 have h2 : w.toNat = 2 * n := by rw [h2]; simp
 have hz : zig w = n := by
  unfold zig
  have h3 : (w &&& 1#64).toNat = w.toNat % 2 := by rw [BitVec.toNat_and]; exact Nat.and_one_is_mod _
  rw [if_pos (by omega), BitVec.toNat_ushiftRight, Nat.shiftRight_eq_div_pow]
  omega
 unfold numR
 rw [if_neg (by simp)]
 dsimp only
 rw [h1]
 show (zig w, r, false) = _
 rw [hz]
theorem le32_le4 (q : BitVec 32) (x : List UInt8) : le32 (le4 q ++ x) = q := by
 show (((q.setWidth 8).setWidth 32 ||| ((q >>> 8).setWidth 8).setWidth 32 <<< 8) ||| ((q >>> 16).setWidth 8).setWidth 32 <<< 16) ||| ((q >>> 24).setWidth 8).setWidth 32 <<< 24 = q
 apply BitVec.eq_of_getLsbD_eq
 intro i hi
 simp only [BitVec.getLsbD_or, BitVec.getLsbD_shiftLeft, BitVec.getLsbD_setWidth, BitVec.getLsbD_ushiftRight]
 by_cases h1 : i < 8
 ·have b1 : i < 16 := by omega
  have b2 : i < 24 := by omega
  simp [h1, hi, b1, b2]
 ·by_cases h2 : i < 16
  ·have e : 8 + (i - 8) = i := by omega
   have a1 : i - 8 < 8 := by omega
   have a2 : i - 8 < 32 := by omega
   have b2 : i < 24 := by omega
   simp [h1, h2, hi, e, a1, a2, b2]
  ·by_cases h3 : i < 24
   ·have e : 16 + (i - 16) = i := by omega
    have a1 : i - 16 < 8 := by omega
    have a2 : i - 16 < 32 := by omega
    have a3 : ¬ i - 8 < 8 := by omega
    simp [h1, h2, h3, hi, e, a1, a2, a3]
   ·have e : 24 + (i - 24) = i := by omega
    have a1 : i - 24 < 8 := by omega
    have a2 : i - 24 < 32 := by omega
    have a3 : ¬ i - 8 < 8 := by omega
    have a4 : ¬ i - 16 < 8 := by omega
    simp [h1, h2, h3, hi, e, a1, a2, a3, a4]
theorem openF_frame (p r : List UInt8) (h : p.length ≤ 1048576) : openF (frameB p ++ r) = some (p, r) := by
 have e : frameB p ++ r = vb (2 * p.length) ++ (le4 (crcS p) ++ (p ++ r)) := by simp [frameB]
 have hl4 : (le4 (crcS p)).length = 4 := rfl
 unfold openF
 rw [e, numR_vb _ _ (by omega)]
 unfold openQ
 dsimp only
 have hd4 : (le4 (crcS p) ++ (p ++ r)).drop 4 = p ++ r := List.drop_left' hl4
 have hdn : (le4 (crcS p) ++ (p ++ r)).drop (4 + p.length) = r := by rw [← List.drop_drop, hd4]; exact List.drop_left' rfl
 have htk : (p ++ r).take p.length = p := List.take_left' rfl
 rw [if_pos ⟨rfl, by omega, by omega, by rw [List.length_append, hl4]; omega, by rw [List.length_append, List.length_append, hl4]; omega⟩, Int.toNat_natCast, hd4, htk, le32_le4, if_pos rfl, hdn]
theorem scanF_seal (r : List UInt8) : ∀ ps : List (List UInt8), (∀ p ∈ ps, p.length ≤ 1048576) → scanF (sealB ps ++ r) = (ps ++ (scanF r).1, (sealB ps).length + (scanF r).2)
 | [], _ => by simp [sealB]
 | p :: ps, h => by
  have e : sealB (p :: ps) ++ r = frameB p ++ (sealB ps ++ r) := by simp [sealB]
  have e2 : (sealB (p :: ps)).length = (frameB p).length + (sealB ps).length := by simp [sealB]
  rw [e, scanF_some (openF_frame p _ (h p (by simp))), scanF_seal r ps fun q hq => h q (by simp [hq]), e2]
  simp only [List.cons_append, List.length_append]
  congr 1; omega
theorem scanF_sealed (ps : List (List UInt8)) (h : ∀ p ∈ ps, p.length ≤ 1048576) : scanF (sealB ps) = (ps, (sealB ps).length) := by
 have := scanF_seal [] ps h
 rw [List.append_nil, scanF_none openF_nil] at this
 simpa using this
theorem numR_end (n : Nat) (h : n ≤ 1000000000000000000) : numR (vb (2 * n), false) = ((n : Int), ([], false)) := by
 have := numR_vb n [] h
 rwa [List.append_nil] at this
theorem textR_one (t r : List UInt8) (h : t.length ≤ 1000000000000000000) : textR (vb (2 * t.length) ++ (t ++ r), false) = (t, (r, false)) := by
 unfold textR
 rw [numR_vb _ _ h]
 dsimp only
 rw [if_neg (by decide), if_pos ⟨by omega, by rw [List.length_append]; omega⟩, Int.toNat_natCast, List.take_left' rfl, List.drop_left' rfl]
/-- A first segment's head. -/
theorem readS_base (base : List UInt8) (r : List UInt8) (h : base.length ≤ 524288) : readS (baseB base ++ r) = ⟨baseB base ++ r, 1, base, 0⟩ := by
 obtain ⟨h1, h2⟩ := head_len base h
 have hlen : (numsB [1] ++ textB [base]).length ≤ 1048576 := by rw [List.length_append]; omega
 have hb : baseB base = frameB (numsB [1] ++ textB [base]) := by simp [baseB, sealB]
 unfold readS
 rw [show openF (baseB base ++ r) = some (numsB [1] ++ textB [base], r) by rw [hb]; exact openF_frame _ _ hlen]
 dsimp only
 have e : numsB [1] ++ textB [base] = vb (2 * 1) ++ (vb (2 * base.length) ++ (base ++ [])) := by rw [numsB_one]; simp [textB]
 rw [e, numR_vb 1 _ (by omega)]
 dsimp only
 rw [if_pos (by decide), textR_one _ _ (by omega)]
 rfl
theorem readS_first (r : List UInt8) : readS (sealB [numsB [1, 0]] ++ r) = ⟨sealB [numsB [1, 0]] ++ r, 1, [], 0⟩ := by
 have h := readS_base [] r (by simp)
 have e : baseB [] = sealB [numsB [1, 0]] := by
  unfold baseB
  have : numsB [1] ++ textB [[]] = numsB [1, 0] := by simp [numsB, textB]
  rw [this]
 rw [e] at h; exact h
/-- The head of one that goes on. -/
theorem readS_on (n : Nat) (r : List UInt8) (h : n ≤ 1000000000) : readS (sealB [numsB [2, n]] ++ r) = ⟨sealB [numsB [2, n]] ++ r, 2, [], n⟩ := by
 have hmax : maxS = 140737488355328 := rfl
 have hl := (numsB_len2 2 n (by omega) (by omega)).1
 have hb : sealB [numsB [2, n]] = frameB (numsB [2, n]) := by simp [sealB]
 unfold readS
 rw [show openF (sealB [numsB [2, n]] ++ r) = some (numsB [2, n], r) by rw [hb]; exact openF_frame _ _ (by omega)]
 dsimp only
 have e : numsB [2, n] = vb (2 * 2) ++ vb (2 * n) := by simp [numsB]
 rw [e, numR_vb 2 _ (by omega)]
 dsimp only
 rw [if_neg (by decide), if_pos (by decide), numR_end n (by omega)]
 rfl
end Go.Proofs.YtcmdmhmgffjknaaGreatDoor
/- The answers that the law asks for first: values. -/
namespace Go.Proofs.YtcmdmhmgffjknaaGreatDoor
open Go.Sx
set_option linter.unusedVariables false

def n1 : List UInt8 := [108, 111, 103, 46, 49]
def n2 : List UInt8 := [108, 111, 103, 46, 50]
def n3 : List UInt8 := [108, 111, 103, 46, 51]
theorem name1 : nameB 1 = n1 := by unfold nameB; rw [show ((1 : Nat) : Int) = ((1 : Nat) : Int) from rfl, itoa_nat, Lib.decDigits_one (by omega)]; rfl
theorem name2 : nameB 2 = n2 := by unfold nameB; rw [itoa_nat, Lib.decDigits_one (by omega)]; rfl
theorem name3 : nameB 3 = n3 := by unfold nameB; rw [itoa_nat, Lib.decDigits_one (by omega)]; rfl
theorem fine1 : fineB n1 = true := by decide
theorem fine2 : fineB n2 = true := by decide
theorem fine3 : fineB n3 = true := by decide
theorem num1 : numB n1 = 1 := by rw [← name1]; exact num_name 1 (by omega) (by omega)
theorem num2 : numB n2 = 2 := by rw [← name2]; exact num_name 2 (by omega) (by omega)
theorem mn21 : min (2 : Int) 1 = 1 := by decide
theorem mx21 : max (-1 - 1 : Int) (-1) = -1 := by decide
def L0 : Lg := ⟨0, 0, false, 0⟩
theorem openL_empty : openL emptyD = (0, some (L0, [], []), emptyD) := by
 have hN : namesD emptyD logP = [] := by decide
 unfold openL tailD chainD
 rw [hN]
 rfl
def s1 : List UInt8 := sealB [numsB [1, 0]] ++ sealB [[97, 98]]
def s2 : List UInt8 := baseB [120]
def s3 : List UInt8 := sealB [[99], []]
theorem vb_one (k : Nat) (h : k ≤ 127) : (vb k).length = 1 := by rw [vb_le h]; rfl
theorem s1_len : s1.length = 14 := by
 have e1 : (numsB [1, 0]).length = 2 := by simp [numsB, vb_le]
 unfold s1 sealB
 simp only [List.flatMap_cons, List.flatMap_nil, List.append_nil, List.length_append, frameB_len, e1]
 rw [vb_one _ (by omega), vb_one _ (by simp)]
 rfl
theorem s2_len : s2.length = 8 := by
 have e1 : (numsB [1] ++ textB [[120]]).length = 3 := by simp [numsB, textB, vb_le]
 unfold s2 baseB sealB
 simp only [List.flatMap_cons, List.flatMap_nil, List.append_nil, frameB_len, e1]
 rw [vb_one _ (by omega)]
theorem s3_len : s3.length = 11 := by
 unfold s3 sealB
 simp only [List.flatMap_cons, List.flatMap_nil, List.append_nil, List.length_append, frameB_len]
 rw [vb_one _ (by simp), vb_one _ (by simp)]
 rfl
def D1 : Dk := ⟨[(n1, ⟨s1, 14, true⟩)], -1, false, 2⟩
def D2 : Dk := ⟨[(n2, ⟨s2, 8, true⟩)], -1, false, 5⟩
def D3 : Dk := ⟨[(n2, ⟨s2 ++ s3, 19, true⟩)], -1, false, 7⟩
theorem write_empty (s : List UInt8) (h : s.length ≤ 1048576) : writeD emptyD n1 s = (0, ⟨[(n1, ⟨s, s.length, true⟩)], -1, false, 2⟩) := by
 have h1 : ¬ 1048576 < s.length := by omega
 simp [writeD, appendD, syncD, knownD, readyE, fine1, emptyD, getF, setF, stepD, h1, mn21, mx21]
theorem app1_val : appendL L0 emptyD [[97, 98]] = (0, ⟨1, 14, false, 1⟩, D1) := by
 have hl := s1_len
 have e : (sealB [[97, 98]]).length = 7 := by
  unfold sealB
  simp only [List.flatMap_cons, List.flatMap_nil, List.append_nil, frameB_len]
  rw [vb_one _ (by simp)]; rfl
 have hne : sealB [[97, 98]] ≠ [] := fun h => by rw [h] at e; cases e
 have hh := (numsB_len2 1 0 (by decide) (by decide)).2
 have hf : fullB (numsB [1, 0]) (sealB [[97, 98]]) = s1 := by unfold fullB; rw [if_neg hh]; rfl
 have hp : planL L0 = some (numsB [1, 0], 1, 0, false) := by unfold planL; rw [if_pos (show L0.number = 0 from rfl)]
 have hw := write_empty s1 (by omega)
 unfold appendL
 rw [if_neg (by simp), if_neg (by omega), if_neg hne, hp]
 dsimp only
 rw [hf, name1, hw]
 dsimp only
 rw [if_neg (by decide), hl]
 rfl
theorem lay_val : layL ⟨1, 14, false, 1⟩ D1 [120] = (0, ⟨2, 8, false, 2⟩, D2) := by
 have hl := s2_len
 have hw : writeD D1 n2 s2 = (0, ⟨[(n1, ⟨s1, 14, true⟩), (n2, ⟨s2, 8, true⟩)], -1, false, 4⟩) := by
  have h1 : ¬ 1048576 < s2.length := by omega
  have hn : ¬ n1 = n2 := by decide
  have hn2 : ¬ n2 < n1 := by decide
  simp [writeD, appendD, syncD, knownD, readyE, fine2, D1, getF, setF, stepD, h1, hn, hn2, hl, mn21, mx21]
 have hr : removeD ⟨[(n1, ⟨s1, 14, true⟩), (n2, ⟨s2, 8, true⟩)], -1, false, 4⟩ n1 = (0, D2) := by
  have hn : ¬ n2 = n1 := by decide
  simp [removeD, knownD, readyE, fine1, D2, getF, delF, stepD, hn, mn21, mx21]
 have hb : baseB [120] = s2 := rfl
 unfold layL
 rw [if_neg (by simp), if_neg (by decide)]
 dsimp only
 rw [name2, hb, hw]
 dsimp only
 rw [if_neg (by decide)]
 show ((remD _ 1 1).1, _, (remD _ 1 1).2) = _
 rw [remD, name1, hr, if_neg (by decide), remD, hl]
theorem app2_val : appendL ⟨2, 8, false, 2⟩ D2 [[99], []] = (0, ⟨2, 19, false, 2⟩, D3) := by
 have hl := s3_len
 have hl2 := s2_len
 have hne : sealB [[99], []] ≠ [] := fun h => by have : s3 = [] := h; rw [this] at hl; cases hl
 have hp : planL ⟨2, 8, false, 2⟩ = some ([], 2, 8, false) := by unfold planL; rw [if_neg (by decide), if_neg (by decide)]
 have hf : fullB [] (sealB [[99], []]) = s3 := by unfold fullB; rw [if_pos rfl]; rfl
 have h6 : ¬ 65536 < (sealB [[99], []]).length := by have : (sealB [[99], []]).length = s3.length := rfl; omega
 have hw : writeD D2 n2 s3 = (0, D3) := by
  have h1 : ¬ 1048576 < s3.length + s2.length := by omega
  have h2 : s2.length + s3.length = 19 := by omega
  simp [writeD, appendD, syncD, knownD, readyE, fine2, D2, D3, getF, setF, stepD, h1, h2, mn21, mx21]
 unfold appendL
 rw [if_neg (by simp), if_neg h6, if_neg hne, hp]
 dsimp only
 rw [hf, name2, hw]
 dsimp only
 rw [if_neg (by decide), hl]
 rfl
theorem open3_val : ∃ L D', openL D3 = (0, some (L, [120], [[99], []]), D') := by
 have hl := s3_len
 have hl2 := s2_len
 have hN : namesD D3 logP = [n2] := by
  unfold namesD
  rw [if_neg (by simp [D3])]
  show [n2].filter _ = [n2]
  decide
 have hr : readD D3 n2 = (s2 ++ s3, true) := by simp [readD, D3, getF]
 have hs : readS (s2 ++ s3) = ⟨s2 ++ s3, 1, [120], 0⟩ := readS_base [120] s3 (by simp)
 have hF : firstL D3 [n2] = (2, ⟨s2 ++ s3, 1, [120], 0⟩) := by
  show stepF D3 (0, zeroSg) n2 = _
  unfold stepF
  rw [hr, num2]
  dsimp only
  rw [hs, if_pos ⟨by omega, rfl⟩]
 have hr3 : (readD D3 (nameB 3)).1 = [] := by
  have hn : ¬ n2 = n3 := by decide
  rw [name3]; simp [readD, D3, getF, hn]
 have hz : readS [] = ⟨[], 0, [], 0⟩ := by unfold readS; rw [openF_nil]
 have hC : chainD D3 = (2, ⟨s2 ++ s3, 1, [120], 0⟩, []) := by
  unfold chainD
  rw [hN, hF, if_pos (by decide)]
  show chainL D3 (999999996 + 1) 2 _ [] = _
  rw [chainL, hr3, hz]
  have hfo : followsF ⟨[], 0, [], 0⟩ ⟨s2 ++ s3, 1, [120], 0⟩ = none := by unfold followsF; rw [if_pos (.inl (by decide))]
  rw [hfo]
 have hsc : scanF (s2 ++ s3) = ([numsB [1] ++ textB [[120]], [99], []], 19) := by
  have e : s2 ++ s3 = sealB [numsB [1] ++ textB [[120]], [99], []] := by simp [s2, s3, baseB, sealB]
  rw [e, scanF_sealed _ (by
   intro p hp
   have e1 : (numsB [1] ++ textB [[120]]).length = 3 := by simp [numsB, textB, vb_le]
   simp only [List.mem_cons, List.not_mem_nil, or_false] at hp
   rcases hp with rfl | rfl | rfl
   ·omega
   ·simp
   ·simp), ← e, List.length_append]
  rw [hl, hl2]
 have hT : tailD D3 = ([[99], []], 19, decide (19 < (s2 ++ s3).length)) := by
  unfold tailD
  rw [hN, hF, if_pos (by decide), hC]
  dsimp only
  rw [hsc]
  rfl
 have hK : cleanL 2 2 [n2] D3 = (0, D3) := by
  rw [cleanL, num2, if_neg (by omega), cleanL]
 unfold openL
 rw [if_neg (by simp [D3]), hN, hF, hC, hT]
 dsimp only
 rw [hK]
 exact ⟨_, _, rfl⟩
theorem read1_val : readD D1 n1 = (s1, true) := by simp [readD, D1, getF]
theorem read2_val : readD D2 n1 = ([], false) := by
 have hn : ¬ n2 = n1 := by decide
 simp [readD, D2, getF, hn]
end Go.Proofs.YtcmdmhmgffjknaaGreatDoor
/- The law's functions: 7 (awake). -/
namespace Go.Proofs.YtcmdmhmgffjknaaGreatDoor
open Go.Sx
set_option linter.unusedVariables false

theorem awake_tr {W0 : World} (hL : Laid W0) (Fr : List HP) : Tr W0 Tryz.prog 7 [] Fr (fun v Rs' => v = .bool true ∧ Rs' = Fr) := by
 have hs1 := s1_len
 obtain ⟨L4, D4, hop3⟩ := open3_val
 refine Entry.tr (N := 103) (rs := [.tmp 0]) ⟨_, Tryz.func7, rfl, by kernel_rfl, rfl, rfl⟩ rfl ?_
 refine XC.seq fun K1 hK1 => ?_
 refine XC.region ?_
 refine x_v (r_as rfl) rfl ?_
 refine XL.nil ?_
 refine hK1 _ _ ?_
 refine XC.keep [] trivial ?_
 refine XC.seq fun K2 hK2 => ?_
 refine XC.region ?_
 refine x_c (r_call0 (args := []) rfl (new_tr Fr) gS) rfl ?_
 rintro _ _ ⟨d, rfl, hRs⟩
 rw [hRs]
 refine x_v (r_as rfl) rfl ?_
 refine XL.nil ?_
 refine hK2 _ _ ?_
 refine XC.keep [(1, _)] ⟨rfl, trivial⟩ ?_
 refine XC.seq fun K3 hK3 => ?_
 refine XC.region ?_
 refine x_v (r_mv rfl) rfl ?_
 refine x_c (r_call0 (args := [_]) ⟨rfl, rfl⟩ (openl_tr hL d emptyD Fr (by decide)) gS) rfl ?_
 rintro _ _ hop
 unfold OpenV at hop
 rw [openL_empty] at hop
 dsimp only at hop
 obtain ⟨l, Ar, cr, rfl, hRs⟩ := hop
 rw [hRs]
 refine x_v (r_mv rfl) rfl ?_
 refine x_v (r_ex rfl rfl) rfl ?_
 refine x_v (r_ex rfl rfl) rfl ?_
 refine x_v (r_ex rfl rfl) rfl ?_
 refine x_v (r_ex rfl rfl) rfl ?_
 refine x_v (r_as rfl) rfl ?_
 refine x_v (r_as rfl) rfl ?_
 refine x_v (r_as rfl) rfl ?_
 refine x_v (r_as rfl) rfl ?_
 refine XL.nil ?_
 refine hK3 _ _ ?_
 refine XC.keep [(1, _), (2, _), (4, _), (5, _)] ⟨rfl, rfl, rfl, rfl, trivial⟩ ?_
 refine XC.seq fun K4 hK4 => ?_
 refine XC.seq fun K5 hK5 => ?_
 refine XC.region ?_
 refine x_v (r_mv rfl) rfl ?_
 refine x_v (r_ne rfl rfl) rfl ?_
 refine x_v (r_mv rfl) rfl ?_
 refine XL.splitd 26 rfl (fun hg26 => ?_) (fun hg26 => ?_)
 ·exfalso; omega
 ·refine x_want rfl rfl rfl ?_
  refine x_v (r_mv rfl) rfl ?_
  refine x_want rfl rfl rfl ?_
  refine x_v (r_peq_some Tryz.underlying29 rfl rfl) rfl ?_
  refine x_v (r_pk_f rfl rfl) rfl ?_
  refine x_v (r_mv rfl) rfl ?_
  refine x_want rfl rfl rfl ?_
  refine x_v (r_mv rfl) rfl ?_
  refine x_want rfl rfl rfl ?_
  refine x_v (r_lensl Tryz.underlying22 rfl) rfl ?_
  refine x_want rfl rfl rfl ?_
  refine x_v (r_ne rfl rfl) rfl ?_
  refine x_v (r_pk_f rfl rfl) rfl ?_
  refine XL.nil ?_
  refine hK5 _ _ ?_
  refine XC.keep [(1, _), (2, _), (34, _)] ⟨rfl, rfl, rfl, trivial⟩ ?_
  refine XC.cond_d rfl (fun hc1 => ?_) (fun hc1 => ?_)
  ·exfalso; (first | omega | simp_all)
  ·refine XC.skip ?_
   refine hK4 _ _ ?_
   refine XC.keep [(1, _), (2, _)] ⟨rfl, rfl, trivial⟩ ?_
   refine XC.seq fun K6 hK6 => ?_
   refine XC.region ?_
   refine x_v (r_mv rfl) rfl ?_
   refine x_a (r_bs (vs := [_]) rfl ⟨rfl, rfl⟩ (bs22_1_0 _)) rfl fun b36 => ?_
   refine x_c (r_call0 (args := [_, _]) ⟨rfl, rfl, rfl⟩ (appendl_tr hL l d L0 emptyD (some ⟨b36, 0, none⟩) 1 [[97, 98]] (blk b36 9 [str [97, 98]] :: Fr) (Rdb.of_blk (cs := [str [97, 98]]) (xs := [str [97, 98]]) pK 0 rfl (fun j u hu => by simpa using hu)) (by decide) (by decide) (by decide) (by decide) (by decide)) gS) rfl ?_
   rintro _ _ ⟨hv37, hRs⟩
   rw [app1_val] at hv37 hRs
   dsimp only at hv37 hRs
   subst hv37
   rw [hRs]
   refine x_v (r_as rfl) rfl ?_
   refine XL.nil ?_
   refine hK6 _ _ ?_
   refine XC.keep [(1, _), (2, _), (6, _)] ⟨rfl, rfl, rfl, trivial⟩ ?_
   refine XC.seq fun K7 hK7 => ?_
   refine XC.region ?_
   refine x_v (r_mv rfl) rfl ?_
   refine x_c (r_call0 (args := [_, _]) ⟨rfl, rfl, rfl⟩ (dread_tr d D1 n1 (lgc l d ⟨1, 14, false, 1⟩ :: Fr)) gS) rfl ?_
   rintro _ _ ⟨hv40, hRs⟩
   rw [read1_val] at hv40
   dsimp only at hv40
   subst hv40
   rw [hRs]
   refine x_v (r_mv rfl) rfl ?_
   refine x_v (r_ex rfl rfl) rfl ?_
   refine x_v (r_ex rfl rfl) rfl ?_
   refine x_v (r_as rfl) rfl ?_
   refine x_v (r_as rfl) rfl ?_
   refine XL.nil ?_
   refine hK7 _ _ ?_
   refine XC.keep [(1, _), (2, _), (6, _), (7, _)] ⟨rfl, rfl, rfl, rfl, trivial⟩ ?_
   refine XC.seq fun K8 hK8 => ?_
   refine XC.region ?_
   refine x_v (r_mv rfl) rfl ?_
   refine x_c (r_call0 (args := [_, _]) ⟨rfl, rfl, rfl⟩ (layl_tr hL l d ⟨1, 14, false, 1⟩ D1 [120] Fr (by decide) (by decide) (by decide)) gS) rfl ?_
   rintro _ _ ⟨hv44, hRs⟩
   rw [lay_val] at hv44 hRs
   dsimp only at hv44 hRs
   subst hv44
   rw [hRs]
   refine x_v (r_as rfl) rfl ?_
   refine XL.nil ?_
   refine hK8 _ _ ?_
   refine XC.keep [(1, _), (2, _), (6, _), (7, _), (9, _)] ⟨rfl, rfl, rfl, rfl, rfl, trivial⟩ ?_
   refine XC.seq fun K9 hK9 => ?_
   refine XC.region ?_
   refine x_v (r_mv rfl) rfl ?_
   refine x_c (r_call0 (args := [_, _]) ⟨rfl, rfl, rfl⟩ (dread_tr d D2 n1 (lgc l d ⟨2, 8, false, 2⟩ :: Fr)) gS) rfl ?_
   rintro _ _ ⟨hv47, hRs⟩
   rw [read2_val] at hv47
   dsimp only at hv47
   subst hv47
   rw [hRs]
   refine x_v (r_mv rfl) rfl ?_
   refine x_v (r_ex rfl rfl) rfl ?_
   refine x_v (r_ex rfl rfl) rfl ?_
   refine x_v (r_as rfl) rfl ?_
   refine x_v (r_as rfl) rfl ?_
   refine XL.nil ?_
   refine hK9 _ _ ?_
   refine XC.keep [(1, _), (2, _), (6, _), (7, _), (9, _), (11, _)] ⟨rfl, rfl, rfl, rfl, rfl, rfl, trivial⟩ ?_
   refine XC.seq fun K10 hK10 => ?_
   refine XC.region ?_
   refine x_v (r_mv rfl) rfl ?_
   refine x_a (r_bs (vs := [_, _]) rfl ⟨rfl, rfl, rfl⟩ (bs22_2_0_1 _ _)) rfl fun b51 => ?_
   refine x_c (r_call0 (args := [_, _]) ⟨rfl, rfl, rfl⟩ (appendl_tr hL l d ⟨2, 8, false, 2⟩ D2 (some ⟨b51, 0, none⟩) 2 [[99], []] (blk b51 9 [str [99], str []] :: Fr) (Rdb.of_blk (cs := [str [99], str []]) (xs := [str [99], str []]) pK 0 rfl (fun j u hu => by simpa using hu)) (by decide) (by decide) (by decide) (by decide) (by decide)) gS) rfl ?_
   rintro _ _ ⟨hv52, hRs⟩
   rw [app2_val] at hv52 hRs
   dsimp only at hv52 hRs
   subst hv52
   rw [hRs]
   refine x_v (r_as rfl) rfl ?_
   refine XL.nil ?_
   refine hK10 _ _ ?_
   refine XC.keep [(1, _), (2, _), (6, _), (7, _), (9, _), (11, _), (12, _)] ⟨rfl, rfl, rfl, rfl, rfl, rfl, rfl, trivial⟩ ?_
   refine XC.seq fun K11 hK11 => ?_
   refine XC.region ?_
   refine x_v (r_mv rfl) rfl ?_
   refine x_c (r_call0 (args := [_]) ⟨rfl, rfl⟩ (openl_tr hL d D3 (lgc l d ⟨2, 19, false, 2⟩ :: Fr) (by decide)) gS) rfl ?_
   rintro _ _ hop
   unfold OpenV at hop
   rw [hop3] at hop
   dsimp only at hop
   obtain ⟨l4, A4, c4, rfl, hRs⟩ := hop
   rw [hRs]
   refine x_v (r_mv rfl) rfl ?_
   refine x_v (r_ex rfl rfl) rfl ?_
   refine x_v (r_ex rfl rfl) rfl ?_
   refine x_v (r_ex rfl rfl) rfl ?_
   refine x_v (r_ex rfl rfl) rfl ?_
   refine x_v (r_as rfl) rfl ?_
   refine x_v (r_as rfl) rfl ?_
   refine x_v (r_as rfl) rfl ?_
   refine x_v (r_as rfl) rfl ?_
   refine XL.nil ?_
   refine hK11 _ _ ?_
   refine XC.keep [(2, _), (4, _), (6, _), (7, _), (9, _), (11, _), (12, _), (14, _), (15, _)] ⟨rfl, rfl, rfl, rfl, rfl, rfl, rfl, rfl, rfl, trivial⟩ ?_
   refine XC.seq fun K12 hK12 => ?_
   refine XC.region ?_
   refine x_v (r_mv rfl) rfl ?_
   refine x_v (r_eq rfl rfl) rfl ?_
   refine x_v (r_mv rfl) rfl ?_
   refine XL.splitd 62 rfl (fun hg62 => ?_) (fun hg62 => ?_)
   ·refine x_want rfl rfl rfl ?_
    refine x_v (r_mv rfl) rfl ?_
    refine x_want rfl rfl rfl ?_
    refine x_v (r_eq rfl rfl) rfl ?_
    refine x_v (r_pk_t rfl rfl) rfl ?_
    refine x_v (r_mv rfl) rfl ?_
    refine XL.splitd 66 rfl (fun hg66 => ?_) (fun hg66 => ?_)
    ·refine x_want rfl rfl rfl ?_
     refine x_v (r_mv rfl) rfl ?_
     refine x_want rfl rfl rfl ?_
     refine x_v (r_eq rfl rfl) rfl ?_
     refine x_v (r_pk_t rfl rfl) rfl ?_
     refine x_v (r_mv rfl) rfl ?_
     refine XL.splitd 70 rfl (fun hg70 => ?_) (fun hg70 => ?_)
     ·refine x_want rfl rfl rfl ?_
      refine x_v (r_mv rfl) rfl ?_
      refine x_want rfl rfl rfl ?_
      refine x_v (r_lens Tryz.underlying9 rfl) rfl ?_
      refine x_want rfl rfl rfl ?_
      refine x_v (r_eq rfl rfl) rfl ?_
      refine x_v (r_pk_t rfl rfl) rfl ?_
      refine x_v (r_mv rfl) rfl ?_
      refine XL.splitd 75 rfl (fun hg75 => ?_) (fun hg75 => ?_)
      ·refine x_want rfl rfl rfl ?_
       refine x_v (r_mv rfl) rfl ?_
       refine x_want rfl rfl rfl ?_
       refine x_v (r_not rfl) rfl ?_
       refine x_v (r_pk_t rfl rfl) rfl ?_
       refine x_v (r_mv rfl) rfl ?_
       refine XL.split 79 rfl (fun hg79 => ?_) (fun hg79 => ?_)
       ·refine x_want rfl rfl rfl ?_
        refine x_v (r_mv rfl) rfl ?_
        refine x_want rfl rfl rfl ?_
        refine x_c (r_call0 (args := [_]) ⟨rfl, rfl⟩ (segment_tr l d ⟨2, 19, false, 2⟩ (sl A4 [[99], []].length c4 9 1 (cells sv [[99], []]) :: Fr)) gS) rfl ?_
        rintro _ _ ⟨rfl, hRs⟩
        rw [hRs]
        refine x_want rfl rfl rfl ?_
        refine x_v (r_eq rfl rfl) rfl ?_
        refine x_v (r_pk_t rfl rfl) rfl ?_
        refine x_v (r_mv rfl) rfl ?_
        refine XL.splitd 84 rfl (fun hg84 => ?_) (fun hg84 => ?_)
        ·refine x_want rfl rfl rfl ?_
         refine x_v (r_mv rfl) rfl ?_
         refine x_want rfl rfl rfl ?_
         refine x_v (r_seq rfl rfl) rfl ?_
         refine x_v (r_pk_t rfl rfl) rfl ?_
         refine x_v (r_mv rfl) rfl ?_
         refine XL.splitd 88 rfl (fun hg88 => ?_) (fun hg88 => ?_)
         ·refine x_want rfl rfl rfl ?_
          refine x_v (r_mv rfl) rfl ?_
          refine x_want rfl rfl rfl ?_
          refine x_v (r_lensl Tryz.underlying22 rfl) rfl ?_
          refine x_want rfl rfl rfl ?_
          refine x_v (r_eq rfl rfl) rfl ?_
          refine x_v (r_pk_t rfl rfl) rfl ?_
          refine x_v (r_mv rfl) rfl ?_
          refine XL.splitd 93 rfl (fun hg93 => ?_) (fun hg93 => ?_)
          ·refine x_want rfl rfl rfl ?_
           refine x_v (r_mv rfl) rfl ?_
           refine x_want rfl rfl rfl ?_
           refine XL.slnn (pK : Pick _ (sl A4 [[99], []].length c4 9 1 (cells sv [[99], []])) _) fun hl hA => ?_
           obtain ⟨g, rfl⟩ := hA (by decide)
           have hrN := Rdb.of_sl (W0 := W0) (pK : Pick (sl (some ⟨g, 0, none⟩) [[99], []].length c4 9 1 (cells sv [[99], []]) :: Fr) (sl (some ⟨g, 0, none⟩) [[99], []].length c4 9 1 (cells sv [[99], []])) _) hl (fun _ => ⟨g, rfl⟩)
           obtain ⟨g2, o2, he2, hat⟩ := hrN.at_ (by decide)
           injection he2 with he2
           injection he2 with hg2 ho2
           subst hg2
           subst ho2
           refine x_v (r_ia (k := 0) Tryz.underlying22 ty9 rfl rfl (by omega) (by decide)) rfl ?_
           refine x_want rfl rfl rfl ?_
           refine x_v (r_ldr (v := str [99]) ty9 rfl (fun w hw => hat w (Gets.own gS hw) (0 * 1) _ rfl)) rfl ?_
           refine x_want rfl rfl rfl ?_
           refine x_v (r_seq rfl rfl) rfl ?_
           refine x_v (r_pk_t rfl rfl) rfl ?_
           refine x_v (r_mv rfl) rfl ?_
           refine XL.splitd 99 rfl (fun hg99 => ?_) (fun hg99 => ?_)
           ·refine x_want rfl rfl rfl ?_
            refine x_v (r_mv rfl) rfl ?_
            refine x_want rfl rfl rfl ?_
            refine x_v (r_eq rfl rfl) rfl ?_
            refine x_v (r_pk_t rfl rfl) rfl ?_
            refine x_v (r_as rfl) rfl ?_
            refine XL.nil ?_
            refine hK12 _ _ ?_
            refine XC.keep [(0, _)] ⟨rfl, trivial⟩ ?_
            refine XC.ret ?_
            exact fin1 rfl (⟨by simp, rfl⟩) gS
           ·exfalso; exact hg99 rfl
          ·exfalso; (first | omega | exact hg93 rfl | simp at hg93)
         ·exfalso; exact hg88 rfl
        ·exfalso; exact hg84 rfl
       ·exfalso; exact absurd hg79 (by decide)
      ·exfalso; omega
     ·exfalso; omega
    ·exfalso; omega
   ·exfalso; omega
end Go.Proofs.YtcmdmhmgffjknaaGreatDoor
/- The law's functions: 11 (own), 8 (great). -/
namespace Go.Proofs.YtcmdmhmgffjknaaGreatDoor
open Go.Sx
set_option linter.unusedVariables false

/-- An act, in memory. -/
structure Ox where
 kind : Int
 A : Option Addr
 c : Nat
 list : List (List UInt8)
 text : List UInt8
 name : List UInt8
 n : Int
 B : Option Addr
 cb : Nat
 keeps : List Int
def oc (o : Ox) : List Value := [.int .i64 o.kind, .slice o.A o.list.length o.c, str o.text, str o.name, .int .i64 o.n, .slice o.B o.keeps.length o.cb]
theorem oc_len (o : Ox) : (oc o).length = 6 := rfl
/-- What an act that is not too great keeps within. -/
def OpB (o : Ox) : Prop := o.text.length ≤ 16384 ∧ o.list.length ≤ 16384 ∧ (∀ r ∈ o.list, r.length ≤ 16384) ∧ o.keeps.length ≤ 16384
theorem own_tr {W0 : World} (A : Option Addr) (c : Nat) (L : List (List UInt8)) (Fr : List HP) (hr : Rdb W0 Fr A L.length 1 (cells sv L)) (hl : L.length ≤ 8000000000000) : Tr W0 Tryz.prog 11 [.slice A L.length c] Fr (fun v Rs' => ∃ A' c', v = .slice A' L.length c' ∧ Rs' = sl A' L.length c' 9 1 (cells sv L) :: Fr) := by
 refine Tr.mono (Post := fun v Rs' => ∃ A' c', v = .slice A' (0 + L.length) c' ∧ Rs' = sl A' (0 + L.length) c' 9 1 ([] ++ cells sv L) :: Fr) ?_ (fun v Rs' ⟨A', c', h1, h2⟩ => ⟨A', c', by rw [h1, Nat.zero_add], by rw [h2, Nat.zero_add]; rfl⟩)
 refine Entry.tr (N := 6) (rs := [.tmp 2]) ⟨_, Tryz.func11, rfl, by kernel_rfl, rfl, rfl⟩ rfl ?_
 refine XC.seq fun K1 hK1 => ?_
 refine XC.region ?_
 refine x_v (r_as rfl) rfl ?_
 refine XL.nil ?_
 refine hK1 _ _ ?_
 refine XC.keep [(0, _)] ⟨rfl, trivial⟩ ?_
 refine XC.seq fun K2 hK2 => ?_
 refine XC.region ?_
 refine x_a (r_bs (vs := []) rfl rfl bs22_0_) rfl fun b3 => ?_
 refine XL.shut_ (g := b3) (n := 0) (c := 0) (sz := 1) (cur := []) (xs := []) pK (Nat.le_refl _) (Nat.zero_le _) rfl rfl ?_
 refine x_v (r_mv rfl) rfl ?_
 refine x_a (r_app Tryz.underlying22 ty9 rfl (by decide) rfl rfl pK (hr.mono (fun w hw => Gets.own gS hw)) (cells_one' sv_one _) (by unfold maxLen; omega) (by omega)) rfl fun ⟨A5, c5⟩ => ?_
 refine x_v (r_as rfl) rfl ?_
 refine XL.nil ?_
 refine hK2 _ _ ?_
 refine XC.keep [(2, _)] ⟨rfl, trivial⟩ ?_
 refine XC.ret ?_
 exact fin1 rfl (⟨A5, c5, rfl, rfl⟩) gS
theorem great_tr {W0 : World} (A : Option Addr) (c : Nat) (L : List Ox) (Fr : List HP) (hr : Rdb W0 Fr A L.length 6 (cells oc L)) (hn : L.length ≤ maxS) (ho : ∀ o ∈ L, Rdb W0 Fr o.A o.list.length 1 (cells sv o.list) ∧ o.list.length ≤ maxS ∧ o.keeps.length ≤ maxS) :
  Tr W0 Tryz.prog 8 [.slice A L.length c] Fr (fun v Rs' => ∃ b, v = .bool b ∧ Rs' = Fr ∧ (b = false → L.length ≤ 100 ∧ ∀ o ∈ L, OpB o)) := by
 have hmax : maxS = 140737488355328 := rfl
 refine Entry.tr (N := 47) (rs := [.tmp 2]) ⟨_, Tryz.func8, rfl, by kernel_rfl, rfl, rfl⟩ rfl ?_
 refine XC.seq fun K1 hK1 => ?_
 refine XC.region ?_
 refine x_v (r_as rfl) rfl ?_
 refine XL.nil ?_
 refine hK1 _ _ ?_
 refine XC.keep [(0, _)] ⟨rfl, trivial⟩ ?_
 refine XC.seq fun K2 hK2 => ?_
 refine XC.region ?_
 refine x_v (r_as rfl) rfl ?_
 refine XL.nil ?_
 refine hK2 _ _ ?_
 refine XC.keep [(0, _), (3, _)] ⟨rfl, rfl, trivial⟩ ?_
 refine XC.seq fun K3 hK3 => ?_
 refine XC.seq fun K4 hK4 => ?_
 refine XC.region ?_
 refine x_v (r_mv rfl) rfl ?_
 refine x_v (r_lensl Tryz.underlying28 rfl) rfl ?_
 refine x_v (r_mv rfl) rfl ?_
 refine XL.nil ?_
 refine hK4 _ _ ?_
 refine XC.keep [(0, _), (3, _), (8, _), (9, _), (10, _)] ⟨rfl, rfl, rfl, rfl, rfl, trivial⟩ ?_
 refine XC.block ?_
 refine XC.loop (σ := Nat × Nat) (fun q => [(0, .slice A L.length c), (3, .int .i64 (q.2 : Int)), (8, .slice A L.length c), (9, .int .i64 (L.length : Int)), (10, .int .i64 (q.1 : Int))]) (fun q => Fr) (fun q => q.1 ≤ L.length ∧ q.2 ≤ 16384 ∧ ∀ o ∈ L.take q.1, OpB o) (fun q => L.length - q.1) (0, 0) ?_ ⟨rfl, rfl, rfl, rfl, rfl, trivial⟩ gS ?_
 ·exact ⟨Nat.zero_le _, Nat.zero_le _, by simp⟩
 rintro ⟨i, n⟩ ⟨hi, hn2, hI⟩
 dsimp only at hi hn2 hI ⊢
 refine XC.seq fun K5 hK5 => ?_
 refine XC.region ?_
 refine x_v (r_lt rfl rfl) rfl ?_
 refine XL.nil ?_
 refine hK5 _ _ ?_
 refine XC.keep [(0, _), (3, _), (8, _), (9, _), (10, _), (11, _)] ⟨rfl, rfl, rfl, rfl, rfl, rfl, trivial⟩ ?_
 refine XC.seq fun K6 hK6 => ?_
 refine XC.cond_d rfl (fun hc1 => ?_) (fun hc1 => ?_)
 ·refine XC.skip ?_
  refine hK6 _ _ ?_
  refine XC.keep [(0, _), (3, _), (8, _), (9, _), (10, _)] ⟨rfl, rfl, rfl, rfl, rfl, trivial⟩ ?_
  refine XC.seq fun K7 hK7 => ?_
  refine XC.block ?_
  refine XC.seq fun K8 hK8 => ?_
  obtain ⟨o, hx⟩ : ∃ o, L[i]? = some o := ⟨_, List.getElem?_eq_getElem (by omega)⟩
  obtain ⟨hrl, hol, hok⟩ := ho o (List.mem_of_getElem? hx)
  obtain ⟨ob, oo, rfl, hat⟩ := hr.at_ (by omega)
  refine XC.region ?_
  refine x_v (r_ia (k := i) Tryz.underlying28 ty27 rfl rfl (by omega) (by omega)) rfl ?_
  refine x_v (r_ldar (l' := oc o) ty27 rfl rfl (fun w hw j u hu => by rw [Nat.add_assoc]; exact hat w (Gets.own gS hw) (i * 6 + j) u (cells_get oc_len L i o hx j u hu))) rfl ?_
  unfold oc
  refine x_a (r_al ty27 rfl) rfl fun b5 => ?_
  refine x_e (r_st ty27 rfl rfl rfl rfl rfl uD oV) ?_
  refine XL.nil ?_
  refine hK8 _ _ ?_
  refine XC.keep [(0, _), (3, _), (5, _), (8, _), (9, _), (10, _)] ⟨rfl, rfl, rfl, rfl, rfl, rfl, trivial⟩ ?_
  refine XC.seq fun K9 hK9 => ?_
  refine XC.region ?_
  refine x_v (r_mv rfl) rfl ?_
  refine x_v (r_fa fo27_2 rfl) rfl ?_
  refine x_v (r_ld ty9 rfl pK (by rfl)) rfl ?_
  refine x_v (r_lens Tryz.underlying9 rfl) rfl ?_
  refine x_v (r_min rfl rfl) rfl ?_
  refine x_v (r_add rfl rfl (by omega)) rfl ?_
  refine x_v (r_fa fo27_5 rfl) rfl ?_
  refine x_v (r_ld ty25 rfl pK (by rfl)) rfl ?_
  refine x_v (r_lensl Tryz.underlying25 rfl) rfl ?_
  refine x_v (r_add rfl rfl (by omega)) rfl ?_
  refine x_v (r_add rfl rfl (by omega)) rfl ?_
  refine x_v (r_as rfl) rfl ?_
  refine XL.nil ?_
  refine hK9 _ _ ?_
  refine XC.keep [(0, _), (3, _), (5, _), (8, _), (9, _), (10, _)] ⟨rfl, rfl, rfl, rfl, rfl, rfl, trivial⟩ ?_
  refine XC.seq fun K10 hK10 => ?_
  refine XC.seq fun K11 hK11 => ?_
  obtain ⟨n1, hn1⟩ : ∃ n1 : Nat, (n : Int) + (10 + min (o.text.length : Int) 1048576 + (o.keeps.length : Int)) = (n1 : Int) := ⟨n + (10 + min o.text.length 1048576 + o.keeps.length), by omega⟩
  rw [hn1]
  refine XC.region ?_
  refine x_v (r_fa fo27_1 rfl) rfl ?_
  refine x_v (r_ld ty22 rfl pK (by rfl)) rfl ?_
  refine x_v (r_lensl Tryz.underlying22 rfl) rfl ?_
  refine x_v (r_mv rfl) rfl ?_
  refine XL.nil ?_
  refine hK11 _ _ ?_
  refine XC.keep [(0, _), (3, _), (8, _), (9, _), (10, _), (26, _), (27, _), (28, _)] ⟨rfl, rfl, rfl, rfl, rfl, rfl, rfl, rfl, trivial⟩ ?_
  refine XC.block ?_
  refine XC.loop (σ := Nat × Nat) (fun q => [(0, .slice (some ⟨ob, oo, none⟩) L.length c), (3, .int .i64 (q.2 : Int)), (8, .slice (some ⟨ob, oo, none⟩) L.length c), (9, .int .i64 (L.length : Int)), (10, .int .i64 (i : Int)), (26, .slice o.A o.list.length o.c), (27, .int .i64 (o.list.length : Int)), (28, .int .i64 (q.1 : Int))]) (fun q => Fr) (fun q => q.1 ≤ o.list.length ∧ (q.2 ≤ 16384 ∨ q.1 = 0 ∧ q.2 = n1) ∧ n1 + q.1 ≤ q.2 ∧ ∀ r ∈ o.list.take q.1, r.length ≤ 16384) (fun q => o.list.length - q.1) (0, n1) ?_ ⟨rfl, rfl, rfl, rfl, rfl, rfl, rfl, rfl, trivial⟩ gS ?_
  ·exact ⟨Nat.zero_le _, .inr ⟨rfl, rfl⟩, Nat.le_refl _, by simp⟩
  rintro ⟨j, n3⟩ ⟨hj, hn3, hn4, hJ⟩
  dsimp only at hj hn3 hn4 hJ ⊢
  refine XC.seq fun K12 hK12 => ?_
  refine XC.region ?_
  refine x_v (r_lt rfl rfl) rfl ?_
  refine XL.nil ?_
  refine hK12 _ _ ?_
  refine XC.keep [(0, _), (3, _), (8, _), (9, _), (10, _), (26, _), (27, _), (28, _), (29, _)] ⟨rfl, rfl, rfl, rfl, rfl, rfl, rfl, rfl, rfl, trivial⟩ ?_
  refine XC.seq fun K13 hK13 => ?_
  refine XC.cond_d rfl (fun hc2 => ?_) (fun hc2 => ?_)
  ·refine XC.skip ?_
   refine hK13 _ _ ?_
   refine XC.keep [(0, _), (3, _), (8, _), (9, _), (10, _), (26, _), (27, _), (28, _)] ⟨rfl, rfl, rfl, rfl, rfl, rfl, rfl, rfl, trivial⟩ ?_
   refine XC.seq fun K14 hK14 => ?_
   refine XC.block ?_
   refine XC.seq fun K15 hK15 => ?_
   obtain ⟨y, hy⟩ : ∃ y, o.list[j]? = some y := ⟨_, List.getElem?_eq_getElem (by omega)⟩
   obtain ⟨rb, ro, hAe, hatr⟩ := hrl.at_ (by omega)
   rw [hAe]
   refine XC.region ?_
   refine x_v (r_ia (k := j) Tryz.underlying22 ty9 rfl rfl (by omega) (by omega)) rfl ?_
   refine x_v (r_ldr (v := str y) ty9 rfl (fun w hw => hatr w (Gets.own gS hw) (j * 1) _ (by rw [Nat.mul_one]; exact sv_get hy))) rfl ?_
   refine x_v (r_as rfl) rfl ?_
   refine XL.nil ?_
   refine hK15 _ _ ?_
   refine XC.keep [(0, _), (3, _), (7, _), (8, _), (9, _), (10, _), (26, _), (27, _), (28, _)] ⟨rfl, rfl, rfl, rfl, rfl, rfl, rfl, rfl, rfl, trivial⟩ ?_
   refine XC.seq fun K16 hK16 => ?_
   refine XC.region ?_
   refine x_v (r_mv rfl) rfl ?_
   refine x_v (r_mv rfl) rfl ?_
   refine x_v (r_lens Tryz.underlying9 rfl) rfl ?_
   refine x_v (r_min rfl rfl) rfl ?_
   refine x_v (r_add rfl rfl (by omega)) rfl ?_
   refine x_v (r_add rfl rfl (by omega)) rfl ?_
   refine x_v (r_as rfl) rfl ?_
   refine XL.nil ?_
   refine hK16 _ _ ?_
   refine XC.keep [(0, _), (3, _), (8, _), (9, _), (10, _), (26, _), (27, _), (28, _)] ⟨rfl, rfl, rfl, rfl, rfl, rfl, rfl, rfl, trivial⟩ ?_
   refine XC.seq fun K17 hK17 => ?_
   obtain ⟨n5, hn5⟩ : ∃ n5 : Nat, (n3 : Int) + (1 + min (y.length : Int) 1048576) = (n5 : Int) := ⟨n3 + (1 + min y.length 1048576), by omega⟩
   rw [hn5]
   refine XC.region ?_
   refine x_v (r_mv rfl) rfl ?_
   refine x_v (r_gt rfl rfl) rfl ?_
   refine XL.nil ?_
   refine hK17 _ _ ?_
   refine XC.keep [(0, _), (3, _), (8, _), (9, _), (10, _), (26, _), (27, _), (28, _), (39, _)] ⟨rfl, rfl, rfl, rfl, rfl, rfl, rfl, rfl, rfl, trivial⟩ ?_
   refine XC.cond_d rfl (fun hc3 => ?_) (fun hc3 => ?_)
   ·refine XC.seq fun K18 hK18 => ?_
    refine XC.region ?_
    refine x_v (r_as rfl) rfl ?_
    refine XL.nil ?_
    refine hK18 _ _ ?_
    refine XC.keep [(2, _)] ⟨rfl, trivial⟩ ?_
    refine XC.ret ?_
    exact fin1 rfl (⟨true, rfl, rfl, fun h => by cases h⟩) gS
   ·refine XC.skip ?_
    refine hK14 _ _ ?_
    refine XC.keep [(0, _), (3, _), (8, _), (9, _), (10, _), (26, _), (27, _), (28, _)] ⟨rfl, rfl, rfl, rfl, rfl, rfl, rfl, rfl, trivial⟩ ?_
    refine XC.region ?_
    refine x_v (r_add rfl rfl (by omega)) rfl ?_
    refine x_v (r_mv rfl) rfl ?_
    refine XL.nil ?_
    rw [← hAe]
    refine ⟨(j + 1, n5), ?_, ?_, ⟨rfl, rfl, rfl, rfl, rfl, rfl, rfl, rfl, trivial⟩, gS⟩
    ·exact ⟨by dsimp only; omega, .inl (by dsimp only; omega), by dsimp only; omega, fun p hp => by dsimp only at hp; rw [List.take_add_one, hy] at hp; rcases List.mem_append.1 hp with h | h; exact hJ p h; (simp at h; subst h; omega)⟩
    ·dsimp only; omega
  ·refine XC.exit rfl ?_
   refine hK10 _ _ ?_
   refine XC.keep [(0, _), (3, _), (8, _), (9, _), (10, _)] ⟨rfl, rfl, rfl, rfl, rfl, trivial⟩ ?_
   refine XC.seq fun K19 hK19 => ?_
   refine XC.region ?_
   refine x_v (r_mv rfl) rfl ?_
   refine x_v (r_gt rfl rfl) rfl ?_
   refine XL.nil ?_
   refine hK19 _ _ ?_
   refine XC.keep [(0, _), (3, _), (8, _), (9, _), (10, _), (42, _)] ⟨rfl, rfl, rfl, rfl, rfl, rfl, trivial⟩ ?_
   refine XC.cond_d rfl (fun hc4 => ?_) (fun hc4 => ?_)
   ·refine XC.seq fun K20 hK20 => ?_
    refine XC.region ?_
    refine x_v (r_as rfl) rfl ?_
    refine XL.nil ?_
    refine hK20 _ _ ?_
    refine XC.keep [(2, _)] ⟨rfl, trivial⟩ ?_
    refine XC.ret ?_
    exact fin1 rfl (⟨true, rfl, rfl, fun h => by cases h⟩) gS
   ·refine XC.skip ?_
    refine hK7 _ _ ?_
    refine XC.keep [(0, _), (3, _), (8, _), (9, _), (10, _)] ⟨rfl, rfl, rfl, rfl, rfl, trivial⟩ ?_
    refine XC.region ?_
    refine x_v (r_add rfl rfl (by omega)) rfl ?_
    refine x_v (r_mv rfl) rfl ?_
    refine XL.nil ?_
    refine ⟨(i + 1, n3), ?_, ?_, ⟨rfl, rfl, rfl, rfl, rfl, trivial⟩, gS⟩
    ·exact ⟨by dsimp only; omega, by dsimp only; omega, fun p hp => by dsimp only at hp; rw [List.take_add_one, hx] at hp; rcases List.mem_append.1 hp with h | h; exact hI p h; (simp at h; subst h; rw [List.take_of_length_le (by omega)] at hJ; exact ⟨by omega, by omega, hJ, by omega⟩)⟩
    ·dsimp only; omega
 ·refine XC.exit rfl ?_
  refine hK3 _ _ ?_
  refine XC.keep [(0, _)] ⟨rfl, trivial⟩ ?_
  refine XC.seq fun K21 hK21 => ?_
  refine XC.region ?_
  refine x_v (r_mv rfl) rfl ?_
  refine x_v (r_lensl Tryz.underlying28 rfl) rfl ?_
  refine x_v (r_gt rfl rfl) rfl ?_
  refine x_v (r_as rfl) rfl ?_
  refine XL.nil ?_
  refine hK21 _ _ ?_
  refine XC.keep [(2, _)] ⟨rfl, trivial⟩ ?_
  refine XC.ret ?_
  exact fin1 rfl (⟨_, rfl, rfl, fun h => by rw [decide_eq_false_iff_not] at h; rw [List.take_of_length_le (by omega)] at hI; exact ⟨by omega, hI⟩⟩) gS
end Go.Proofs.YtcmdmhmgffjknaaGreatDoor
/- The law's function 3 (WalNil). -/
namespace Go.Proofs.YtcmdmhmgffjknaaGreatDoor
open Go.Sx
set_option linter.unusedVariables false

theorem walnil_tr {W0 : World} (hL : Laid W0) (A : Option Addr) (c : Nat) (L : List (List UInt8)) (base : List UInt8) (hr : Rdb W0 [] A L.length 1 (cells sv L)) (hl : L.length ≤ maxS) : Tr W0 Tryz.prog 3 [.slice A L.length c, str base] [] (fun v Rs' => v = .bool true) := by
 have hmax : maxS = 140737488355328 := rfl
 refine Entry.tr (N := 59) (rs := [.tmp 4]) ⟨_, Tryz.func3, rfl, by kernel_rfl, rfl, rfl⟩ rfl ?_
 refine XC.seq fun K1 hK1 => ?_
 refine XC.region ?_
 refine x_v (r_as rfl) rfl ?_
 refine XL.nil ?_
 refine hK1 _ _ ?_
 refine XC.keep [(0, _), (1, _)] ⟨rfl, rfl, trivial⟩ ?_
 refine XC.seq fun K2 hK2 => ?_
 refine XC.seq fun K3 hK3 => ?_
 refine XC.region ?_
 refine x_c (r_call0 (args := []) rfl (awake_tr hL []) gS) rfl ?_
 rintro _ _ ⟨rfl, hRs⟩
 rw [hRs]
 refine x_v (r_not rfl) rfl ?_
 refine x_v (r_mv rfl) rfl ?_
 refine x_want rfl rfl rfl ?_
 refine x_v (r_mv rfl) rfl ?_
 refine x_want rfl rfl rfl ?_
 refine x_v (r_mv rfl) rfl ?_
 refine x_want rfl rfl rfl ?_
 refine x_v (r_bd (vs := [_, _]) rfl ⟨rfl, rfl, rfl⟩ (bd27_1_2 _ _ _ _)) rfl ?_
 refine x_want rfl rfl rfl ?_
 refine x_a (r_bs (vs := [_]) rfl ⟨rfl, rfl⟩ (bs28_1_0 _ _ _ _ _ _ _ _ _ _)) rfl fun b16 => ?_
 refine x_want rfl rfl rfl ?_
 refine x_c (r_call0 (args := [_]) ⟨rfl, rfl⟩ (great_tr (some ⟨b16, 0, none⟩) 1 [⟨0, A, c, L, base, [], 0, none, 0, []⟩] (blk b16 27 (oc ⟨0, A, c, L, base, [], 0, none, 0, []⟩) :: []) (Rdb.of_blk (cs := oc ⟨0, A, c, L, base, [], 0, none, 0, []⟩) (xs := cells oc [⟨0, A, c, L, base, [], 0, none, 0, []⟩]) pK 0 rfl (fun j u hu => by rw [cells_one] at hu; simpa using hu)) (by simp; omega) (fun o ho => by simp only [List.mem_singleton] at ho; subst ho; exact ⟨hr.mono (fun w hw => Gets.own (Gets.all _) hw), hl, by simp⟩)) gS) rfl ?_
 rintro _ _ ⟨bg, rfl, hRs, hgr⟩
 rw [hRs]
 refine x_v (r_pk_f rfl rfl) rfl ?_
 refine XL.nil ?_
 refine hK3 _ _ ?_
 refine XC.keep [(0, _), (1, _), (18, _)] ⟨rfl, rfl, rfl, trivial⟩ ?_
 refine XC.cond rfl (fun hc1 => ?_) (fun hc1 => ?_)
 ·refine XC.seq fun K4 hK4 => ?_
  refine XC.region ?_
  refine x_c (r_call0 (args := []) rfl (awake_tr hL []) gS) rfl ?_
  rintro _ _ ⟨rfl, hRs⟩
  rw [hRs]
  refine x_v (r_as rfl) rfl ?_
  refine XL.nil ?_
  refine hK4 _ _ ?_
  refine XC.keep [(4, _)] ⟨rfl, trivial⟩ ?_
  refine XC.ret ?_
  exact fin1 rfl ((by first | rfl | simp)) gS
 ·refine XC.skip ?_
  refine hK2 _ _ ?_
  refine XC.keep [(0, _), (1, _)] ⟨rfl, rfl, trivial⟩ ?_
  refine XC.seq fun K5 hK5 => ?_
  have hB := (hgr (by assumption)).2 _ (List.mem_singleton.2 rfl)
  obtain ⟨hB1, hB2, hB3, hB4⟩ := hB
  dsimp only at hB1 hB2
  refine XC.region ?_
  refine x_v (r_as rfl) rfl ?_
  refine XL.nil ?_
  refine hK5 _ _ ?_
  refine XC.keep [(0, _), (1, _), (5, _)] ⟨rfl, rfl, rfl, trivial⟩ ?_
  refine XC.seq fun K6 hK6 => ?_
  refine XC.region ?_
  refine x_c (r_call0 (args := [_]) ⟨rfl, rfl⟩ (open_nil []) gS) rfl ?_
  rintro _ _ ⟨rfl, hRs⟩
  rw [hRs]
  refine x_v (r_mv rfl) rfl ?_
  refine x_v (r_ex rfl rfl) rfl ?_
  refine x_v (r_ex rfl rfl) rfl ?_
  refine x_v (r_ex rfl rfl) rfl ?_
  refine x_v (r_ex rfl rfl) rfl ?_
  refine x_v (r_as rfl) rfl ?_
  refine x_v (r_as rfl) rfl ?_
  refine x_v (r_as rfl) rfl ?_
  refine x_v (r_as rfl) rfl ?_
  refine XL.nil ?_
  refine hK6 _ _ ?_
  refine XC.keep [(0, _), (1, _), (5, _), (6, _), (7, _), (8, _), (9, _)] ⟨rfl, rfl, rfl, rfl, rfl, rfl, rfl, trivial⟩ ?_
  refine XC.seq fun K7 hK7 => ?_
  refine XC.region ?_
  refine x_v (r_mv rfl) rfl ?_
  refine x_v (r_mv rfl) rfl ?_
  refine x_c (r_call0 (args := [_]) ⟨rfl, rfl⟩ (own_tr A c L [] hr (by omega)) gS) rfl ?_
  rintro _ _ ⟨A28, c28, rfl, hRs⟩
  rw [hRs]
  refine x_c (r_call0 (args := [_, _]) ⟨rfl, rfl, rfl⟩ (append_nil _ []) gS) rfl ?_
  rintro _ _ ⟨rfl, hRs⟩
  rw [hRs]
  refine x_v (r_eq rfl rfl) rfl ?_
  refine x_v (r_mv rfl) rfl ?_
  refine XL.splitd 31 rfl (fun hg31 => ?_) (fun hg31 => ?_)
  ·refine x_want rfl rfl rfl ?_
   refine x_v (r_mv rfl) rfl ?_
   refine x_want rfl rfl rfl ?_
   refine x_v (r_mv rfl) rfl ?_
   refine x_want rfl rfl rfl ?_
   refine x_c (r_call0 (args := [_, _]) ⟨rfl, rfl, rfl⟩ (lay_nil _ []) gS) rfl ?_
   rintro _ _ ⟨rfl, hRs⟩
   rw [hRs]
   refine x_want rfl rfl rfl ?_
   refine x_v (r_eq rfl rfl) rfl ?_
   refine x_v (r_pk_t rfl rfl) rfl ?_
   refine x_v (r_mv rfl) rfl ?_
   refine XL.splitd 37 rfl (fun hg37 => ?_) (fun hg37 => ?_)
   ·refine x_want rfl rfl rfl ?_
    refine x_v (r_mv rfl) rfl ?_
    refine x_want rfl rfl rfl ?_
    refine x_c (r_call0 (args := [_]) ⟨rfl, rfl⟩ (segment_nil []) gS) rfl ?_
    rintro _ _ ⟨rfl, hRs⟩
    rw [hRs]
    refine x_want rfl rfl rfl ?_
    refine x_v (r_eq rfl rfl) rfl ?_
    refine x_v (r_pk_t rfl rfl) rfl ?_
    refine x_v (r_mv rfl) rfl ?_
    refine XL.splitd 42 rfl (fun hg42 => ?_) (fun hg42 => ?_)
    ·refine x_want rfl rfl rfl ?_
     refine x_v (r_mv rfl) rfl ?_
     refine x_want rfl rfl rfl ?_
     refine x_v (r_peq_nil Tryz.underlying29 rfl rfl) rfl ?_
     refine x_v (r_pk_t rfl rfl) rfl ?_
     refine x_v (r_mv rfl) rfl ?_
     refine x_want rfl rfl rfl ?_
     refine x_v (r_mv rfl) rfl ?_
     refine x_want rfl rfl rfl ?_
     refine x_v (r_seq rfl rfl) rfl ?_
     refine x_v (r_pk_t rfl rfl) rfl ?_
     refine x_v (r_mv rfl) rfl ?_
     refine XL.splitd 50 rfl (fun hg50 => ?_) (fun hg50 => ?_)
     ·refine x_want rfl rfl rfl ?_
      refine x_v (r_mv rfl) rfl ?_
      refine x_want rfl rfl rfl ?_
      refine x_v (r_lensl Tryz.underlying22 rfl) rfl ?_
      refine x_want rfl rfl rfl ?_
      refine x_v (r_eq rfl rfl) rfl ?_
      refine x_v (r_pk_t rfl rfl) rfl ?_
      refine x_v (r_mv rfl) rfl ?_
      refine XL.splitd 55 rfl (fun hg55 => ?_) (fun hg55 => ?_)
      ·refine x_want rfl rfl rfl ?_
       refine x_v (r_mv rfl) rfl ?_
       refine x_want rfl rfl rfl ?_
       refine x_v (r_eq rfl rfl) rfl ?_
       refine x_v (r_pk_t rfl rfl) rfl ?_
       refine x_v (r_as rfl) rfl ?_
       refine XL.nil ?_
       refine hK7 _ _ ?_
       refine XC.keep [(4, _)] ⟨rfl, trivial⟩ ?_
       refine XC.ret ?_
       exact fin1 rfl ((by first | rfl | simp)) gS
      ·exfalso; omega
     ·exfalso; exact hg50 rfl
    ·exfalso; omega
   ·exfalso; omega
  ·exfalso; omega
end Go.Proofs.YtcmdmhmgffjknaaGreatDoor
/- What comes in, read; the listed variables. -/
namespace Go.Proofs.YtcmdmhmgffjknaaGreatDoor
open Go.Sx Go.ChangeShapes Go.WideShapes Go.ChangeAt Go.RowKit
set_option linter.unusedVariables false

theorem ownk : ownKnob Tryz.prog.godebug = none := by kernel_rfl
theorem kidsk : Kids Tryz.prog (· < Tryz.prog.types.size) := kids_rows (by kernel_rfl) (by kernel_rfl)
theorem fullk : ∀ t e, t < Tryz.prog.types.size → Tryz.prog.underlying t = some (.slice e) → 0 < Tryz.prog.cellsOf e := slices_full_of Tryz.prog (by kernel_rfl)
theorem g0 : Tryz.prog.globalNamed "strconv.ErrSyntax" = some 0 := by kernel_rfl
theorem g1 : Tryz.prog.globalNamed "strconv.ErrRange" = some 1 := by kernel_rfl
theorem g2 : Tryz.prog.globalNamed "internal/strconv.uint64pow10" = some 2 := by kernel_rfl
theorem gt0 : (Tryz.prog.globals[0]?).map (·.type) = some 99 := by kernel_rfl
theorem gt1 : (Tryz.prog.globals[1]?).map (·.type) = some 99 := by kernel_rfl
theorem gt2 : (Tryz.prog.globals[2]?).map (·.type) = some 195 := by kernel_rfl
theorem cells192 : Tryz.prog.cellsOf 192 = 1 := by kernel_rfl
theorem cells9 : Tryz.prog.cellsOf 9 = 1 := by kernel_rfl
theorem star : "*" ++ "errors.errorString" = "*errors.errorString" := by decide
theorem row190 (u : TypeId) (h : Tryz.prog.typeName? 3 u = some "*errors.errorString") : u = 190 :=
 typeName_ptr_named (nm := "errors.errorString") (by rw [star]; kernel_rfl) (by kernel_rfl) (by decide) u (by rw [star]; exact h)
theorem pow_is : (Rows.laid_internal_strconv_uint64pow10 : DataW Unit) = Lib.tabData .u64 Lib.pow10Tab := by kernel_rfl
theorem laid_of {W : World} (h : laidMet Tryz.prog Rows.walNilRow.laid W) : Laid W := by
 have h1 : laidMet Tryz.prog [("math/bits.deBruijn32tab", Rows.laid_math_bits_deBruijn32tab), ("math/bits.deBruijn64tab", Rows.laid_math_bits_deBruijn64tab), ("internal/strconv.uint64pow10", Rows.laid_internal_strconv_uint64pow10), ("strconv.ErrRange", Rows.laid_strconv_ErrRange), ("strconv.ErrSyntax", Rows.laid_strconv_ErrSyntax)] W := h
 have h2 := h1.tail.tail
 have h3 := h2.tail
 have h4 := h3.tail
 rw [pow_is] at h2
 refine ⟨Lib.tabIs_of_head g2 gt2 Tryz.underlying195 Tryz.underlying138 (by kernel_rfl) (by kernel_rfl) h2, ?_, ?_⟩
 ·obtain ⟨a0, s0, hv0, -, -, -⟩ := laid_sentinel h4 g0 gt0 Tryz.underlying99 row190 Tryz.underlying190 Tryz.underlying192 rfl rfl Tryz.underlying9 cells192 cells9
  exact ⟨_, _, hv0⟩
 ·obtain ⟨a0, s0, hv0, -, -, -⟩ := laid_sentinel h3 g1 gt1 Tryz.underlying99 row190 Tryz.underlying190 Tryz.underlying192 rfl rfl Tryz.underlying9 cells192 cells9
  exact ⟨_, _, hv0⟩
theorem laid_met (os : Os) (args : Array Value) : laidMet Tryz.prog Rows.walNilRow.laid ((World.laidAll Tryz.prog os Rows.walNilRow.laid).forCall (fun _ _ => 0) ⟨#[], args, []⟩).memory :=
 laidMet_laidAll args (by kernel_rfl) (by kernel_rfl)

section
variable {H : Type} {enc : TypeId × Value → H} {W : World}
theorem rdstr {n : Nat} {cs : List Value} {x : DataW H × List MemPlace} (h : DataW.trod enc Tryz.prog W 0 (fun _ => true) true n 9 cs = some x) (hw : Wt Tryz.prog 9 x.1) : ∃ s, cs = sv s ∧ True := by
 obtain ⟨s, q, rfl, _⟩ := DataW.trod_string Tryz.underlying9 h
 exact ⟨s.data.toList, by rw [q]; rfl, trivial⟩
theorem rd22 {n : Nat} {cs : List Value} {x : DataW H × List MemPlace} (h : DataW.trod enc Tryz.prog W 0 (fun _ => true) true n 22 cs = some x) (hw : Wt Tryz.prog 22 x.1) :
  ∃ (A : Option Addr) (c : Nat) (L : List (List UInt8)), cs = [.slice A L.length c] ∧ L.length * 16 ≤ 140737488355328 ∧ ∀ Fr, Rdb W Fr A L.length 1 (cells sv L) := by
 obtain ⟨A, c, L, rfl, h1, _, h3⟩ := slice_rd (P := Tryz.prog) sv (fun _ => True) (m := 1) (bb := 16) sv_len Tryz.underlying22 (by kernel_rfl) (by decide) (by kernel_rfl) (fun n cs x hh hw => rdstr hh hw) h hw
 exact ⟨A, c, L, rfl, h1, h3⟩
end
end Go.Proofs.YtcmdmhmgffjknaaGreatDoor
/- What comes in, read: acts. -/
namespace Go.Proofs.YtcmdmhmgffjknaaGreatDoor
open Go.Sx Go.ChangeShapes Go.WideShapes Go.ChangeAt Go.RowKit
set_option linter.unusedVariables false

section
variable {H : Type} {enc : TypeId × Value → H} {W : World}
theorem slice_le {P : Program} {t e : TypeId} {fuel : Nat} {A : Option Addr} {n k : Nat} {x : DataW H × List MemPlace} (ht : P.underlying t = some (.slice e)) (h : DataW.trod enc P W 0 (fun _ => true) true fuel t [.slice A n k] = some x) : n ≤ k := by
 rcases Go.Deep.open_slice ht h with ⟨h1, _⟩ | ⟨a, len, cap, _, _, _, _, h1, _, h2, _⟩
 ·have h1 : Value.slice A n k = .slice none 0 0 := by simpa using h1
  injection h1 with _ h2 h3
  omega
 ·have h1 : Value.slice A n k = .slice (some a) len cap := by simpa using h1
  injection h1 with _ h3 h4
  omega
theorem cells_iv : ∀ L : List Int, cells (fun i => [Value.int .i64 i]) L = iv L
 | [] => rfl
 | i :: L => by rw [cells_cons, cells_iv L]; rfl
theorem i64_lt {i : Int} (h : (Lit.int .i64 i).wf = true) : i < 9223372036854775808 := by
 simp [Lit.wf, IntKind.min, IntKind.max, IntKind.signed, IntKind.bits] at h
 omega
theorem rdint {n : Nat} {cs : List Value} {x : DataW H × List MemPlace} (h : DataW.trod enc Tryz.prog W 0 (fun _ => true) true n 3 cs = some x) (hw : Wt Tryz.prog 3 x.1) : ∃ i : Int, cs = [.int .i64 i] ∧ True := by
 obtain ⟨i, q, _, _⟩ := DataW.trod_int Tryz.underlying3 h
 exact ⟨i, q, trivial⟩
theorem rd25 {n : Nat} {cs : List Value} {x : DataW H × List MemPlace} (h : DataW.trod enc Tryz.prog W 0 (fun _ => true) true n 25 cs = some x) (hw : Wt Tryz.prog 25 x.1) :
  ∃ (A : Option Addr) (c : Nat) (L : List Int), cs = [.slice A L.length c] ∧ L.length * 8 ≤ 140737488355328 ∧ ∀ Fr, Rdb W Fr A L.length 1 (iv L) := by
 obtain ⟨A, c, L, rfl, h1, _, h3⟩ := slice_rd (P := Tryz.prog) (fun i : Int => [Value.int .i64 i]) (fun _ => True) (m := 1) (bb := 8) (fun _ => rfl) Tryz.underlying25 (by kernel_rfl) (by decide) (by kernel_rfl) (fun n cs x hh hw => rdint hh hw) h hw
 exact ⟨A, c, L, rfl, h1, fun Fr => by rw [← cells_iv]; exact h3 Fr⟩
/-- An act's lists can be read, whatever is owned. -/
def OkOx (W : World) (o : Ox) : Prop := (∀ Fr, Rdb W Fr o.A o.list.length 1 (cells sv o.list)) ∧ o.list.length * 16 ≤ 140737488355328 ∧ o.list.length ≤ o.c ∧ o.n < 9223372036854775808 ∧ (∀ Fr, Rdb W Fr o.B o.keeps.length 1 (iv o.keeps)) ∧ o.keeps.length * 8 ≤ 140737488355328
theorem rd27 {n : Nat} {cs : List Value} {x : DataW H × List MemPlace} (h : DataW.trod enc Tryz.prog W 0 (fun _ => true) true n 27 cs = some x) (hw : Wt Tryz.prog 27 x.1) : ∃ o : Ox, cs = oc o ∧ OkOx W o := by
 obtain ⟨hl, n', g⟩ := struct_rd (m := 6) Tryz.underlying27 (by kernel_rfl) h hw
 match cs, hl with
 | [c0, c1, c2, c3, c4, c5], _ =>
  obtain ⟨y0, h0, _⟩ := g 0 _ 1 rfl (by kernel_rfl)
  obtain ⟨y1, h1, w1⟩ := g 1 _ 1 rfl (by kernel_rfl)
  obtain ⟨y2, h2, w2⟩ := g 2 _ 1 rfl (by kernel_rfl)
  obtain ⟨y3, h3, w3⟩ := g 3 _ 1 rfl (by kernel_rfl)
  obtain ⟨y4, h4, _⟩ := g 4 _ 1 rfl (by kernel_rfl)
  obtain ⟨y5, h5, w5⟩ := g 5 _ 1 rfl (by kernel_rfl)
  obtain ⟨i0, rfl, _⟩ := int_rd Tryz.underlying3 h0
  obtain ⟨A, c, L, q1, hle, hrd⟩ := rd22 h1 w1
  obtain ⟨s2, rfl, _⟩ := str_rd Tryz.underlying9 h2 w2
  obtain ⟨s3, rfl, _⟩ := str_rd Tryz.underlying9 h3 w3
  obtain ⟨i4, rfl, hi4⟩ := int_rd Tryz.underlying3 h4
  obtain ⟨B, cb, K, q5, hle5, hrd5⟩ := rd25 h5 w5
  have q1' : c1 = .slice A L.length c := by simpa using q1
  have q5' : c5 = .slice B K.length cb := by simpa using q5
  subst q1'
  subst q5'
  exact ⟨⟨i0, A, c, L, s2, s3, i4, B, cb, K⟩, rfl, hrd, hle, slice_le Tryz.underlying22 h1, i64_lt hi4, hrd5, hle5⟩
theorem rd28 {n : Nat} {cs : List Value} {x : DataW H × List MemPlace} (h : DataW.trod enc Tryz.prog W 0 (fun _ => true) true n 28 cs = some x) (hw : Wt Tryz.prog 28 x.1) :
  ∃ (A : Option Addr) (c : Nat) (L : List Ox), cs = [.slice A L.length c] ∧ L.length ≤ maxS ∧ (∀ o ∈ L, OkOx W o) ∧ ∀ Fr, Rdb W Fr A L.length 6 (cells oc L) := by
 have hmax : maxS = 140737488355328 := rfl
 obtain ⟨A, c, L, rfl, h1, h2, h3⟩ := slice_rd (P := Tryz.prog) oc (OkOx W) (m := 6) (bb := 96) oc_len Tryz.underlying28 (by kernel_rfl) (by decide) (by kernel_rfl) (fun n cs x hh hw => rd27 hh hw) h hw
 exact ⟨A, c, L, rfl, by omega, h2, h3⟩
end
end Go.Proofs.YtcmdmhmgffjknaaGreatDoor
/- Frames that are cut off, or go on: plain facts. -/
namespace Go.Proofs.YtcmdmhmgffjknaaGreatDoor
open Go.Sx
set_option linter.unusedVariables false

theorem numGo_rest : ∀ (s : List UInt8) (k : Nat) (z w : BitVec 64) (r : List UInt8), numGo k z s = some (w, r) → ∃ c, 0 < c.length ∧ s = c ++ r ∧ ∀ r', numGo k z (c ++ r') = some (w, r')
 | [], k, z, w, r, h => by simp [numGo] at h
 | a :: s, k, z, w, r, h => by
  rw [numGo] at h
  split at h
  ·cases h
  ·rename_i h1
   split at h
   ·rename_i h2
    obtain ⟨c, _, rfl, hc⟩ := numGo_rest s _ _ _ _ h
    exact ⟨a :: c, by simp, rfl, fun r' => by rw [List.cons_append, numGo, if_neg h1, if_pos h2]; exact hc r'⟩
   ·rename_i h2
    split at h
    ·cases h
    ·rename_i h3
     injection h with h
     injection h with h4 h5
     subst h4; subst h5
     exact ⟨[a], by simp, rfl, fun r' => by rw [List.singleton_append, numGo, if_neg h1, if_neg h2, if_neg h3]⟩
theorem numGo_cut : ∀ (m z : Nat), z ≤ m → ∀ (k : Nat) (acc : BitVec 64) (j : Nat), j < (vb z).length → numGo k acc ((vb z).take j) = none := by
 intro m
 induction m using Nat.strongRecOn with
 | _ m ih =>
  intro z hz k acc j hj
  by_cases h : z ≤ 127
  ·rw [vb_le h] at hj ⊢
   obtain rfl : j = 0 := by simpa using hj
   rfl
  ·rw [vb_gt h] at hj ⊢
   match j, hj with
   | 0, _ => rfl
   | j + 1, hj =>
    rw [List.take_succ_cons, numGo]
    split
    ·rfl
    ·have hc : (UInt8.ofNat (z % 128 + 128)).toNat = z % 128 + 128 := by simp; omega
     rw [if_pos (by rw [cont_iff, hc]; omega)]
     exact ih (z / 128) (by omega) _ (Nat.le_refl _) _ _ _ (by simpa using hj)
theorem numR_some {s : List UInt8} (h : (numR (s, false)).2.2 = false) : ∃ w q, numGo 0 0 s = some (w, q) ∧ numR (s, false) = (zig w, q, false) := by
 unfold numR at h ⊢
 rw [if_neg (by simp)] at h ⊢
 cases hn : numGo 0 0 s with
 | none => rw [hn] at h; simp at h
 | some x => exact ⟨x.1, x.2, rfl, rfl⟩
/-- What is opened ahead is nothing to what is behind it. -/
theorem openF_rest {s p r : List UInt8} (h : openF s = some (p, r)) : ∃ c, 0 < c.length ∧ s = c ++ r ∧ ∀ r', openF (c ++ r') = some (p, r') := by
 unfold openF at h
 unfold openQ at h
 split at h
 ·rename_i hc
  obtain ⟨hb, h0, h1, h4, h5⟩ := hc
  split at h
  ·rename_i hcr
   injection h with h
   injection h with hp hr
   obtain ⟨w, q, hg, hR⟩ := numR_some hb
   rw [hR] at h0 h1 h4 h5 hcr hp hr
   dsimp only at h0 h1 h4 h5 hcr hp hr
   obtain ⟨a, b, c, d, t, rfl⟩ := four_of h4
   obtain ⟨c1, hc1, rfl, hrest⟩ := numGo_rest _ _ _ _ _ hg
   obtain ⟨n, hn⟩ : ∃ n : Nat, zig w = (n : Int) := ⟨(zig w).toNat, by omega⟩
   rw [hn] at h0 h1 h5 hcr hp hr hR
   rw [Int.toNat_natCast] at hcr hp hr
   have hnt : n ≤ t.length := by simp only [List.length_cons] at h5; omega
   have e4 : ∀ x : List UInt8, (a :: b :: c :: d :: x).drop 4 = x := fun x => rfl
   have e5 : ∀ x : List UInt8, (a :: b :: c :: d :: x).drop (4 + n) = x.drop n := fun x => by rw [← List.drop_drop, e4]
   rw [e4] at hcr hp
   rw [e5] at hr
   subst hp
   subst hr
   refine ⟨c1 ++ a :: b :: c :: d :: t.take n, by rw [List.length_append]; omega, by simp [List.take_append_drop], fun r' => ?_⟩
   have e6 : (c1 ++ a :: b :: c :: d :: t.take n) ++ r' = c1 ++ (a :: b :: c :: d :: (t.take n ++ r')) := by simp
   have hR' : numR (c1 ++ (a :: b :: c :: d :: (t.take n ++ r')), false) = ((n : Int), (a :: b :: c :: d :: (t.take n ++ r')), false) := by
    rw [← hn]
    unfold numR
    rw [if_neg (by simp), hrest]
    rfl
   have hl : (t.take n).length = n := by rw [List.length_take]; omega
   unfold openF
   rw [e6, hR']
   unfold openQ
   dsimp only
   rw [if_pos ⟨rfl, by omega, by omega, by simp, by simp only [List.length_cons, List.length_append, hl]; omega⟩, Int.toNat_natCast, e4, List.take_left' hl]
   rw [show le32 (a :: b :: c :: d :: (t.take n ++ r')) = le32 (a :: b :: c :: d :: t) from rfl, if_pos hcr, e5, List.drop_left' hl]
  ·cases h
 ·cases h
theorem openF_cut {p : List UInt8} (h : p.length ≤ 1048576) {j : Nat} (hj : j < (frameB p).length) : openF ((frameB p).take j) = none := by
 unfold openF
 have hfl := frameB_len p
 by_cases h1 : j < (vb (2 * p.length)).length
 ·have e : (frameB p).take j = (vb (2 * p.length)).take j := by unfold frameB; rw [List.take_append_of_le_length (by omega)]
  have hn := numGo_cut _ (2 * p.length) (Nat.le_refl _) 0 0 j h1
  have hR : (numR ((vb (2 * p.length)).take j, false)).2.2 = true := by
   unfold numR
   rw [if_neg (by simp), hn]
   rfl
  rw [e]
  unfold openQ
  rw [if_neg (by rw [hR]; simp)]
 ·have e : (frameB p).take j = vb (2 * p.length) ++ (le4 (crcS p) ++ p).take (j - (vb (2 * p.length)).length) := by unfold frameB; rw [List.take_append, List.take_of_length_le (by omega)]
  have hl : ((le4 (crcS p) ++ p).take (j - (vb (2 * p.length)).length)).length < 4 + p.length := by rw [List.length_take]; omega
  rw [e, numR_vb _ _ (by omega)]
  unfold openQ
  dsimp only
  rw [if_neg (by rintro ⟨_, _, _, h4, h5⟩; omega)]
/-- What is scanned ends where it says, and what is put there is scanned behind it. -/
theorem scan_split : ∀ (n : Nat) (x : List UInt8), x.length ≤ n → (scanF x).2 ≤ x.length ∧ ∀ y, scanF (x.take (scanF x).2 ++ y) = ((scanF x).1 ++ (scanF y).1, (scanF x).2 + (scanF y).2) := by
 intro n
 induction n with
 | zero =>
  intro x hx
  obtain rfl : x = [] := List.eq_nil_of_length_eq_zero (by omega)
  rw [scanF_none openF_nil]
  exact ⟨Nat.le_refl _, fun y => by simp⟩
 | succ n ih =>
  intro x hx
  cases hO : openF x with
  | none =>
   rw [scanF_none hO]
   exact ⟨Nat.zero_le _, fun y => by simp⟩
  | some q =>
   obtain ⟨p, r⟩ := q
   obtain ⟨c, hc, rfl, hcr⟩ := openF_rest hO
   rw [List.length_append] at hx
   obtain ⟨i1, i2⟩ := ih r (by omega)
   have e1 : (c ++ r).length - r.length = c.length := by rw [List.length_append]; omega
   rw [scanF_some hO, e1]
   refine ⟨by rw [List.length_append]; dsimp only; omega, fun y => ?_⟩
   dsimp only
   have e2 : (c ++ r).take (c.length + (scanF r).2) ++ y = c ++ (r.take (scanF r).2 ++ y) := by
    rw [List.take_append, List.take_of_length_le (by omega), show c.length + (scanF r).2 - c.length = (scanF r).2 by omega, List.append_assoc]
   rw [e2, scanF_some (hcr _), i2]
   have e3 : (c ++ (r.take (scanF r).2 ++ y)).length - (r.take (scanF r).2 ++ y).length = c.length := by rw [List.length_append]; omega
   rw [e3]
   simp only [List.cons_append, Nat.add_assoc]
theorem scan_le (x : List UInt8) : (scanF x).2 ≤ x.length := (scan_split _ x (Nat.le_refl _)).1
theorem scan_take (x : List UInt8) : scanF (x.take (scanF x).2) = scanF x := by
 have h := (scan_split _ x (Nat.le_refl _)).2 []
 rw [List.append_nil, scanF_none openF_nil] at h
 rw [h]; simp
theorem scan_app {x : List UInt8} (h : (scanF x).2 = x.length) (y : List UInt8) : scanF (x ++ y) = ((scanF x).1 ++ (scanF y).1, (scanF x).2 + (scanF y).2) := by
 have h2 := (scan_split _ x (Nat.le_refl _)).2 y
 rwa [h, List.take_of_length_le (Nat.le_refl _), ← h] at h2
/-- Of frames that are cut off anywhere the first ones are found. -/
theorem scan_cut : ∀ (ps : List (List UInt8)), (∀ p ∈ ps, p.length ≤ 1048576) → ∀ j, ∃ i e, scanF ((sealB ps).take j) = (ps.take i, e)
 | [], _, j => ⟨0, 0, by simp [sealB, scanF_none openF_nil]⟩
 | p :: ps, h, j => by
  have e : sealB (p :: ps) = frameB p ++ sealB ps := by simp [sealB]
  by_cases hj : j < (frameB p).length
  ·refine ⟨0, 0, ?_⟩
   rw [e, List.take_append_of_le_length (by omega), scanF_none (openF_cut (h p (by simp)) hj)]
   rfl
  ·obtain ⟨i, e2, h2⟩ := scan_cut ps (fun q hq => h q (by simp [hq])) (j - (frameB p).length)
   have key : (scanF ((sealB (p :: ps)).take j)).1 = (p :: ps).take (i + 1) := by
    rw [e, List.take_append, List.take_of_length_le (by omega), scanF_some (openF_frame p _ (h p (by simp))), h2]
    rfl
   exact ⟨i + 1, _, Prod.ext key rfl⟩
/-! a segment's head -/
theorem readS_zero {b : List UInt8} (h : openF b = none) : readS b = ⟨b, 0, [], 0⟩ := by unfold readS; rw [h]
theorem readS_same {a b p r r' : List UInt8} (h1 : openF a = some (p, r)) (h2 : openF b = some (p, r')) : (readS b).kind = (readS a).kind ∧ (readS b).base = (readS a).base ∧ (readS b).behind = (readS a).behind := by
 unfold readS
 rw [h1, h2]
 dsimp only
 split
 ·exact ⟨rfl, rfl, rfl⟩
 ·split
  ·exact ⟨rfl, rfl, rfl⟩
  ·exact ⟨rfl, rfl, rfl⟩
/-- What is put behind a segment that counts whole. -/
theorem readS_app {x : List UInt8} (hk : (readS x).kind ≠ 0) (y : List UInt8) : (readS (x ++ y)).kind = (readS x).kind ∧ (readS (x ++ y)).base = (readS x).base ∧ (readS (x ++ y)).behind = (readS x).behind := by
 obtain ⟨p, r, hO⟩ := readS_kind hk
 obtain ⟨c, _, rfl, hc⟩ := openF_rest hO
 exact readS_same hO (by rw [List.append_assoc]; exact hc _)
theorem scan_pos {x : List UInt8} (hk : (readS x).kind ≠ 0) : 0 < (scanF x).1.length ∧ 0 < (scanF x).2 := by
 obtain ⟨p, r, hO⟩ := readS_kind hk
 have := openF_lt hO
 rw [scanF_some hO]
 exact ⟨by simp, by dsimp only; omega⟩
/-- What a part of one segment and records behind a head holds. -/
theorem cut_head {h : List UInt8} (hh : h.length ≤ 1048576) {rs : List (List UInt8)} (hr : ∀ p ∈ rs, p.length ≤ 1048576) (j : Nat) :
  (openF ((sealB [h] ++ sealB rs).take j) = none) ∨ ∃ y i e, (sealB [h] ++ sealB rs).take j = sealB [h] ++ y ∧ scanF (sealB [h] ++ y) = (h :: rs.take i, e) := by
 have e1 : sealB [h] = frameB h := by simp [sealB]
 rw [e1]
 by_cases hj : j < (frameB h).length
 ·left
  rw [List.take_append_of_le_length (by omega)]
  exact openF_cut hh hj
 ·right
  obtain ⟨i, e, h2⟩ := scan_cut rs hr (j - (frameB h).length)
  have key : (scanF (frameB h ++ (sealB rs).take (j - (frameB h).length))).1 = h :: rs.take i := by
   rw [scanF_some (openF_frame h _ hh), h2]
  exact ⟨_, i, _, by rw [List.take_append, List.take_of_length_le (by omega)], Prod.ext key rfl⟩
end Go.Proofs.YtcmdmhmgffjknaaGreatDoor
/- Files that are put, taken away, cut, and what is found then: plain facts. -/
namespace Go.Proofs.YtcmdmhmgffjknaaGreatDoor
open Go.Sx
set_option linter.unusedVariables false

theorem getF_setF : ∀ (L : List (List UInt8 × Fi)) (n : List UInt8) (x : Fi) (m : List UInt8), getF (setF L n x) m = if n = m then some x else getF L m
 | [], n, x, m => rfl
 | (k, y) :: L, n, x, m => by
  unfold setF
  by_cases h1 : k = n
  ·subst h1
   rw [if_pos rfl]
   by_cases h2 : k = m
   ·rw [getF, if_pos h2, if_pos h2]
   ·rw [getF, if_neg h2, if_neg h2, getF, if_neg h2]
  ·rw [if_neg h1]
   by_cases h2 : n < k
   ·rw [if_pos h2, getF]
   ·rw [if_neg h2, getF, getF_setF L n x m]
    by_cases h3 : k = m
    ·subst h3; rw [if_pos rfl, if_neg (fun h => h1 h.symm), getF, if_pos rfl]
    ·rw [if_neg h3, getF, if_neg h3]
theorem mem_setF : ∀ {L : List (List UInt8 × Fi)} {n : List UInt8} {x : Fi} {t : List UInt8 × Fi}, t ∈ setF L n x → t = (n, x) ∨ (t ∈ L ∧ t.1 ≠ n) ∨ t ∈ L
 | [], n, x, t, h => by simp [setF] at h; exact .inl h
 | (k, y) :: L, n, x, t, h => by
  unfold setF at h
  split at h
  ·rcases List.mem_cons.1 h with h | h
   ·exact .inl h
   ·exact .inr (.inr (by simp [h]))
  ·split at h
   ·rcases List.mem_cons.1 h with h | h
    ·exact .inl h
    ·exact .inr (.inr h)
   ·rcases List.mem_cons.1 h with h | h
    ·exact .inr (.inr (by simp [h]))
    ·rcases mem_setF h with h | h | h
     ·exact .inl h
     ·exact .inr (.inr (by simp [h.1]))
     ·exact .inr (.inr (by simp [h]))
theorem srt_map {L : List (List UInt8 × Fi)} : L.Pairwise (fun a b => a.1 < b.1) ↔ (L.map (·.1)).Pairwise (· < ·) := List.pairwise_map.symm
theorem srt_setF {L : List (List UInt8 × Fi)} (h : L.Pairwise (fun a b => a.1 < b.1)) (n : List UInt8) (x : Fi) : (setF L n x).Pairwise (fun a b => a.1 < b.1) := by
 rcases getF_split L n with ⟨_, h2⟩ | ⟨L1, y, L2, rfl, _, _⟩
 ·obtain ⟨L1, L2, rfl, e, h3, h4⟩ := setF_new L n x h2 h
  rw [e, List.pairwise_append, List.pairwise_cons]
  rw [List.pairwise_append] at h
  refine ⟨h.1, ⟨fun b hb => h4 b hb, h.2.1⟩, fun a ha b hb => ?_⟩
  rcases List.mem_cons.1 hb with rfl | hb
  ·exact h3 a ha
  ·exact h.2.2 a ha b hb
 ·rw [setF_at h, srt_map]
  rw [srt_map] at h
  simpa using h
theorem getF_of_mem : ∀ {L : List (List UInt8 × Fi)} {n : List UInt8} {x : Fi}, L.Pairwise (fun a b => a.1 < b.1) → (n, x) ∈ L → getF L n = some x
 | (k, y) :: L, n, x, hs, h => by
  rw [List.pairwise_cons] at hs
  rcases List.mem_cons.1 h with h | h
  ·injection h with h1 h2; subst h1; subst h2; rw [getF, if_pos rfl]
  ·have := hs.1 _ h
   rw [getF, if_neg (fun e => by subst e; exact List.lt_irrefl _ this)]
   exact getF_of_mem hs.2 h
theorem getF_delF : ∀ (L : List (List UInt8 × Fi)) (n m : List UInt8), getF (delF L n) m = if n = m then none else getF L m
 | [], n, m => by simp [delF, getF]
 | (k, y) :: L, n, m => by
  have ih := getF_delF L n m
  unfold delF at ih ⊢
  by_cases h1 : k = n
  ·subst h1
   rw [List.filter_cons_of_neg (by simp), ih]
   by_cases h2 : k = m
   ·rw [if_pos h2, if_pos h2]
   ·rw [if_neg h2, if_neg h2, getF, if_neg h2]
  ·rw [List.filter_cons_of_pos (by simp [h1]), getF, ih]
   by_cases h2 : k = m
   ·subst h2; rw [if_pos rfl, if_neg (fun h => h1 h.symm), getF, if_pos rfl]
   ·rw [if_neg h2, getF, if_neg h2]
theorem setF_setF : ∀ (L : List (List UInt8 × Fi)) (n : List UInt8) (x y : Fi), setF (setF L n x) n y = setF L n y
 | [], n, x, y => by simp [setF]
 | (k, z) :: L, n, x, y => by
  by_cases h1 : k = n
  ·simp [setF, h1]
  ·by_cases h2 : n < k
   ·simp [setF, h1, h2]
   ·simp [setF, h1, h2, setF_setF L n x y]
theorem delF_self {L : List (List UInt8 × Fi)} {n : List UInt8} (h : ∀ t ∈ L, t.1 ≠ n) : delF L n = L := List.filter_eq_self.2 fun t ht => by simpa using h t ht
theorem delF_setF {L : List (List UInt8 × Fi)} (hs : L.Pairwise (fun a b => a.1 < b.1)) {n : List UInt8} (x : Fi) (h : getF L n = none) : delF (setF L n x) n = L := by
 rcases getF_split L n with ⟨_, h2⟩ | ⟨L1, y, L2, rfl, h1, _⟩
 ·obtain ⟨L1, L2, rfl, e, h3, h4⟩ := setF_new L n x h2 hs
  have hs2 := srt_setF hs n x
  rw [e] at hs2 ⊢
  exact delF_at hs2
 ·rw [h1] at h; cases h
/-! what power's loss leaves -/
def St (t : List UInt8 × Fi) : Prop := t.2.sure = t.2.bytes.length ∧ t.2.old = true
theorem crash_app : ∀ (L1 r : List (List UInt8 × Fi)) (ks : List Int), (∀ t ∈ L1, St t) → crashL (L1 ++ r) ks = L1 ++ crashL r ks
 | [], r, ks, h => rfl
 | (n, x) :: L1, r, ks, h => by
  obtain ⟨h1, h2⟩ := h (n, x) (by simp)
  dsimp only at h1 h2
  rw [List.cons_append, crashL, if_neg (by omega), if_pos h2, crash_app L1 r ks fun t ht => h t (by simp [ht])]
  rfl
theorem crash_all {L : List (List UInt8 × Fi)} (h : ∀ t ∈ L, St t) (ks : List Int) : crashL L ks = L := by
 have := crash_app L [] ks h
 simpa [crashL] using this
theorem crash_one {L : List (List UInt8 × Fi)} (hs : L.Pairwise (fun a b => a.1 < b.1)) (h : ∀ t ∈ L, St t) (n : List UInt8) (x : Fi) (hx : x.sure < x.bytes.length) (ks : List Int) :
  crashL (setF L n x) ks = (if (cutF x (ks.headD 0)).old = true then setF L n (cutF x (ks.headD 0)) else delF L n) := by
 rcases getF_split L n with ⟨_, h2⟩ | ⟨L1, y, L2, rfl, _, _⟩
 ·obtain ⟨L1, L2, rfl, e, h3, h4⟩ := setF_new L n x h2 hs
  have hs2 := srt_setF hs n x
  have e2 : setF (L1 ++ L2) n (cutF x (ks.headD 0)) = L1 ++ (n, cutF x (ks.headD 0)) :: L2 := by
   rw [← setF_setF _ n x, e]
   rw [e] at hs2
   exact setF_at hs2
  rw [e, crash_app _ _ _ fun t ht => h t (by simp [ht]), crashL, if_pos hx, crash_all (fun t ht => h t (by simp [ht])), e2, delF_self h2]
  split <;> rfl
 ·rw [setF_at hs, crash_app _ _ _ fun t ht => h t (by simp [ht]), crashL, if_pos hx, crash_all (fun t ht => h t (by simp [ht])), setF_at hs, delF_at hs]
  split <;> rfl
theorem cut_is (x y : List UInt8) (o : Bool) (k : Int) : ∃ j, j ≤ y.length ∧ cutF ⟨x ++ y, x.length, o⟩ k = ⟨x ++ y.take j, (x ++ y.take j).length, o || decide (0 < j)⟩ := by
 refine ⟨(min (max k 0) ((y.length : Nat) : Int)).toNat, by omega, ?_⟩
 have e : (x ++ y).length - x.length = y.length := by rw [List.length_append]; omega
 unfold cutF
 dsimp only
 rw [e, List.take_append, List.take_of_length_le (by omega), show x.length + (min (max k 0) ((y.length : Nat) : Int)).toNat - x.length = (min (max k 0) ((y.length : Nat) : Int)).toNat by omega]
 have e2 : (x ++ y.take (min (max k 0) ((y.length : Nat) : Int)).toNat).length = x.length + (min (max k 0) ((y.length : Nat) : Int)).toNat := by rw [List.length_append, List.length_take]; omega
 rw [e2]
 congr 2
 rw [decide_eq_decide]; omega
theorem fine_name (n : Nat) (h : n ≤ 1000000001) : fineB (nameB n) = true := by
 unfold fineB
 rw [decide_eq_true_iff]
 have hl : (Lib.decDigits n).length ≤ 10 := by
  rw [Lib.decDigits_length]
  exact nDig 9 n (Nat.lt_of_le_of_lt h (by decide))
 unfold nameB
 rw [itoa_nat]
 refine ⟨by simp [logP], by rw [List.length_append]; have : logP.length = 4 := rfl; omega, fun c hc => ?_⟩
 rcases List.mem_append.1 hc with hc | hc
 ·have : ∀ c ∈ logP, oddN c.toNat = false := by decide
  exact this c hc
 ·have := dec_digit n c hc
  unfold oddN
  rw [decide_eq_false_iff_not]
  rintro ⟨_, h2, _⟩
  omega
/-! a drive that has a log's files alone, all of them settled -/
abbrev Nm (s : Nat → List UInt8) (k : Nat) : List UInt8 × Fi := (nameB k, ⟨s k, (s k).length, true⟩)
structure Fs (F : List (List UInt8 × Fi)) (s : Nat → List UInt8) (p : Nat → Prop) : Prop where
 srt : F.Pairwise (fun a b => a.1 < b.1)
 all : ∀ t ∈ F, ∃ k, p k ∧ t = Nm s k
 has : ∀ k, p k → getF F (nameB k) = some ⟨s k, (s k).length, true⟩
 num : ∀ k, p k → 1 ≤ k ∧ k ≤ 999999999
theorem Fs.congr {F : List (List UInt8 × Fi)} {s s' : Nat → List UInt8} {p p' : Nat → Prop} (h : Fs F s p) (hp : ∀ k, p' k ↔ p k) (hs : ∀ k, p k → s' k = s k) : Fs F s' p' :=
 ⟨h.srt, fun t ht => let ⟨k, h1, h2⟩ := h.all t ht; ⟨k, (hp k).2 h1, by rw [h2, Nm, Nm, hs k h1]⟩, fun k hk => by rw [hs k ((hp k).1 hk)]; exact h.has k ((hp k).1 hk), fun k hk => h.num k ((hp k).1 hk)⟩
theorem Fs.st {F : List (List UInt8 × Fi)} {s : Nat → List UInt8} {p : Nat → Prop} (h : Fs F s p) : ∀ t ∈ F, St t := fun t ht => by
 obtain ⟨k, _, rfl⟩ := h.all t ht
 exact ⟨rfl, rfl⟩
theorem Fs.not {F : List (List UInt8 × Fi)} {s : Nat → List UInt8} {p : Nat → Prop} (h : Fs F s p) {k : Nat} (hk : k ≤ 1000000001) (hn : ¬ p k) : getF F (nameB k) = none := by
 cases hg : getF F (nameB k) with
 | none => rfl
 | some x =>
  obtain ⟨m, h1, h2⟩ := h.all _ (getF_mem hg)
  injection h2 with h2 _
  have := h.num m h1
  have := name_inj hk (by omega) h2
  subst this
  exact absurd h1 hn
theorem Fs.empty (s : Nat → List UInt8) : Fs [] s (fun _ => False) := ⟨List.Pairwise.nil, by simp, fun k h => h.elim, fun k h => h.elim⟩
theorem Fs.nil {F : List (List UInt8 × Fi)} {s : Nat → List UInt8} {p : Nat → Prop} (h : Fs F s p) (hn : ∀ k, ¬ p k) : F = [] := by
 match F, h with
 | [], _ => rfl
 | t :: F, h => obtain ⟨k, hk, _⟩ := h.all t (by simp); exact absurd hk (hn k)
def upS (s : Nat → List UInt8) (n : Nat) (y : List UInt8) : Nat → List UInt8 := fun k => if k = n then y else s k
theorem upS_at (s : Nat → List UInt8) (n : Nat) (y : List UInt8) : upS s n y n = y := if_pos rfl
theorem upS_ne (s : Nat → List UInt8) {n k : Nat} (y : List UInt8) (h : k ≠ n) : upS s n y k = s k := if_neg h
theorem Fs.set {F : List (List UInt8 × Fi)} {s : Nat → List UInt8} {p : Nat → Prop} (h : Fs F s p) (n : Nat) (y : List UInt8) (h1 : 1 ≤ n) (h2 : n ≤ 999999999) : Fs (setF F (nameB n) ⟨y, y.length, true⟩) (upS s n y) (fun k => p k ∨ k = n) := by
 have hnum : ∀ k, p k ∨ k = n → 1 ≤ k ∧ k ≤ 999999999 := fun k hk => hk.elim (h.num k) (fun e => by subst e; exact ⟨h1, h2⟩)
 have hhas : ∀ k, p k ∨ k = n → getF (setF F (nameB n) ⟨y, y.length, true⟩) (nameB k) = some ⟨upS s n y k, (upS s n y k).length, true⟩ := fun k hk => by
  rw [getF_setF]
  by_cases e : k = n
  ·subst e; rw [if_pos rfl, upS_at]
  ·have hb := hnum k hk
   rw [if_neg (fun e2 => e (name_inj (by omega) (by omega) e2.symm)), upS_ne _ _ e]
   exact h.has k (hk.resolve_right e)
 refine ⟨srt_setF h.srt _ _, fun t ht => ?_, hhas, hnum⟩
 have key : t = (nameB n, ⟨y, y.length, true⟩) ∨ t ∈ F := by
  rcases mem_setF ht with h | h | h
  ·exact .inl h
  ·exact .inr h.1
  ·exact .inr h
 rcases key with rfl | hm
 ·exact ⟨n, .inr rfl, by rw [Nm, upS_at]⟩
 ·obtain ⟨k, hk, rfl⟩ := h.all t hm
  refine ⟨k, .inl hk, ?_⟩
  have e1 := getF_of_mem (srt_setF h.srt _ _) ht
  rw [hhas k (.inl hk)] at e1
  injection e1 with e1
  rw [Nm, Nm, ← e1]
theorem Fs.del {F : List (List UInt8 × Fi)} {s : Nat → List UInt8} {p : Nat → Prop} (h : Fs F s p) (n : Nat) (h2 : n ≤ 1000000001) : Fs (delF F (nameB n)) s (fun k => p k ∧ k ≠ n) := by
 refine ⟨h.srt.sublist List.filter_sublist, fun t ht => ?_, fun k hk => ?_, fun k hk => h.num k hk.1⟩
 ·unfold delF at ht
  obtain ⟨h3, h4⟩ := List.mem_filter.1 ht
  obtain ⟨k, hk, rfl⟩ := h.all t h3
  refine ⟨k, ⟨hk, fun e => ?_⟩, rfl⟩
  subst e
  simp at h4
 ·have hb := h.num k hk.1
  rw [getF_delF, if_neg (fun e => hk.2 (name_inj (by omega) (by omega) e.symm))]
  exact h.has k hk.1
theorem Fs.read {D : Dk} {s : Nat → List UInt8} {p : Nat → Prop} (h : Fs D.files s p) (ho : D.off = false) {k : Nat} (hk : p k) : (readD D (nameB k)).1 = s k := by
 unfold readD
 rw [if_neg (by rw [ho]; decide), h.has k hk]
theorem Fs.read0 {D : Dk} {s : Nat → List UInt8} {p : Nat → Prop} (h : Fs D.files s p) {k : Nat} (hk : k ≤ 1000000001) (hn : ¬ p k) : (readD D (nameB k)).1 = [] := by
 unfold readD
 split
 ·rfl
 ·rw [h.not hk hn]
theorem Fs.names {D : Dk} {s : Nat → List UInt8} {p : Nat → Prop} (h : Fs D.files s p) (ho : D.off = false) : namesD D logP = D.files.map (·.1) := by
 unfold namesD
 rw [if_neg (by rw [ho]; decide), List.filter_eq_self]
 intro n hn
 obtain ⟨t, ht, rfl⟩ := List.mem_map.1 hn
 obtain ⟨k, _, rfl⟩ := h.all t ht
 exact pre_log _
/-! a chain of segments -/
inductive Link (s : Nat → List UInt8) (f : Nat) : Nat → List (List UInt8) → Prop
 | one : Link s f f []
 | on {n : Nat} {C M : List (List UInt8)} : Link s f n C → followsF (readS (s (n + 1))) (readS (s n)) = some M → Link s f (n + 1) (C ++ M)
theorem Link.le {s : Nat → List UInt8} {f n : Nat} {C : List (List UInt8)} (h : Link s f n C) : f ≤ n := by
 induction h with
 | one => exact Nat.le_refl _
 | on _ _ ih => omega
theorem Link.kind {s : Nat → List UInt8} {f n : Nat} {C : List (List UInt8)} (h : Link s f n C) : ∀ k, f < k → k ≤ n → (readS (s k)).kind = 2 := by
 induction h with
 | one => intro k h1 h2; omega
 | on h hf ih =>
  rename_i n C M
  intro k h1 h2
  by_cases e : k = n + 1
  ·subst e; exact (follows_kind hf).1
  ·exact ih k h1 (by omega)
theorem follows_congr {a b c : Sg} (h1 : a.kind = b.kind) (h2 : a.behind = b.behind) : followsF a c = followsF b c := by unfold followsF; rw [h1, h2]
theorem Link.congr {s s' : Nat → List UInt8} {f n : Nat} {C : List (List UInt8)} (h : Link s f n C) : (∀ k, f ≤ k → k < n → s' k = s k) → (readS (s' n)).kind = (readS (s n)).kind → (readS (s' n)).behind = (readS (s n)).behind → Link s' f n C := by
 induction h with
 | one => intro _ _ _; exact .one
 | on h hf ih =>
  rename_i n C M
  intro h1 h2 h3
  have hle := h.le
  have e : s' n = s n := h1 n hle (by omega)
  refine .on (ih (fun k a b => h1 k a (by omega)) (by rw [e]) (by rw [e])) ?_
  rw [follows_congr h2 h3, e]; exact hf
theorem chain_link {D : Dk} {s : Nat → List UInt8} {f n : Nat} {C : List (List UInt8)} (h : Link s f n C) (r : List (List UInt8)) : (∀ k, f < k → k ≤ n → (readD D (nameB k)).1 = s k) → n ≤ 999999999 → chainL D (999999999 - f) f (readS (s f)) r = chainL D (999999999 - n) n (readS (s n)) (r ++ C) := by
 induction h with
 | one => intro _ _; rw [List.append_nil]
 | on h hf ih =>
  rename_i n C M
  intro h1 h2
  have hle := h.le
  rw [ih (fun k a b => h1 k a (by omega)) (by omega), show 999999999 - n = (999999999 - (n + 1)) + 1 by omega, chainL, h1 (n + 1) (by omega) (Nat.le_refl _), hf]
  dsimp only
  rw [List.append_assoc]
theorem chain_stop {D : Dk} {n : Nat} {a : Sg} (r : List (List UInt8)) (h : n < 999999999 → followsF (readS (readD D (nameB (n + 1))).1) a = none) : chainL D (999999999 - n) n a r = (n, a, r) := by
 by_cases hn : n < 999999999
 ·rw [show 999999999 - n = (999999999 - (n + 1)) + 1 by omega, chainL, h hn]
 ·rw [show 999999999 - n = 0 by omega]; rfl
theorem first_none {D : Dk} : ∀ (N : List (List UInt8)) (q : Nat × Sg), (∀ x ∈ N, (readS (readD D x).1).kind ≠ 1) → N.foldl (stepF D) q = q
 | [], q, _ => rfl
 | x :: N, q, h => by
  rw [List.foldl_cons]
  have : stepF D q x = q := by unfold stepF; rw [if_neg (fun e => h x (by simp) e.2)]
  rw [this]
  exact first_none N q fun y hy => h y (by simp [hy])
theorem first_is {D : Dk} {f : Nat} {S : Sg} : ∀ (N : List (List UInt8)) (q : Nat × Sg), (∀ x ∈ N, (readS (readD D x).1).kind = 1 → numB x ≤ f ∧ (numB x = f → readS (readD D x).1 = S)) → q.1 ≤ f → (q.1 = f → q.2 = S) → (q.1 = f ∨ ∃ x ∈ N, numB x = f ∧ (readS (readD D x).1).kind = 1) → N.foldl (stepF D) q = (f, S)
 | [], q, _, _, h2, h3 => by
  rcases h3 with h3 | ⟨x, hx, _⟩
  ·have := h2 h3
   rw [List.foldl_nil]; rw [← h3, ← this]
  ·cases hx
 | x :: N, q, h, h1, h2, h3 => by
  rw [List.foldl_cons]
  have hx := h x (by simp)
  refine first_is N _ (fun y hy => h y (by simp [hy])) ?_ ?_ ?_
  ·unfold stepF
   split
   ·rename_i hc; exact (hx hc.2).1
   ·exact h1
  ·unfold stepF
   split
   ·rename_i hc; exact (hx hc.2).2
   ·exact h2
  ·rcases h3 with h3 | ⟨y, hy, h4, h5⟩
   ·left
    unfold stepF
    rw [if_neg (by omega)]; exact h3
   ·rcases List.mem_cons.1 hy with rfl | hy
    ·left
     unfold stepF
     split
     ·exact h4
     ·rename_i hc
      have := (hx h5).1
      have : ¬ q.1 < numB y := fun h => hc ⟨h, h5⟩
      omega
    ·exact .inr ⟨y, hy, h4, h5⟩
theorem clean_keep {a b : Nat} : ∀ (N : List (List UInt8)) (D : Dk), (∀ x ∈ N, 1 ≤ numB x ∧ a ≤ numB x ∧ numB x ≤ b) → cleanL a b N D = (0, D)
 | [], D, _ => rfl
 | x :: N, D, h => by
  have := h x (by simp)
  rw [cleanL, if_neg (by omega)]
  exact clean_keep N D fun y hy => h y (by simp [hy])
theorem remove_ok {D : Dk} {s : Nat → List UInt8} {p : Nat → Prop} (h : Fs D.files s p) (ho : D.off = false) {k : Nat} (hk : p k) : removeD D (nameB k) = if D.fuse = 0 then (50, { D with off := true }) else (0, { stepD D with files := delF D.files (nameB k) }) := by
 have hb := h.num k hk
 have he : readyE D (nameB k) = 0 := by
  unfold readyE
  rw [if_neg (by rw [fine_name k (by omega)]; decide), if_neg (by rw [ho]; decide)]
 unfold removeD knownD
 rw [if_neg (by rw [he]; decide), h.has k hk]
 rfl
theorem clean_fs {a b : Nat} {s : Nat → List UInt8} : ∀ (N : List (List UInt8)) (D : Dk) (p : Nat → Prop), Fs D.files s p → D.off = false → D.fuse = -1 → N.Nodup → (∀ x ∈ N, ∃ k, p k ∧ x = nameB k) → ∃ D', cleanL a b N D = (0, D') ∧ Fs D'.files s (fun k => p k ∧ ¬ (nameB k ∈ N ∧ (k < a ∨ b < k))) ∧ D'.off = false ∧ D'.fuse = -1
 | [], D, p, h, ho, hf, _, _ => ⟨D, rfl, h.congr (fun k => by simp) (fun _ _ => rfl), ho, hf⟩
 | x :: N, D, p, h, ho, hf, hnd, hN => by
  obtain ⟨k, hk, rfl⟩ := hN x (by simp)
  have hb := h.num k hk
  have hnum := num_name k hb.1 hb.2
  rw [List.nodup_cons] at hnd
  rw [cleanL, hnum]
  by_cases hc : k = 0 ∨ k < a ∨ b < k
  ·have hrm : removeD D (nameB k) = (0, { stepD D with files := delF D.files (nameB k) }) := by rw [remove_ok h ho hk, if_neg (by rw [hf]; decide)]
   rw [if_pos hc, hrm]
   dsimp only
   rw [if_neg (fun h => h rfl)]
   obtain ⟨D', h1, h2, h3, h4⟩ := clean_fs (a := a) (b := b) N { stepD D with files := delF D.files (nameB k) } (fun i => p i ∧ i ≠ k) (h.del k (by omega)) ho (by show max (D.fuse - 1) (-1) = -1; rw [hf]; rfl) hnd.2 (fun y hy => by
    obtain ⟨i, hi, rfl⟩ := hN y (by simp [hy])
    exact ⟨i, ⟨hi, fun e => by subst e; exact hnd.1 hy⟩, rfl⟩)
   refine ⟨D', h1, h2.congr (fun i => ?_) (fun _ _ => rfl), h3, h4⟩
   constructor
   ·rintro ⟨hp, hn⟩
    refine ⟨⟨hp, fun e => hn ⟨by subst e; simp, by subst e; omega⟩⟩, fun hh => hn ⟨by simp [hh.1], hh.2⟩⟩
   ·rintro ⟨⟨hp, hik⟩, hn⟩
    refine ⟨hp, fun hh => hn ⟨?_, hh.2⟩⟩
    rcases List.mem_cons.1 hh.1 with e | e
    ·have hbi := h.num i hp
     exact absurd (name_inj (by omega) (by omega) e) hik
    ·exact e
  ·rw [if_neg hc]
   obtain ⟨D', h1, h2, h3, h4⟩ := clean_fs (a := a) (b := b) N D p h ho hf hnd.2 (fun y hy => hN y (by simp [hy]))
   refine ⟨D', h1, h2.congr (fun i => ?_) (fun _ _ => rfl), h3, h4⟩
   constructor
   ·rintro ⟨hp, hn⟩
    exact ⟨hp, fun hh => hn ⟨by simp [hh.1], hh.2⟩⟩
   ·rintro ⟨hp, hn⟩
    refine ⟨hp, fun hh => hn ⟨?_, hh.2⟩⟩
    rcases List.mem_cons.1 hh.1 with e | e
    ·have hbi := h.num i hp
     have := name_inj (by omega) (by omega) e
     subst this
     exact absurd (.inr hh.2) hc
    ·exact e
theorem Fs.nodup {F : List (List UInt8 × Fi)} {s : Nat → List UInt8} {p : Nat → Prop} (h : Fs F s p) : (F.map (·.1)).Nodup := List.pairwise_map.2 (h.srt.imp fun h e => by rw [e] at h; exact List.lt_irrefl _ h)
theorem follows_zero {a c : Sg} (h : a.kind ≠ 2) : followsF a c = none := by unfold followsF; rw [if_pos (.inl h)]
theorem readS_nil : readS [] = ⟨[], 0, [], 0⟩ := readS_zero openF_nil
/-- What is found where the segments from f to n follow each other, and no later one does. -/
theorem open_core {D : Dk} {s : Nat → List UInt8} {p : Nat → Prop} {f n : Nat} {C : List (List UInt8)} (h : Fs D.files s p) (ho : D.off = false) (hfu : D.fuse = -1) (hl : Link s f n C) (hin : ∀ k, f ≤ k → k ≤ n → p k) (hk : (readS (s f)).kind = 1)
  (hlt : ∀ k, p k → n < k → (readS (s k)).kind ≠ 1) (hnx : p (n + 1) → followsF (readS (s (n + 1))) (readS (s n)) = none) :
  ∃ D', openL D = (0, some (⟨n, (scanF (s n)).2, decide ((scanF (s n)).2 < (s n).length), f⟩, (readS (s f)).base, C ++ (scanF (s n)).1.tail), D') ∧ Fs D'.files s (fun k => f ≤ k ∧ k ≤ n) ∧ D'.off = false ∧ D'.fuse = -1 ∧ ((∀ k, p k → f ≤ k ∧ k ≤ n) → D' = D) := by
 have hle := hl.le
 have hf9 := h.num f (hin f (Nat.le_refl _) hle)
 have hn9 := h.num n (hin n hle (Nat.le_refl _))
 have hN := h.names ho
 have hmem : ∀ x ∈ D.files.map (·.1), ∃ k, p k ∧ x = nameB k := fun x hx => by
  obtain ⟨t, ht, rfl⟩ := List.mem_map.1 hx
  obtain ⟨k, hk, rfl⟩ := h.all t ht
  exact ⟨k, hk, rfl⟩
 have hF : firstL D (D.files.map (·.1)) = (f, readS (s f)) := by
  refine first_is _ _ (fun x hx hkx => ?_) (Nat.zero_le _) (fun e => by dsimp only at e; omega) (.inr ⟨nameB f, ?_, num_name f hf9.1 hf9.2, by rw [h.read ho (hin f (Nat.le_refl _) hle)]; exact hk⟩)
  ·obtain ⟨k, hpk, rfl⟩ := hmem x hx
   have hb := h.num k hpk
   rw [h.read ho hpk] at hkx ⊢
   rw [num_name k hb.1 hb.2]
   refine ⟨?_, fun e => by rw [e]⟩
   by_cases h1 : k ≤ f
   ·exact h1
   ·by_cases h2 : k ≤ n
    ·have := hl.kind k (by omega) h2
     rw [this] at hkx; exact absurd hkx (by decide)
    ·exact absurd hkx (hlt k hpk (by omega))
  ·exact List.mem_map.2 ⟨_, getF_mem (h.has f (hin f (Nat.le_refl _) hle)), rfl⟩
 have hC : chainD D = (n, readS (s n), C) := by
  unfold chainD
  rw [hN, hF]
  dsimp only
  rw [if_pos (by omega), chain_link hl [] (fun k a b => h.read ho (hin k (by omega) b)) hn9.2, chain_stop _ (fun hn => ?_), List.nil_append]
  by_cases hp : p (n + 1)
  ·rw [h.read ho hp]; exact hnx hp
  ·rw [h.read0 (by omega) hp, readS_nil]; exact follows_zero (by decide)
 have hT : tailD D = (C ++ (scanF (s n)).1.tail, (scanF (s n)).2, decide ((scanF (s n)).2 < (s n).length)) := by
  unfold tailD
  rw [hN, hF, hC]
  dsimp only
  rw [if_pos (by omega), readS_bytes]
 obtain ⟨D', hD, hFs, h1, h2⟩ := clean_fs (a := f) (b := n) _ D p h ho hfu h.nodup hmem
 refine ⟨D', ?_, ?_, h1, h2, fun hall => ?_⟩
 ·unfold openL
  rw [if_neg (by rw [ho]; decide), hN, hF, hC, hT]
  dsimp only
  rw [hD, if_neg (fun h => h rfl)]
 ·refine hFs.congr (fun k => ?_) (fun _ _ => rfl)
  constructor
  ·rintro ⟨a, b⟩
   exact ⟨hin k a b, fun hh => by omega⟩
  ·rintro ⟨hp, hh⟩
   have : nameB k ∈ D.files.map (·.1) := List.mem_map.2 ⟨_, getF_mem (h.has k hp), rfl⟩
   have hh2 : ¬ (k < f ∨ n < k) := fun e => hh ⟨this, e⟩
   omega
 ·rw [clean_keep _ D (fun x hx => by
   obtain ⟨k, hpk, rfl⟩ := hmem x hx
   have hb := h.num k hpk
   have := hall k hpk
   rw [num_name k hb.1 hb.2]; omega)] at hD
  injection hD with _ hD
  exact hD.symm
theorem open_none {D : Dk} {s : Nat → List UInt8} {p : Nat → Prop} (h : Fs D.files s p) (ho : D.off = false) (hfu : D.fuse = -1) (hk : ∀ k, p k → (readS (s k)).kind ≠ 1) :
  ∃ D', openL D = (0, some (⟨0, 0, false, 0⟩, [], []), D') ∧ Fs D'.files s (fun _ => False) ∧ D'.off = false ∧ D'.fuse = -1 ∧ ((∀ k, ¬ p k) → D' = D) := by
 have hN := h.names ho
 have hmem : ∀ x ∈ D.files.map (·.1), ∃ k, p k ∧ x = nameB k := fun x hx => by
  obtain ⟨t, ht, rfl⟩ := List.mem_map.1 hx
  obtain ⟨k, hk, rfl⟩ := h.all t ht
  exact ⟨k, hk, rfl⟩
 have hF : firstL D (D.files.map (·.1)) = (0, zeroSg) := first_none _ _ fun x hx => by
  obtain ⟨k, hpk, rfl⟩ := hmem x hx
  rw [h.read ho hpk]; exact hk k hpk
 have hC : chainD D = (0, zeroSg, []) := by
  unfold chainD
  rw [hN, hF, if_neg (by decide)]
 have hT : tailD D = ([], 0, false) := by
  unfold tailD
  rw [hN, hF, if_neg (by decide)]
 obtain ⟨D', hD, hFs, h1, h2⟩ := clean_fs (a := 0) (b := 0) _ D p h ho hfu h.nodup hmem
 refine ⟨D', ?_, ?_, h1, h2, fun hall => ?_⟩
 ·unfold openL
  rw [if_neg (by rw [ho]; decide), hN, hF, hC, hT]
  dsimp only
  rw [hD, if_neg (fun h => h rfl)]
  rfl
 ·refine hFs.congr (fun k => ?_) (fun _ _ => rfl)
  constructor
  ·exact fun h => h.elim
  ·rintro ⟨hp, hh⟩
   have := h.num k hp
   exact hh ⟨List.mem_map.2 ⟨_, getF_mem (h.has k hp), rfl⟩, by omega⟩
 ·have e := h.nil hall
  rw [e, List.map_nil, cleanL] at hD
  injection hD with _ hD
  exact hD.symm
end Go.Proofs.YtcmdmhmgffjknaaGreatDoor
/- What is found behind each act, wherever the power goes: plain facts. -/
namespace Go.Proofs.YtcmdmhmgffjknaaGreatDoor
open Go.Sx
set_option linter.unusedVariables false

/-- A log that has segments. -/
structure Has (D : Dk) (L : Lg) (base : List UInt8) (list : List (List UInt8)) (s : Nat → List UInt8) (C : List (List UInt8)) : Prop where
 fs : Fs D.files s (fun k => L.first ≤ k ∧ k ≤ L.number)
 lk : Link s L.first L.number C
 kd : (readS (s L.first)).kind = 1
 ba : (readS (s L.first)).base = base
 li : C ++ (scanF (s L.number)).1.tail = list
 go : L.good = (scanF (s L.number)).2
 to : L.torn = decide (L.good < (s L.number).length)
/-- A log that is open, over a drive that is on. -/
def Live (D : Dk) (L : Lg) (base : List UInt8) (list : List (List UInt8)) : Prop := D.off = false ∧ ((D.files = [] ∧ L = ⟨0, 0, false, 0⟩ ∧ base = [] ∧ list = []) ∨ ∃ s C, Has D L base list s C)
/-- What a drive's log tells. -/
def Fnd (D : Dk) (R : List UInt8 → List (List UInt8) → Prop) : Prop := ∃ L b g D', openL D = (0, some (L, b, g), D') ∧ Live D' L b g ∧ D'.fuse = -1 ∧ R b g
/-- .. behind any loss of power. -/
def Aft (D : Dk) (R : List UInt8 → List (List UInt8) → Prop) : Prop := ∀ ks, Fnd (crashD D ks) R
theorem Fnd.mono {D : Dk} {R R' : List UInt8 → List (List UInt8) → Prop} (h : Fnd D R) (k : ∀ b g, R b g → R' b g) : Fnd D R' := let ⟨L, b, g, D', h1, h2, h3, h4⟩ := h; ⟨L, b, g, D', h1, h2, h3, k _ _ h4⟩
theorem fnd_core {D : Dk} {s : Nat → List UInt8} {p : Nat → Prop} {f n : Nat} {C : List (List UInt8)} (R : List UInt8 → List (List UInt8) → Prop) (h : Fs D.files s p) (ho : D.off = false) (hfu : D.fuse = -1) (hl : Link s f n C) (hin : ∀ k, f ≤ k → k ≤ n → p k) (hk : (readS (s f)).kind = 1)
  (hlt : ∀ k, p k → n < k → (readS (s k)).kind ≠ 1) (hnx : p (n + 1) → followsF (readS (s (n + 1))) (readS (s n)) = none) (hR : R (readS (s f)).base (C ++ (scanF (s n)).1.tail)) : Fnd D R := by
 obtain ⟨D', h1, h2, h3, h4, _⟩ := open_core h ho hfu hl hin hk hlt hnx
 exact ⟨_, _, _, D', h1, ⟨h3, .inr ⟨s, C, h2, hl, hk, rfl, rfl, rfl, rfl⟩⟩, h4, hR⟩
theorem fnd_none {D : Dk} {s : Nat → List UInt8} {p : Nat → Prop} (R : List UInt8 → List (List UInt8) → Prop) (h : Fs D.files s p) (ho : D.off = false) (hfu : D.fuse = -1) (hk : ∀ k, p k → (readS (s k)).kind ≠ 1) (hR : R [] []) : Fnd D R := by
 obtain ⟨D', h1, h2, h3, h4, _⟩ := open_none h ho hfu hk
 exact ⟨_, _, _, D', h1, ⟨h3, .inl ⟨h2.nil fun _ h => h, rfl, rfl, rfl⟩⟩, h4, hR⟩
/-- Opened once more it tells the same, and nothing is written. -/
theorem live_open {D : Dk} {L : Lg} {base : List UInt8} {list : List (List UInt8)} (h : Live D L base list) (hfu : D.fuse = -1) : openL D = (0, some (L, base, list), D) := by
 obtain ⟨ho, ⟨hf, rfl, rfl, rfl⟩ | ⟨s, C, h⟩⟩ := h
 ·have hF : Fs D.files (fun _ => []) (fun _ => False) := by rw [hf]; exact Fs.empty _
  obtain ⟨D', h1, _, _, _, h5⟩ := open_none hF ho hfu (fun _ h => h.elim)
  rw [h1, h5 fun _ h => h]
 ·obtain ⟨D', h1, _, _, _, h5⟩ := open_core h.fs ho hfu h.lk (fun k a b => ⟨a, b⟩) h.kd (fun k hk hn => absurd hk.2 (by omega)) (fun hp => absurd hp.2 (by omega))
  rw [h1, h5 fun _ h => h, h.ba, h.li]
  have e : (⟨L.number, (scanF (s L.number)).2, decide ((scanF (s L.number)).2 < (s L.number).length), L.first⟩ : Lg) = L := by
   rw [← h.go, ← h.to]
  rw [e]
/-- A log's files; what is found where one more file says nothing. -/
theorem live_re {D : Dk} {L : Lg} {base : List UInt8} {list : List (List UInt8)} (h : Live D L base list) : ∃ s p, Fs D.files s p ∧ (∀ k, p k ↔ max L.first 1 ≤ k ∧ k ≤ L.number) ∧
  ∀ D2 s2 p2, D2.off = false → D2.fuse = -1 → Fs D2.files s2 p2 → (∀ k, p k → p2 k ∧ s2 k = s k) → (∀ k, p2 k → p k ∨ (k = L.number + 1 ∧ openF (s2 k) = none)) → Fnd D2 (fun b g => b = base ∧ g = list) := by
 obtain ⟨ho, ⟨hf, rfl, rfl, rfl⟩ | ⟨s, C, h⟩⟩ := h
 ·refine ⟨fun _ => [], fun _ => False, by rw [hf]; exact Fs.empty _, fun k => ⟨fun h => h.elim, fun h => by dsimp only at h; omega⟩, fun D2 s2 p2 ho2 hf2 h2 h3 h4 => ?_⟩
  exact fnd_none _ h2 ho2 hf2 (fun k hk => by rw [readS_zero ((h4 k hk).resolve_left id).2]; exact fun e => by cases e) ⟨rfl, rfl⟩
 ·have hle := h.lk.le
  have h1 := h.fs.num L.first ⟨Nat.le_refl _, hle⟩
  refine ⟨s, _, h.fs, fun k => ?_, fun D2 s2 p2 ho2 hf2 h2 h3 h4 => ?_⟩
  ·rw [show max L.first 1 = L.first by omega]
  ·have e : ∀ k, L.first ≤ k → k ≤ L.number → s2 k = s k := fun k a b => (h3 k ⟨a, b⟩).2
   have z : ∀ k, p2 k → L.number < k → (readS (s2 k)).kind = 0 := fun k hk hn => by
    rcases h4 k hk with h5 | h5
    ·omega
    ·rw [readS_zero h5.2]
   refine fnd_core (f := L.first) (n := L.number) (C := C) _ h2 ho2 hf2 (h.lk.congr (fun k a b => e k a (by omega)) (by rw [e _ hle (Nat.le_refl _)]) (by rw [e _ hle (Nat.le_refl _)])) (fun k a b => (h3 k ⟨a, b⟩).1) ?_ (fun k hk hn => ?_) (fun hp => ?_) ⟨?_, ?_⟩
   ·rw [e _ (Nat.le_refl _) hle]; exact h.kd
   ·rw [z k hk hn]; decide
   ·exact follows_zero (by rw [z _ hp (by omega)]; decide)
   ·rw [e _ (Nat.le_refl _) hle]; exact h.ba
   ·rw [e _ hle (Nat.le_refl _)]; exact h.li
theorem live_aft {D : Dk} {L : Lg} {base : List UInt8} {list : List (List UInt8)} (h : Live D L base list) : Aft D (fun b g => b = base ∧ g = list) := fun ks => by
 obtain ⟨s, p, h1, h2, h3⟩ := live_re h
 refine h3 _ s p rfl rfl ?_ (fun k hk => ⟨hk, rfl⟩) (fun k hk => .inl hk)
 show Fs (crashL D.files ks) s p
 rw [crash_all h1.st]; exact h1
theorem ready_ok {D : Dk} (ho : D.off = false) {n : Nat} (h : n ≤ 1000000001) : readyE D (nameB n) = 0 := by
 unfold readyE
 rw [if_neg (by rw [fine_name n h]; decide), if_neg (by rw [ho]; decide)]
/-- Bytes put into a file so that they last, or not. -/
theorem write_cases {D : Dk} {s : Nat → List UInt8} {p : Nat → Prop} (h : Fs D.files s p) (ho : D.off = false) (n : Nat) (h1 : 1 ≤ n) (h2 : n ≤ 999999999) (x y : List UInt8) (hx : (p n ∧ x = s n) ∨ (¬ p n ∧ x = [])) (hy : y ≠ []) :
  writeD D (nameB n) y = (52, D) ∨
  (∃ D1, writeD D (nameB n) y = (50, D1) ∧ D1.off = true ∧ ∀ ks, Fs (crashL D1.files ks) s p ∨ ∃ j, Fs (crashL D1.files ks) (upS s n (x ++ y.take j)) (fun k => p k ∨ k = n)) ∨
  (∃ D1, writeD D (nameB n) y = (0, D1) ∧ D1.off = false ∧ Fs D1.files (upS s n (x ++ y)) (fun k => p k ∨ k = n)) := by
 obtain ⟨o, hg, hop⟩ : ∃ o, (getF D.files (nameB n)).getD ⟨[], 0, false⟩ = ⟨x, x.length, o⟩ ∧ (o = false → ¬ p n) := by
  rcases hx with ⟨hp, rfl⟩ | ⟨hp, rfl⟩
  ·exact ⟨true, by rw [h.has n hp]; rfl, fun h => by cases h⟩
  ·exact ⟨false, by rw [h.not (by omega) hp]; rfl, fun _ => hp⟩
 have hA : appendD D (nameB n) y = if 1048576 < y.length + x.length then (52, D) else if D.fuse = 0 then (50, { D with off := true }) else (0, { stepD D with files := setF D.files (nameB n) ⟨x ++ y, x.length, o⟩ }) := by
  unfold appendD
  rw [if_neg (by rw [ready_ok ho (by omega)]; decide)]
  dsimp only
  rw [hg]
 unfold writeD
 rw [hA]
 by_cases hc1 : 1048576 < y.length + x.length
 ·rw [if_pos hc1]
  dsimp only
  rw [if_pos (by decide)]
  exact .inl rfl
 rw [if_neg hc1]
 by_cases hc2 : D.fuse = 0
 ·rw [if_pos hc2]
  dsimp only
  rw [if_pos (by decide)]
  refine .inr (.inl ⟨_, rfl, rfl, fun ks => .inl ?_⟩)
  show Fs (crashL D.files ks) s p
  rw [crash_all h.st]; exact h
 rw [if_neg hc2]
 dsimp only
 rw [if_neg (by decide)]
 have hgs : getF (setF D.files (nameB n) ⟨x ++ y, x.length, o⟩) (nameB n) = some ⟨x ++ y, x.length, o⟩ := by rw [getF_setF, if_pos rfl]
 have hrd : readyE { stepD D with files := setF D.files (nameB n) ⟨x ++ y, x.length, o⟩ } (nameB n) = 0 := ready_ok (by exact ho) (by omega)
 have hS : syncD { stepD D with files := setF D.files (nameB n) ⟨x ++ y, x.length, o⟩ } (nameB n) = if max (D.fuse - 1) (-1) = 0 then (50, { { stepD D with files := setF D.files (nameB n) ⟨x ++ y, x.length, o⟩ } with off := true }) else (0, { stepD { stepD D with files := setF D.files (nameB n) ⟨x ++ y, x.length, o⟩ } with files := setF (setF D.files (nameB n) ⟨x ++ y, x.length, o⟩) (nameB n) ⟨x ++ y, (x ++ y).length, true⟩ }) := by
  unfold syncD knownD
  rw [if_neg (by rw [hrd]; decide)]
  dsimp only
  rw [hgs]
  rfl
 rw [hS]
 by_cases hc3 : max (D.fuse - 1) (-1) = 0
 ·rw [if_pos hc3]
  refine .inr (.inl ⟨_, rfl, rfl, fun ks => ?_⟩)
  show Fs (crashL (setF D.files (nameB n) ⟨x ++ y, x.length, o⟩) ks) s p ∨ _
  have hw : x.length < (x ++ y).length := by
   have := List.length_pos_iff.2 hy
   rw [List.length_append]; omega
  obtain ⟨j, hj, hcut⟩ := cut_is x y o (ks.headD 0)
  have hcr := crash_one h.srt h.st (nameB n) ⟨x ++ y, x.length, o⟩ hw ks
  rw [hcut] at hcr
  dsimp only at hcr
  show Fs (crashL (setF D.files (nameB n) ⟨x ++ y, x.length, o⟩) ks) s p ∨ ∃ j, Fs (crashL (setF D.files (nameB n) ⟨x ++ y, x.length, o⟩) ks) (upS s n (x ++ y.take j)) (fun k => p k ∨ k = n)
  rw [hcr]
  by_cases hold : (o || decide (0 < j)) = true
  ·rw [if_pos hold, hold]
   exact .inr ⟨j, h.set n _ h1 h2⟩
  ·rw [if_neg hold]
   have ho2 : o = false := by cases o; rfl; exact absurd rfl hold
   exact .inl ((h.del n (by omega)).congr (fun k => ⟨fun hk => ⟨hk, fun e => by subst e; exact hop ho2 hk⟩, fun hk => hk.1⟩) (fun _ _ => rfl))
 ·rw [if_neg hc3]
  refine .inr (.inr ⟨_, rfl, ho, ?_⟩)
  show Fs (setF (setF D.files (nameB n) ⟨x ++ y, x.length, o⟩) (nameB n) ⟨x ++ y, (x ++ y).length, true⟩) _ _
  rw [setF_setF]
  exact h.set n _ h1 h2
theorem tail_app {l m : List (List UInt8)} (h : 0 < l.length) : (l ++ m).tail = l.tail ++ m := by
 match l, h with
 | _ :: _, _ => rfl
/-- More put behind the last segment. -/
theorem put_same {D : Dk} {L : Lg} {base : List UInt8} {list : List (List UInt8)} {s : Nat → List UInt8} {C : List (List UInt8)} (h : Has D L base list s C) (ht : L.torn = false) (y : List UInt8) :
  Link (upS s L.number (s L.number ++ y)) L.first L.number C ∧ (readS (upS s L.number (s L.number ++ y) L.first)).kind = 1 ∧ (readS (upS s L.number (s L.number ++ y) L.first)).base = base ∧ C ++ (scanF (s L.number ++ y)).1.tail = list ++ (scanF y).1 ∧ (scanF (s L.number ++ y)).2 = L.good + (scanF y).2 := by
 have hle := h.lk.le
 have hk : (readS (s L.number)).kind ≠ 0 := by
  by_cases e : L.first = L.number
  ·rw [← e, h.kd]; decide
  ·rw [h.lk.kind L.number (by omega) (Nat.le_refl _)]; decide
 obtain ⟨r1, r2, r3⟩ := readS_app hk y
 have hto := h.to
 rw [ht] at hto
 have hgl : (scanF (s L.number)).2 = (s L.number).length := by
  have := scan_le (s L.number)
  have := h.go
  have : ¬ L.good < (s L.number).length := fun e => by rw [decide_eq_true e] at hto; cases hto
  omega
 rw [scan_app hgl y]
 refine ⟨h.lk.congr (fun k a b => upS_ne _ _ (by omega)) (by rw [upS_at]; exact r1) (by rw [upS_at]; exact r3), ?_, ?_, ?_, ?_⟩
 ·by_cases e : L.first = L.number
  ·rw [e, upS_at, r1, ← e]; exact h.kd
  ·rw [upS_ne _ _ e]; exact h.kd
 ·by_cases e : L.first = L.number
  ·rw [e, upS_at, r2, ← e]; exact h.ba
  ·rw [upS_ne _ _ e]; exact h.ba
 ·dsimp only
  rw [tail_app (scan_pos hk).1, ← List.append_assoc, h.li]
 ·dsimp only
  rw [h.go]
/-- A segment more. -/
theorem put_next {D : Dk} {L : Lg} {base : List UInt8} {list : List (List UInt8)} {s : Nat → List UInt8} {C : List (List UInt8)} (h : Has D L base list s C) (c : List UInt8) (hk : (readS c).kind = 2) (hb : (readS c).behind = L.good) :
  Link (upS s (L.number + 1) c) L.first (L.number + 1) list ∧ (readS (upS s (L.number + 1) c L.first)).kind = 1 ∧ (readS (upS s (L.number + 1) c L.first)).base = base := by
 have hle := h.lk.le
 have hk0 : (readS (s L.number)).kind ≠ 0 := by
  by_cases e : L.first = L.number
  ·rw [← e, h.kd]; decide
  ·rw [h.lk.kind L.number (by omega) (Nat.le_refl _)]; decide
 obtain ⟨p1, p2⟩ := scan_pos hk0
 have hsl := scan_le (s L.number)
 have hgo := h.go
 refine ⟨?_, by rw [upS_ne _ _ (by omega)]; exact h.kd, by rw [upS_ne _ _ (by omega)]; exact h.ba⟩
 rw [← h.li]
 refine .on (h.lk.congr (fun k a b => upS_ne _ _ (by omega)) (by rw [upS_ne _ _ (by omega)]) (by rw [upS_ne _ _ (by omega)])) ?_
 rw [upS_at, upS_ne _ _ (by omega)]
 unfold followsF
 rw [readS_bytes, hk, hb, if_neg (by rintro (e | e | e); exact e rfl; omega; omega), Int.toNat_natCast, hgo, scan_take, if_neg (by rintro (e | e); exact e rfl; omega)]
theorem sealB_nil {rs : List (List UInt8)} (h : sealB rs = []) : rs = [] := by
 match rs, h with
 | [], _ => rfl
 | p :: rs, h =>
  have e : sealB (p :: rs) = frameB p ++ sealB rs := by simp [sealB]
  rw [e] at h
  have h2 := (List.append_eq_nil_iff.1 h).1
  have := frameB_len p
  rw [h2] at this
  simp only [List.length_nil] at this
  omega
theorem seal_two (h : List UInt8) (rs : List (List UInt8)) : sealB [h] ++ sealB rs = sealB (h :: rs) := by simp [sealB]
end Go.Proofs.YtcmdmhmgffjknaaGreatDoor
/- Records put, a base laid: what a log has behind it, or finds behind a loss of power: plain facts. -/
namespace Go.Proofs.YtcmdmhmgffjknaaGreatDoor
open Go.Sx
set_option linter.unusedVariables false

/-- A first segment's content, whole or cut. -/
theorem first_seg {rs : List (List UInt8)} (hr : ∀ p ∈ rs, p.length ≤ 1048576) {y : List UInt8} {l : List (List UInt8)} {e : Nat} (hs : scanF (sealB [numsB [1, 0]] ++ y) = (numsB [1, 0] :: l, e)) (D : Dk) (hF : Fs D.files (upS (fun _ => []) 1 (sealB [numsB [1, 0]] ++ y)) (fun k => False ∨ k = 1)) :
  Has D ⟨1, e, decide (e < (sealB [numsB [1, 0]] ++ y).length), 1⟩ [] l (upS (fun _ => []) 1 (sealB [numsB [1, 0]] ++ y)) [] := by
 refine ⟨hF.congr (fun k => ⟨fun h => .inr (by dsimp only at h; omega), fun h => by obtain rfl := h.resolve_left id; exact ⟨Nat.le_refl _, Nat.le_refl _⟩⟩) (fun _ _ => rfl), .one, ?_, ?_, ?_, ?_, ?_⟩
 ·dsimp only; rw [upS_at, readS_first]
 ·dsimp only; rw [upS_at, readS_first]
 ·dsimp only; rw [upS_at, hs]; rfl
 ·dsimp only; rw [upS_at, hs]
 ·dsimp only; rw [upS_at]
theorem ne52 {D : Dk} : ((52 : Int), D).1 ≠ 0 := by show ¬ (52 : Int) = 0; decide
theorem ne50 {D : Dk} : ((50 : Int), D).1 ≠ 0 := by show ¬ (50 : Int) = 0; decide
theorem nums_fit (a b : Nat) (ha : a ≤ 1000000000) (hb : b ≤ 1000000000) : (numsB [a, b]).length ≤ 1048576 ∧ numsB [a, b] ≠ [] := by
 have hmax : maxS = 140737488355328 := rfl
 have := numsB_len2 a b (by omega) (by omega)
 exact ⟨by omega, this.2⟩
theorem append_step {D : Dk} {L : Lg} {base : List UInt8} {list : List (List UInt8)} (hl : Live D L base list) (hg : L.good ≤ 1000000000) (rs : List (List UInt8)) :
  ((appendL L D rs).1 = 0 ∧ Live (appendL L D rs).2.2 (appendL L D rs).2.1 base (list ++ rs)) ∨
  ((appendL L D rs).1 = 50 ∧ (appendL L D rs).2.2.off = true ∧ (appendL L D rs).2.1 = L ∧ Aft (appendL L D rs).2.2 (fun b g => b = base ∧ ∃ i, g = list ++ rs.take i)) ∨
  ((appendL L D rs).1 ≠ 0 ∧ (appendL L D rs).1 ≠ 50 ∧ (appendL L D rs).2 = (L, D)) := by
 unfold appendL
 by_cases h1 : ∃ r ∈ rs, 8192 < r.length
 ·rw [if_pos h1]; exact .inr (.inr ⟨(by show ¬ (4 : Int) = 0; decide), (by show ¬ (4 : Int) = 50; decide), rfl⟩)
 rw [if_neg h1]
 by_cases h2 : 65536 < (sealB rs).length
 ·rw [if_pos h2]; exact .inr (.inr ⟨(by show ¬ (4 : Int) = 0; decide), (by show ¬ (4 : Int) = 50; decide), rfl⟩)
 rw [if_neg h2]
 by_cases h3 : sealB rs = []
 ·rw [if_pos h3]; obtain rfl := sealB_nil h3; exact .inl ⟨rfl, by rw [List.append_nil]; exact hl⟩
 rw [if_neg h3]
 have hr : ∀ p ∈ rs, p.length ≤ 1048576 := fun p hp => by
  have : ¬ 8192 < p.length := fun h => h1 ⟨p, hp, h⟩
  omega
 obtain ⟨ho, ⟨hf, rfl, rfl, rfl⟩ | ⟨s, C, h⟩⟩ := hl
 ·have hp : planL ⟨0, 0, false, 0⟩ = some (numsB [1, 0], 1, 0, false) := by unfold planL; rw [if_pos rfl]
  obtain ⟨n1, n2⟩ := nums_fit 1 0 (by decide) (by decide)
  have hfu : fullB (numsB [1, 0]) (sealB rs) = sealB [numsB [1, 0]] ++ sealB rs := by unfold fullB; rw [if_neg n2]
  rw [hp]
  dsimp only
  rw [hfu]
  have hF : Fs D.files (fun _ => []) (fun _ => False) := by rw [hf]; exact Fs.empty _
  have hne : sealB [numsB [1, 0]] ++ sealB rs ≠ [] := fun e => h3 (List.append_eq_nil_iff.1 e).2
  rcases write_cases hF ho 1 (by decide) (by decide) [] (sealB [numsB [1, 0]] ++ sealB rs) (.inr ⟨id, rfl⟩) hne with hw | ⟨D1, hw, ho1, hcr⟩ | ⟨D1, hw, ho1, hF1⟩
  ·rw [hw, if_pos ne52]; exact .inr (.inr ⟨(by show ¬ (52 : Int) = 0; decide), (by show ¬ (52 : Int) = 50; decide), rfl⟩)
  ·rw [hw, if_pos ne50]
   refine .inr (.inl ⟨rfl, ho1, rfl, fun ks => ?_⟩)
   rcases hcr ks with hc | ⟨j, hc⟩
   ·exact fnd_none _ (D := crashD D1 ks) hc rfl rfl (fun k h => h.elim) ⟨rfl, 0, rfl⟩
   ·rw [List.nil_append] at hc
    rcases cut_head n1 hr j with hz | ⟨y, i, e, hy, hs⟩
    ·refine fnd_none _ (D := crashD D1 ks) hc rfl rfl (fun k hk => ?_) ⟨rfl, 0, rfl⟩
     obtain rfl := hk.resolve_left id
     rw [upS_at, readS_zero hz]; exact fun h => by cases h
    ·rw [hy] at hc
     have hH := first_seg hr hs (crashD D1 ks) hc
     have hx := live_aft (D := crashD D1 ks) (L := ⟨1, e, decide (e < (sealB [numsB [1, 0]] ++ y).length), 1⟩) ⟨rfl, .inr ⟨_, _, hH⟩⟩ []
     have e : crashD (crashD D1 ks) [] = crashD D1 ks := by
      show (⟨crashL (crashL D1.files ks) [], -1, false, D1.steps⟩ : Dk) = ⟨crashL D1.files ks, -1, false, D1.steps⟩
      rw [crash_all (L := crashL D1.files ks) hH.fs.st]
     rw [e] at hx
     exact hx.mono (fun b g h => ⟨h.1, i, by rw [h.2]; rfl⟩)
  ·rw [hw, if_neg (fun h => h rfl)]
   refine .inl ⟨rfl, ho1, .inr ?_⟩
   rw [List.nil_append] at hF1
   have hs := scanF_sealed (numsB [1, 0] :: rs) (fun p hp => by rcases List.mem_cons.1 hp with rfl | hp; exact n1; exact hr p hp)
   rw [← seal_two] at hs
   have hH := first_seg hr hs D1 hF1
   rw [decide_eq_false (by omega)] at hH
   refine ⟨upS (fun _ => []) 1 (sealB [numsB [1, 0]] ++ sealB rs), [], ?_⟩
   show Has D1 ⟨1, 0 + (sealB [numsB [1, 0]] ++ sealB rs).length, false, 1⟩ [] rs _ _
   rw [Nat.zero_add]
   exact hH
 ·have hle := h.lk.le
  have hnum := h.fs.num L.number ⟨hle, Nat.le_refl _⟩
  have hfn := h.fs.num L.first ⟨Nat.le_refl _, hle⟩
  have hmx : max L.first 1 = L.first := by omega
  obtain ⟨n1, n2⟩ := nums_fit 2 L.good (by decide) hg
  by_cases hsp : (L.torn || decide (2048 ≤ (L.good : Int))) = true
  ·by_cases h9 : L.number = 999999999
   ·have hp : planL L = none := by unfold planL; rw [if_neg (by omega), if_pos hsp, if_pos h9]
    rw [hp]
    exact .inr (.inr ⟨(by show ¬ (52 : Int) = 0; decide), (by show ¬ (52 : Int) = 50; decide), rfl⟩)
   ·have hp : planL L = some (numsB [2, L.good], L.number + 1, 0, false) := by unfold planL; rw [if_neg (by omega), if_pos hsp, if_neg h9]
    have hfu : fullB (numsB [2, L.good]) (sealB rs) = sealB [numsB [2, L.good]] ++ sealB rs := by unfold fullB; rw [if_neg n2]
    rw [hp]
    dsimp only
    rw [hfu]
    have hne : sealB [numsB [2, L.good]] ++ sealB rs ≠ [] := fun e => h3 (List.append_eq_nil_iff.1 e).2
    have key : ∀ (D1 : Dk) (y : List UInt8) (l : List (List UInt8)) (e : Nat), scanF (sealB [numsB [2, L.good]] ++ y) = (numsB [2, L.good] :: l, e) → Fs D1.files (upS s (L.number + 1) (sealB [numsB [2, L.good]] ++ y)) (fun k => (L.first ≤ k ∧ k ≤ L.number) ∨ k = L.number + 1) →
      Has D1 ⟨L.number + 1, e, decide (e < (sealB [numsB [2, L.good]] ++ y).length), L.first⟩ base (list ++ l) (upS s (L.number + 1) (sealB [numsB [2, L.good]] ++ y)) list := fun D1 y l e hs hF1 => by
     obtain ⟨q1, q2, q3⟩ := put_next h (sealB [numsB [2, L.good]] ++ y) (by rw [readS_on _ _ hg]) (by rw [readS_on _ _ hg])
     refine ⟨hF1.congr (fun k => ⟨fun h => by dsimp only at h; omega, fun h => by dsimp only; omega⟩) (fun _ _ => rfl), q1, q2, q3, ?_, ?_, ?_⟩
     ·dsimp only; rw [upS_at, hs]; rfl
     ·dsimp only; rw [upS_at, hs]
     ·dsimp only; rw [upS_at]
    rcases write_cases h.fs ho (L.number + 1) (by omega) (by omega) [] (sealB [numsB [2, L.good]] ++ sealB rs) (.inr ⟨fun e => by omega, rfl⟩) hne with hw | ⟨D1, hw, ho1, hcr⟩ | ⟨D1, hw, ho1, hF1⟩
    ·rw [hw, if_pos ne52]; exact .inr (.inr ⟨(by show ¬ (52 : Int) = 0; decide), (by show ¬ (52 : Int) = 50; decide), rfl⟩)
    ·rw [hw, if_pos ne50]
     refine .inr (.inl ⟨rfl, ho1, rfl, fun ks => ?_⟩)
     obtain ⟨s0, p0, hF0, hp0, hre⟩ := live_re (D := D) (L := L) (base := base) (list := list) ⟨ho, .inr ⟨s, C, h⟩⟩
     show Fnd (crashD D1 ks) _
     rcases hcr ks with hc | ⟨j, hc⟩
     ·exact fnd_core (f := L.first) (n := L.number) (C := C) _ (D := crashD D1 ks) hc rfl rfl h.lk (fun k a b => ⟨a, b⟩) h.kd (fun k hk hn => absurd hk.2 (by omega)) (fun hp => absurd hp.2 (by omega)) ⟨h.ba, 0, by rw [h.li]; simp⟩
     ·rw [List.nil_append] at hc
      rcases cut_head n1 hr j with hz | ⟨y, i, e, hy, hs⟩
      ·have hu : ∀ k, k ≤ L.number → upS s (L.number + 1) ((sealB [numsB [2, L.good]] ++ sealB rs).take j) k = s k := fun k hk => upS_ne _ _ (by omega)
       refine fnd_core (f := L.first) (n := L.number) (C := C) _ (D := crashD D1 ks) hc rfl rfl (h.lk.congr (fun k a b => hu k (by omega)) (by rw [hu _ (Nat.le_refl _)]) (by rw [hu _ (Nat.le_refl _)])) (fun k a b => .inl ⟨a, b⟩) (by rw [hu _ hle]; exact h.kd) (fun k hk hn => ?_) (fun hp => ?_) ⟨by rw [hu _ hle]; exact h.ba, 0, by rw [hu _ (Nat.le_refl _), h.li]; simp⟩
       ·obtain rfl : k = L.number + 1 := by omega
        rw [upS_at, readS_zero hz]; exact fun h => by cases h
       ·rw [upS_at, readS_zero hz]; exact follows_zero (fun h => by cases h)
      ·rw [hy] at hc
       have hH := key (crashD D1 ks) y _ e hs hc
       refine fnd_core (f := L.first) (n := L.number + 1) (C := list) _ (D := crashD D1 ks) hH.fs rfl rfl hH.lk (fun k a b => ⟨a, b⟩) hH.kd (fun k hk hn => absurd hk.2 (by dsimp only; omega)) (fun hp => absurd hp.2 (by dsimp only; omega)) ⟨hH.ba, i, hH.li⟩
    ·rw [hw, if_neg (fun h => h rfl)]
     refine .inl ⟨rfl, ho1, .inr ?_⟩
     rw [List.nil_append] at hF1
     have hs := scanF_sealed (numsB [2, L.good] :: rs) (fun p hp => by rcases List.mem_cons.1 hp with rfl | hp; exact n1; exact hr p hp)
     rw [← seal_two] at hs
     have hH := key D1 _ _ _ hs hF1
     rw [decide_eq_false (by omega)] at hH
     refine ⟨upS s (L.number + 1) (sealB [numsB [2, L.good]] ++ sealB rs), list, ?_⟩
     show Has D1 ⟨L.number + 1, 0 + (sealB [numsB [2, L.good]] ++ sealB rs).length, false, max L.first 1⟩ base (list ++ rs) _ _
     rw [Nat.zero_add, hmx]
     exact hH
  ·have htn : L.torn = false := by cases ht : L.torn; rfl; rw [ht] at hsp; exact absurd rfl hsp
   have hp : planL L = some ([], L.number, L.good, L.torn) := by unfold planL; rw [if_neg (by omega), if_neg hsp]
   have hfu : fullB [] (sealB rs) = sealB rs := by unfold fullB; rw [if_pos rfl]
   rw [hp]
   dsimp only
   rw [hfu]
   have hps : ∀ k, ((L.first ≤ k ∧ k ≤ L.number) ∨ k = L.number) ↔ (L.first ≤ k ∧ k ≤ L.number) := fun k => by omega
   rcases write_cases h.fs ho L.number (by omega) (by omega) (s L.number) (sealB rs) (.inl ⟨⟨hle, Nat.le_refl _⟩, rfl⟩) h3 with hw | ⟨D1, hw, ho1, hcr⟩ | ⟨D1, hw, ho1, hF1⟩
   ·rw [hw, if_pos ne52]; exact .inr (.inr ⟨(by show ¬ (52 : Int) = 0; decide), (by show ¬ (52 : Int) = 50; decide), rfl⟩)
   ·rw [hw, if_pos ne50]
    refine .inr (.inl ⟨rfl, ho1, rfl, fun ks => ?_⟩)
    show Fnd (crashD D1 ks) _
    rcases hcr ks with hc | ⟨j, hc⟩
    ·exact fnd_core (f := L.first) (n := L.number) (C := C) _ (D := crashD D1 ks) hc rfl rfl h.lk (fun k a b => ⟨a, b⟩) h.kd (fun k hk hn => absurd hk.2 (by omega)) (fun hp => absurd hp.2 (by omega)) ⟨h.ba, 0, by rw [h.li]; simp⟩
    ·obtain ⟨i, e, hs⟩ := scan_cut rs hr j
     obtain ⟨q1, q2, q3, q4, q5⟩ := put_same h htn ((sealB rs).take j)
     refine fnd_core (f := L.first) (n := L.number) (C := C) _ (D := crashD D1 ks) hc rfl rfl q1 (fun k a b => .inl ⟨a, b⟩) q2 (fun k hk hn => by omega) (fun hp => by omega) ⟨q3, i, ?_⟩
     rw [upS_at, q4, hs]
   ·rw [hw, if_neg (fun h => h rfl)]
    refine .inl ⟨rfl, ho1, .inr ?_⟩
    have hs := scanF_sealed rs hr
    obtain ⟨q1, q2, q3, q4, q5⟩ := put_same h htn (sealB rs)
    rw [hs] at q4 q5
    dsimp only at q4 q5
    have hgl : L.good = (s L.number).length := by
     have hto := h.to
     rw [htn] at hto
     have := scan_le (s L.number)
     have := h.go
     have : ¬ L.good < (s L.number).length := fun e => by rw [decide_eq_true e] at hto; cases hto
     omega
    refine ⟨upS s L.number (s L.number ++ sealB rs), C, ?_⟩
    show Has D1 ⟨L.number, L.good + (sealB rs).length, L.torn, max L.first 1⟩ base (list ++ rs) _ C
    rw [hmx]
    refine ⟨hF1.congr (fun k => (hps k).symm) (fun _ _ => rfl), q1, q2, q3, ?_, ?_, ?_⟩
    ·dsimp only; rw [upS_at]; exact q4
    ·dsimp only; rw [upS_at]; exact q5.symm
    ·dsimp only; rw [upS_at, htn, List.length_append, ← hgl]; exact (decide_eq_false (by omega)).symm
/-! a base laid -/
theorem rem_fs {s : Nat → List UInt8} : ∀ (cnt : Nat) (D : Dk) (n : Nat) (p : Nat → Prop), Fs D.files s p → D.off = false → (∀ k, n ≤ k → k < n + cnt → p k) →
  (∃ D', remD D n cnt = (0, D') ∧ D'.off = false ∧ Fs D'.files s (fun k => p k ∧ ¬ (n ≤ k ∧ k < n + cnt))) ∨
  (∃ D' m, remD D n cnt = (50, D') ∧ D'.off = true ∧ Fs D'.files s (fun k => p k ∧ ¬ (n ≤ k ∧ k < m)) ∧ m ≤ n + cnt)
 | 0, D, n, p, h, ho, _ => .inl ⟨D, rfl, ho, h.congr (fun k => ⟨fun h => h.1, fun h => ⟨h, by omega⟩⟩) (fun _ _ => rfl)⟩
 | cnt + 1, D, n, p, h, ho, hp => by
  have hpn := hp n (Nat.le_refl _) (by omega)
  have hb := h.num n hpn
  rw [remD, remove_ok h ho hpn]
  by_cases hf : D.fuse = 0
  ·rw [if_pos hf]
   dsimp only
   rw [if_pos (by decide)]
   exact .inr ⟨_, n, rfl, rfl, h.congr (fun k => ⟨fun h => h.1, fun h => ⟨h, by omega⟩⟩) (fun _ _ => rfl), by omega⟩
  ·rw [if_neg hf]
   dsimp only
   rw [if_neg (fun h => h rfl)]
   rcases rem_fs cnt { stepD D with files := delF D.files (nameB n) } (n + 1) (fun k => p k ∧ k ≠ n) (h.del n (by omega)) ho (fun k a b => ⟨hp k (by omega) (by omega), by omega⟩) with ⟨D', h1, h2, h3⟩ | ⟨D', m, h1, h2, h3, h4⟩
   ·exact .inl ⟨D', h1, h2, h3.congr (fun k => ⟨fun ⟨a, b⟩ => ⟨⟨a, fun e => b ⟨by omega, by omega⟩⟩, fun e => b ⟨by omega, by omega⟩⟩, fun ⟨⟨a, c⟩, b⟩ => ⟨a, fun e => b ⟨by omega, by omega⟩⟩⟩) (fun _ _ => rfl)⟩
   ·by_cases hm : m ≤ n
    ·exact .inr ⟨D', n + 1, h1, h2, h3.congr (fun k => ⟨fun ⟨a, b⟩ => ⟨⟨a, fun e => b ⟨by omega, by omega⟩⟩, fun e => by omega⟩, fun ⟨⟨a, c⟩, b⟩ => ⟨a, fun e => c (by omega)⟩⟩) (fun _ _ => rfl), by omega⟩
    ·exact .inr ⟨D', m, h1, h2, h3.congr (fun k => ⟨fun ⟨a, b⟩ => ⟨⟨a, fun e => b ⟨by omega, by omega⟩⟩, fun e => b ⟨by omega, by omega⟩⟩, fun ⟨⟨a, c⟩, b⟩ => ⟨a, fun e => b ⟨by omega, by omega⟩⟩⟩) (fun _ _ => rfl), by omega⟩
theorem base_is (b : List UInt8) (h : b.length ≤ 524288) : ∃ hd, baseB b = sealB [hd] ∧ hd.length ≤ 1048576 ∧ scanF (baseB b) = ([hd], (baseB b).length) ∧ baseB b ≠ [] := by
 obtain ⟨h1, h2⟩ := head_len b h
 have hlen : (numsB [1] ++ textB [b]).length ≤ 1048576 := by rw [List.length_append]; omega
 refine ⟨_, rfl, hlen, scanF_sealed [numsB [1] ++ textB [b]] (fun p hp => by simp only [List.mem_singleton] at hp; subst hp; exact hlen), fun e => ?_⟩
 have := sealB_nil (rs := [numsB [1] ++ textB [b]]) e
 cases this
theorem lay_step {D : Dk} {L : Lg} {base : List UInt8} {list : List (List UInt8)} (hl : Live D L base list) (b : List UInt8) :
  ((layL L D b).1 = 0 ∧ Live (layL L D b).2.2 (layL L D b).2.1 b []) ∨
  ((layL L D b).1 = 50 ∧ (layL L D b).2.2.off = true ∧ ((layL L D b).2.1 = L ∨ ((layL L D b).2.1 = ⟨L.number + 1, (baseB b).length, false, L.number + 1⟩ ∧ L.number < 999999999 ∧ b.length ≤ 524288)) ∧ Aft (layL L D b).2.2 (fun b' g => (b' = base ∧ g = list) ∨ (b' = b ∧ g = []))) ∨
  ((layL L D b).1 ≠ 0 ∧ (layL L D b).1 ≠ 50 ∧ (layL L D b).2 = (L, D)) := by
 unfold layL
 by_cases h1 : 524288 < b.length
 ·rw [if_pos h1]; exact .inr (.inr ⟨(by show ¬ (4 : Int) = 0; decide), (by show ¬ (4 : Int) = 50; decide), rfl⟩)
 rw [if_neg h1]
 by_cases h2 : L.number = 999999999
 ·rw [if_pos h2]; exact .inr (.inr ⟨(by show ¬ (52 : Int) = 0; decide), (by show ¬ (52 : Int) = 50; decide), rfl⟩)
 rw [if_neg h2]
 obtain ⟨hd, e1, e2, e3, e4⟩ := base_is b (by omega)
 have hrb : readS (baseB b) = ⟨baseB b, 1, b, 0⟩ := by have := readS_base b [] (by omega); rwa [List.append_nil] at this
 obtain ⟨s, p, hF, hp, hre⟩ := live_re hl
 have hn9 : L.number ≤ 999999998 := by
  by_cases hz : L.number = 0
  ·omega
  ·obtain ⟨_, ⟨_, rfl, _, _⟩ | ⟨s, C, h⟩⟩ := hl
   ·dsimp only; omega
   ·have := (h.fs.num L.number ⟨h.lk.le, Nat.le_refl _⟩).2
    omega
 have hnp : ¬ p (L.number + 1) := fun e => by have := (hp _).1 e; omega
 have laid : ∀ (D1 : Dk) (q : Nat → Prop), Fs D1.files (upS s (L.number + 1) (baseB b)) q → q (L.number + 1) → (∀ k, q k → k ≤ L.number + 1) → D1.off = false → D1.fuse = -1 → Fnd D1 (fun b' g => (b' = base ∧ g = list) ∨ (b' = b ∧ g = [])) := fun D1 q hq hq1 hq2 ho1 hf1 => by
  refine fnd_core (f := L.number + 1) (n := L.number + 1) (C := []) _ hq ho1 hf1 .one (fun k a c => by obtain rfl : k = L.number + 1 := (by omega); exact hq1) (by rw [upS_at, hrb]) (fun k hk hn => absurd (hq2 k hk) (by omega)) (fun hk => absurd (hq2 _ hk) (by omega)) (.inr ?_)
  rw [upS_at, hrb, e3]
  exact ⟨rfl, rfl⟩
 rcases write_cases hF hl.1 (L.number + 1) (by omega) (by omega) [] (baseB b) (.inr ⟨hnp, rfl⟩) e4 with hw | ⟨D1, hw, ho1, hcr⟩ | ⟨D1, hw, ho1, hF1⟩
 ·rw [hw, if_pos ne52]; exact .inr (.inr ⟨(by show ¬ (52 : Int) = 0; decide), (by show ¬ (52 : Int) = 50; decide), rfl⟩)
 ·rw [hw, if_pos ne50]
  refine .inr (.inl ⟨rfl, ho1, .inl rfl, fun ks => ?_⟩)
  show Fnd (crashD D1 ks) _
  rcases hcr ks with hc | ⟨j, hc⟩
  ·exact (hre (crashD D1 ks) s p rfl rfl hc (fun k hk => ⟨hk, rfl⟩) (fun k hk => .inl hk)).mono (fun _ _ h => .inl h)
  ·rw [List.nil_append] at hc
   by_cases hj : j < (baseB b).length
   ·have hz : openF ((baseB b).take j) = none := by
     have e5 : baseB b = frameB hd := by rw [e1]; simp [sealB]
     rw [e5] at hj ⊢
     exact openF_cut e2 hj
    refine (hre (crashD D1 ks) _ _ rfl rfl hc (fun k hk => ⟨.inl hk, upS_ne _ _ (fun e => by subst e; exact hnp hk)⟩) (fun k hk => ?_)).mono (fun _ _ h => .inl h)
    rcases hk with hk | rfl
    ·exact .inl hk
    ·exact .inr ⟨rfl, by rw [upS_at]; exact hz⟩
   ·rw [List.take_of_length_le (by omega)] at hc
    exact laid (crashD D1 ks) _ hc (.inr rfl) (fun k hk => hk.elim (fun h => by have := (hp k).1 h; omega) (fun h => by omega)) rfl rfl
 ·rw [hw, if_neg (fun h => h rfl)]
  rw [List.nil_append] at hF1
  dsimp only
  rcases rem_fs (L.number + 1 - max L.first 1) D1 (max L.first 1) _ hF1 ho1 (fun k a c => .inl ((hp k).2 ⟨a, by omega⟩)) with ⟨D2, r1, r2, r3⟩ | ⟨D2, m, r1, r2, r3, r4⟩
  ·rw [r1]
   refine .inl ⟨rfl, r2, .inr ⟨upS s (L.number + 1) (baseB b), [], ?_⟩⟩
   show Has D2 ⟨L.number + 1, (baseB b).length, false, L.number + 1⟩ b [] _ _
   refine ⟨r3.congr (fun k => ?_) (fun _ _ => rfl), .one, by dsimp only; rw [upS_at, hrb], by dsimp only; rw [upS_at, hrb], by dsimp only; rw [upS_at, e3]; rfl, by dsimp only; rw [upS_at, e3], by dsimp only; rw [upS_at]; exact (decide_eq_false (by omega)).symm⟩
   dsimp only
   constructor
   ·intro hk
    obtain rfl : k = L.number + 1 := by omega
    exact ⟨.inr rfl, by omega⟩
   ·rintro ⟨hk | rfl, hn⟩
    ·have := (hp k).1 hk
     exact absurd ⟨this.1, by omega⟩ hn
    ·omega
  ·rw [r1]
   refine .inr (.inl ⟨rfl, r2, .inr ⟨rfl, by omega, by omega⟩, fun ks => ?_⟩)
   have r5 : Fs (crashD D2 ks).files (upS s (L.number + 1) (baseB b)) (fun k => (p k ∨ k = L.number + 1) ∧ ¬ (max L.first 1 ≤ k ∧ k < m)) := by show Fs (crashL D2.files ks) _ _; rw [crash_all r3.st]; exact r3
   refine laid (crashD D2 ks) _ r5 ⟨.inr rfl, by omega⟩ (fun k hk => hk.1.elim (fun h => by have := (hp k).1 h; omega) (fun h => by omega)) rfl rfl
end Go.Proofs.YtcmdmhmgffjknaaGreatDoor
/- The law's functions: 23 (Same), 17 (begins). -/
namespace Go.Proofs.YtcmdmhmgffjknaaGreatDoor
open Go.Sx
set_option linter.unusedVariables false

theorem rd_take {α : Type} {f : α → List Value} {m : Nat} (hf : ∀ x, (f x).length = m) {W0 : World} {Fr : List HP} {A : Option Addr} {L : List α} (h : Rdb W0 Fr A L.length m (cells f L)) {j : Nat} (hj : j ≤ L.length) : Rdb W0 Fr A (L.take j).length m (cells f (L.take j)) := by
 have hl : (L.take j).length = j := by rw [List.length_take]; omega
 refine ⟨by rw [cells_len hf], fun hn => ?_⟩
 obtain ⟨b, o, e, k⟩ := h.at_ (by omega)
 refine ⟨b, o, e, fun w hw i u hu => k w hw i u ?_⟩
 rw [← cells_take hf, List.getElem?_take] at hu
 split at hu
 ·exact hu
 ·cases hu
theorem rd_drop {α : Type} {f : α → List Value} {m : Nat} (hf : ∀ x, (f x).length = m) {W0 : World} {Fr : List HP} {A : Option Addr} {L : List α} {c : Nat} (h : Rdb W0 Fr A L.length m (cells f L)) (hc : L.length ≤ c) {j : Nat} (hj : j ≤ L.length) : Rdb W0 Fr (if c = j then A else A.map (·.add (j * m))) (L.drop j).length m (cells f (L.drop j)) := by
 have h1 := h.cut (lo := j) (hi := L.length) (cap := c) hj (Nat.le_refl _) hc
 have hl : (L.drop j).length = L.length - j := List.length_drop ..
 rw [hl]
 rw [cells_drop hf, show ((L.length - j) * m) = (L.drop j).length * m by rw [hl], List.take_of_length_le (by rw [cells_len hf]; exact Nat.le_refl _)] at h1
 exact h1
theorem tk_eq {α : Type} {x y : List α} {i : Nat} {a b : α} (h : x.take i = y.take i) (ha : x[i]? = some a) (hb : y[i]? = some b) (e : a = b) : x.take (i + 1) = y.take (i + 1) := by
 subst e; rw [List.take_add_one, List.take_add_one, h, ha, hb]
theorem same_tr {W0 : World} {Fr : List HP} (A B : Option Addr) (c d : Nat) (x y : List (List UInt8)) (hx : Rdb W0 Fr A x.length 1 (cells sv x)) (hy : Rdb W0 Fr B y.length 1 (cells sv y)) (hl : x.length ≤ 9223372036854775807) :
  Tr W0 Tryz.prog 23 [.slice A x.length c, .slice B y.length d] Fr (fun v Rs' => v = .bool (decide (x = y)) ∧ Rs' = Fr) := by
 have hmax : maxS = 140737488355328 := rfl
 refine Entry.tr (N := 26) (rs := [.tmp 4]) ⟨_, Tryz.func23, rfl, by kernel_rfl, rfl, rfl⟩ rfl ?_
 refine XC.seq fun K1 hK1 => ?_
 refine XC.region ?_
 refine x_v (r_as rfl) rfl ?_
 refine XL.nil ?_
 refine hK1 _ _ ?_
 refine XC.keep [(0, _), (1, _)] ⟨rfl, rfl, trivial⟩ ?_
 refine XC.seq fun K2 hK2 => ?_
 refine XC.seq fun K3 hK3 => ?_
 refine XC.region ?_
 refine x_v (r_mv rfl) rfl ?_
 refine x_v (r_lensl Tryz.underlying22 rfl) rfl ?_
 refine x_v (r_mv rfl) rfl ?_
 refine x_v (r_lensl Tryz.underlying22 rfl) rfl ?_
 refine x_v (r_ne rfl rfl) rfl ?_
 refine XL.nil ?_
 refine hK3 _ _ ?_
 refine XC.keep [(0, _), (1, _), (10, _)] ⟨rfl, rfl, rfl, trivial⟩ ?_
 refine XC.cond_d rfl (fun hc1 => ?_) (fun hc1 => ?_)
 ·refine XC.seq fun K4 hK4 => ?_
  refine XC.region ?_
  refine x_v (r_as rfl) rfl ?_
  refine XL.nil ?_
  refine hK4 _ _ ?_
  refine XC.keep [(4, _)] ⟨rfl, trivial⟩ ?_
  refine XC.ret ?_
  exact fin1 rfl (⟨by rw [decide_eq_false (by intro e; subst e; omega)], rfl⟩) gS
 ·refine XC.skip ?_
  refine hK2 _ _ ?_
  refine XC.keep [(0, _), (1, _)] ⟨rfl, rfl, trivial⟩ ?_
  refine XC.seq fun K5 hK5 => ?_
  refine XC.seq fun K6 hK6 => ?_
  refine XC.region ?_
  refine x_v (r_as rfl) rfl ?_
  refine XL.nil ?_
  refine hK6 _ _ ?_
  refine XC.keep [(0, _), (1, _), (5, _)] ⟨rfl, rfl, rfl, trivial⟩ ?_
  refine XC.block ?_
  refine XC.loop (σ := Nat) (fun i => [(0, .slice A x.length c), (1, .slice B y.length d), (5, .int .i64 (i : Int))]) (fun i => Fr) (fun i => i ≤ x.length ∧ x.take i = y.take i) (fun i => x.length - i) 0 ?_ ⟨rfl, rfl, rfl, trivial⟩ gS ?_
  ·exact ⟨Nat.zero_le _, by simp⟩
  rintro i ⟨hi, hI⟩
  refine XC.seq fun K7 hK7 => ?_
  refine XC.seq fun K8 hK8 => ?_
  refine XC.region ?_
  refine x_v (r_mv rfl) rfl ?_
  refine x_v (r_mv rfl) rfl ?_
  refine x_v (r_lensl Tryz.underlying22 rfl) rfl ?_
  refine x_v (r_lt rfl rfl) rfl ?_
  refine XL.nil ?_
  refine hK8 _ _ ?_
  refine XC.keep [(0, _), (1, _), (5, _), (14, _)] ⟨rfl, rfl, rfl, rfl, trivial⟩ ?_
  refine XC.cond_d rfl (fun hc2 => ?_) (fun hc2 => ?_)
  ·refine XC.skip ?_
   refine hK7 _ _ ?_
   refine XC.keep [(0, _), (1, _), (5, _)] ⟨rfl, rfl, rfl, trivial⟩ ?_
   refine XC.seq fun K9 hK9 => ?_
   refine XC.block ?_
   refine XC.seq fun K10 hK10 => ?_
   obtain ⟨a, ha⟩ : ∃ a, x[i]? = some a := ⟨_, List.getElem?_eq_getElem (by omega)⟩
   obtain ⟨b, hb⟩ : ∃ b, y[i]? = some b := ⟨_, List.getElem?_eq_getElem (by omega)⟩
   obtain ⟨xb, xo, rfl, hat⟩ := hx.at_ (by omega)
   obtain ⟨yb, yo, rfl, hbt⟩ := hy.at_ (by omega)
   refine XC.draw Fr false [(0, false), (1, false), (2, false), (3, false), (4, false), (5, false), (6, false), (7, false), (8, false)] (by kernel_rfl) (by kernel_rfl) ?_
   refine y_v rfl (r_mv rfl) gT rfl ?_
   refine y_v rfl (r_mv rfl) gT rfl ?_
   refine y_v rfl (r_ia (k := i) Tryz.underlying22 ty9 rfl rfl (by omega) (by omega)) gT rfl ?_
   refine y_v rfl (r_ldr (v := str a) ty9 rfl (fun w hw => hat w hw (i * 1) _ (by rw [Nat.mul_one]; exact sv_get ha))) gT rfl ?_
   refine y_v rfl (r_mv rfl) gT rfl ?_
   refine y_v rfl (r_mv rfl) gT rfl ?_
   refine y_v rfl (r_ia (k := i) Tryz.underlying22 ty9 rfl rfl (by omega) (by omega)) gT rfl ?_
   refine y_v rfl (r_ldr (v := str b) ty9 rfl (fun w hw => hbt w hw (i * 1) _ (by rw [Nat.mul_one]; exact sv_get hb))) gT rfl ?_
   refine y_v rfl (r_sne rfl rfl) gT rfl ?_
   refine XH.nil ?_
   refine hK10 _ _ ?_
   refine XC.keep [(0, _), (1, _), (5, _), (25, _)] ⟨rfl, rfl, rfl, rfl, trivial⟩ ?_
   refine XC.cond_d rfl (fun hc3 => ?_) (fun hc3 => ?_)
   ·refine XC.seq fun K11 hK11 => ?_
    refine XC.region ?_
    refine x_v (r_as rfl) rfl ?_
    refine XL.nil ?_
    refine hK11 _ _ ?_
    refine XC.keep [(4, _)] ⟨rfl, trivial⟩ ?_
    refine XC.ret ?_
    exact fin1 rfl (⟨by rw [decide_eq_false (by intro e; subst e; rw [ha] at hb; injection hb with hb; simp_all)], rfl⟩) gS
   ·refine XC.skip ?_
    refine hK9 _ _ ?_
    refine XC.keep [(0, _), (1, _), (5, _)] ⟨rfl, rfl, rfl, trivial⟩ ?_
    refine XC.region ?_
    refine x_v (r_mv rfl) rfl ?_
    refine x_v (r_add rfl rfl (by omega)) rfl ?_
    refine x_v (r_as rfl) rfl ?_
    refine XL.nil ?_
    refine ⟨i + 1, ?_, ?_, ⟨rfl, rfl, rfl, trivial⟩, gS⟩
    ·exact ⟨by omega, tk_eq hI ha hb (by simp_all)⟩
    ·omega
  ·refine XC.exit rfl ?_
   refine hK5 _ _ ?_
   refine XC.keep [] trivial ?_
   refine XC.seq fun K12 hK12 => ?_
   refine XC.region ?_
   refine x_v (r_as rfl) rfl ?_
   refine XL.nil ?_
   refine hK12 _ _ ?_
   refine XC.keep [(4, _)] ⟨rfl, trivial⟩ ?_
   refine XC.ret ?_
   exact fin1 rfl (⟨by rw [decide_eq_true (by have e1 : i = x.length := (by omega); have e2 : x.length = y.length := (by omega); rw [e1, List.take_length, e2, List.take_length] at hI; exact hI)], rfl⟩) gS
def beginsB (a b : List (List UInt8)) : Bool := decide (a.length ≤ b.length ∧ a = b.take a.length)
theorem begins_tr {W0 : World} {Fr : List HP} (A B : Option Addr) (c d : Nat) (x y : List (List UInt8)) (hx : Rdb W0 Fr A x.length 1 (cells sv x)) (hy : Rdb W0 Fr B y.length 1 (cells sv y)) (hl : x.length ≤ 9223372036854775807) (hd : y.length ≤ d) :
  Tr W0 Tryz.prog 17 [.slice A x.length c, .slice B y.length d] Fr (fun v Rs' => v = .bool (beginsB x y) ∧ Rs' = Fr) := by
 have hmax : maxS = 140737488355328 := rfl
 refine Entry.tr (N := 18) (rs := [.tmp 4]) ⟨_, Tryz.func17, rfl, by kernel_rfl, rfl, rfl⟩ rfl ?_
 refine XC.seq fun K1 hK1 => ?_
 refine XC.region ?_
 refine x_v (r_as rfl) rfl ?_
 refine XL.nil ?_
 refine hK1 _ _ ?_
 refine XC.keep [(0, _), (1, _)] ⟨rfl, rfl, trivial⟩ ?_
 refine XC.seq fun K2 hK2 => ?_
 refine XC.region ?_
 refine x_v (r_mv rfl) rfl ?_
 refine x_v (r_lensl Tryz.underlying22 rfl) rfl ?_
 refine x_v (r_mv rfl) rfl ?_
 refine x_v (r_lensl Tryz.underlying22 rfl) rfl ?_
 refine x_v (r_le rfl rfl) rfl ?_
 refine x_v (r_mv rfl) rfl ?_
 refine XL.splitd 10 rfl (fun hg10 => ?_) (fun hg10 => ?_)
 ·refine x_want rfl rfl rfl ?_
  have hxy : x.length ≤ y.length := by omega
  have htl : (y.take x.length).length = x.length := by rw [List.length_take]; omega
  refine x_v (r_mv rfl) rfl ?_
  refine x_want rfl rfl rfl ?_
  refine x_v (r_mv rfl) rfl ?_
  refine x_want rfl rfl rfl ?_
  refine x_v (r_mv rfl) rfl ?_
  refine x_want rfl rfl rfl ?_
  refine x_v (r_lensl Tryz.underlying22 rfl) rfl ?_
  refine x_want rfl rfl rfl ?_
  refine x_v (yv (v' := .slice B (y.take x.length).length d) (r_sll0 x.length Tryz.underlying22 ty9 rfl ⟨_, by rfl⟩ (by omega)) (by rw [htl])) rfl ?_
  refine x_want rfl rfl rfl ?_
  refine x_c (r_call0 (args := [_, _]) ⟨rfl, rfl, rfl⟩ (same_tr A B c d x (y.take x.length) hx (rd_take sv_len hy hxy) hl) gS) rfl ?_
  rintro _ _ ⟨rfl, hRs⟩
  rw [hRs]
  refine x_v (r_pk_t rfl rfl) rfl ?_
  refine x_v (r_as rfl) rfl ?_
  refine XL.nil ?_
  refine hK2 _ _ ?_
  refine XC.keep [(4, _)] ⟨rfl, trivial⟩ ?_
  refine XC.ret ?_
  exact fin1 rfl (⟨by unfold beginsB; first | (rw [Value.bool.injEq, decide_eq_decide]; exact ⟨fun h => ⟨hxy, h⟩, fun h => h.2⟩) | (rw [decide_eq_false (fun h => by omega)]), rfl⟩) gS
 ·refine x_unwant rfl rfl rfl rfl rfl ?_
  refine x_unwant rfl rfl rfl rfl rfl ?_
  refine x_unwant rfl rfl rfl rfl rfl ?_
  refine x_unwant rfl rfl rfl rfl rfl ?_
  refine x_unwant rfl rfl rfl rfl rfl ?_
  refine x_unwant rfl rfl rfl rfl rfl ?_
  refine x_v (r_pk_f rfl rfl) rfl ?_
  refine x_v (r_as rfl) rfl ?_
  refine XL.nil ?_
  refine hK2 _ _ ?_
  refine XC.keep [(4, _)] ⟨rfl, trivial⟩ ?_
  refine XC.ret ?_
  exact fin1 rfl (⟨by unfold beginsB; first | (rw [Value.bool.injEq, decide_eq_decide]; exact ⟨fun h => ⟨hxy, h⟩, fun h => h.2⟩) | (rw [decide_eq_false (fun h => by omega)]), rfl⟩) gS
end Go.Proofs.YtcmdmhmgffjknaaGreatDoor
/- A log through acts, dead or alive: plain facts. -/
namespace Go.Sx
theorem XL.sllen {C : Cx} {ops : Array Oper} {l : List Oper} {κ : _} {e : Env} {Rs : List HP} {A : Option Addr} {n c E sz : Nat} {xs : List Value} {Fr : List HP} (hp : Pick Rs (sl A n c E sz xs) Fr) (k : xs.length = n * sz → n ≤ c → c ≤ maxLen → XL C ops l κ e Rs) : XL C ops l κ e Rs :=
 fun a w ha hw => let ⟨h1, h2, h3⟩ := (hw.pick hp).sl_len; k h1 h2 h3 a w ha hw
end Go.Sx
namespace Go.Proofs.YtcmdmhmgffjknaaGreatDoor
open Go.Sx
set_option linter.unusedVariables false

def LB (L : Lg) : Prop := L.number ≤ 999999999 ∧ L.good ≤ 100000000 ∧ L.first ≤ 999999999
theorem live_lb {D : Dk} {L : Lg} {b : List UInt8} {g : List (List UInt8)} (hok : DkOk D) (h : Live D L b g) : LB L := by
 obtain ⟨_, ⟨_, rfl, _, _⟩ | ⟨s, C, h⟩⟩ := h
 ·exact ⟨by decide, by decide, by decide⟩
 ·have hle := h.lk.le
  have h1 := h.fs.num L.number ⟨hle, Nat.le_refl _⟩
  have h2 := h.fs.num L.first ⟨Nat.le_refl _, hle⟩
  have h3 := (hok.fi _ (getF_mem (h.fs.has L.number ⟨hle, Nat.le_refl _⟩))).2.1
  dsimp only at h3
  have h4 := scan_le (s L.number)
  have h5 := h.go
  exact ⟨h1.2, by omega, h2.2⟩
theorem append_off {D : Dk} (L : Lg) (ho : D.off = true) (rs : List (List UInt8)) : (appendL L D rs).2 = (L, D) := by
 have hw : ∀ n s, (writeD D (nameB n) s).1 ≠ 0 ∧ (writeD D (nameB n) s).2 = D := fun n s => by
  have he : readyE D (nameB n) ≠ 0 := by
   unfold readyE
   split
   ·decide
   ·decide
  have hA : appendD D (nameB n) s = (readyE D (nameB n), D) := by unfold appendD; rw [if_pos he]
  unfold writeD
  rw [hA]
  dsimp only
  rw [if_pos he]
  exact ⟨he, rfl⟩
 unfold appendL
 split
 ·rfl
 split
 ·rfl
 split
 ·rfl
 split
 ·rfl
 ·rename_i h n g t hp
  obtain ⟨h1, h2⟩ := hw n (fullB h (sealB rs))
  rw [if_pos h1, h2]
theorem lay_off {D : Dk} (L : Lg) (ho : D.off = true) (b : List UInt8) : (layL L D b).2 = (L, D) := by
 have hw : ∀ n s, (writeD D (nameB n) s).1 ≠ 0 ∧ (writeD D (nameB n) s).2 = D := fun n s => by
  have he : readyE D (nameB n) ≠ 0 := by
   unfold readyE
   split
   ·decide
   ·decide
  have hA : appendD D (nameB n) s = (readyE D (nameB n), D) := by unfold appendD; rw [if_pos he]
  unfold writeD
  rw [hA]
  dsimp only
  rw [if_pos he]
  exact ⟨he, rfl⟩
 unfold layL
 split
 ·rfl
 split
 ·rfl
 ·obtain ⟨h1, h2⟩ := hw (L.number + 1) (baseB b)
  rw [if_pos h1, h2]
/-- What is found at last is something. -/
def Sound (D : Dk) (L : Lg) : Prop := (∃ b g, Live D L b g) ∨ (D.off = true ∧ LB L ∧ Aft D (fun _ _ => True))
theorem Sound.lb {D : Dk} {L : Lg} (hok : DkOk D) (h : Sound D L) : LB L := by
 rcases h with ⟨b, g, h⟩ | ⟨_, h, _⟩
 ·exact live_lb hok h
 ·exact h
theorem Sound.aft {D : Dk} {L : Lg} (h : Sound D L) : Aft D (fun _ _ => True) := by
 rcases h with ⟨b, g, h⟩ | ⟨_, _, h⟩
 ·exact fun ks => (live_aft h ks).mono (fun _ _ _ => trivial)
 ·exact h
theorem Sound.app {D : Dk} {L : Lg} (hok : DkOk D) (h : Sound D L) (rs : List (List UInt8)) : Sound (appendL L D rs).2.2 (appendL L D rs).2.1 := by
 have hb := h.lb hok
 rcases h with ⟨b, g, h⟩ | ⟨h1, h2, h3⟩
 ·rcases append_step h (by have := hb.2.1; omega) rs with ⟨_, h⟩ | ⟨_, h1, h2, h3⟩ | ⟨_, _, h1⟩
  ·exact .inl ⟨_, _, h⟩
  ·exact .inr ⟨h1, by rw [h2]; exact hb, fun ks => (h3 ks).mono (fun _ _ _ => trivial)⟩
  ·rw [h1]; exact .inl ⟨_, _, h⟩
 ·rw [append_off L h1 rs]; exact .inr ⟨h1, h2, h3⟩
theorem baseB_len (b : List UInt8) (h : b.length ≤ 524288) : (baseB b).length ≤ 600000 := by
 obtain ⟨h1, h2⟩ := head_len b h
 have := seal_one_len (numsB [1] ++ textB [b]) (by rw [List.length_append]; omega)
 unfold baseB
 rw [List.length_append] at this
 omega
theorem Sound.lay {D : Dk} {L : Lg} (hok : DkOk D) (h : Sound D L) (t : List UInt8) : Sound (layL L D t).2.2 (layL L D t).2.1 := by
 have hb := h.lb hok
 rcases h with ⟨b, g, h⟩ | ⟨h1, h2, h3⟩
 ·rcases lay_step h t with ⟨_, h⟩ | ⟨_, h1, h2, h3⟩ | ⟨_, _, h1⟩
  ·exact .inl ⟨_, _, h⟩
  ·refine .inr ⟨h1, ?_, fun ks => (h3 ks).mono (fun _ _ _ => trivial)⟩
   rcases h2 with h2 | ⟨h2, h4, h5⟩
   ·rw [h2]; exact hb
   ·rw [h2]; have := baseB_len t h5; exact ⟨by dsimp only; omega, by dsimp only; omega, by dsimp only; omega⟩
  ·rw [h1]; exact .inl ⟨_, _, h⟩
 ·rw [lay_off L h1 t]; exact .inr ⟨h1, h2, h3⟩
theorem live_fuse {D : Dk} {L : Lg} {b : List UInt8} {g : List (List UInt8)} (h : Live D L b g) (n : Int) : Live (fuseD D n) L b g := by
 obtain ⟨ho, h⟩ := h
 refine ⟨ho, ?_⟩
 rcases h with h | ⟨s, C, h⟩
 ·exact .inl h
 ·exact .inr ⟨s, C, ⟨h.fs, h.lk, h.kd, h.ba, h.li, h.go, h.to⟩⟩
theorem Sound.fuse {D : Dk} {L : Lg} (h : Sound D L) (n : Int) : Sound (fuseD D n) L := by
 rcases h with ⟨b, g, h⟩ | ⟨h1, h2, h3⟩
 ·exact .inl ⟨b, g, live_fuse h n⟩
 ·exact .inr ⟨h1, h2, h3⟩
theorem live_empty : Live emptyD L0 [] [] := ⟨rfl, .inl ⟨rfl, rfl, rfl, rfl⟩⟩
theorem live_crash {D : Dk} {L : Lg} {b : List UInt8} {g : List (List UInt8)} (h : Live D L b g) (hf : D.fuse = -1) (ks : List Int) : crashD D ks = D := by
 obtain ⟨s, p, h1, _, _⟩ := live_re h
 unfold crashD
 rw [crash_all h1.st]
 obtain ⟨ho, _⟩ := h
 cases D
 dsimp only at hf ho
 rw [hf, ho]
/-! as many steps and files as there may be -/
theorem remD_phi : ∀ (k : Nat) (D : Dk) (n : Nat), phi (remD D n k).2 ≤ phi D
 | 0, D, n => Nat.le_refl _
 | k + 1, D, n => by
  have h1 := removeD_phi D (nameB n)
  rw [remD]
  split
  ·exact h1
  ·exact Nat.le_trans (remD_phi k _ _) h1
theorem appendL_phi (L : Lg) (D : Dk) (rs : List (List UInt8)) : phi (appendL L D rs).2.2 ≤ phi D + 4 := by
 unfold appendL
 split
 ·exact Nat.le_add_right _ _
 split
 ·exact Nat.le_add_right _ _
 split
 ·exact Nat.le_add_right _ _
 split
 ·exact Nat.le_add_right _ _
 ·rename_i h n g t hp
  have := writeD_phi D (nameB n) (fullB h (sealB rs))
  split <;> exact this
theorem layL_phi (L : Lg) (D : Dk) (b : List UInt8) : phi (layL L D b).2.2 ≤ phi D + 4 := by
 unfold layL
 split
 ·exact Nat.le_add_right _ _
 split
 ·exact Nat.le_add_right _ _
 ·have h1 := writeD_phi D (nameB (L.number + 1)) (baseB b)
  split
  ·exact h1
  ·exact Nat.le_trans (remD_phi _ _ _) h1
theorem cleanL_phi (a b : Nat) : ∀ (N : List (List UInt8)) (D : Dk), phi (cleanL a b N D).2 ≤ phi D
 | [], D => Nat.le_refl _
 | x :: N, D => by
  have h1 := removeD_phi D x
  rw [cleanL]
  split
  ·split
   ·exact h1
   ·exact Nat.le_trans (cleanL_phi a b N _) h1
  ·exact cleanL_phi a b N D
theorem openL_phi (D : Dk) : phi (openL D).2.2 ≤ phi D := by
 unfold openL
 split
 ·exact Nat.le_refl _
 split
 ·exact cleanL_phi _ _ _ _
 ·exact cleanL_phi _ _ _ _
theorem crashL_len : ∀ (F : List (List UInt8 × Fi)) (ks : List Int), (crashL F ks).length ≤ F.length
 | [], ks => Nat.le_refl _
 | (n, x) :: F, ks => by
  have h1 := crashL_len F ks
  have h2 := crashL_len F ks.tail
  rw [crashL]
  split
  ·split
   ·simp only [List.length_cons]; omega
   ·simp only [List.length_cons]; omega
  ·split
   ·simp only [List.length_cons]; omega
   ·simp only [List.length_cons]; omega
theorem crashD_phi (D : Dk) (ks : List Int) : phi (crashD D ks) ≤ phi D := by
 have := crashL_len D.files ks
 unfold phi crashD
 dsimp only; omega
theorem fuseD_phi (D : Dk) (n : Int) : phi (fuseD D n) = phi D := rfl
end Go.Proofs.YtcmdmhmgffjknaaGreatDoor
/- The law's function 6 (WalAgain). -/
namespace Go.Proofs.YtcmdmhmgffjknaaGreatDoor
open Go.Sx
set_option linter.unusedVariables false

theorem walagain_tr {W0 : World} (hL : Laid W0) (A : Option Addr) (c : Nat) (S : List Ox) (B : Option Addr) (cb : Nat) (K : List Int) (hr : Rdb W0 [] A S.length 6 (cells oc S)) (hn : S.length ≤ maxS)
  (ho : ∀ o ∈ S, Rdb W0 [] o.A o.list.length 1 (cells sv o.list) ∧ o.list.length ≤ maxS ∧ o.keeps.length ≤ maxS) (hN : ∀ o ∈ S, o.n < 9223372036854775808) (hk : Rdb W0 [] B K.length 1 (iv K)) (hkl : K.length ≤ maxS) :
  Tr W0 Tryz.prog 6 [.slice A S.length c, .slice B K.length cb] [] (fun v Rs' => v = .bool true) := by
 have hmax : maxS = 140737488355328 := rfl
 refine Entry.tr (N := 125) (rs := [.tmp 4]) ⟨_, Tryz.func6, rfl, by kernel_rfl, rfl, rfl⟩ rfl ?_
 refine XC.seq fun K1 hK1 => ?_
 refine XC.region ?_
 refine x_v (r_as rfl) rfl ?_
 refine XL.nil ?_
 refine hK1 _ _ ?_
 refine XC.keep [(0, _), (1, _)] ⟨rfl, rfl, trivial⟩ ?_
 refine XC.seq fun K2 hK2 => ?_
 refine XC.seq fun K3 hK3 => ?_
 refine XC.region ?_
 refine x_c (r_call0 (args := []) rfl (awake_tr hL []) gS) rfl ?_
 rintro _ _ ⟨rfl, hRs⟩
 rw [hRs]
 refine x_v (r_not rfl) rfl ?_
 refine x_v (r_mv rfl) rfl ?_
 refine x_want rfl rfl rfl ?_
 refine x_v (r_mv rfl) rfl ?_
 refine x_want rfl rfl rfl ?_
 refine x_c (r_call0 (args := [_]) ⟨rfl, rfl⟩ (great_tr A c S [] hr hn ho) gS) rfl ?_
 rintro _ _ ⟨bg, rfl, hRs, hgr⟩
 rw [hRs]
 refine x_v (r_pk_f rfl rfl) rfl ?_
 refine x_v (r_mv rfl) rfl ?_
 refine XL.split 27 rfl (fun hg27 => ?_) (fun hg27 => ?_)
 ·refine x_unwant rfl rfl rfl rfl rfl ?_
  refine x_unwant rfl rfl rfl rfl rfl ?_
  refine x_unwant rfl rfl rfl rfl rfl ?_
  refine x_v (r_pk_t rfl rfl) rfl ?_
  refine XL.nil ?_
  refine hK3 _ _ ?_
  refine XC.keep [(0, _), (1, _), (31, _)] ⟨rfl, rfl, rfl, trivial⟩ ?_
  refine XC.cond_t rfl ?_
  refine XC.seq fun K4 hK4 => ?_
  refine XC.region ?_
  refine x_c (r_call0 (args := []) rfl (awake_tr hL []) gS) rfl ?_
  rintro _ _ ⟨rfl, hRs⟩
  rw [hRs]
  refine x_v (r_as rfl) rfl ?_
  refine XL.nil ?_
  refine hK4 _ _ ?_
  refine XC.keep [(4, _)] ⟨rfl, trivial⟩ ?_
  refine XC.ret ?_
  exact fin1 rfl (rfl) gS
 ·refine x_want rfl rfl rfl ?_
  refine x_v (r_mv rfl) rfl ?_
  refine x_want rfl rfl rfl ?_
  refine x_v (r_lensl Tryz.underlying25 rfl) rfl ?_
  refine x_want rfl rfl rfl ?_
  refine x_v (r_gt rfl rfl) rfl ?_
  refine x_v (r_pk_f rfl rfl) rfl ?_
  refine XL.nil ?_
  refine hK3 _ _ ?_
  refine XC.keep [(0, _), (1, _), (31, _)] ⟨rfl, rfl, rfl, trivial⟩ ?_
  refine XC.cond_d rfl (fun hc2 => ?_) (fun hc2 => ?_)
  ·refine XC.seq fun K5 hK5 => ?_
   refine XC.region ?_
   refine x_c (r_call0 (args := []) rfl (awake_tr hL []) gS) rfl ?_
   rintro _ _ ⟨rfl, hRs⟩
   rw [hRs]
   refine x_v (r_as rfl) rfl ?_
   refine XL.nil ?_
   refine hK5 _ _ ?_
   refine XC.keep [(4, _)] ⟨rfl, trivial⟩ ?_
   refine XC.ret ?_
   exact fin1 rfl (rfl) gS
  ·refine XC.skip ?_
   refine hK2 _ _ ?_
   refine XC.keep [(0, _), (1, _)] ⟨rfl, rfl, trivial⟩ ?_
   refine XC.seq fun K6 hK6 => ?_
   obtain ⟨hS, hB⟩ := hgr (by assumption)
   refine XC.region ?_
   refine x_c (r_call0 (args := []) rfl (new_tr []) gS) rfl ?_
   rintro _ _ ⟨d, rfl, hRs⟩
   rw [hRs]
   refine x_v (r_as rfl) rfl ?_
   refine XL.nil ?_
   refine hK6 _ _ ?_
   refine XC.keep [(0, _), (1, _), (5, _)] ⟨rfl, rfl, rfl, trivial⟩ ?_
   refine XC.seq fun K7 hK7 => ?_
   refine XC.region ?_
   refine x_v (r_mv rfl) rfl ?_
   refine x_c (r_call0 (args := [_]) ⟨rfl, rfl⟩ (openl_tr hL d emptyD [] (by decide)) gS) rfl ?_
   rintro _ _ hop
   unfold OpenV at hop
   rw [openL_empty] at hop
   dsimp only at hop
   obtain ⟨l, Ar, cr, rfl, hRs⟩ := hop
   rw [hRs]
   refine x_v (r_mv rfl) rfl ?_
   refine x_v (r_ex rfl rfl) rfl ?_
   refine x_v (r_ex rfl rfl) rfl ?_
   refine x_v (r_ex rfl rfl) rfl ?_
   refine x_v (r_ex rfl rfl) rfl ?_
   refine x_v (r_as rfl) rfl ?_
   refine x_v (r_as rfl) rfl ?_
   refine x_v (r_as rfl) rfl ?_
   refine x_v (r_as rfl) rfl ?_
   refine XL.nil ?_
   refine hK7 _ _ ?_
   refine XC.keep [(0, _), (1, _), (5, _), (6, _)] ⟨rfl, rfl, rfl, rfl, trivial⟩ ?_
   refine XC.seq fun K8 hK8 => ?_
   refine XC.seq fun K9 hK9 => ?_
   refine XC.region ?_
   refine x_v (r_mv rfl) rfl ?_
   refine x_v (r_lensl Tryz.underlying28 rfl) rfl ?_
   refine x_v (r_mv rfl) rfl ?_
   refine XL.nil ?_
   refine hK9 _ _ ?_
   refine XC.keep [(1, _), (5, _), (6, _), (41, _), (42, _), (43, _)] ⟨rfl, rfl, rfl, rfl, rfl, rfl, trivial⟩ ?_
   refine XC.block ?_
   refine XC.loop (σ := Nat × Lg × Dk) (fun q => [(1, .slice B K.length cb), (5, .pointer (some ⟨d, 0, none⟩)), (6, .pointer (some ⟨l, 0, none⟩)), (41, .slice A S.length c), (42, .int .i64 (S.length : Int)), (43, .int .i64 (q.1 : Int))]) (fun q => lgc l d q.2.1 :: dsk d q.2.2 :: []) (fun q => q.1 ≤ S.length ∧ phi q.2.2 ≤ 8 * q.1 ∧ Sound q.2.2 q.2.1) (fun q => S.length - q.1) (0, L0, emptyD) ?_ ⟨rfl, rfl, rfl, rfl, rfl, rfl, trivial⟩ gS ?_
   ·exact ⟨Nat.zero_le _, by decide, .inl ⟨_, _, live_empty⟩⟩
   rintro ⟨i, L, D⟩ ⟨hi, hph, hso⟩
   dsimp only at hi hph hso ⊢
   refine XC.seq fun K10 hK10 => ?_
   refine XC.region ?_
   refine x_v (r_lt rfl rfl) rfl ?_
   refine XL.nil ?_
   refine hK10 _ _ ?_
   refine XC.keep [(1, _), (5, _), (6, _), (41, _), (42, _), (43, _), (44, _)] ⟨rfl, rfl, rfl, rfl, rfl, rfl, rfl, trivial⟩ ?_
   refine XC.seq fun K11 hK11 => ?_
   refine XC.cond_d rfl (fun hc3 => ?_) (fun hc3 => ?_)
   ·refine XC.skip ?_
    refine hK11 _ _ ?_
    refine XC.keep [(1, _), (5, _), (6, _), (41, _), (42, _), (43, _)] ⟨rfl, rfl, rfl, rfl, rfl, rfl, trivial⟩ ?_
    refine XC.seq fun K12 hK12 => ?_
    refine XC.block ?_
    refine XC.seq fun K13 hK13 => ?_
    refine XC.fact (pK : Pick _ (dsk d D) _) (fun w hw => dsk_ok hw) fun hok => ?_
    have hlb := hso.lb hok
    have hds : D.steps ≤ phi D := by unfold phi; omega
    obtain ⟨o, hx⟩ : ∃ o, S[i]? = some o := ⟨_, List.getElem?_eq_getElem (by omega)⟩
    obtain ⟨hrl, hol, hokl⟩ := ho o (List.mem_of_getElem? hx)
    obtain ⟨hB1, hB2, hB3, hB4⟩ := hB o (List.mem_of_getElem? hx)
    have hon := hN o (List.mem_of_getElem? hx)
    obtain ⟨ob, oo, rfl, hat⟩ := hr.at_ (by omega)
    refine XC.region ?_
    refine x_v (r_ia (k := i) Tryz.underlying28 ty27 rfl rfl (by omega) (by omega)) rfl ?_
    refine x_v (r_ldar (l' := oc o) ty27 rfl rfl (fun w hw j u hu => by rw [Nat.add_assoc]; exact hat w (Gets.own gS hw) (i * 6 + j) u (cells_get oc_len S i o hx j u hu))) rfl ?_
    unfold oc
    refine x_a (r_al ty27 rfl) rfl fun b11 => ?_
    refine x_e (r_st ty27 rfl rfl rfl rfl rfl uD oV) ?_
    refine XL.nil ?_
    refine hK13 _ _ ?_
    refine XC.keep [(1, _), (5, _), (6, _), (11, _), (41, _), (42, _), (43, _)] ⟨rfl, rfl, rfl, rfl, rfl, rfl, rfl, trivial⟩ ?_
    refine XC.block ?_
    refine XC.seq fun K14 hK14 => ?_
    refine XC.region ?_
    refine x_v (r_fa fo27_0 rfl) rfl ?_
    refine x_v (r_ld ty3 rfl pK (by rfl)) rfl ?_
    refine x_v (r_eq rfl rfl) rfl ?_
    refine x_v (r_as rfl) rfl ?_
    refine XL.nil ?_
    refine hK14 _ _ ?_
    refine XC.keep [(1, _), (5, _), (6, _), (11, _), (41, _), (42, _), (43, _), (47, _)] ⟨rfl, rfl, rfl, rfl, rfl, rfl, rfl, rfl, trivial⟩ ?_
    refine XC.cond_d rfl (fun hc4 => ?_) (fun hc4 => ?_)
    ·refine XC.region ?_
     refine x_v (r_mv rfl) rfl ?_
     refine x_v (r_fa fo27_1 rfl) rfl ?_
     refine x_v (r_ld ty22 rfl pK (by rfl)) rfl ?_
     refine x_c (r_call0 (args := [_]) ⟨rfl, rfl⟩ (own_tr o.A o.c o.list (lgc l d L :: dsk d D :: []) (hrl.mono (fun w hw => Gets.own gS hw)) (by omega)) gS) rfl ?_
     rintro _ _ ⟨A54, c54, rfl, hRs⟩
     rw [hRs]
     refine XL.slnn (pK : Pick _ (sl A54 o.list.length c54 9 1 (cells sv o.list)) _) fun hl54 hA54 => ?_
     refine x_c (r_call0 (args := [_, _]) ⟨rfl, rfl, rfl⟩ (appendl_tr hL l d L D A54 c54 o.list (sl A54 o.list.length c54 9 1 (cells sv o.list) :: []) (Rdb.of_sl pK hl54 hA54) hlb.1 hlb.2.1 hlb.2.2 (by omega) (by omega)) gS) rfl ?_
     rintro _ _ ⟨rfl, hRs⟩
     rw [hRs]
     refine XL.nil ?_
     refine hK12 _ _ ?_
     refine XC.keep [(1, _), (5, _), (6, _), (41, _), (42, _), (43, _)] ⟨rfl, rfl, rfl, rfl, rfl, rfl, trivial⟩ ?_
     refine XC.region ?_
     refine x_v (r_add rfl rfl (by omega)) rfl ?_
     refine x_v (r_mv rfl) rfl ?_
     refine XL.nil ?_
     refine ⟨(i + 1, (appendL L D o.list).2.1, (appendL L D o.list).2.2), ?_, ?_, ⟨rfl, rfl, rfl, rfl, rfl, rfl, trivial⟩, gS⟩
     ·exact ⟨by dsimp only; omega, by dsimp only; have := appendL_phi L D o.list; omega, hso.app hok _⟩
     ·dsimp only; omega
    ·refine XC.seq fun K15 hK15 => ?_
     refine XC.region ?_
     refine x_v (r_fa fo27_0 rfl) rfl ?_
     refine x_v (r_ld ty3 rfl pK (by rfl)) rfl ?_
     refine x_v (r_eq rfl rfl) rfl ?_
     refine x_v (r_as rfl) rfl ?_
     refine XL.nil ?_
     refine hK15 _ _ ?_
     refine XC.keep [(1, _), (5, _), (6, _), (11, _), (41, _), (42, _), (43, _), (56, _)] ⟨rfl, rfl, rfl, rfl, rfl, rfl, rfl, rfl, trivial⟩ ?_
     refine XC.cond_d rfl (fun hc5 => ?_) (fun hc5 => ?_)
     ·refine XC.region ?_
      refine x_v (r_mv rfl) rfl ?_
      refine x_v (r_fa fo27_2 rfl) rfl ?_
      refine x_v (r_ld ty9 rfl pK (by rfl)) rfl ?_
      refine x_c (r_call0 (args := [_, _]) ⟨rfl, rfl, rfl⟩ (layl_tr hL l d L D o.text [] hlb.1 hlb.2.2 (by omega)) gS) rfl ?_
      rintro _ _ ⟨rfl, hRs⟩
      rw [hRs]
      refine XL.nil ?_
      refine hK12 _ _ ?_
      refine XC.keep [(1, _), (5, _), (6, _), (41, _), (42, _), (43, _)] ⟨rfl, rfl, rfl, rfl, rfl, rfl, trivial⟩ ?_
      refine XC.region ?_
      refine x_v (r_add rfl rfl (by omega)) rfl ?_
      refine x_v (r_mv rfl) rfl ?_
      refine XL.nil ?_
      refine ⟨(i + 1, (layL L D o.text).2.1, (layL L D o.text).2.2), ?_, ?_, ⟨rfl, rfl, rfl, rfl, rfl, rfl, trivial⟩, gS⟩
      ·exact ⟨by dsimp only; omega, by dsimp only; have := layL_phi L D o.text; omega, hso.lay hok _⟩
      ·dsimp only; omega
     ·refine XC.seq fun K16 hK16 => ?_
      refine XC.region ?_
      refine x_v (r_fa fo27_0 rfl) rfl ?_
      refine x_v (r_ld ty3 rfl pK (by rfl)) rfl ?_
      refine x_v (r_eq rfl rfl) rfl ?_
      refine x_v (r_as rfl) rfl ?_
      refine XL.nil ?_
      refine hK16 _ _ ?_
      refine XC.keep [(1, _), (5, _), (6, _), (11, _), (41, _), (42, _), (43, _), (64, _)] ⟨rfl, rfl, rfl, rfl, rfl, rfl, rfl, rfl, trivial⟩ ?_
      refine XC.cond_d rfl (fun hc6 => ?_) (fun hc6 => ?_)
      ·refine XC.region ?_
       refine x_v (r_mv rfl) rfl ?_
       refine x_v (r_fa fo27_4 rfl) rfl ?_
       refine x_v (r_ld ty3 rfl pK (by rfl)) rfl ?_
       refine x_c (r_call0 (args := [_, _]) ⟨rfl, rfl, rfl⟩ (fuse_tr d D o.n (lgc l d L :: []) hon) gS) rfl ?_
       rintro _ _ ⟨rfl, hRs⟩
       rw [hRs]
       refine XL.nil ?_
       refine hK12 _ _ ?_
       refine XC.keep [(1, _), (5, _), (6, _), (41, _), (42, _), (43, _)] ⟨rfl, rfl, rfl, rfl, rfl, rfl, trivial⟩ ?_
       refine XC.region ?_
       refine x_v (r_add rfl rfl (by omega)) rfl ?_
       refine x_v (r_mv rfl) rfl ?_
       refine XL.nil ?_
       refine ⟨(i + 1, L, fuseD D o.n), ?_, ?_, ⟨rfl, rfl, rfl, rfl, rfl, rfl, trivial⟩, gS⟩
       ·exact ⟨by dsimp only; omega, by dsimp only; rw [fuseD_phi]; omega, hso.fuse _⟩
       ·dsimp only; omega
      ·refine XC.skip ?_
       refine hK12 _ _ ?_
       refine XC.keep [(1, _), (5, _), (6, _), (41, _), (42, _), (43, _)] ⟨rfl, rfl, rfl, rfl, rfl, rfl, trivial⟩ ?_
       refine XC.region ?_
       refine x_v (r_add rfl rfl (by omega)) rfl ?_
       refine x_v (r_mv rfl) rfl ?_
       refine XL.nil ?_
       refine ⟨(i + 1, L, D), ?_, ?_, ⟨rfl, rfl, rfl, rfl, rfl, rfl, trivial⟩, gS⟩
       ·exact ⟨by dsimp only; omega, by dsimp only; omega, hso⟩
       ·dsimp only; omega
   ·refine XC.exit rfl ?_
    refine hK8 _ _ ?_
    refine XC.keep [(1, _), (5, _)] ⟨rfl, rfl, trivial⟩ ?_
    refine XC.seq fun K17 hK17 => ?_
    obtain rfl : i = S.length := by omega
    have haf := hso.aft K
    obtain ⟨L2, bs, gt, D2, hop1, hlv, hf2, _⟩ := haf
    have hp1 := crashD_phi D K
    have hp2 := openL_phi (crashD D K)
    rw [hop1] at hp2
    dsimp only at hp2
    have hfl : D.files.length ≤ phi D := by unfold phi; omega
    have hcr2 := live_crash hlv hf2 K
    have hop2 := live_open hlv hf2
    refine XC.region ?_
    refine x_v (r_mv rfl) rfl ?_
    refine x_a (r_bs (vs := []) rfl rfl bs25_0_) rfl fun b74 => ?_
    refine x_v (r_mv rfl) rfl ?_
    refine XL.shut_ (g := b74) (n := 0) (c := 0) (sz := 1) (cur := []) (xs := []) pK (Nat.le_refl _) (Nat.zero_le _) rfl rfl ?_
    refine x_a (r_app Tryz.underlying25 ty3 rfl (by decide) rfl rfl pK (hk.mono (fun w hw => Gets.own gS hw)) (iv_one _) (by unfold maxLen; omega) (by omega)) rfl fun ⟨A76, c76⟩ => ?_
    simp only [Nat.zero_add, List.nil_append]
    refine XL.slnn (pK : Pick _ (sl A76 K.length c76 3 1 (iv K)) _) fun hl76 hA76 => ?_
    refine XL.sllen (pK : Pick _ (sl A76 K.length c76 3 1 (iv K)) _) fun _ hc76 _ => ?_
    refine x_c (r_call0 (args := [_, _]) ⟨rfl, rfl, rfl⟩ (crash_tr d D A76 c76 K (sl A76 K.length c76 3 1 (iv K) :: []) (by omega) (Rdb.of_sl pK hl76 hA76) hc76) gS) rfl ?_
    rintro _ _ ⟨rfl, hRs⟩
    rw [hRs]
    refine XL.nil ?_
    refine hK17 _ _ ?_
    refine XC.keep [(1, _), (5, _)] ⟨rfl, rfl, trivial⟩ ?_
    refine XC.seq fun K18 hK18 => ?_
    refine XC.region ?_
    refine x_v (r_mv rfl) rfl ?_
    refine x_c (r_call0 (args := [_]) ⟨rfl, rfl⟩ (openl_tr hL d (crashD D K) [] (by omega)) gS) rfl ?_
    rintro _ _ hop
    unfold OpenV at hop
    rw [hop1] at hop
    dsimp only at hop
    obtain ⟨l2, Ag, cg, rfl, hRs⟩ := hop
    rw [hRs]
    refine x_v (r_mv rfl) rfl ?_
    refine x_v (r_ex rfl rfl) rfl ?_
    refine x_v (r_ex rfl rfl) rfl ?_
    refine x_v (r_ex rfl rfl) rfl ?_
    refine x_v (r_ex rfl rfl) rfl ?_
    refine x_v (r_as rfl) rfl ?_
    refine x_v (r_as rfl) rfl ?_
    refine x_v (r_as rfl) rfl ?_
    refine x_v (r_as rfl) rfl ?_
    refine XL.nil ?_
    refine hK18 _ _ ?_
    refine XC.keep [(1, _), (5, _), (13, _), (14, _), (15, _)] ⟨rfl, rfl, rfl, rfl, rfl, trivial⟩ ?_
    refine XC.seq fun K19 hK19 => ?_
    refine XC.region ?_
    refine x_v (r_mv rfl) rfl ?_
    refine x_c (r_call0 (args := [_]) ⟨rfl, rfl⟩ (steps_tr d D2 (sl Ag gt.length cg 9 1 (cells sv gt) :: [])) gS) rfl ?_
    rintro _ _ ⟨rfl, hRs⟩
    rw [hRs]
    refine x_v (r_as rfl) rfl ?_
    refine XL.nil ?_
    refine hK19 _ _ ?_
    refine XC.keep [(1, _), (5, _), (13, _), (14, _), (15, _), (16, _)] ⟨rfl, rfl, rfl, rfl, rfl, rfl, trivial⟩ ?_
    refine XC.seq fun K20 hK20 => ?_
    refine XC.seq fun K21 hK21 => ?_
    refine XC.region ?_
    refine x_v (r_mv rfl) rfl ?_
    refine XL.nil ?_
    refine hK21 _ _ ?_
    refine XC.keep [(1, _), (5, _), (13, _), (14, _), (15, _), (16, _), (87, _)] ⟨rfl, rfl, rfl, rfl, rfl, rfl, rfl, trivial⟩ ?_
    refine XC.block ?_
    refine XC.loop (σ := Nat) (fun j => [(1, .slice B K.length cb), (5, .pointer (some ⟨d, 0, none⟩)), (13, str bs), (14, .slice Ag gt.length cg), (15, .int .i64 0), (16, .int .i64 (D2.steps : Int)), (87, .int .i64 (j : Int))]) (fun j => sl Ag gt.length cg 9 1 (cells sv gt) :: dsk d D2 :: []) (fun j => j ≤ 2) (fun j => 2 - j) 0 ?_ ⟨rfl, rfl, rfl, rfl, rfl, rfl, rfl, trivial⟩ gS ?_
    ·exact Nat.zero_le _
    rintro j hj
    refine XC.seq fun K22 hK22 => ?_
    refine XC.region ?_
    refine x_v (r_lt rfl rfl) rfl ?_
    refine XL.nil ?_
    refine hK22 _ _ ?_
    refine XC.keep [(1, _), (5, _), (13, _), (14, _), (15, _), (16, _), (87, _), (88, _)] ⟨rfl, rfl, rfl, rfl, rfl, rfl, rfl, rfl, trivial⟩ ?_
    refine XC.seq fun K23 hK23 => ?_
    refine XC.cond_d rfl (fun hc7 => ?_) (fun hc7 => ?_)
    ·refine XC.skip ?_
     refine hK23 _ _ ?_
     refine XC.keep [(1, _), (5, _), (13, _), (14, _), (15, _), (16, _), (87, _)] ⟨rfl, rfl, rfl, rfl, rfl, rfl, rfl, trivial⟩ ?_
     refine XC.seq fun K24 hK24 => ?_
     refine XC.block ?_
     refine XC.seq fun K25 hK25 => ?_
     refine XC.region ?_
     refine x_v (r_mv rfl) rfl ?_
     refine x_c (r_call0 (args := [_]) ⟨rfl, rfl⟩ (openl_tr hL d D2 (sl Ag gt.length cg 9 1 (cells sv gt) :: []) (by omega)) gS) rfl ?_
     rintro _ _ hop
     unfold OpenV at hop
     rw [hop2] at hop
     dsimp only at hop
     obtain ⟨l3, Am, cm, rfl, hRs⟩ := hop
     rw [hRs]
     refine x_v (r_mv rfl) rfl ?_
     refine x_v (r_ex rfl rfl) rfl ?_
     refine x_v (r_ex rfl rfl) rfl ?_
     refine x_v (r_ex rfl rfl) rfl ?_
     refine x_v (r_ex rfl rfl) rfl ?_
     refine x_v (r_as rfl) rfl ?_
     refine x_v (r_as rfl) rfl ?_
     refine x_v (r_as rfl) rfl ?_
     refine x_v (r_as rfl) rfl ?_
     refine XL.nil ?_
     refine hK25 _ _ ?_
     refine XC.keep [(1, _), (5, _), (13, _), (14, _), (15, _), (16, _), (18, _), (19, _), (20, _), (87, _)] ⟨rfl, rfl, rfl, rfl, rfl, rfl, rfl, rfl, rfl, rfl, trivial⟩ ?_
     refine XC.seq fun K26 hK26 => ?_
     refine XC.seq fun K27 hK27 => ?_
     refine XC.region ?_
     refine x_v (r_mv rfl) rfl ?_
     refine x_v (r_ne rfl rfl) rfl ?_
     refine x_v (r_mv rfl) rfl ?_
     refine XL.splitd 98 rfl (fun hg98 => ?_) (fun hg98 => ?_)
     ·exfalso; exact hg98 rfl
     ·refine x_want rfl rfl rfl ?_
      refine x_v (r_mv rfl) rfl ?_
      refine x_want rfl rfl rfl ?_
      refine x_v (r_ne rfl rfl) rfl ?_
      refine x_v (r_pk_f rfl rfl) rfl ?_
      refine x_v (r_mv rfl) rfl ?_
      refine XL.splitd 102 rfl (fun hg102 => ?_) (fun hg102 => ?_)
      ·exfalso; exact hg102 rfl
      ·refine x_want rfl rfl rfl ?_
       refine x_v (r_mv rfl) rfl ?_
       refine x_want rfl rfl rfl ?_
       refine x_v (r_mv rfl) rfl ?_
       refine x_want rfl rfl rfl ?_
       refine x_v (r_sne rfl rfl) rfl ?_
       refine x_v (r_pk_f rfl rfl) rfl ?_
       refine x_v (r_mv rfl) rfl ?_
       refine XL.splitd 107 rfl (fun hg107 => ?_) (fun hg107 => ?_)
       ·exfalso; exact hg107 rfl
       ·refine x_want rfl rfl rfl ?_
        refine x_v (r_mv rfl) rfl ?_
        refine x_want rfl rfl rfl ?_
        refine x_v (r_mv rfl) rfl ?_
        refine x_want rfl rfl rfl ?_
        refine XL.slnn (pK : Pick _ (sl Ag gt.length cg 9 1 (cells sv gt)) _) fun hlg hAg => ?_
        refine XL.sllen (pK : Pick _ (sl Ag gt.length cg 9 1 (cells sv gt)) _) fun _ hcg hcg2 => ?_
        refine XL.slnn (pK : Pick _ (sl Am gt.length cm 9 1 (cells sv gt)) _) fun hlm hAm => ?_
        refine x_c (r_call0 (args := [_, _]) ⟨rfl, rfl, rfl⟩ (same_tr (Fr := sl Ag gt.length cg 9 1 (cells sv gt) :: sl Am gt.length cm 9 1 (cells sv gt) :: dsk d D2 :: []) Am Ag cm cg gt gt (Rdb.of_sl pK hlm hAm) (Rdb.of_sl pK hlg hAg) (by unfold maxLen at hcg2; omega)) gS) rfl ?_
        rintro _ _ ⟨rfl, hRs⟩
        rw [hRs]
        refine x_want rfl rfl rfl ?_
        refine x_v (r_not rfl) rfl ?_
        refine x_v (r_pk_f rfl rfl) rfl ?_
        refine x_v (r_mv rfl) rfl ?_
        refine XL.split 113 rfl (fun hg113 => ?_) (fun hg113 => ?_)
        ·exfalso; exact absurd hg113 (by simp)
        ·refine x_want rfl rfl rfl ?_
         refine x_v (r_mv rfl) rfl ?_
         refine x_want rfl rfl rfl ?_
         refine x_c (r_call0 (args := [_]) ⟨rfl, rfl⟩ (steps_tr d D2 (sl Ag gt.length cg 9 1 (cells sv gt) :: [])) gS) rfl ?_
         rintro _ _ ⟨rfl, hRs⟩
         rw [hRs]
         refine x_want rfl rfl rfl ?_
         refine x_v (r_mv rfl) rfl ?_
         refine x_want rfl rfl rfl ?_
         refine x_v (r_ne rfl rfl) rfl ?_
         refine x_v (r_pk_f rfl rfl) rfl ?_
         refine XL.nil ?_
         refine hK27 _ _ ?_
         refine XC.keep [(1, _), (5, _), (13, _), (14, _), (15, _), (16, _), (87, _), (118, _)] ⟨rfl, rfl, rfl, rfl, rfl, rfl, rfl, rfl, trivial⟩ ?_
         refine XC.cond_d rfl (fun hc8 => ?_) (fun hc8 => ?_)
         ·exfalso; exact hc8 rfl
         ·refine XC.skip ?_
          refine hK26 _ _ ?_
          refine XC.keep [(1, _), (5, _), (13, _), (14, _), (15, _), (16, _), (87, _)] ⟨rfl, rfl, rfl, rfl, rfl, rfl, rfl, trivial⟩ ?_
          refine XC.region ?_
          refine x_v (r_mv rfl) rfl ?_
          refine x_a (r_bs (vs := []) rfl rfl bs25_0_) rfl fun b120 => ?_
          refine x_v (r_mv rfl) rfl ?_
          refine XL.shut_ (g := b120) (n := 0) (c := 0) (sz := 1) (cur := []) (xs := []) pK (Nat.le_refl _) (Nat.zero_le _) rfl rfl ?_
          refine x_a (r_app Tryz.underlying25 ty3 rfl (by decide) rfl rfl pK (hk.mono (fun w hw => Gets.own gS hw)) (iv_one _) (by unfold maxLen; omega) (by omega)) rfl fun ⟨A122, c122⟩ => ?_
          simp only [Nat.zero_add, List.nil_append]
          refine XL.slnn (pK : Pick _ (sl A122 K.length c122 3 1 (iv K)) _) fun hl122 hA122 => ?_
          refine XL.sllen (pK : Pick _ (sl A122 K.length c122 3 1 (iv K)) _) fun _ hc122 _ => ?_
          refine x_c (r_call0 (args := [_, _]) ⟨rfl, rfl, rfl⟩ (crash_tr d D2 A122 c122 K (sl A122 K.length c122 3 1 (iv K) :: sl Ag gt.length cg 9 1 (cells sv gt) :: []) (Nat.le_trans (show D2.files.length ≤ phi D2 by unfold phi; omega) (by omega)) (Rdb.of_sl pK hl122 hA122) hc122) gS) rfl ?_
          rintro _ _ ⟨rfl, hRs⟩
          rw [hRs, hcr2]
          refine XL.nil ?_
          refine hK24 _ _ ?_
          refine XC.keep [(1, _), (5, _), (13, _), (14, _), (15, _), (16, _), (87, _)] ⟨rfl, rfl, rfl, rfl, rfl, rfl, rfl, trivial⟩ ?_
          refine XC.region ?_
          refine x_v (r_add rfl rfl (by omega)) rfl ?_
          refine x_v (r_mv rfl) rfl ?_
          refine XL.nil ?_
          refine ⟨j + 1, ?_, ?_, ⟨rfl, rfl, rfl, rfl, rfl, rfl, rfl, trivial⟩, gS⟩
          ·omega
          ·omega
    ·refine XC.exit rfl ?_
     refine hK20 _ _ ?_
     refine XC.keep [] trivial ?_
     refine XC.seq fun K28 hK28 => ?_
     refine XC.region ?_
     refine x_v (r_as rfl) rfl ?_
     refine XL.nil ?_
     refine hK28 _ _ ?_
     refine XC.keep [(4, _)] ⟨rfl, trivial⟩ ?_
     refine XC.ret ?_
     exact fin1 rfl (rfl) gS
end Go.Proofs.YtcmdmhmgffjknaaGreatDoor

/- What was written is read again: plain facts. -/
import Derived.Test.YtcmdmhmgffjknaaGreatDoorP2
import Derived.Test.YtcmdmhmgffjknaaGreatDoorFacts
import Derived.Test.YtcmdmhmgffjknaaGreatDoorXRow
import Derived.Test.YtcmdmhmgffjknaaGreatDoorRows
import Derived.Lay
import Derived.Stop.LaidErr
import Derived.Lib.LaidTab
import Derived.Test.YtcmdmhmgffjknaaGreatDoorYOps13
namespace Go.Proofs.YtcmdmhmgffjknaaGreatDoor
open Go.Sx
set_option linter.unusedVariables false

theorem zstep_nat (k : Nat) (acc : BitVec 64) (c : UInt8) (h1 : acc.toNat < 2 ^ (7 * k)) (h2 : (c.toNat % 128) * 2 ^ (7 * k) < 2 ^ 64) : (zstep k acc c).toNat = acc.toNat + (c.toNat % 128) * 2 ^ (7 * k) := by
 have hm : ((c.toBitVec &&& 127#8).setWidth 64).toNat = c.toNat % 128 := by
  rw [BitVec.toNat_setWidth, BitVec.toNat_and]
  have : c.toBitVec.toNat &&& (127#8).toNat = c.toNat % 128 := Nat.and_two_pow_sub_one_eq_mod c.toNat 7
  rw [this]; omega
 unfold zstep
 rw [BitVec.toNat_or, BitVec.toNat_shiftLeft, hm, Nat.shiftLeft_eq, Nat.mod_eq_of_lt h2, ← Nat.shiftLeft_eq, Nat.or_comm, ← Nat.shiftLeft_add_eq_or_of_lt h1, Nat.shiftLeft_eq]
 omega
theorem numGo_vb (r : List UInt8) : ∀ (m z k : Nat) (acc : BitVec 64), z ≤ m → acc.toNat < 2 ^ (7 * k) → z * 2 ^ (7 * k) < 2 ^ 63 → (k = 0 ∨ 0 < z) → ∃ w, numGo k acc (vb z ++ r) = some (w, r) ∧ w.toNat = acc.toNat + z * 2 ^ (7 * k) := by
 intro m
 induction m using Nat.strongRecOn with
 | _ m ih =>
  intro z k acc hz ha hb h0
  have h9 : k = 9 → z = 0 := fun h => by subst h; omega
  by_cases h : z ≤ 127
  ·rw [vb_le h]
   have hc : (UInt8.ofNat z).toNat = z := by simp; omega
   refine ⟨zstep k acc (UInt8.ofNat z), ?_, ?_⟩
   ·rw [List.singleton_append, numGo, if_neg (by rw [hc]; omega), if_neg (by rw [cont_iff, hc]; omega), if_neg (by rw [hc]; omega)]
   ·rw [zstep_nat k acc _ ha (by rw [hc, Nat.mod_eq_of_lt (by omega)]; omega), hc, Nat.mod_eq_of_lt (by omega)]
  ·rw [vb_gt h]
   have hc : (UInt8.ofNat (z % 128 + 128)).toNat = z % 128 + 128 := by simp; omega
   have hc2 : (z % 128 + 128) % 128 = z % 128 := by omega
   have hle : (z % 128) * 2 ^ (7 * k) ≤ z * 2 ^ (7 * k) := Nat.mul_le_mul_right _ (by omega)
   have hs := zstep_nat k acc (UInt8.ofNat (z % 128 + 128)) ha (by rw [hc, hc2]; omega)
   rw [hc, hc2] at hs
   have hp : 2 ^ (7 * (k + 1)) = 128 * 2 ^ (7 * k) := by rw [show 7 * (k + 1) = 7 * k + 7 by omega, Nat.pow_add]; omega
   have hz2 : z / 128 * (128 * 2 ^ (7 * k)) + z % 128 * 2 ^ (7 * k) = z * 2 ^ (7 * k) := by
    rw [← Nat.mul_assoc, ← Nat.add_mul]; congr 1; omega
   obtain ⟨w, e1, e2⟩ := ih (z / 128) (by omega) (z / 128) (k + 1) (zstep k acc (UInt8.ofNat (z % 128 + 128))) (Nat.le_refl _) (by
    rw [hs, hp]
    have : (z % 128) * 2 ^ (7 * k) ≤ 127 * 2 ^ (7 * k) := Nat.mul_le_mul_right _ (by omega)
    omega) (by rw [hp]; omega) (.inr (by omega))
   refine ⟨w, ?_, by rw [e2, hs, hp]; omega⟩
   rw [List.cons_append, numGo, if_neg (by omega), if_pos (by rw [cont_iff, hc]; omega)]
   exact e1
theorem numR_vb (n : Nat) (r : List UInt8) (h : n ≤ 1000000000000000000) : numR (vb (2 * n) ++ r, false) = ((n : Int), (r, false)) := by
 obtain ⟨w, h1, h2⟩ := numGo_vb r (2 * n) (2 * n) 0 0 (Nat.le_refl _) (by decide) (by omega) (.inl rfl)
 have h2 : w.toNat = 2 * n := by rw [h2]; simp
 have hz : zig w = n := by
  unfold zig
  have h3 : (w &&& 1#64).toNat = w.toNat % 2 := by rw [BitVec.toNat_and]; exact Nat.and_one_is_mod _
  rw [if_pos (by omega), BitVec.toNat_ushiftRight, Nat.shiftRight_eq_div_pow]
  omega
 unfold numR
 rw [if_neg (by simp)]
 dsimp only
 rw [h1]
 show (zig w, r, false) = _
 rw [hz]
theorem le32_le4 (q : BitVec 32) (x : List UInt8) : le32 (le4 q ++ x) = q := by
 show (((q.setWidth 8).setWidth 32 ||| ((q >>> 8).setWidth 8).setWidth 32 <<< 8) ||| ((q >>> 16).setWidth 8).setWidth 32 <<< 16) ||| ((q >>> 24).setWidth 8).setWidth 32 <<< 24 = q
 apply BitVec.eq_of_getLsbD_eq
 intro i hi
 simp only [BitVec.getLsbD_or, BitVec.getLsbD_shiftLeft, BitVec.getLsbD_setWidth, BitVec.getLsbD_ushiftRight]
 by_cases h1 : i < 8
 ·have b1 : i < 16 := by omega
  have b2 : i < 24 := by omega
  simp [h1, hi, b1, b2]
 ·by_cases h2 : i < 16
  ·have e : 8 + (i - 8) = i := by omega
   have a1 : i - 8 < 8 := by omega
   have a2 : i - 8 < 32 := by omega
   have b2 : i < 24 := by omega
   simp [h1, h2, hi, e, a1, a2, b2]
  ·by_cases h3 : i < 24
   ·have e : 16 + (i - 16) = i := by omega
    have a1 : i - 16 < 8 := by omega
    have a2 : i - 16 < 32 := by omega
    have a3 : ¬ i - 8 < 8 := by omega
    simp [h1, h2, h3, hi, e, a1, a2, a3]
   ·have e : 24 + (i - 24) = i := by omega
    have a1 : i - 24 < 8 := by omega
    have a2 : i - 24 < 32 := by omega
    have a3 : ¬ i - 8 < 8 := by omega
    have a4 : ¬ i - 16 < 8 := by omega
    simp [h1, h2, h3, hi, e, a1, a2, a3, a4]
theorem openF_frame (p r : List UInt8) (h : p.length ≤ 1048576) : openF (frameB p ++ r) = some (p, r) := by
 have e : frameB p ++ r = vb (2 * p.length) ++ (le4 (crcS p) ++ (p ++ r)) := by simp [frameB]
 have hl4 : (le4 (crcS p)).length = 4 := rfl
 unfold openF
 rw [e, numR_vb _ _ (by omega)]
 unfold openQ
 dsimp only
 have hd4 : (le4 (crcS p) ++ (p ++ r)).drop 4 = p ++ r := List.drop_left' hl4
 have hdn : (le4 (crcS p) ++ (p ++ r)).drop (4 + p.length) = r := by rw [← List.drop_drop, hd4]; exact List.drop_left' rfl
 have htk : (p ++ r).take p.length = p := List.take_left' rfl
 rw [if_pos ⟨rfl, by omega, by omega, by rw [List.length_append, hl4]; omega, by rw [List.length_append, List.length_append, hl4]; omega⟩, Int.toNat_natCast, hd4, htk, le32_le4, if_pos rfl, hdn]
theorem scanF_seal (r : List UInt8) : ∀ ps : List (List UInt8), (∀ p ∈ ps, p.length ≤ 1048576) → scanF (sealB ps ++ r) = (ps ++ (scanF r).1, (sealB ps).length + (scanF r).2)
 | [], _ => by simp [sealB]
 | p :: ps, h => by
  have e : sealB (p :: ps) ++ r = frameB p ++ (sealB ps ++ r) := by simp [sealB]
  have e2 : (sealB (p :: ps)).length = (frameB p).length + (sealB ps).length := by simp [sealB]
  rw [e, scanF_some (openF_frame p _ (h p (by simp))), scanF_seal r ps fun q hq => h q (by simp [hq]), e2]
  simp only [List.cons_append, List.length_append]
  congr 1; omega
theorem scanF_sealed (ps : List (List UInt8)) (h : ∀ p ∈ ps, p.length ≤ 1048576) : scanF (sealB ps) = (ps, (sealB ps).length) := by
 have := scanF_seal [] ps h
 rw [List.append_nil, scanF_none openF_nil] at this
 simpa using this
theorem numR_end (n : Nat) (h : n ≤ 1000000000000000000) : numR (vb (2 * n), false) = ((n : Int), ([], false)) := by
 have := numR_vb n [] h
 rwa [List.append_nil] at this
theorem textR_one (t r : List UInt8) (h : t.length ≤ 1000000000000000000) : textR (vb (2 * t.length) ++ (t ++ r), false) = (t, (r, false)) := by
 unfold textR
 rw [numR_vb _ _ h]
 dsimp only
 rw [if_neg (by decide), if_pos ⟨by omega, by rw [List.length_append]; omega⟩, Int.toNat_natCast, List.take_left' rfl, List.drop_left' rfl]
/-- A first segment's head. -/
theorem readS_base (base : List UInt8) (r : List UInt8) (h : base.length ≤ 524288) : readS (baseB base ++ r) = ⟨baseB base ++ r, 1, base, 0⟩ := by
 obtain ⟨h1, h2⟩ := head_len base h
 have hlen : (numsB [1] ++ textB [base]).length ≤ 1048576 := by rw [List.length_append]; omega
 have hb : baseB base = frameB (numsB [1] ++ textB [base]) := by simp [baseB, sealB]
 unfold readS
 rw [show openF (baseB base ++ r) = some (numsB [1] ++ textB [base], r) by rw [hb]; exact openF_frame _ _ hlen]
 dsimp only
 have e : numsB [1] ++ textB [base] = vb (2 * 1) ++ (vb (2 * base.length) ++ (base ++ [])) := by rw [numsB_one]; simp [textB]
 rw [e, numR_vb 1 _ (by omega)]
 dsimp only
 rw [if_pos (by decide), textR_one _ _ (by omega)]
 rfl
theorem readS_first (r : List UInt8) : readS (sealB [numsB [1, 0]] ++ r) = ⟨sealB [numsB [1, 0]] ++ r, 1, [], 0⟩ := by
 have h := readS_base [] r (by simp)
 have e : baseB [] = sealB [numsB [1, 0]] := by
  unfold baseB
  have : numsB [1] ++ textB [[]] = numsB [1, 0] := by simp [numsB, textB]
  rw [this]
 rw [e] at h; exact h
/-- The head of one that goes on. -/
theorem readS_on (n : Nat) (r : List UInt8) (h : n ≤ 1000000000) : readS (sealB [numsB [2, n]] ++ r) = ⟨sealB [numsB [2, n]] ++ r, 2, [], n⟩ := by
 have hmax : maxS = 140737488355328 := rfl
 have hl := (numsB_len2 2 n (by omega) (by omega)).1
 have hb : sealB [numsB [2, n]] = frameB (numsB [2, n]) := by simp [sealB]
 unfold readS
 rw [show openF (sealB [numsB [2, n]] ++ r) = some (numsB [2, n], r) by rw [hb]; exact openF_frame _ _ (by omega)]
 dsimp only
 have e : numsB [2, n] = vb (2 * 2) ++ vb (2 * n) := by simp [numsB]
 rw [e, numR_vb 2 _ (by omega)]
 dsimp only
 rw [if_neg (by decide), if_pos (by decide), numR_end n (by omega)]
 rfl
end Go.Proofs.YtcmdmhmgffjknaaGreatDoor
/- The answers that the law asks for first: values. -/
namespace Go.Proofs.YtcmdmhmgffjknaaGreatDoor
open Go.Sx
set_option linter.unusedVariables false

def n1 : List UInt8 := [108, 111, 103, 46, 49]
def n2 : List UInt8 := [108, 111, 103, 46, 50]
def n3 : List UInt8 := [108, 111, 103, 46, 51]
theorem name1 : nameB 1 = n1 := by unfold nameB; rw [show ((1 : Nat) : Int) = ((1 : Nat) : Int) from rfl, itoa_nat, Lib.decDigits_one (by omega)]; rfl
theorem name2 : nameB 2 = n2 := by unfold nameB; rw [itoa_nat, Lib.decDigits_one (by omega)]; rfl
theorem name3 : nameB 3 = n3 := by unfold nameB; rw [itoa_nat, Lib.decDigits_one (by omega)]; rfl
theorem fine1 : fineB n1 = true := by decide
theorem fine2 : fineB n2 = true := by decide
theorem fine3 : fineB n3 = true := by decide
theorem num1 : numB n1 = 1 := by rw [← name1]; exact num_name 1 (by omega) (by omega)
theorem num2 : numB n2 = 2 := by rw [← name2]; exact num_name 2 (by omega) (by omega)
theorem mn21 : min (2 : Int) 1 = 1 := by decide
theorem mx21 : max (-1 - 1 : Int) (-1) = -1 := by decide
def L0 : Lg := ⟨0, 0, false, 0⟩
theorem openL_empty : openL emptyD = (0, some (L0, [], []), emptyD) := by
 have hN : namesD emptyD logP = [] := by decide
 unfold openL tailD chainD
 rw [hN]
 rfl
def s1 : List UInt8 := sealB [numsB [1, 0]] ++ sealB [[97, 98]]
def s2 : List UInt8 := baseB [120]
def s3 : List UInt8 := sealB [[99], []]
theorem vb_one (k : Nat) (h : k ≤ 127) : (vb k).length = 1 := by rw [vb_le h]; rfl
theorem s1_len : s1.length = 14 := by
 have e1 : (numsB [1, 0]).length = 2 := by simp [numsB, vb_le]
 unfold s1 sealB
 simp only [List.flatMap_cons, List.flatMap_nil, List.append_nil, List.length_append, frameB_len, e1]
 rw [vb_one _ (by omega), vb_one _ (by simp)]
 rfl
theorem s2_len : s2.length = 8 := by
 have e1 : (numsB [1] ++ textB [[120]]).length = 3 := by simp [numsB, textB, vb_le]
 unfold s2 baseB sealB
 simp only [List.flatMap_cons, List.flatMap_nil, List.append_nil, frameB_len, e1]
 rw [vb_one _ (by omega)]
theorem s3_len : s3.length = 11 := by
 unfold s3 sealB
 simp only [List.flatMap_cons, List.flatMap_nil, List.append_nil, List.length_append, frameB_len]
 rw [vb_one _ (by simp), vb_one _ (by simp)]
 rfl
def D1 : Dk := ⟨[(n1, ⟨s1, 14, true⟩)], -1, false, 2⟩
def D2 : Dk := ⟨[(n2, ⟨s2, 8, true⟩)], -1, false, 5⟩
def D3 : Dk := ⟨[(n2, ⟨s2 ++ s3, 19, true⟩)], -1, false, 7⟩
theorem write_empty (s : List UInt8) (h : s.length ≤ 1048576) : writeD emptyD n1 s = (0, ⟨[(n1, ⟨s, s.length, true⟩)], -1, false, 2⟩) := by
 have h1 : ¬ 1048576 < s.length := by omega
 simp [writeD, appendD, syncD, knownD, readyE, fine1, emptyD, getF, setF, stepD, h1, mn21, mx21]
theorem app1_val : appendL L0 emptyD [[97, 98]] = (0, ⟨1, 14, false, 1⟩, D1) := by
 have hl := s1_len
 have e : (sealB [[97, 98]]).length = 7 := by
  unfold sealB
  simp only [List.flatMap_cons, List.flatMap_nil, List.append_nil, frameB_len]
  rw [vb_one _ (by simp)]; rfl
 have hne : sealB [[97, 98]] ≠ [] := fun h => by rw [h] at e; cases e
 have hh := (numsB_len2 1 0 (by decide) (by decide)).2
 have hf : fullB (numsB [1, 0]) (sealB [[97, 98]]) = s1 := by unfold fullB; rw [if_neg hh]; rfl
 have hp : planL L0 = some (numsB [1, 0], 1, 0, false) := by unfold planL; rw [if_pos (show L0.number = 0 from rfl)]
 have hw := write_empty s1 (by omega)
 unfold appendL
 rw [if_neg (by simp), if_neg (by omega), if_neg hne, hp]
 dsimp only
 rw [hf, name1, hw]
 dsimp only
 rw [if_neg (by decide), hl]
 rfl
theorem lay_val : layL ⟨1, 14, false, 1⟩ D1 [120] = (0, ⟨2, 8, false, 2⟩, D2) := by
 have hl := s2_len
 have hw : writeD D1 n2 s2 = (0, ⟨[(n1, ⟨s1, 14, true⟩), (n2, ⟨s2, 8, true⟩)], -1, false, 4⟩) := by
  have h1 : ¬ 1048576 < s2.length := by omega
  have hn : ¬ n1 = n2 := by decide
  have hn2 : ¬ n2 < n1 := by decide
  simp [writeD, appendD, syncD, knownD, readyE, fine2, D1, getF, setF, stepD, h1, hn, hn2, hl, mn21, mx21]
 have hr : removeD ⟨[(n1, ⟨s1, 14, true⟩), (n2, ⟨s2, 8, true⟩)], -1, false, 4⟩ n1 = (0, D2) := by
  have hn : ¬ n2 = n1 := by decide
  simp [removeD, knownD, readyE, fine1, D2, getF, delF, stepD, hn, mn21, mx21]
 have hb : baseB [120] = s2 := rfl
 unfold layL
 rw [if_neg (by simp), if_neg (by decide)]
 dsimp only
 rw [name2, hb, hw]
 dsimp only
 rw [if_neg (by decide)]
 show ((remD _ 1 1).1, _, (remD _ 1 1).2) = _
 rw [remD, name1, hr, if_neg (by decide), remD, hl]
theorem app2_val : appendL ⟨2, 8, false, 2⟩ D2 [[99], []] = (0, ⟨2, 19, false, 2⟩, D3) := by
 have hl := s3_len
 have hl2 := s2_len
 have hne : sealB [[99], []] ≠ [] := fun h => by have : s3 = [] := h; rw [this] at hl; cases hl
 have hp : planL ⟨2, 8, false, 2⟩ = some ([], 2, 8, false) := by unfold planL; rw [if_neg (by decide), if_neg (by decide)]
 have hf : fullB [] (sealB [[99], []]) = s3 := by unfold fullB; rw [if_pos rfl]; rfl
 have h6 : ¬ 65536 < (sealB [[99], []]).length := by have : (sealB [[99], []]).length = s3.length := rfl; omega
 have hw : writeD D2 n2 s3 = (0, D3) := by
  have h1 : ¬ 1048576 < s3.length + s2.length := by omega
  have h2 : s2.length + s3.length = 19 := by omega
  simp [writeD, appendD, syncD, knownD, readyE, fine2, D2, D3, getF, setF, stepD, h1, h2, mn21, mx21]
 unfold appendL
 rw [if_neg (by simp), if_neg h6, if_neg hne, hp]
 dsimp only
 rw [hf, name2, hw]
 dsimp only
 rw [if_neg (by decide), hl]
 rfl
theorem open3_val : ∃ L D', openL D3 = (0, some (L, [120], [[99], []]), D') := by
 have hl := s3_len
 have hl2 := s2_len
 have hN : namesD D3 logP = [n2] := by
  unfold namesD
  rw [if_neg (by simp [D3])]
  show [n2].filter _ = [n2]
  decide
 have hr : readD D3 n2 = (s2 ++ s3, true) := by simp [readD, D3, getF]
 have hs : readS (s2 ++ s3) = ⟨s2 ++ s3, 1, [120], 0⟩ := readS_base [120] s3 (by simp)
 have hF : firstL D3 [n2] = (2, ⟨s2 ++ s3, 1, [120], 0⟩) := by
  show stepF D3 (0, zeroSg) n2 = _
  unfold stepF
  rw [hr, num2]
  dsimp only
  rw [hs, if_pos ⟨by omega, rfl⟩]
 have hr3 : (readD D3 (nameB 3)).1 = [] := by
  have hn : ¬ n2 = n3 := by decide
  rw [name3]; simp [readD, D3, getF, hn]
 have hz : readS [] = ⟨[], 0, [], 0⟩ := by unfold readS; rw [openF_nil]
 have hC : chainD D3 = (2, ⟨s2 ++ s3, 1, [120], 0⟩, []) := by
  unfold chainD
  rw [hN, hF, if_pos (by decide)]
  show chainL D3 (999999996 + 1) 2 _ [] = _
  rw [chainL, hr3, hz]
  have hfo : followsF ⟨[], 0, [], 0⟩ ⟨s2 ++ s3, 1, [120], 0⟩ = none := by unfold followsF; rw [if_pos (.inl (by decide))]
  rw [hfo]
 have hsc : scanF (s2 ++ s3) = ([numsB [1] ++ textB [[120]], [99], []], 19) := by
  have e : s2 ++ s3 = sealB [numsB [1] ++ textB [[120]], [99], []] := by simp [s2, s3, baseB, sealB]
  rw [e, scanF_sealed _ (by
   intro p hp
   have e1 : (numsB [1] ++ textB [[120]]).length = 3 := by simp [numsB, textB, vb_le]
   simp only [List.mem_cons, List.not_mem_nil, or_false] at hp
   rcases hp with rfl | rfl | rfl
   ·omega
   ·simp
   ·simp), ← e, List.length_append]
  rw [hl, hl2]
 have hT : tailD D3 = ([[99], []], 19, decide (19 < (s2 ++ s3).length)) := by
  unfold tailD
  rw [hN, hF, if_pos (by decide), hC]
  dsimp only
  rw [hsc]
  rfl
 have hK : cleanL 2 2 [n2] D3 = (0, D3) := by
  rw [cleanL, num2, if_neg (by omega), cleanL]
 unfold openL
 rw [if_neg (by simp [D3]), hN, hF, hC, hT]
 dsimp only
 rw [hK]
 exact ⟨_, _, rfl⟩
theorem read1_val : readD D1 n1 = (s1, true) := by simp [readD, D1, getF]
theorem read2_val : readD D2 n1 = ([], false) := by
 have hn : ¬ n2 = n1 := by decide
 simp [readD, D2, getF, hn]
end Go.Proofs.YtcmdmhmgffjknaaGreatDoor
/- The law's functions: 7 (awake). -/
namespace Go.Proofs.YtcmdmhmgffjknaaGreatDoor
open Go.Sx
set_option linter.unusedVariables false

theorem awake_tr {W0 : World} (hL : Laid W0) (Fr : List HP) : Tr W0 Tryz.prog 7 [] Fr (fun v Rs' => v = .bool true ∧ Rs' = Fr) := by
 have hs1 := s1_len
 obtain ⟨L4, D4, hop3⟩ := open3_val
 refine Entry.tr (N := 103) (rs := [.tmp 0]) ⟨_, Tryz.func7, rfl, by kernel_rfl, rfl, rfl⟩ rfl ?_
 refine XC.seq fun K1 hK1 => ?_
 refine XC.region ?_
 refine x_v (r_as rfl) rfl ?_
 refine XL.nil ?_
 refine hK1 _ _ ?_
 refine XC.keep [] trivial ?_
 refine XC.seq fun K2 hK2 => ?_
 refine XC.region ?_
 refine x_c (r_call0 (args := []) rfl (new_tr Fr) gS) rfl ?_
 rintro _ _ ⟨d, rfl, hRs⟩
 rw [hRs]
 refine x_v (r_as rfl) rfl ?_
 refine XL.nil ?_
 refine hK2 _ _ ?_
 refine XC.keep [(1, _)] ⟨rfl, trivial⟩ ?_
 refine XC.seq fun K3 hK3 => ?_
 refine XC.region ?_
 refine x_v (r_mv rfl) rfl ?_
 refine x_c (r_call0 (args := [_]) ⟨rfl, rfl⟩ (openl_tr hL d emptyD Fr (by decide)) gS) rfl ?_
 rintro _ _ hop
 unfold OpenV at hop
 rw [openL_empty] at hop
 dsimp only at hop
 obtain ⟨l, Ar, cr, rfl, hRs⟩ := hop
 rw [hRs]
 refine x_v (r_mv rfl) rfl ?_
 refine x_v (r_ex rfl rfl) rfl ?_
 refine x_v (r_ex rfl rfl) rfl ?_
 refine x_v (r_ex rfl rfl) rfl ?_
 refine x_v (r_ex rfl rfl) rfl ?_
 refine x_v (r_as rfl) rfl ?_
 refine x_v (r_as rfl) rfl ?_
 refine x_v (r_as rfl) rfl ?_
 refine x_v (r_as rfl) rfl ?_
 refine XL.nil ?_
 refine hK3 _ _ ?_
 refine XC.keep [(1, _), (2, _), (4, _), (5, _)] ⟨rfl, rfl, rfl, rfl, trivial⟩ ?_
 refine XC.seq fun K4 hK4 => ?_
 refine XC.seq fun K5 hK5 => ?_
 refine XC.region ?_
 refine x_v (r_mv rfl) rfl ?_
 refine x_v (r_ne rfl rfl) rfl ?_
 refine x_v (r_mv rfl) rfl ?_
 refine XL.splitd 26 rfl (fun hg26 => ?_) (fun hg26 => ?_)
 ·exfalso; omega
 ·refine x_want rfl rfl rfl ?_
  refine x_v (r_mv rfl) rfl ?_
  refine x_want rfl rfl rfl ?_
  refine x_v (r_peq_some Tryz.underlying29 rfl rfl) rfl ?_
  refine x_v (r_pk_f rfl rfl) rfl ?_
  refine x_v (r_mv rfl) rfl ?_
  refine x_want rfl rfl rfl ?_
  refine x_v (r_mv rfl) rfl ?_
  refine x_want rfl rfl rfl ?_
  refine x_v (r_lensl Tryz.underlying22 rfl) rfl ?_
  refine x_want rfl rfl rfl ?_
  refine x_v (r_ne rfl rfl) rfl ?_
  refine x_v (r_pk_f rfl rfl) rfl ?_
  refine XL.nil ?_
  refine hK5 _ _ ?_
  refine XC.keep [(1, _), (2, _), (34, _)] ⟨rfl, rfl, rfl, trivial⟩ ?_
  refine XC.cond_d rfl (fun hc1 => ?_) (fun hc1 => ?_)
  ·exfalso; (first | omega | simp_all)
  ·refine XC.skip ?_
   refine hK4 _ _ ?_
   refine XC.keep [(1, _), (2, _)] ⟨rfl, rfl, trivial⟩ ?_
   refine XC.seq fun K6 hK6 => ?_
   refine XC.region ?_
   refine x_v (r_mv rfl) rfl ?_
   refine x_a (r_bs (vs := [_]) rfl ⟨rfl, rfl⟩ (bs22_1_0 _)) rfl fun b36 => ?_
   refine x_c (r_call0 (args := [_, _]) ⟨rfl, rfl, rfl⟩ (appendl_tr hL l d L0 emptyD (some ⟨b36, 0, none⟩) 1 [[97, 98]] (blk b36 9 [str [97, 98]] :: Fr) (Rdb.of_blk (cs := [str [97, 98]]) (xs := [str [97, 98]]) pK 0 rfl (fun j u hu => by simpa using hu)) (by decide) (by decide) (by decide) (by decide) (by decide)) gS) rfl ?_
   rintro _ _ ⟨hv37, hRs⟩
   rw [app1_val] at hv37 hRs
   dsimp only at hv37 hRs
   subst hv37
   rw [hRs]
   refine x_v (r_as rfl) rfl ?_
   refine XL.nil ?_
   refine hK6 _ _ ?_
   refine XC.keep [(1, _), (2, _), (6, _)] ⟨rfl, rfl, rfl, trivial⟩ ?_
   refine XC.seq fun K7 hK7 => ?_
   refine XC.region ?_
   refine x_v (r_mv rfl) rfl ?_
   refine x_c (r_call0 (args := [_, _]) ⟨rfl, rfl, rfl⟩ (dread_tr d D1 n1 (lgc l d ⟨1, 14, false, 1⟩ :: Fr)) gS) rfl ?_
   rintro _ _ ⟨hv40, hRs⟩
   rw [read1_val] at hv40
   dsimp only at hv40
   subst hv40
   rw [hRs]
   refine x_v (r_mv rfl) rfl ?_
   refine x_v (r_ex rfl rfl) rfl ?_
   refine x_v (r_ex rfl rfl) rfl ?_
   refine x_v (r_as rfl) rfl ?_
   refine x_v (r_as rfl) rfl ?_
   refine XL.nil ?_
   refine hK7 _ _ ?_
   refine XC.keep [(1, _), (2, _), (6, _), (7, _)] ⟨rfl, rfl, rfl, rfl, trivial⟩ ?_
   refine XC.seq fun K8 hK8 => ?_
   refine XC.region ?_
   refine x_v (r_mv rfl) rfl ?_
   refine x_c (r_call0 (args := [_, _]) ⟨rfl, rfl, rfl⟩ (layl_tr hL l d ⟨1, 14, false, 1⟩ D1 [120] Fr (by decide) (by decide) (by decide)) gS) rfl ?_
   rintro _ _ ⟨hv44, hRs⟩
   rw [lay_val] at hv44 hRs
   dsimp only at hv44 hRs
   subst hv44
   rw [hRs]
   refine x_v (r_as rfl) rfl ?_
   refine XL.nil ?_
   refine hK8 _ _ ?_
   refine XC.keep [(1, _), (2, _), (6, _), (7, _), (9, _)] ⟨rfl, rfl, rfl, rfl, rfl, trivial⟩ ?_
   refine XC.seq fun K9 hK9 => ?_
   refine XC.region ?_
   refine x_v (r_mv rfl) rfl ?_
   refine x_c (r_call0 (args := [_, _]) ⟨rfl, rfl, rfl⟩ (dread_tr d D2 n1 (lgc l d ⟨2, 8, false, 2⟩ :: Fr)) gS) rfl ?_
   rintro _ _ ⟨hv47, hRs⟩
   rw [read2_val] at hv47
   dsimp only at hv47
   subst hv47
   rw [hRs]
   refine x_v (r_mv rfl) rfl ?_
   refine x_v (r_ex rfl rfl) rfl ?_
   refine x_v (r_ex rfl rfl) rfl ?_
   refine x_v (r_as rfl) rfl ?_
   refine x_v (r_as rfl) rfl ?_
   refine XL.nil ?_
   refine hK9 _ _ ?_
   refine XC.keep [(1, _), (2, _), (6, _), (7, _), (9, _), (11, _)] ⟨rfl, rfl, rfl, rfl, rfl, rfl, trivial⟩ ?_
   refine XC.seq fun K10 hK10 => ?_
   refine XC.region ?_
   refine x_v (r_mv rfl) rfl ?_
   refine x_a (r_bs (vs := [_, _]) rfl ⟨rfl, rfl, rfl⟩ (bs22_2_0_1 _ _)) rfl fun b51 => ?_
   refine x_c (r_call0 (args := [_, _]) ⟨rfl, rfl, rfl⟩ (appendl_tr hL l d ⟨2, 8, false, 2⟩ D2 (some ⟨b51, 0, none⟩) 2 [[99], []] (blk b51 9 [str [99], str []] :: Fr) (Rdb.of_blk (cs := [str [99], str []]) (xs := [str [99], str []]) pK 0 rfl (fun j u hu => by simpa using hu)) (by decide) (by decide) (by decide) (by decide) (by decide)) gS) rfl ?_
   rintro _ _ ⟨hv52, hRs⟩
   rw [app2_val] at hv52 hRs
   dsimp only at hv52 hRs
   subst hv52
   rw [hRs]
   refine x_v (r_as rfl) rfl ?_
   refine XL.nil ?_
   refine hK10 _ _ ?_
   refine XC.keep [(1, _), (2, _), (6, _), (7, _), (9, _), (11, _), (12, _)] ⟨rfl, rfl, rfl, rfl, rfl, rfl, rfl, trivial⟩ ?_
   refine XC.seq fun K11 hK11 => ?_
   refine XC.region ?_
   refine x_v (r_mv rfl) rfl ?_
   refine x_c (r_call0 (args := [_]) ⟨rfl, rfl⟩ (openl_tr hL d D3 (lgc l d ⟨2, 19, false, 2⟩ :: Fr) (by decide)) gS) rfl ?_
   rintro _ _ hop
   unfold OpenV at hop
   rw [hop3] at hop
   dsimp only at hop
   obtain ⟨l4, A4, c4, rfl, hRs⟩ := hop
   rw [hRs]
   refine x_v (r_mv rfl) rfl ?_
   refine x_v (r_ex rfl rfl) rfl ?_
   refine x_v (r_ex rfl rfl) rfl ?_
   refine x_v (r_ex rfl rfl) rfl ?_
   refine x_v (r_ex rfl rfl) rfl ?_
   refine x_v (r_as rfl) rfl ?_
   refine x_v (r_as rfl) rfl ?_
   refine x_v (r_as rfl) rfl ?_
   refine x_v (r_as rfl) rfl ?_
   refine XL.nil ?_
   refine hK11 _ _ ?_
   refine XC.keep [(2, _), (4, _), (6, _), (7, _), (9, _), (11, _), (12, _), (14, _), (15, _)] ⟨rfl, rfl, rfl, rfl, rfl, rfl, rfl, rfl, rfl, trivial⟩ ?_
   refine XC.seq fun K12 hK12 => ?_
   refine XC.region ?_
   refine x_v (r_mv rfl) rfl ?_
   refine x_v (r_eq rfl rfl) rfl ?_
   refine x_v (r_mv rfl) rfl ?_
   refine XL.splitd 62 rfl (fun hg62 => ?_) (fun hg62 => ?_)
   ·refine x_want rfl rfl rfl ?_
    refine x_v (r_mv rfl) rfl ?_
    refine x_want rfl rfl rfl ?_
    refine x_v (r_eq rfl rfl) rfl ?_
    refine x_v (r_pk_t rfl rfl) rfl ?_
    refine x_v (r_mv rfl) rfl ?_
    refine XL.splitd 66 rfl (fun hg66 => ?_) (fun hg66 => ?_)
    ·refine x_want rfl rfl rfl ?_
     refine x_v (r_mv rfl) rfl ?_
     refine x_want rfl rfl rfl ?_
     refine x_v (r_eq rfl rfl) rfl ?_
     refine x_v (r_pk_t rfl rfl) rfl ?_
     refine x_v (r_mv rfl) rfl ?_
     refine XL.splitd 70 rfl (fun hg70 => ?_) (fun hg70 => ?_)
     ·refine x_want rfl rfl rfl ?_
      refine x_v (r_mv rfl) rfl ?_
      refine x_want rfl rfl rfl ?_
      refine x_v (r_lens Tryz.underlying9 rfl) rfl ?_
      refine x_want rfl rfl rfl ?_
      refine x_v (r_eq rfl rfl) rfl ?_
      refine x_v (r_pk_t rfl rfl) rfl ?_
      refine x_v (r_mv rfl) rfl ?_
      refine XL.splitd 75 rfl (fun hg75 => ?_) (fun hg75 => ?_)
      ·refine x_want rfl rfl rfl ?_
       refine x_v (r_mv rfl) rfl ?_
       refine x_want rfl rfl rfl ?_
       refine x_v (r_not rfl) rfl ?_
       refine x_v (r_pk_t rfl rfl) rfl ?_
       refine x_v (r_mv rfl) rfl ?_
       refine XL.split 79 rfl (fun hg79 => ?_) (fun hg79 => ?_)
       ·refine x_want rfl rfl rfl ?_
        refine x_v (r_mv rfl) rfl ?_
        refine x_want rfl rfl rfl ?_
        refine x_c (r_call0 (args := [_]) ⟨rfl, rfl⟩ (segment_tr l d ⟨2, 19, false, 2⟩ (sl A4 [[99], []].length c4 9 1 (cells sv [[99], []]) :: Fr)) gS) rfl ?_
        rintro _ _ ⟨rfl, hRs⟩
        rw [hRs]
        refine x_want rfl rfl rfl ?_
        refine x_v (r_eq rfl rfl) rfl ?_
        refine x_v (r_pk_t rfl rfl) rfl ?_
        refine x_v (r_mv rfl) rfl ?_
        refine XL.splitd 84 rfl (fun hg84 => ?_) (fun hg84 => ?_)
        ·refine x_want rfl rfl rfl ?_
         refine x_v (r_mv rfl) rfl ?_
         refine x_want rfl rfl rfl ?_
         refine x_v (r_seq rfl rfl) rfl ?_
         refine x_v (r_pk_t rfl rfl) rfl ?_
         refine x_v (r_mv rfl) rfl ?_
         refine XL.splitd 88 rfl (fun hg88 => ?_) (fun hg88 => ?_)
         ·refine x_want rfl rfl rfl ?_
          refine x_v (r_mv rfl) rfl ?_
          refine x_want rfl rfl rfl ?_
          refine x_v (r_lensl Tryz.underlying22 rfl) rfl ?_
          refine x_want rfl rfl rfl ?_
          refine x_v (r_eq rfl rfl) rfl ?_
          refine x_v (r_pk_t rfl rfl) rfl ?_
          refine x_v (r_mv rfl) rfl ?_
          refine XL.splitd 93 rfl (fun hg93 => ?_) (fun hg93 => ?_)
          ·refine x_want rfl rfl rfl ?_
           refine x_v (r_mv rfl) rfl ?_
           refine x_want rfl rfl rfl ?_
           refine XL.slnn (pK : Pick _ (sl A4 [[99], []].length c4 9 1 (cells sv [[99], []])) _) fun hl hA => ?_
           obtain ⟨g, rfl⟩ := hA (by decide)
           have hrN := Rdb.of_sl (W0 := W0) (pK : Pick (sl (some ⟨g, 0, none⟩) [[99], []].length c4 9 1 (cells sv [[99], []]) :: Fr) (sl (some ⟨g, 0, none⟩) [[99], []].length c4 9 1 (cells sv [[99], []])) _) hl (fun _ => ⟨g, rfl⟩)
           obtain ⟨g2, o2, he2, hat⟩ := hrN.at_ (by decide)
           injection he2 with he2
           injection he2 with hg2 ho2
           subst hg2
           subst ho2
           refine x_v (r_ia (k := 0) Tryz.underlying22 ty9 rfl rfl (by omega) (by decide)) rfl ?_
           refine x_want rfl rfl rfl ?_
           refine x_v (r_ldr (v := str [99]) ty9 rfl (fun w hw => hat w (Gets.own gS hw) (0 * 1) _ rfl)) rfl ?_
           refine x_want rfl rfl rfl ?_
           refine x_v (r_seq rfl rfl) rfl ?_
           refine x_v (r_pk_t rfl rfl) rfl ?_
           refine x_v (r_mv rfl) rfl ?_
           refine XL.splitd 99 rfl (fun hg99 => ?_) (fun hg99 => ?_)
           ·refine x_want rfl rfl rfl ?_
            refine x_v (r_mv rfl) rfl ?_
            refine x_want rfl rfl rfl ?_
            refine x_v (r_eq rfl rfl) rfl ?_
            refine x_v (r_pk_t rfl rfl) rfl ?_
            refine x_v (r_as rfl) rfl ?_
            refine XL.nil ?_
            refine hK12 _ _ ?_
            refine XC.keep [(0, _)] ⟨rfl, trivial⟩ ?_
            refine XC.ret ?_
            exact fin1 rfl (⟨by simp, rfl⟩) gS
           ·exfalso; exact hg99 rfl
          ·exfalso; (first | omega | exact hg93 rfl | simp at hg93)
         ·exfalso; exact hg88 rfl
        ·exfalso; exact hg84 rfl
       ·exfalso; exact absurd hg79 (by decide)
      ·exfalso; omega
     ·exfalso; omega
    ·exfalso; omega
   ·exfalso; omega
end Go.Proofs.YtcmdmhmgffjknaaGreatDoor
/- The law's functions: 11 (own), 8 (great). -/
namespace Go.Proofs.YtcmdmhmgffjknaaGreatDoor
open Go.Sx
set_option linter.unusedVariables false

/-- An act, in memory. -/
structure Ox where
 kind : Int
 A : Option Addr
 c : Nat
 list : List (List UInt8)
 text : List UInt8
 name : List UInt8
 n : Int
 B : Option Addr
 cb : Nat
 keeps : List Int
def oc (o : Ox) : List Value := [.int .i64 o.kind, .slice o.A o.list.length o.c, str o.text, str o.name, .int .i64 o.n, .slice o.B o.keeps.length o.cb]
theorem oc_len (o : Ox) : (oc o).length = 6 := rfl
/-- What an act that is not too great keeps within. -/
def OpB (o : Ox) : Prop := o.text.length ≤ 16384 ∧ o.list.length ≤ 16384 ∧ (∀ r ∈ o.list, r.length ≤ 16384) ∧ o.keeps.length ≤ 16384
theorem own_tr {W0 : World} (A : Option Addr) (c : Nat) (L : List (List UInt8)) (Fr : List HP) (hr : Rdb W0 Fr A L.length 1 (cells sv L)) (hl : L.length ≤ 8000000000000) : Tr W0 Tryz.prog 11 [.slice A L.length c] Fr (fun v Rs' => ∃ A' c', v = .slice A' L.length c' ∧ Rs' = sl A' L.length c' 9 1 (cells sv L) :: Fr) := by
 refine Tr.mono (Post := fun v Rs' => ∃ A' c', v = .slice A' (0 + L.length) c' ∧ Rs' = sl A' (0 + L.length) c' 9 1 ([] ++ cells sv L) :: Fr) ?_ (fun v Rs' ⟨A', c', h1, h2⟩ => ⟨A', c', by rw [h1, Nat.zero_add], by rw [h2, Nat.zero_add]; rfl⟩)
 refine Entry.tr (N := 6) (rs := [.tmp 2]) ⟨_, Tryz.func11, rfl, by kernel_rfl, rfl, rfl⟩ rfl ?_
 refine XC.seq fun K1 hK1 => ?_
 refine XC.region ?_
 refine x_v (r_as rfl) rfl ?_
 refine XL.nil ?_
 refine hK1 _ _ ?_
 refine XC.keep [(0, _)] ⟨rfl, trivial⟩ ?_
 refine XC.seq fun K2 hK2 => ?_
 refine XC.region ?_
 refine x_a (r_bs (vs := []) rfl rfl bs22_0_) rfl fun b3 => ?_
 refine XL.shut_ (g := b3) (n := 0) (c := 0) (sz := 1) (cur := []) (xs := []) pK (Nat.le_refl _) (Nat.zero_le _) rfl rfl ?_
 refine x_v (r_mv rfl) rfl ?_
 refine x_a (r_app Tryz.underlying22 ty9 rfl (by decide) rfl rfl pK (hr.mono (fun w hw => Gets.own gS hw)) (cells_one' sv_one _) (by unfold maxLen; omega) (by omega)) rfl fun ⟨A5, c5⟩ => ?_
 refine x_v (r_as rfl) rfl ?_
 refine XL.nil ?_
 refine hK2 _ _ ?_
 refine XC.keep [(2, _)] ⟨rfl, trivial⟩ ?_
 refine XC.ret ?_
 exact fin1 rfl (⟨A5, c5, rfl, rfl⟩) gS
theorem great_tr {W0 : World} (A : Option Addr) (c : Nat) (L : List Ox) (Fr : List HP) (hr : Rdb W0 Fr A L.length 6 (cells oc L)) (hn : L.length ≤ maxS) (ho : ∀ o ∈ L, Rdb W0 Fr o.A o.list.length 1 (cells sv o.list) ∧ o.list.length ≤ maxS ∧ o.keeps.length ≤ maxS) :
  Tr W0 Tryz.prog 8 [.slice A L.length c] Fr (fun v Rs' => ∃ b, v = .bool b ∧ Rs' = Fr ∧ (b = false → L.length ≤ 100 ∧ ∀ o ∈ L, OpB o)) := by
 have hmax : maxS = 140737488355328 := rfl
 refine Entry.tr (N := 47) (rs := [.tmp 2]) ⟨_, Tryz.func8, rfl, by kernel_rfl, rfl, rfl⟩ rfl ?_
 refine XC.seq fun K1 hK1 => ?_
 refine XC.region ?_
 refine x_v (r_as rfl) rfl ?_
 refine XL.nil ?_
 refine hK1 _ _ ?_
 refine XC.keep [(0, _)] ⟨rfl, trivial⟩ ?_
 refine XC.seq fun K2 hK2 => ?_
 refine XC.region ?_
 refine x_v (r_as rfl) rfl ?_
 refine XL.nil ?_
 refine hK2 _ _ ?_
 refine XC.keep [(0, _), (3, _)] ⟨rfl, rfl, trivial⟩ ?_
 refine XC.seq fun K3 hK3 => ?_
 refine XC.seq fun K4 hK4 => ?_
 refine XC.region ?_
 refine x_v (r_mv rfl) rfl ?_
 refine x_v (r_lensl Tryz.underlying28 rfl) rfl ?_
 refine x_v (r_mv rfl) rfl ?_
 refine XL.nil ?_
 refine hK4 _ _ ?_
 refine XC.keep [(0, _), (3, _), (8, _), (9, _), (10, _)] ⟨rfl, rfl, rfl, rfl, rfl, trivial⟩ ?_
 refine XC.block ?_
 refine XC.loop (σ := Nat × Nat) (fun q => [(0, .slice A L.length c), (3, .int .i64 (q.2 : Int)), (8, .slice A L.length c), (9, .int .i64 (L.length : Int)), (10, .int .i64 (q.1 : Int))]) (fun q => Fr) (fun q => q.1 ≤ L.length ∧ q.2 ≤ 16384 ∧ ∀ o ∈ L.take q.1, OpB o) (fun q => L.length - q.1) (0, 0) ?_ ⟨rfl, rfl, rfl, rfl, rfl, trivial⟩ gS ?_
 ·exact ⟨Nat.zero_le _, Nat.zero_le _, by simp⟩
 rintro ⟨i, n⟩ ⟨hi, hn2, hI⟩
 dsimp only at hi hn2 hI ⊢
 refine XC.seq fun K5 hK5 => ?_
 refine XC.region ?_
 refine x_v (r_lt rfl rfl) rfl ?_
 refine XL.nil ?_
 refine hK5 _ _ ?_
 refine XC.keep [(0, _), (3, _), (8, _), (9, _), (10, _), (11, _)] ⟨rfl, rfl, rfl, rfl, rfl, rfl, trivial⟩ ?_
 refine XC.seq fun K6 hK6 => ?_
 refine XC.cond_d rfl (fun hc1 => ?_) (fun hc1 => ?_)
 ·refine XC.skip ?_
  refine hK6 _ _ ?_
  refine XC.keep [(0, _), (3, _), (8, _), (9, _), (10, _)] ⟨rfl, rfl, rfl, rfl, rfl, trivial⟩ ?_
  refine XC.seq fun K7 hK7 => ?_
  refine XC.block ?_
  refine XC.seq fun K8 hK8 => ?_
  obtain ⟨o, hx⟩ : ∃ o, L[i]? = some o := ⟨_, List.getElem?_eq_getElem (by omega)⟩
  obtain ⟨hrl, hol, hok⟩ := ho o (List.mem_of_getElem? hx)
  obtain ⟨ob, oo, rfl, hat⟩ := hr.at_ (by omega)
  refine XC.region ?_
  refine x_v (r_ia (k := i) Tryz.underlying28 ty27 rfl rfl (by omega) (by omega)) rfl ?_
  refine x_v (r_ldar (l' := oc o) ty27 rfl rfl (fun w hw j u hu => by rw [Nat.add_assoc]; exact hat w (Gets.own gS hw) (i * 6 + j) u (cells_get oc_len L i o hx j u hu))) rfl ?_
  unfold oc
  refine x_a (r_al ty27 rfl) rfl fun b5 => ?_
  refine x_e (r_st ty27 rfl rfl rfl rfl rfl uD oV) ?_
  refine XL.nil ?_
  refine hK8 _ _ ?_
  refine XC.keep [(0, _), (3, _), (5, _), (8, _), (9, _), (10, _)] ⟨rfl, rfl, rfl, rfl, rfl, rfl, trivial⟩ ?_
  refine XC.seq fun K9 hK9 => ?_
  refine XC.region ?_
  refine x_v (r_mv rfl) rfl ?_
  refine x_v (r_fa fo27_2 rfl) rfl ?_
  refine x_v (r_ld ty9 rfl pK (by rfl)) rfl ?_
  refine x_v (r_lens Tryz.underlying9 rfl) rfl ?_
  refine x_v (r_min rfl rfl) rfl ?_
  refine x_v (r_add rfl rfl (by omega)) rfl ?_
  refine x_v (r_fa fo27_5 rfl) rfl ?_
  refine x_v (r_ld ty25 rfl pK (by rfl)) rfl ?_
  refine x_v (r_lensl Tryz.underlying25 rfl) rfl ?_
  refine x_v (r_add rfl rfl (by omega)) rfl ?_
  refine x_v (r_add rfl rfl (by omega)) rfl ?_
  refine x_v (r_as rfl) rfl ?_
  refine XL.nil ?_
  refine hK9 _ _ ?_
  refine XC.keep [(0, _), (3, _), (5, _), (8, _), (9, _), (10, _)] ⟨rfl, rfl, rfl, rfl, rfl, rfl, trivial⟩ ?_
  refine XC.seq fun K10 hK10 => ?_
  refine XC.seq fun K11 hK11 => ?_
  obtain ⟨n1, hn1⟩ : ∃ n1 : Nat, (n : Int) + (10 + min (o.text.length : Int) 1048576 + (o.keeps.length : Int)) = (n1 : Int) := ⟨n + (10 + min o.text.length 1048576 + o.keeps.length), by omega⟩
  rw [hn1]
  refine XC.region ?_
  refine x_v (r_fa fo27_1 rfl) rfl ?_
  refine x_v (r_ld ty22 rfl pK (by rfl)) rfl ?_
  refine x_v (r_lensl Tryz.underlying22 rfl) rfl ?_
  refine x_v (r_mv rfl) rfl ?_
  refine XL.nil ?_
  refine hK11 _ _ ?_
  refine XC.keep [(0, _), (3, _), (8, _), (9, _), (10, _), (26, _), (27, _), (28, _)] ⟨rfl, rfl, rfl, rfl, rfl, rfl, rfl, rfl, trivial⟩ ?_
  refine XC.block ?_
  refine XC.loop (σ := Nat × Nat) (fun q => [(0, .slice (some ⟨ob, oo, none⟩) L.length c), (3, .int .i64 (q.2 : Int)), (8, .slice (some ⟨ob, oo, none⟩) L.length c), (9, .int .i64 (L.length : Int)), (10, .int .i64 (i : Int)), (26, .slice o.A o.list.length o.c), (27, .int .i64 (o.list.length : Int)), (28, .int .i64 (q.1 : Int))]) (fun q => Fr) (fun q => q.1 ≤ o.list.length ∧ (q.2 ≤ 16384 ∨ q.1 = 0 ∧ q.2 = n1) ∧ n1 + q.1 ≤ q.2 ∧ ∀ r ∈ o.list.take q.1, r.length ≤ 16384) (fun q => o.list.length - q.1) (0, n1) ?_ ⟨rfl, rfl, rfl, rfl, rfl, rfl, rfl, rfl, trivial⟩ gS ?_
  ·exact ⟨Nat.zero_le _, .inr ⟨rfl, rfl⟩, Nat.le_refl _, by simp⟩
  rintro ⟨j, n3⟩ ⟨hj, hn3, hn4, hJ⟩
  dsimp only at hj hn3 hn4 hJ ⊢
  refine XC.seq fun K12 hK12 => ?_
  refine XC.region ?_
  refine x_v (r_lt rfl rfl) rfl ?_
  refine XL.nil ?_
  refine hK12 _ _ ?_
  refine XC.keep [(0, _), (3, _), (8, _), (9, _), (10, _), (26, _), (27, _), (28, _), (29, _)] ⟨rfl, rfl, rfl, rfl, rfl, rfl, rfl, rfl, rfl, trivial⟩ ?_
  refine XC.seq fun K13 hK13 => ?_
  refine XC.cond_d rfl (fun hc2 => ?_) (fun hc2 => ?_)
  ·refine XC.skip ?_
   refine hK13 _ _ ?_
   refine XC.keep [(0, _), (3, _), (8, _), (9, _), (10, _), (26, _), (27, _), (28, _)] ⟨rfl, rfl, rfl, rfl, rfl, rfl, rfl, rfl, trivial⟩ ?_
   refine XC.seq fun K14 hK14 => ?_
   refine XC.block ?_
   refine XC.seq fun K15 hK15 => ?_
   obtain ⟨y, hy⟩ : ∃ y, o.list[j]? = some y := ⟨_, List.getElem?_eq_getElem (by omega)⟩
   obtain ⟨rb, ro, hAe, hatr⟩ := hrl.at_ (by omega)
   rw [hAe]
   refine XC.region ?_
   refine x_v (r_ia (k := j) Tryz.underlying22 ty9 rfl rfl (by omega) (by omega)) rfl ?_
   refine x_v (r_ldr (v := str y) ty9 rfl (fun w hw => hatr w (Gets.own gS hw) (j * 1) _ (by rw [Nat.mul_one]; exact sv_get hy))) rfl ?_
   refine x_v (r_as rfl) rfl ?_
   refine XL.nil ?_
   refine hK15 _ _ ?_
   refine XC.keep [(0, _), (3, _), (7, _), (8, _), (9, _), (10, _), (26, _), (27, _), (28, _)] ⟨rfl, rfl, rfl, rfl, rfl, rfl, rfl, rfl, rfl, trivial⟩ ?_
   refine XC.seq fun K16 hK16 => ?_
   refine XC.region ?_
   refine x_v (r_mv rfl) rfl ?_
   refine x_v (r_mv rfl) rfl ?_
   refine x_v (r_lens Tryz.underlying9 rfl) rfl ?_
   refine x_v (r_min rfl rfl) rfl ?_
   refine x_v (r_add rfl rfl (by omega)) rfl ?_
   refine x_v (r_add rfl rfl (by omega)) rfl ?_
   refine x_v (r_as rfl) rfl ?_
   refine XL.nil ?_
   refine hK16 _ _ ?_
   refine XC.keep [(0, _), (3, _), (8, _), (9, _), (10, _), (26, _), (27, _), (28, _)] ⟨rfl, rfl, rfl, rfl, rfl, rfl, rfl, rfl, trivial⟩ ?_
   refine XC.seq fun K17 hK17 => ?_
   obtain ⟨n5, hn5⟩ : ∃ n5 : Nat, (n3 : Int) + (1 + min (y.length : Int) 1048576) = (n5 : Int) := ⟨n3 + (1 + min y.length 1048576), by omega⟩
   rw [hn5]
   refine XC.region ?_
   refine x_v (r_mv rfl) rfl ?_
   refine x_v (r_gt rfl rfl) rfl ?_
   refine XL.nil ?_
   refine hK17 _ _ ?_
   refine XC.keep [(0, _), (3, _), (8, _), (9, _), (10, _), (26, _), (27, _), (28, _), (39, _)] ⟨rfl, rfl, rfl, rfl, rfl, rfl, rfl, rfl, rfl, trivial⟩ ?_
   refine XC.cond_d rfl (fun hc3 => ?_) (fun hc3 => ?_)
   ·refine XC.seq fun K18 hK18 => ?_
    refine XC.region ?_
    refine x_v (r_as rfl) rfl ?_
    refine XL.nil ?_
    refine hK18 _ _ ?_
    refine XC.keep [(2, _)] ⟨rfl, trivial⟩ ?_
    refine XC.ret ?_
    exact fin1 rfl (⟨true, rfl, rfl, fun h => by cases h⟩) gS
   ·refine XC.skip ?_
    refine hK14 _ _ ?_
    refine XC.keep [(0, _), (3, _), (8, _), (9, _), (10, _), (26, _), (27, _), (28, _)] ⟨rfl, rfl, rfl, rfl, rfl, rfl, rfl, rfl, trivial⟩ ?_
    refine XC.region ?_
    refine x_v (r_add rfl rfl (by omega)) rfl ?_
    refine x_v (r_mv rfl) rfl ?_
    refine XL.nil ?_
    rw [← hAe]
    refine ⟨(j + 1, n5), ?_, ?_, ⟨rfl, rfl, rfl, rfl, rfl, rfl, rfl, rfl, trivial⟩, gS⟩
    ·exact ⟨by dsimp only; omega, .inl (by dsimp only; omega), by dsimp only; omega, fun p hp => by dsimp only at hp; rw [List.take_add_one, hy] at hp; rcases List.mem_append.1 hp with h | h; exact hJ p h; (simp at h; subst h; omega)⟩
    ·dsimp only; omega
  ·refine XC.exit rfl ?_
   refine hK10 _ _ ?_
   refine XC.keep [(0, _), (3, _), (8, _), (9, _), (10, _)] ⟨rfl, rfl, rfl, rfl, rfl, trivial⟩ ?_
   refine XC.seq fun K19 hK19 => ?_
   refine XC.region ?_
   refine x_v (r_mv rfl) rfl ?_
   refine x_v (r_gt rfl rfl) rfl ?_
   refine XL.nil ?_
   refine hK19 _ _ ?_
   refine XC.keep [(0, _), (3, _), (8, _), (9, _), (10, _), (42, _)] ⟨rfl, rfl, rfl, rfl, rfl, rfl, trivial⟩ ?_
   refine XC.cond_d rfl (fun hc4 => ?_) (fun hc4 => ?_)
   ·refine XC.seq fun K20 hK20 => ?_
    refine XC.region ?_
    refine x_v (r_as rfl) rfl ?_
    refine XL.nil ?_
    refine hK20 _ _ ?_
    refine XC.keep [(2, _)] ⟨rfl, trivial⟩ ?_
    refine XC.ret ?_
    exact fin1 rfl (⟨true, rfl, rfl, fun h => by cases h⟩) gS
   ·refine XC.skip ?_
    refine hK7 _ _ ?_
    refine XC.keep [(0, _), (3, _), (8, _), (9, _), (10, _)] ⟨rfl, rfl, rfl, rfl, rfl, trivial⟩ ?_
    refine XC.region ?_
    refine x_v (r_add rfl rfl (by omega)) rfl ?_
    refine x_v (r_mv rfl) rfl ?_
    refine XL.nil ?_
    refine ⟨(i + 1, n3), ?_, ?_, ⟨rfl, rfl, rfl, rfl, rfl, trivial⟩, gS⟩
    ·exact ⟨by dsimp only; omega, by dsimp only; omega, fun p hp => by dsimp only at hp; rw [List.take_add_one, hx] at hp; rcases List.mem_append.1 hp with h | h; exact hI p h; (simp at h; subst h; rw [List.take_of_length_le (by omega)] at hJ; exact ⟨by omega, by omega, hJ, by omega⟩)⟩
    ·dsimp only; omega
 ·refine XC.exit rfl ?_
  refine hK3 _ _ ?_
  refine XC.keep [(0, _)] ⟨rfl, trivial⟩ ?_
  refine XC.seq fun K21 hK21 => ?_
  refine XC.region ?_
  refine x_v (r_mv rfl) rfl ?_
  refine x_v (r_lensl Tryz.underlying28 rfl) rfl ?_
  refine x_v (r_gt rfl rfl) rfl ?_
  refine x_v (r_as rfl) rfl ?_
  refine XL.nil ?_
  refine hK21 _ _ ?_
  refine XC.keep [(2, _)] ⟨rfl, trivial⟩ ?_
  refine XC.ret ?_
  exact fin1 rfl (⟨_, rfl, rfl, fun h => by rw [decide_eq_false_iff_not] at h; rw [List.take_of_length_le (by omega)] at hI; exact ⟨by omega, hI⟩⟩) gS
end Go.Proofs.YtcmdmhmgffjknaaGreatDoor
/- The law's function 3 (WalNil). -/
namespace Go.Proofs.YtcmdmhmgffjknaaGreatDoor
open Go.Sx
set_option linter.unusedVariables false

theorem walnil_tr {W0 : World} (hL : Laid W0) (A : Option Addr) (c : Nat) (L : List (List UInt8)) (base : List UInt8) (hr : Rdb W0 [] A L.length 1 (cells sv L)) (hl : L.length ≤ maxS) : Tr W0 Tryz.prog 3 [.slice A L.length c, str base] [] (fun v Rs' => v = .bool true) := by
 have hmax : maxS = 140737488355328 := rfl
 refine Entry.tr (N := 59) (rs := [.tmp 4]) ⟨_, Tryz.func3, rfl, by kernel_rfl, rfl, rfl⟩ rfl ?_
 refine XC.seq fun K1 hK1 => ?_
 refine XC.region ?_
 refine x_v (r_as rfl) rfl ?_
 refine XL.nil ?_
 refine hK1 _ _ ?_
 refine XC.keep [(0, _), (1, _)] ⟨rfl, rfl, trivial⟩ ?_
 refine XC.seq fun K2 hK2 => ?_
 refine XC.seq fun K3 hK3 => ?_
 refine XC.region ?_
 refine x_c (r_call0 (args := []) rfl (awake_tr hL []) gS) rfl ?_
 rintro _ _ ⟨rfl, hRs⟩
 rw [hRs]
 refine x_v (r_not rfl) rfl ?_
 refine x_v (r_mv rfl) rfl ?_
 refine x_want rfl rfl rfl ?_
 refine x_v (r_mv rfl) rfl ?_
 refine x_want rfl rfl rfl ?_
 refine x_v (r_mv rfl) rfl ?_
 refine x_want rfl rfl rfl ?_
 refine x_v (r_bd (vs := [_, _]) rfl ⟨rfl, rfl, rfl⟩ (bd27_1_2 _ _ _ _)) rfl ?_
 refine x_want rfl rfl rfl ?_
 refine x_a (r_bs (vs := [_]) rfl ⟨rfl, rfl⟩ (bs28_1_0 _ _ _ _ _ _ _ _ _ _)) rfl fun b16 => ?_
 refine x_want rfl rfl rfl ?_
 refine x_c (r_call0 (args := [_]) ⟨rfl, rfl⟩ (great_tr (some ⟨b16, 0, none⟩) 1 [⟨0, A, c, L, base, [], 0, none, 0, []⟩] (blk b16 27 (oc ⟨0, A, c, L, base, [], 0, none, 0, []⟩) :: []) (Rdb.of_blk (cs := oc ⟨0, A, c, L, base, [], 0, none, 0, []⟩) (xs := cells oc [⟨0, A, c, L, base, [], 0, none, 0, []⟩]) pK 0 rfl (fun j u hu => by rw [cells_one] at hu; simpa using hu)) (by simp; omega) (fun o ho => by simp only [List.mem_singleton] at ho; subst ho; exact ⟨hr.mono (fun w hw => Gets.own (Gets.all _) hw), hl, by simp⟩)) gS) rfl ?_
 rintro _ _ ⟨bg, rfl, hRs, hgr⟩
 rw [hRs]
 refine x_v (r_pk_f rfl rfl) rfl ?_
 refine XL.nil ?_
 refine hK3 _ _ ?_
 refine XC.keep [(0, _), (1, _), (18, _)] ⟨rfl, rfl, rfl, trivial⟩ ?_
 refine XC.cond rfl (fun hc1 => ?_) (fun hc1 => ?_)
 ·refine XC.seq fun K4 hK4 => ?_
  refine XC.region ?_
  refine x_c (r_call0 (args := []) rfl (awake_tr hL []) gS) rfl ?_
  rintro _ _ ⟨rfl, hRs⟩
  rw [hRs]
  refine x_v (r_as rfl) rfl ?_
  refine XL.nil ?_
  refine hK4 _ _ ?_
  refine XC.keep [(4, _)] ⟨rfl, trivial⟩ ?_
  refine XC.ret ?_
  exact fin1 rfl ((by first | rfl | simp)) gS
 ·refine XC.skip ?_
  refine hK2 _ _ ?_
  refine XC.keep [(0, _), (1, _)] ⟨rfl, rfl, trivial⟩ ?_
  refine XC.seq fun K5 hK5 => ?_
  have hB := (hgr (by assumption)).2 _ (List.mem_singleton.2 rfl)
  obtain ⟨hB1, hB2, hB3, hB4⟩ := hB
  dsimp only at hB1 hB2
  refine XC.region ?_
  refine x_v (r_as rfl) rfl ?_
  refine XL.nil ?_
  refine hK5 _ _ ?_
  refine XC.keep [(0, _), (1, _), (5, _)] ⟨rfl, rfl, rfl, trivial⟩ ?_
  refine XC.seq fun K6 hK6 => ?_
  refine XC.region ?_
  refine x_c (r_call0 (args := [_]) ⟨rfl, rfl⟩ (open_nil []) gS) rfl ?_
  rintro _ _ ⟨rfl, hRs⟩
  rw [hRs]
  refine x_v (r_mv rfl) rfl ?_
  refine x_v (r_ex rfl rfl) rfl ?_
  refine x_v (r_ex rfl rfl) rfl ?_
  refine x_v (r_ex rfl rfl) rfl ?_
  refine x_v (r_ex rfl rfl) rfl ?_
  refine x_v (r_as rfl) rfl ?_
  refine x_v (r_as rfl) rfl ?_
  refine x_v (r_as rfl) rfl ?_
  refine x_v (r_as rfl) rfl ?_
  refine XL.nil ?_
  refine hK6 _ _ ?_
  refine XC.keep [(0, _), (1, _), (5, _), (6, _), (7, _), (8, _), (9, _)] ⟨rfl, rfl, rfl, rfl, rfl, rfl, rfl, trivial⟩ ?_
  refine XC.seq fun K7 hK7 => ?_
  refine XC.region ?_
  refine x_v (r_mv rfl) rfl ?_
  refine x_v (r_mv rfl) rfl ?_
  refine x_c (r_call0 (args := [_]) ⟨rfl, rfl⟩ (own_tr A c L [] hr (by omega)) gS) rfl ?_
  rintro _ _ ⟨A28, c28, rfl, hRs⟩
  rw [hRs]
  refine x_c (r_call0 (args := [_, _]) ⟨rfl, rfl, rfl⟩ (append_nil _ []) gS) rfl ?_
  rintro _ _ ⟨rfl, hRs⟩
  rw [hRs]
  refine x_v (r_eq rfl rfl) rfl ?_
  refine x_v (r_mv rfl) rfl ?_
  refine XL.splitd 31 rfl (fun hg31 => ?_) (fun hg31 => ?_)
  ·refine x_want rfl rfl rfl ?_
   refine x_v (r_mv rfl) rfl ?_
   refine x_want rfl rfl rfl ?_
   refine x_v (r_mv rfl) rfl ?_
   refine x_want rfl rfl rfl ?_
   refine x_c (r_call0 (args := [_, _]) ⟨rfl, rfl, rfl⟩ (lay_nil _ []) gS) rfl ?_
   rintro _ _ ⟨rfl, hRs⟩
   rw [hRs]
   refine x_want rfl rfl rfl ?_
   refine x_v (r_eq rfl rfl) rfl ?_
   refine x_v (r_pk_t rfl rfl) rfl ?_
   refine x_v (r_mv rfl) rfl ?_
   refine XL.splitd 37 rfl (fun hg37 => ?_) (fun hg37 => ?_)
   ·refine x_want rfl rfl rfl ?_
    refine x_v (r_mv rfl) rfl ?_
    refine x_want rfl rfl rfl ?_
    refine x_c (r_call0 (args := [_]) ⟨rfl, rfl⟩ (segment_nil []) gS) rfl ?_
    rintro _ _ ⟨rfl, hRs⟩
    rw [hRs]
    refine x_want rfl rfl rfl ?_
    refine x_v (r_eq rfl rfl) rfl ?_
    refine x_v (r_pk_t rfl rfl) rfl ?_
    refine x_v (r_mv rfl) rfl ?_
    refine XL.splitd 42 rfl (fun hg42 => ?_) (fun hg42 => ?_)
    ·refine x_want rfl rfl rfl ?_
     refine x_v (r_mv rfl) rfl ?_
     refine x_want rfl rfl rfl ?_
     refine x_v (r_peq_nil Tryz.underlying29 rfl rfl) rfl ?_
     refine x_v (r_pk_t rfl rfl) rfl ?_
     refine x_v (r_mv rfl) rfl ?_
     refine x_want rfl rfl rfl ?_
     refine x_v (r_mv rfl) rfl ?_
     refine x_want rfl rfl rfl ?_
     refine x_v (r_seq rfl rfl) rfl ?_
     refine x_v (r_pk_t rfl rfl) rfl ?_
     refine x_v (r_mv rfl) rfl ?_
     refine XL.splitd 50 rfl (fun hg50 => ?_) (fun hg50 => ?_)
     ·refine x_want rfl rfl rfl ?_
      refine x_v (r_mv rfl) rfl ?_
      refine x_want rfl rfl rfl ?_
      refine x_v (r_lensl Tryz.underlying22 rfl) rfl ?_
      refine x_want rfl rfl rfl ?_
      refine x_v (r_eq rfl rfl) rfl ?_
      refine x_v (r_pk_t rfl rfl) rfl ?_
      refine x_v (r_mv rfl) rfl ?_
      refine XL.splitd 55 rfl (fun hg55 => ?_) (fun hg55 => ?_)
      ·refine x_want rfl rfl rfl ?_
       refine x_v (r_mv rfl) rfl ?_
       refine x_want rfl rfl rfl ?_
       refine x_v (r_eq rfl rfl) rfl ?_
       refine x_v (r_pk_t rfl rfl) rfl ?_
       refine x_v (r_as rfl) rfl ?_
       refine XL.nil ?_
       refine hK7 _ _ ?_
       refine XC.keep [(4, _)] ⟨rfl, trivial⟩ ?_
       refine XC.ret ?_
       exact fin1 rfl ((by first | rfl | simp)) gS
      ·exfalso; omega
     ·exfalso; exact hg50 rfl
    ·exfalso; omega
   ·exfalso; omega
  ·exfalso; omega
end Go.Proofs.YtcmdmhmgffjknaaGreatDoor
/- What comes in, read; the listed variables. -/
namespace Go.Proofs.YtcmdmhmgffjknaaGreatDoor
open Go.Sx Go.ChangeShapes Go.WideShapes Go.ChangeAt Go.RowKit
set_option linter.unusedVariables false

theorem ownk : ownKnob Tryz.prog.godebug = none := by kernel_rfl
theorem kidsk : Kids Tryz.prog (· < Tryz.prog.types.size) := kids_rows (by kernel_rfl) (by kernel_rfl)
theorem fullk : ∀ t e, t < Tryz.prog.types.size → Tryz.prog.underlying t = some (.slice e) → 0 < Tryz.prog.cellsOf e := slices_full_of Tryz.prog (by kernel_rfl)
theorem g0 : Tryz.prog.globalNamed "strconv.ErrSyntax" = some 0 := by kernel_rfl
theorem g1 : Tryz.prog.globalNamed "strconv.ErrRange" = some 1 := by kernel_rfl
theorem g2 : Tryz.prog.globalNamed "internal/strconv.uint64pow10" = some 2 := by kernel_rfl
theorem gt0 : (Tryz.prog.globals[0]?).map (·.type) = some 99 := by kernel_rfl
theorem gt1 : (Tryz.prog.globals[1]?).map (·.type) = some 99 := by kernel_rfl
theorem gt2 : (Tryz.prog.globals[2]?).map (·.type) = some 195 := by kernel_rfl
theorem cells192 : Tryz.prog.cellsOf 192 = 1 := by kernel_rfl
theorem cells9 : Tryz.prog.cellsOf 9 = 1 := by kernel_rfl
theorem star : "*" ++ "errors.errorString" = "*errors.errorString" := by decide
theorem row190 (u : TypeId) (h : Tryz.prog.typeName? 3 u = some "*errors.errorString") : u = 190 :=
 typeName_ptr_named (nm := "errors.errorString") (by rw [star]; kernel_rfl) (by kernel_rfl) (by decide) u (by rw [star]; exact h)
theorem pow_is : (Rows.laid_internal_strconv_uint64pow10 : DataW Unit) = Lib.tabData .u64 Lib.pow10Tab := by kernel_rfl
theorem laid_of {W : World} (h : laidMet Tryz.prog Rows.walNilRow.laid W) : Laid W := by
 have h1 : laidMet Tryz.prog [("math/bits.deBruijn32tab", Rows.laid_math_bits_deBruijn32tab), ("math/bits.deBruijn64tab", Rows.laid_math_bits_deBruijn64tab), ("internal/strconv.uint64pow10", Rows.laid_internal_strconv_uint64pow10), ("strconv.ErrRange", Rows.laid_strconv_ErrRange), ("strconv.ErrSyntax", Rows.laid_strconv_ErrSyntax)] W := h
 have h2 := h1.tail.tail
 have h3 := h2.tail
 have h4 := h3.tail
 rw [pow_is] at h2
 refine ⟨Lib.tabIs_of_head g2 gt2 Tryz.underlying195 Tryz.underlying138 (by kernel_rfl) (by kernel_rfl) h2, ?_, ?_⟩
 ·obtain ⟨a0, s0, hv0, -, -, -⟩ := laid_sentinel h4 g0 gt0 Tryz.underlying99 row190 Tryz.underlying190 Tryz.underlying192 rfl rfl Tryz.underlying9 cells192 cells9
  exact ⟨_, _, hv0⟩
 ·obtain ⟨a0, s0, hv0, -, -, -⟩ := laid_sentinel h3 g1 gt1 Tryz.underlying99 row190 Tryz.underlying190 Tryz.underlying192 rfl rfl Tryz.underlying9 cells192 cells9
  exact ⟨_, _, hv0⟩
theorem laid_met (os : Os) (args : Array Value) : laidMet Tryz.prog Rows.walNilRow.laid ((World.laidAll Tryz.prog os Rows.walNilRow.laid).forCall (fun _ _ => 0) ⟨#[], args, []⟩).memory :=
 laidMet_laidAll args (by kernel_rfl) (by kernel_rfl)

section
variable {H : Type} {enc : TypeId × Value → H} {W : World}
theorem rdstr {n : Nat} {cs : List Value} {x : DataW H × List MemPlace} (h : DataW.trod enc Tryz.prog W 0 (fun _ => true) true n 9 cs = some x) (hw : Wt Tryz.prog 9 x.1) : ∃ s, cs = sv s ∧ True := by
 obtain ⟨s, q, rfl, _⟩ := DataW.trod_string Tryz.underlying9 h
 exact ⟨s.data.toList, by rw [q]; rfl, trivial⟩
theorem rd22 {n : Nat} {cs : List Value} {x : DataW H × List MemPlace} (h : DataW.trod enc Tryz.prog W 0 (fun _ => true) true n 22 cs = some x) (hw : Wt Tryz.prog 22 x.1) :
  ∃ (A : Option Addr) (c : Nat) (L : List (List UInt8)), cs = [.slice A L.length c] ∧ L.length * 16 ≤ 140737488355328 ∧ ∀ Fr, Rdb W Fr A L.length 1 (cells sv L) := by
 obtain ⟨A, c, L, rfl, h1, _, h3⟩ := slice_rd (P := Tryz.prog) sv (fun _ => True) (m := 1) (bb := 16) sv_len Tryz.underlying22 (by kernel_rfl) (by decide) (by kernel_rfl) (fun n cs x hh hw => rdstr hh hw) h hw
 exact ⟨A, c, L, rfl, h1, h3⟩
end
end Go.Proofs.YtcmdmhmgffjknaaGreatDoor
/- What comes in, read: acts. -/
namespace Go.Proofs.YtcmdmhmgffjknaaGreatDoor
open Go.Sx Go.ChangeShapes Go.WideShapes Go.ChangeAt Go.RowKit
set_option linter.unusedVariables false

section
variable {H : Type} {enc : TypeId × Value → H} {W : World}
theorem slice_le {P : Program} {t e : TypeId} {fuel : Nat} {A : Option Addr} {n k : Nat} {x : DataW H × List MemPlace} (ht : P.underlying t = some (.slice e)) (h : DataW.trod enc P W 0 (fun _ => true) true fuel t [.slice A n k] = some x) : n ≤ k := by
 rcases Go.Deep.open_slice ht h with ⟨h1, _⟩ | ⟨a, len, cap, _, _, _, _, h1, _, h2, _⟩
 ·have h1 : Value.slice A n k = .slice none 0 0 := by simpa using h1
  injection h1 with _ h2 h3
  omega
 ·have h1 : Value.slice A n k = .slice (some a) len cap := by simpa using h1
  injection h1 with _ h3 h4
  omega
theorem cells_iv : ∀ L : List Int, cells (fun i => [Value.int .i64 i]) L = iv L
 | [] => rfl
 | i :: L => by rw [cells_cons, cells_iv L]; rfl
theorem i64_lt {i : Int} (h : (Lit.int .i64 i).wf = true) : i < 9223372036854775808 := by
 simp [Lit.wf, IntKind.min, IntKind.max, IntKind.signed, IntKind.bits] at h
 omega
theorem rdint {n : Nat} {cs : List Value} {x : DataW H × List MemPlace} (h : DataW.trod enc Tryz.prog W 0 (fun _ => true) true n 3 cs = some x) (hw : Wt Tryz.prog 3 x.1) : ∃ i : Int, cs = [.int .i64 i] ∧ True := by
 obtain ⟨i, q, _, _⟩ := DataW.trod_int Tryz.underlying3 h
 exact ⟨i, q, trivial⟩
theorem rd25 {n : Nat} {cs : List Value} {x : DataW H × List MemPlace} (h : DataW.trod enc Tryz.prog W 0 (fun _ => true) true n 25 cs = some x) (hw : Wt Tryz.prog 25 x.1) :
  ∃ (A : Option Addr) (c : Nat) (L : List Int), cs = [.slice A L.length c] ∧ L.length * 8 ≤ 140737488355328 ∧ ∀ Fr, Rdb W Fr A L.length 1 (iv L) := by
 obtain ⟨A, c, L, rfl, h1, _, h3⟩ := slice_rd (P := Tryz.prog) (fun i : Int => [Value.int .i64 i]) (fun _ => True) (m := 1) (bb := 8) (fun _ => rfl) Tryz.underlying25 (by kernel_rfl) (by decide) (by kernel_rfl) (fun n cs x hh hw => rdint hh hw) h hw
 exact ⟨A, c, L, rfl, h1, fun Fr => by rw [← cells_iv]; exact h3 Fr⟩
/-- An act's lists can be read, whatever is owned. -/
def OkOx (W : World) (o : Ox) : Prop := (∀ Fr, Rdb W Fr o.A o.list.length 1 (cells sv o.list)) ∧ o.list.length * 16 ≤ 140737488355328 ∧ o.list.length ≤ o.c ∧ o.n < 9223372036854775808 ∧ (∀ Fr, Rdb W Fr o.B o.keeps.length 1 (iv o.keeps)) ∧ o.keeps.length * 8 ≤ 140737488355328
theorem rd27 {n : Nat} {cs : List Value} {x : DataW H × List MemPlace} (h : DataW.trod enc Tryz.prog W 0 (fun _ => true) true n 27 cs = some x) (hw : Wt Tryz.prog 27 x.1) : ∃ o : Ox, cs = oc o ∧ OkOx W o := by
 obtain ⟨hl, n', g⟩ := struct_rd (m := 6) Tryz.underlying27 (by kernel_rfl) h hw
 match cs, hl with
 | [c0, c1, c2, c3, c4, c5], _ =>
  obtain ⟨y0, h0, _⟩ := g 0 _ 1 rfl (by kernel_rfl)
  obtain ⟨y1, h1, w1⟩ := g 1 _ 1 rfl (by kernel_rfl)
  obtain ⟨y2, h2, w2⟩ := g 2 _ 1 rfl (by kernel_rfl)
  obtain ⟨y3, h3, w3⟩ := g 3 _ 1 rfl (by kernel_rfl)
  obtain ⟨y4, h4, _⟩ := g 4 _ 1 rfl (by kernel_rfl)
  obtain ⟨y5, h5, w5⟩ := g 5 _ 1 rfl (by kernel_rfl)
  obtain ⟨i0, rfl, _⟩ := int_rd Tryz.underlying3 h0
  obtain ⟨A, c, L, q1, hle, hrd⟩ := rd22 h1 w1
  obtain ⟨s2, rfl, _⟩ := str_rd Tryz.underlying9 h2 w2
  obtain ⟨s3, rfl, _⟩ := str_rd Tryz.underlying9 h3 w3
  obtain ⟨i4, rfl, hi4⟩ := int_rd Tryz.underlying3 h4
  obtain ⟨B, cb, K, q5, hle5, hrd5⟩ := rd25 h5 w5
  have q1' : c1 = .slice A L.length c := by simpa using q1
  have q5' : c5 = .slice B K.length cb := by simpa using q5
  subst q1'
  subst q5'
  exact ⟨⟨i0, A, c, L, s2, s3, i4, B, cb, K⟩, rfl, hrd, hle, slice_le Tryz.underlying22 h1, i64_lt hi4, hrd5, hle5⟩
theorem rd28 {n : Nat} {cs : List Value} {x : DataW H × List MemPlace} (h : DataW.trod enc Tryz.prog W 0 (fun _ => true) true n 28 cs = some x) (hw : Wt Tryz.prog 28 x.1) :
  ∃ (A : Option Addr) (c : Nat) (L : List Ox), cs = [.slice A L.length c] ∧ L.length ≤ maxS ∧ (∀ o ∈ L, OkOx W o) ∧ ∀ Fr, Rdb W Fr A L.length 6 (cells oc L) := by
 have hmax : maxS = 140737488355328 := rfl
 obtain ⟨A, c, L, rfl, h1, h2, h3⟩ := slice_rd (P := Tryz.prog) oc (OkOx W) (m := 6) (bb := 96) oc_len Tryz.underlying28 (by kernel_rfl) (by decide) (by kernel_rfl) (fun n cs x hh hw => rd27 hh hw) h hw
 exact ⟨A, c, L, rfl, by omega, h2, h3⟩
end
end Go.Proofs.YtcmdmhmgffjknaaGreatDoor
/- What comes in, read: acts, and how long their names are. -/
namespace Go.Proofs.YtcmdmhmgffjknaaGreatDoor
open Go.Sx Go.ChangeShapes Go.WideShapes Go.ChangeAt Go.RowKit
set_option linter.unusedVariables false

section
variable {H : Type} {enc : TypeId × Value → H} {W : World}
/-- An act's lists can be read, whatever is owned. -/
def OkOn (W : World) (o : Ox) : Prop := (∀ Fr, Rdb W Fr o.A o.list.length 1 (cells sv o.list)) ∧ o.list.length * 16 ≤ 140737488355328 ∧ o.list.length ≤ o.c ∧ o.n < 9223372036854775808 ∧ (∀ Fr, Rdb W Fr o.B o.keeps.length 1 (iv o.keeps)) ∧ o.keeps.length * 8 ≤ 140737488355328 ∧ o.name.length ≤ 140737488355328
theorem rd27n {n : Nat} {cs : List Value} {x : DataW H × List MemPlace} (h : DataW.trod enc Tryz.prog W 0 (fun _ => true) true n 27 cs = some x) (hw : Wt Tryz.prog 27 x.1) : ∃ o : Ox, cs = oc o ∧ OkOn W o := by
 obtain ⟨hl, n', g⟩ := struct_rd (m := 6) Tryz.underlying27 (by kernel_rfl) h hw
 match cs, hl with
 | [c0, c1, c2, c3, c4, c5], _ =>
  obtain ⟨y0, h0, _⟩ := g 0 _ 1 rfl (by kernel_rfl)
  obtain ⟨y1, h1, w1⟩ := g 1 _ 1 rfl (by kernel_rfl)
  obtain ⟨y2, h2, w2⟩ := g 2 _ 1 rfl (by kernel_rfl)
  obtain ⟨y3, h3, w3⟩ := g 3 _ 1 rfl (by kernel_rfl)
  obtain ⟨y4, h4, _⟩ := g 4 _ 1 rfl (by kernel_rfl)
  obtain ⟨y5, h5, w5⟩ := g 5 _ 1 rfl (by kernel_rfl)
  obtain ⟨i0, rfl, _⟩ := int_rd Tryz.underlying3 h0
  obtain ⟨A, c, L, q1, hle, hrd⟩ := rd22 h1 w1
  obtain ⟨s2, rfl, _⟩ := str_rd Tryz.underlying9 h2 w2
  obtain ⟨s3, rfl, hs3⟩ := str_rd Tryz.underlying9 h3 w3
  obtain ⟨i4, rfl, hi4⟩ := int_rd Tryz.underlying3 h4
  obtain ⟨B, cb, K, q5, hle5, hrd5⟩ := rd25 h5 w5
  have q1' : c1 = .slice A L.length c := by simpa using q1
  have q5' : c5 = .slice B K.length cb := by simpa using q5
  subst q1'
  subst q5'
  exact ⟨⟨i0, A, c, L, s2, s3, i4, B, cb, K⟩, rfl, hrd, hle, slice_le Tryz.underlying22 h1, i64_lt hi4, hrd5, hle5, hs3⟩
theorem rd28n {n : Nat} {cs : List Value} {x : DataW H × List MemPlace} (h : DataW.trod enc Tryz.prog W 0 (fun _ => true) true n 28 cs = some x) (hw : Wt Tryz.prog 28 x.1) :
  ∃ (A : Option Addr) (c : Nat) (L : List Ox), cs = [.slice A L.length c] ∧ L.length ≤ maxS ∧ (∀ o ∈ L, OkOn W o) ∧ ∀ Fr, Rdb W Fr A L.length 6 (cells oc L) := by
 have hmax : maxS = 140737488355328 := rfl
 obtain ⟨A, c, L, rfl, h1, h2, h3⟩ := slice_rd (P := Tryz.prog) oc (OkOn W) (m := 6) (bb := 96) oc_len Tryz.underlying28 (by kernel_rfl) (by decide) (by kernel_rfl) (fun n cs x hh hw => rd27n hh hw) h hw
 exact ⟨A, c, L, rfl, by omega, h2, h3⟩
end
end Go.Proofs.YtcmdmhmgffjknaaGreatDoor
/- The document's numbers and texts: functions 82 (Num), 80 (Nums), 83 (Texts). -/
namespace Go.Proofs.YtcmdmhmgffjknaaGreatDoor
open Go.Sx
set_option linter.unusedVariables false

theorem wrap_u64 (n : Nat) (h : n < 18446744073709551616) : IntKind.u64.wrap (n : Int) = n := by
 have h2 : IntKind.u64.wrap ((BitVec.ofNat 64 n).toNat : Int) = ((BitVec.ofNat 64 n).toNat : Int) := wrap_bv (k := .u64) rfl (BitVec.ofNat 64 n)
 have e : (BitVec.ofNat 64 n).toNat = n := by rw [BitVec.toNat_ofNat]; exact Nat.mod_eq_of_lt h
 rw [e] at h2; exact h2
theorem wrap_u32 (n : Nat) (h : n < 4294967296) : IntKind.u32.wrap (n : Int) = n := by
 have h2 : IntKind.u32.wrap ((BitVec.ofNat 32 n).toNat : Int) = ((BitVec.ofNat 32 n).toNat : Int) := wrap_bv (k := .u32) rfl (BitVec.ofNat 32 n)
 have e : (BitVec.ofNat 32 n).toNat = n := by rw [BitVec.toNat_ofNat]; exact Nat.mod_eq_of_lt h
 rw [e] at h2; exact h2
theorem wrap_u8 (n : Nat) (h : n < 256) : IntKind.u8.wrap (n : Int) = n := by
 have h2 : IntKind.u8.wrap ((BitVec.ofNat 8 n).toNat : Int) = ((BitVec.ofNat 8 n).toNat : Int) := wrap_bv (k := .u8) rfl (BitVec.ofNat 8 n)
 have e : (BitVec.ofNat 8 n).toNat = n := by rw [BitVec.toNat_ofNat]; exact Nat.mod_eq_of_lt h
 rw [e] at h2; exact h2
theorem bv_one (n : Nat) (h : n < 256) : bv [UInt8.ofNat n] = [.int .u8 (n : Int)] := by
 have : (UInt8.ofNat n).toNat = n := by simp; omega
 simp [bv, this, Nat.mod_eq_of_lt h]
theorem rd_byte {W0 : World} {Rs Fr : List HP} {b n : Nat} (h : n < 256) (hp : Pick Rs (blk b 5 [.int .u8 (n : Int)]) Fr) : Rdb W0 Rs (some ⟨b, 0, none⟩) [UInt8.ofNat n].length 1 (bv [UInt8.ofNat n]) := by
 rw [bv_one n h]
 exact Rdb.of_blk hp 0 rfl (fun j u hu => by simpa using hu)
theorem rnum_tr {W0 : World} (n : Nat) (hn : n ≤ maxS) (Fr : List HP) : Tr W0 Tryz.prog 82 [.int .i64 (n : Int)] Fr (fun v Rs' => v = str (vb (2 * n)) ∧ Rs' = Fr) := by
 have hmax : maxS = 140737488355328 := rfl
 have hten := vb_ten (z := 2 * n) (by omega)
 refine Entry.tr (N := 31) (rs := [.tmp 2]) ⟨_, Tryz.func82, rfl, by kernel_rfl, rfl, rfl⟩ rfl ?_
 refine XC.seq fun K1 hK1 => ?_
 refine XC.region ?_
 refine x_v (r_as rfl) rfl ?_
 refine XL.nil ?_
 refine hK1 _ _ ?_
 refine XC.keep [(0, _)] ⟨rfl, trivial⟩ ?_
 refine XC.seq fun K2 hK2 => ?_
 refine XC.region ?_
 refine x_v (r_mv rfl) rfl ?_
 refine x_v (r_cvn Tryz.underlying3 Tryz.underlying138 rfl (wrap_u64 n (by omega))) rfl ?_
 refine x_v (yv (v' := .int .u64 ((2 * n : Nat) : Int)) (r_mulw rfl rfl) (by rw [show ((n : Int) * 2) = ((2 * n : Nat) : Int) by omega, wrap_u64 _ (by omega)])) rfl ?_
 refine x_v (r_as rfl) rfl ?_
 refine XL.nil ?_
 refine hK2 _ _ ?_
 refine XC.keep [(0, _), (3, _)] ⟨rfl, rfl, trivial⟩ ?_
 refine XC.seq fun K3 hK3 => ?_
 refine XC.seq fun K4 hK4 => ?_
 refine XC.region ?_
 refine x_v (r_mv rfl) rfl ?_
 refine x_v (r_lt rfl rfl) rfl ?_
 refine XL.nil ?_
 refine hK4 _ _ ?_
 refine XC.keep [(3, _), (9, _)] ⟨rfl, rfl, trivial⟩ ?_
 refine XC.cond_d rfl (fun hc1 => ?_) (fun hc1 => ?_)
 ·exfalso; omega
 ·refine XC.skip ?_
  refine hK3 _ _ ?_
  refine XC.keep [(3, _)] ⟨rfl, trivial⟩ ?_
  refine XC.seq fun K5 hK5 => ?_
  refine XC.region ?_
  refine x_v (r_as rfl) rfl ?_
  refine XL.nil ?_
  refine hK5 _ _ ?_
  refine XC.keep [(3, _), (4, _)] ⟨rfl, rfl, trivial⟩ ?_
  refine XC.seq fun K6 hK6 => ?_
  refine XC.block ?_
  refine XC.loop (σ := Nat × List UInt8) (fun s => [(3, .int .u64 (s.1 : Int)), (4, str s.2)]) (fun s => Fr) (fun s => s.2 ++ vb s.1 = vb (2 * n) ∧ s.1 ≤ 2 * n) (fun s => s.1) (2 * n, []) ?_ ⟨rfl, rfl, trivial⟩ gS ?_
  ·exact ⟨rfl, Nat.le_refl _⟩
  rintro ⟨z, out⟩ ⟨hz, hz2⟩
  dsimp only at hz hz2 ⊢
  have hol : out.length + (vb z).length = (vb (2 * n)).length := by rw [← hz, List.length_append]
  refine XC.seq fun K7 hK7 => ?_
  refine XC.seq fun K8 hK8 => ?_
  refine XC.region ?_
  refine x_v (r_mv rfl) rfl ?_
  refine x_v (r_ge rfl rfl) rfl ?_
  refine XL.nil ?_
  refine hK8 _ _ ?_
  refine XC.keep [(3, _), (4, _), (14, _)] ⟨rfl, rfl, rfl, trivial⟩ ?_
  refine XC.cond_d rfl (fun hc2 => ?_) (fun hc2 => ?_)
  ·refine XC.skip ?_
   refine hK7 _ _ ?_
   refine XC.keep [(3, _), (4, _)] ⟨rfl, rfl, trivial⟩ ?_
   refine XC.block ?_
   refine XC.seq fun K9 hK9 => ?_
   refine XC.region ?_
   refine x_v (r_mv rfl) rfl ?_
   refine x_v (r_mv rfl) rfl ?_
   refine x_v (yv (v' := .int .u64 ((z % 128 : Nat) : Int)) (r_remt rfl rfl (by decide)) rfl) rfl ?_
   refine x_v (yv (v' := .int .u64 ((z % 128 + 128 : Nat) : Int)) (r_addw rfl rfl) (by rw [show (((z % 128 : Nat) : Int) + 128) = ((z % 128 + 128 : Nat) : Int) by omega, wrap_u64 _ (by omega)])) rfl ?_
   refine x_v (r_cvn Tryz.underlying138 Tryz.underlying5 rfl (wrap_u8 _ (by omega))) rfl ?_
   refine x_a (r_bs (vs := [_]) rfl ⟨rfl, rfl⟩ (bs80_1_0 _)) rfl fun b20 => ?_
   refine x_v (r_text (l := [UInt8.ofNat (z % 128 + 128)]) Tryz.underlying80 Tryz.underlying5 Tryz.underlying9 rfl (rd_byte (by omega) pK)) rfl ?_
   refine x_v (r_cat rfl rfl (by simp; omega)) rfl ?_
   refine x_v (r_as rfl) rfl ?_
   refine XL.nil ?_
   refine hK9 _ _ ?_
   refine XC.keep [(3, _), (4, _)] ⟨rfl, rfl, trivial⟩ ?_
   refine XC.region ?_
   refine x_v (r_mv rfl) rfl ?_
   refine x_v (yv (v' := .int .u64 ((z / 128 : Nat) : Int)) (r_quot rfl rfl (by decide)) (by rw [show ((z : Int).tdiv 128) = ((z / 128 : Nat) : Int) from rfl, wrap_u64 _ (by omega)])) rfl ?_
   refine x_v (r_as rfl) rfl ?_
   refine XL.nil ?_
   refine ⟨(z / 128, out ++ [UInt8.ofNat (z % 128 + 128)]), ?_, ?_, ⟨rfl, rfl, trivial⟩, gS⟩
   ·exact ⟨by dsimp only; rw [← hz, vb_gt (z := z) (by omega), List.append_assoc, List.singleton_append], by dsimp only; omega⟩
   ·dsimp only; omega
  ·refine XC.exit rfl ?_
   refine hK6 _ _ ?_
   refine XC.keep [(3, _), (4, _)] ⟨rfl, rfl, trivial⟩ ?_
   refine XC.seq fun K10 hK10 => ?_
   refine XC.region ?_
   refine x_v (r_mv rfl) rfl ?_
   refine x_v (r_mv rfl) rfl ?_
   refine x_v (r_cvn Tryz.underlying138 Tryz.underlying5 rfl (wrap_u8 z (by omega))) rfl ?_
   refine x_a (r_bs (vs := [_]) rfl ⟨rfl, rfl⟩ (bs80_1_0 _)) rfl fun b28 => ?_
   refine x_v (r_text (l := [UInt8.ofNat z]) Tryz.underlying80 Tryz.underlying5 Tryz.underlying9 rfl (rd_byte (by omega) pK)) rfl ?_
   refine x_v (r_cat rfl rfl (by simp; omega)) rfl ?_
   refine x_v (r_as rfl) rfl ?_
   refine XL.nil ?_
   refine hK10 _ _ ?_
   refine XC.keep [(2, _)] ⟨rfl, trivial⟩ ?_
   refine XC.ret ?_
   exact fin1 rfl (⟨by rw [← hz, vb_le (z := z) (by omega)], rfl⟩) gS
theorem rnums_tr0 {W0 : World} (A0 : Option Addr) (c0 : Nat) (ns : List Nat) (hr : Rdb W0 [] A0 ns.length 1 (iv (ns.map (fun n : Nat => (n : Int))))) (hb : ∀ n ∈ ns, n ≤ maxS) (hl : (numsB ns).length ≤ maxS) (hn : ns.length ≤ maxS) :
  Tr W0 Tryz.prog 80 [.slice A0 ns.length c0] [] (fun u Rs' => u = str (numsB ns) ∧ Rs' = []) := by
 have hmax : maxS = 140737488355328 := rfl
 refine Entry.tr (N := 21) (rs := [.tmp 2]) ⟨_, Tryz.func80, rfl, by kernel_rfl, rfl, rfl⟩ rfl ?_
 refine XC.seq fun K1 hK1 => ?_
 refine XC.region ?_
 refine x_v (r_as rfl) rfl ?_
 refine XL.nil ?_
 refine hK1 _ _ ?_
 refine XC.keep [(0, _)] ⟨rfl, trivial⟩ ?_
 refine XC.seq fun K2 hK2 => ?_
 refine XC.region ?_
 refine x_a (r_bs (vs := []) rfl rfl bs80_0_) rfl fun b5 => ?_
 refine XL.shut_ (g := b5) (n := 0) (c := 0) (sz := 1) (cur := []) (xs := []) pK (Nat.le_refl _) (Nat.zero_le _) rfl rfl ?_
 refine XL.mem (sl (some ⟨b5, 0, none⟩) 0 0 5 1 (bv (numsB (ns.take 0))) :: []) gT ?_
 refine x_v (r_as rfl) rfl ?_
 refine XL.nil ?_
 refine hK2 _ _ ?_
 refine XC.keep [(0, _), (3, _)] ⟨rfl, rfl, trivial⟩ ?_
 refine XC.seq fun K3 hK3 => ?_
 refine XC.seq fun K4 hK4 => ?_
 refine XC.region ?_
 refine x_v (r_as rfl) rfl ?_
 refine XL.nil ?_
 refine hK4 _ _ ?_
 refine XC.keep [(0, _), (3, _), (4, _)] ⟨rfl, rfl, rfl, trivial⟩ ?_
 refine XC.block ?_
 refine XC.loop (σ := Nat × Option Addr × Nat) (fun s => [(0, .slice A0 ns.length c0), (3, .slice s.2.1 (numsB (ns.take s.1)).length s.2.2), (4, .int .i64 (s.1 : Int))]) (fun s => sl s.2.1 (numsB (ns.take s.1)).length s.2.2 5 1 (bv (numsB (ns.take s.1))) :: []) (fun s => s.1 ≤ ns.length) (fun s => ns.length - s.1) (0, some ⟨b5, 0, none⟩, 0) ?_ ⟨rfl, rfl, rfl, trivial⟩ gS ?_
 ·exact Nat.zero_le _
 rintro ⟨i, A, c⟩ hi
 dsimp only at hi ⊢
 refine XC.seq fun K5 hK5 => ?_
 refine XC.seq fun K6 hK6 => ?_
 refine XC.region ?_
 refine x_v (r_mv rfl) rfl ?_
 refine x_v (r_mv rfl) rfl ?_
 refine x_v (r_lensl Tryz.underlying25 rfl) rfl ?_
 refine x_v (r_lt rfl rfl) rfl ?_
 refine XL.nil ?_
 refine hK6 _ _ ?_
 refine XC.keep [(0, _), (3, _), (4, _), (9, _)] ⟨rfl, rfl, rfl, rfl, trivial⟩ ?_
 refine XC.cond_d rfl (fun hc1 => ?_) (fun hc1 => ?_)
 ·refine XC.skip ?_
  refine hK5 _ _ ?_
  refine XC.keep [(0, _), (3, _), (4, _)] ⟨rfl, rfl, rfl, trivial⟩ ?_
  refine XC.seq fun K7 hK7 => ?_
  refine XC.block ?_
  obtain ⟨x, hx⟩ : ∃ x, ns[i]? = some x := ⟨_, List.getElem?_eq_getElem (by omega)⟩
  have hxb := hb x (List.mem_of_getElem? hx)
  obtain ⟨ob, oo, rfl, hat⟩ := hr.at_ (by omega)
  have hsn : numsB (ns.take i) ++ vb (2 * x) = numsB (ns.take (i + 1)) := (flat_snoc _ ns i x hx).symm
  have hln := flat_le (fun n => vb (2 * n)) ns (i + 1)
  have hlx : (numsB (ns.take i)).length + (vb (2 * x)).length = (numsB (ns.take (i + 1))).length := by rw [← hsn, List.length_append]
  refine XC.region ?_
  refine x_v (r_mv rfl) rfl ?_
  refine x_v (r_mv rfl) rfl ?_
  refine x_v (r_mv rfl) rfl ?_
  refine x_v (r_ia (k := i) Tryz.underlying25 ty3 rfl rfl (by omega) (by omega)) rfl ?_
  refine x_v (r_ldr (v := .int .i64 (x : Int)) ty3 rfl (fun w hw => hat w (Gets.own gS hw) (i * 1) _ (by rw [Nat.mul_one]; exact iv_get (by simp [hx])))) rfl ?_
  refine x_c (r_call0 (args := [_]) ⟨rfl, rfl⟩ (rnum_tr x hxb (sl A (numsB (ns.take i)).length c 5 1 (bv (numsB (ns.take i))) :: [])) gS) rfl ?_
  rintro _ _ ⟨rfl, hRs⟩
  rw [hRs]
  refine x_a (r_apps Tryz.underlying80 Tryz.underlying9 ty5 rfl rfl pK (by unfold numsB at *; omega)) rfl fun ⟨A18, c18⟩ => ?_
  refine x_v (r_as rfl) rfl ?_
  refine XL.nil ?_
  refine hK7 _ _ ?_
  refine XC.keep [(0, _), (3, _), (4, _)] ⟨rfl, rfl, rfl, trivial⟩ ?_
  refine XC.region ?_
  refine x_v (r_mv rfl) rfl ?_
  refine x_v (r_add rfl rfl (by omega)) rfl ?_
  refine x_v (r_as rfl) rfl ?_
  refine XL.nil ?_
  rw [← bv_app, hsn, hlx]
  refine ⟨(i + 1, A18, c18), ?_, ?_, ⟨rfl, rfl, rfl, trivial⟩, gS⟩
  ·dsimp only; omega
  ·dsimp only; omega
 ·refine XC.exit rfl ?_
  refine hK3 _ _ ?_
  refine XC.keep [(3, _)] ⟨rfl, trivial⟩ ?_
  refine XC.seq fun K8 hK8 => ?_
  obtain rfl : i = ns.length := by omega
  rw [List.take_of_length_le (Nat.le_refl _)]
  refine XC.slnn (pK : Pick _ (sl A (numsB ns).length c 5 1 (bv (numsB ns))) _) fun hls hAs => ?_
  refine XC.region ?_
  refine x_v (r_mv rfl) rfl ?_
  refine x_v (r_text Tryz.underlying80 Tryz.underlying5 Tryz.underlying9 rfl (Rdb.of_sl pK hls hAs)) rfl ?_
  refine x_v (r_as rfl) rfl ?_
  refine XL.nil ?_
  refine hK8 _ _ ?_
  refine XC.keep [(2, _)] ⟨rfl, trivial⟩ ?_
  refine XC.ret ?_
  exact fin1 rfl (⟨rfl, rfl⟩) gS
theorem rnums_th : ∃ fn c, Tryz.prog.funcs[80]? = some fn ∧ (fn.name == "runtime.NumGoroutine") = false ∧ fn.body = some c := ⟨_, _, Tryz.func80, by kernel_rfl, rfl⟩
theorem rnums_tr {W0 : World} {Fr : List HP} (A0 : Option Addr) (c0 : Nat) (ns : List Nat) (hr : Rdb W0 Fr A0 ns.length 1 (iv (ns.map (fun n : Nat => (n : Int))))) (hb : ∀ n ∈ ns, n ≤ maxS) (hl : (numsB ns).length ≤ maxS) (hn : ns.length ≤ maxS) :
  Tr W0 Tryz.prog 80 [.slice A0 ns.length c0] Fr (fun u Rs' => u = str (numsB ns) ∧ Rs' = Fr) :=
 (Tr.frame rnums_th fun w hw => rnums_tr0 A0 c0 ns (hr.later Nat.one_pos hw []) hb hl hn).mono fun v Rs' ⟨R1, ⟨h1, h2⟩, h3⟩ => ⟨h1, by rw [h3, h2]; rfl⟩
theorem rtexts_tr0 {W0 : World} (A0 : Option Addr) (c0 : Nat) (ps : List (List UInt8)) (hr : Rdb W0 [] A0 ps.length 1 (cells sv ps)) (hl : (textB ps).length ≤ maxS) (hn : ps.length ≤ maxS) :
  Tr W0 Tryz.prog 83 [.slice A0 ps.length c0] [] (fun u Rs' => u = str (textB ps) ∧ Rs' = []) := by
 have hmax : maxS = 140737488355328 := rfl
 refine Entry.tr (N := 28) (rs := [.tmp 2]) ⟨_, Tryz.func83, rfl, by kernel_rfl, rfl, rfl⟩ rfl ?_
 refine XC.seq fun K1 hK1 => ?_
 refine XC.region ?_
 refine x_v (r_as rfl) rfl ?_
 refine XL.nil ?_
 refine hK1 _ _ ?_
 refine XC.keep [(0, _)] ⟨rfl, trivial⟩ ?_
 refine XC.seq fun K2 hK2 => ?_
 refine XC.region ?_
 refine x_a (r_bs (vs := []) rfl rfl bs80_0_) rfl fun b5 => ?_
 refine XL.shut_ (g := b5) (n := 0) (c := 0) (sz := 1) (cur := []) (xs := []) pK (Nat.le_refl _) (Nat.zero_le _) rfl rfl ?_
 refine XL.mem (sl (some ⟨b5, 0, none⟩) 0 0 5 1 (bv (textB (ps.take 0))) :: []) gT ?_
 refine x_v (r_as rfl) rfl ?_
 refine XL.nil ?_
 refine hK2 _ _ ?_
 refine XC.keep [(0, _), (3, _)] ⟨rfl, rfl, trivial⟩ ?_
 refine XC.seq fun K3 hK3 => ?_
 refine XC.seq fun K4 hK4 => ?_
 refine XC.region ?_
 refine x_v (r_as rfl) rfl ?_
 refine XL.nil ?_
 refine hK4 _ _ ?_
 refine XC.keep [(0, _), (3, _), (4, _)] ⟨rfl, rfl, rfl, trivial⟩ ?_
 refine XC.block ?_
 refine XC.loop (σ := Nat × Option Addr × Nat) (fun s => [(0, .slice A0 ps.length c0), (3, .slice s.2.1 (textB (ps.take s.1)).length s.2.2), (4, .int .i64 (s.1 : Int))]) (fun s => sl s.2.1 (textB (ps.take s.1)).length s.2.2 5 1 (bv (textB (ps.take s.1))) :: []) (fun s => s.1 ≤ ps.length) (fun s => ps.length - s.1) (0, some ⟨b5, 0, none⟩, 0) ?_ ⟨rfl, rfl, rfl, trivial⟩ gS ?_
 ·exact Nat.zero_le _
 rintro ⟨i, A, c⟩ hi
 dsimp only at hi ⊢
 refine XC.seq fun K5 hK5 => ?_
 refine XC.seq fun K6 hK6 => ?_
 refine XC.region ?_
 refine x_v (r_mv rfl) rfl ?_
 refine x_v (r_mv rfl) rfl ?_
 refine x_v (r_lensl Tryz.underlying22 rfl) rfl ?_
 refine x_v (r_lt rfl rfl) rfl ?_
 refine XL.nil ?_
 refine hK6 _ _ ?_
 refine XC.keep [(0, _), (3, _), (4, _), (9, _)] ⟨rfl, rfl, rfl, rfl, trivial⟩ ?_
 refine XC.cond_d rfl (fun hc1 => ?_) (fun hc1 => ?_)
 ·refine XC.skip ?_
  refine hK5 _ _ ?_
  refine XC.keep [(0, _), (3, _), (4, _)] ⟨rfl, rfl, rfl, trivial⟩ ?_
  refine XC.seq fun K7 hK7 => ?_
  refine XC.block ?_
  refine XC.seq fun K8 hK8 => ?_
  obtain ⟨x, hx⟩ : ∃ x, ps[i]? = some x := ⟨_, List.getElem?_eq_getElem (by omega)⟩
  obtain ⟨ob, oo, rfl, hat⟩ := hr.at_ (by omega)
  have hsn : textB (ps.take i) ++ (vb (2 * x.length) ++ x) = textB (ps.take (i + 1)) := (flat_snoc _ ps i x hx).symm
  have hln := flat_le (fun p : List UInt8 => vb (2 * p.length) ++ p) ps (i + 1)
  have hlx : (textB (ps.take i)).length + ((vb (2 * x.length)).length + x.length) = (textB (ps.take (i + 1))).length := by rw [← hsn, List.length_append, List.length_append]
  refine XC.region ?_
  refine x_v (r_mv rfl) rfl ?_
  refine x_v (r_mv rfl) rfl ?_
  refine x_v (r_mv rfl) rfl ?_
  refine x_v (r_ia (k := i) Tryz.underlying22 ty9 rfl rfl (by omega) (by omega)) rfl ?_
  refine x_v (r_ldr (v := str x) ty9 rfl (fun w hw => hat w (Gets.own gS hw) (i * 1) _ (by rw [Nat.mul_one]; exact sv_get hx))) rfl ?_
  refine x_v (r_lens Tryz.underlying9 rfl) rfl ?_
  refine x_c (r_call0 (args := [_]) ⟨rfl, rfl⟩ (rnum_tr x.length (by unfold textB at *; omega) (sl A (textB (ps.take i)).length c 5 1 (bv (textB (ps.take i))) :: [])) gS) rfl ?_
  rintro _ _ ⟨rfl, hRs⟩
  rw [hRs]
  refine x_a (r_apps Tryz.underlying80 Tryz.underlying9 ty5 rfl rfl pK (by unfold textB at *; omega)) rfl fun ⟨A19, c19⟩ => ?_
  refine x_v (r_as rfl) rfl ?_
  refine XL.nil ?_
  refine hK8 _ _ ?_
  refine XC.keep [(0, _), (3, _), (4, _)] ⟨rfl, rfl, rfl, trivial⟩ ?_
  refine XC.region ?_
  refine x_v (r_mv rfl) rfl ?_
  refine x_v (r_mv rfl) rfl ?_
  refine x_v (r_mv rfl) rfl ?_
  refine x_v (r_ia (k := i) Tryz.underlying22 ty9 rfl rfl (by omega) (by omega)) rfl ?_
  refine x_v (r_ldr (v := str x) ty9 rfl (fun w hw => hat w (Gets.own gS hw) (i * 1) _ (by rw [Nat.mul_one]; exact sv_get hx))) rfl ?_
  refine x_a (r_apps Tryz.underlying80 Tryz.underlying9 ty5 rfl rfl pK (by unfold textB at *; omega)) rfl fun ⟨A25, c25⟩ => ?_
  refine x_v (r_as rfl) rfl ?_
  refine XL.nil ?_
  refine hK7 _ _ ?_
  refine XC.keep [(0, _), (3, _), (4, _)] ⟨rfl, rfl, rfl, trivial⟩ ?_
  refine XC.region ?_
  refine x_v (r_mv rfl) rfl ?_
  refine x_v (r_add rfl rfl (by omega)) rfl ?_
  refine x_v (r_as rfl) rfl ?_
  refine XL.nil ?_
  rw [← bv_app, ← bv_app, List.append_assoc, hsn, Nat.add_assoc, hlx]
  refine ⟨(i + 1, A25, c25), ?_, ?_, ⟨rfl, rfl, rfl, trivial⟩, gS⟩
  ·dsimp only; omega
  ·dsimp only; omega
 ·refine XC.exit rfl ?_
  refine hK3 _ _ ?_
  refine XC.keep [(3, _)] ⟨rfl, trivial⟩ ?_
  refine XC.seq fun K9 hK9 => ?_
  obtain rfl : i = ps.length := by omega
  rw [List.take_of_length_le (Nat.le_refl _)]
  refine XC.slnn (pK : Pick _ (sl A (textB ps).length c 5 1 (bv (textB ps))) _) fun hls hAs => ?_
  refine XC.region ?_
  refine x_v (r_mv rfl) rfl ?_
  refine x_v (r_text Tryz.underlying80 Tryz.underlying5 Tryz.underlying9 rfl (Rdb.of_sl pK hls hAs)) rfl ?_
  refine x_v (r_as rfl) rfl ?_
  refine XL.nil ?_
  refine hK9 _ _ ?_
  refine XC.keep [(2, _)] ⟨rfl, trivial⟩ ?_
  refine XC.ret ?_
  exact fin1 rfl (⟨rfl, rfl⟩) gS
theorem rtexts_th : ∃ fn c, Tryz.prog.funcs[83]? = some fn ∧ (fn.name == "runtime.NumGoroutine") = false ∧ fn.body = some c := ⟨_, _, Tryz.func83, by kernel_rfl, rfl⟩
theorem rtexts_tr {W0 : World} {Fr : List HP} (A0 : Option Addr) (c0 : Nat) (ps : List (List UInt8)) (hr : Rdb W0 Fr A0 ps.length 1 (cells sv ps)) (hl : (textB ps).length ≤ maxS) (hn : ps.length ≤ maxS) :
  Tr W0 Tryz.prog 83 [.slice A0 ps.length c0] Fr (fun u Rs' => u = str (textB ps) ∧ Rs' = Fr) :=
 (Tr.frame rtexts_th fun w hw => rtexts_tr0 A0 c0 ps (hr.later Nat.one_pos hw []) hl hn).mono fun v Rs' ⟨R1, ⟨h1, h2⟩, h3⟩ => ⟨h1, by rw [h3, h2]; rfl⟩
end Go.Proofs.YtcmdmhmgffjknaaGreatDoor
/- The document's checksum: functions 149 (taken), 133 (More), 113 (Sum). -/
namespace Go.Proofs.YtcmdmhmgffjknaaGreatDoor
open Go.Sx
set_option linter.unusedVariables false

theorem lsb0 (x : BitVec 32) : x.getLsbD 0 = decide (x.toNat % 2 = 1) := by
 rw [BitVec.getLsbD, Nat.testBit_zero]
theorem and1_of (x : BitVec 32) : x &&& 1#32 = if x.toNat % 2 = 1 then 1#32 else 0#32 := by
 apply BitVec.eq_of_toNat_eq
 rw [BitVec.toNat_and]
 have : x.toNat &&& (1#32).toNat = x.toNat % 2 := Nat.and_one_is_mod _
 rw [this]
 split
 ·rename_i h; rw [h]; rfl
 ·rename_i h; have : x.toNat % 2 = 0 := by omega
  rw [this]; rfl
theorem xor_odd (r b : BitVec 32) : ((r ^^^ b).toNat % 2 = 1) ↔ ¬ ((r.toNat % 2 = 1) ↔ (b.toNat % 2 = 1)) := by
 have h := BitVec.getLsbD_xor (x := r) (y := b) (i := 0)
 rw [lsb0, lsb0, lsb0] at h
 by_cases h1 : r.toNat % 2 = 1 <;> by_cases h2 : b.toNat % 2 = 1 <;> simp [h1, h2] at h <;> simp [h1, h2, h]
theorem taken_step (r b : BitVec 32) : cstep (r ^^^ b) = (if (r.toNat % 2 = 1) ↔ (b.toNat % 2 = 1) then r >>> 1 else (r >>> 1) ^^^ 3988292384#32) ^^^ (b >>> 1) := by
 have h1 : 3988292384#32 &&& -(1#32) = 3988292384#32 := by decide
 have h0 : 3988292384#32 &&& -(0#32) = 0#32 := by decide
 unfold cstep
 rw [BitVec.ushiftRight_xor_distrib, and1_of]
 by_cases h : (r ^^^ b).toNat % 2 = 1
 ·rw [if_pos h, h1, if_neg ((xor_odd r b).1 h)]
  rw [BitVec.xor_assoc, BitVec.xor_assoc, BitVec.xor_comm (b >>> 1)]
 ·rw [if_neg h, h0, BitVec.xor_zero, if_pos (Decidable.not_not.1 (fun hn => h ((xor_odd r b).2 hn)))]
theorem shr_half {n : Nat} (x : BitVec n) : (x >>> 1).toNat = x.toNat / 2 := by rw [BitVec.toNat_ushiftRight, Nat.shiftRight_eq_div_pow]
theorem taken_tr {W0 : World} (r : BitVec 32) (c : UInt8) (Fr : List HP) : Tr W0 Tryz.prog 149 [.int .u32 (r.toNat : Int), .int .u8 (c.toNat : Int)] Fr (fun v Rs' => v = .int .u32 ((cbyte r c).toNat : Int) ∧ Rs' = Fr) := by
 have hnx : ∀ (m : Nat) (r2 b : BitVec 32) (r3 : BitVec 32), csteps m (r ^^^ c.toBitVec.setWidth 32) = r2 ^^^ b → r3 = (if (r2.toNat % 2 = 1) ↔ (b.toNat % 2 = 1) then r2 >>> 1 else (r2 >>> 1) ^^^ 3988292384#32) → csteps (m + 1) (r ^^^ c.toBitVec.setWidth 32) = r3 ^^^ (b >>> 1) := fun m r2 b r3 h1 h2 => by
  rw [csteps_end, h1, taken_step, h2]
 have hc32 : (c.toBitVec.setWidth 32).toNat = c.toNat := by rw [BitVec.toNat_setWidth]; exact Nat.mod_eq_of_lt (Nat.lt_of_lt_of_le c.toBitVec.isLt (by decide))
 have hc256 : c.toNat < 256 := c.toBitVec.isLt
 refine Entry.tr (N := 27) (rs := [.tmp 4]) ⟨_, Tryz.func149, rfl, by kernel_rfl, rfl, rfl⟩ rfl ?_
 refine XC.seq fun K1 hK1 => ?_
 refine XC.region ?_
 refine x_v (r_as rfl) rfl ?_
 refine XL.nil ?_
 refine hK1 _ _ ?_
 refine XC.keep [(0, _), (1, _)] ⟨rfl, rfl, trivial⟩ ?_
 refine XC.seq fun K2 hK2 => ?_
 refine XC.seq fun K3 hK3 => ?_
 refine XC.region ?_
 refine x_v (r_as rfl) rfl ?_
 refine XL.nil ?_
 refine hK3 _ _ ?_
 refine XC.keep [(0, _), (1, _), (5, _)] ⟨rfl, rfl, rfl, trivial⟩ ?_
 refine XC.block ?_
 refine XC.loop (σ := Nat × BitVec 32 × BitVec 32) (fun s => [(0, .int .u32 (s.2.1.toNat : Int)), (1, .int .u8 (s.2.2.toNat : Int)), (5, .int .i64 (s.1 : Int))]) (fun s => Fr) (fun s => s.1 ≤ 8 ∧ csteps s.1 (r ^^^ c.toBitVec.setWidth 32) = s.2.1 ^^^ s.2.2 ∧ s.2.2.toNat = c.toNat / 2 ^ s.1) (fun s => 8 - s.1) (0, r, c.toBitVec.setWidth 32) ?_ ⟨rfl, rfl, rfl, trivial⟩ gS ?_
 ·exact ⟨Nat.zero_le _, rfl, by rw [hc32]; simp⟩
 rintro ⟨m, r2, b⟩ ⟨hm, hcs, hb⟩
 dsimp only at hm hcs hb ⊢
 have hb256 : b.toNat < 256 := by rw [hb]; exact Nat.lt_of_le_of_lt (Nat.div_le_self _ _) hc256
 have hbn : (b >>> 1).toNat = c.toNat / 2 ^ (m + 1) := by rw [shr_half, hb, Nat.div_div_eq_div_mul, Nat.pow_succ]
 refine XC.seq fun K4 hK4 => ?_
 refine XC.seq fun K5 hK5 => ?_
 refine XC.region ?_
 refine x_v (r_mv rfl) rfl ?_
 refine x_v (r_lt rfl rfl) rfl ?_
 refine XL.nil ?_
 refine hK5 _ _ ?_
 refine XC.keep [(0, _), (1, _), (5, _), (8, _)] ⟨rfl, rfl, rfl, rfl, trivial⟩ ?_
 refine XC.cond_d rfl (fun hc1 => ?_) (fun hc1 => ?_)
 ·refine XC.skip ?_
  refine hK4 _ _ ?_
  refine XC.keep [(0, _), (1, _), (5, _)] ⟨rfl, rfl, rfl, trivial⟩ ?_
  refine XC.seq fun K6 hK6 => ?_
  refine XC.block ?_
  refine XC.seq fun K7 hK7 => ?_
  refine XC.region ?_
  refine x_v (r_mv rfl) rfl ?_
  refine x_v (yv (v' := .int .u32 ((r2.toNat % 2 : Nat) : Int)) (r_remt rfl rfl (by decide)) rfl) rfl ?_
  refine x_v (r_eq rfl rfl) rfl ?_
  refine x_v (r_as rfl) rfl ?_
  refine XL.nil ?_
  refine hK7 _ _ ?_
  refine XC.keep [(0, _), (1, _), (5, _), (6, _)] ⟨rfl, rfl, rfl, rfl, trivial⟩ ?_
  refine XC.seq fun K8 hK8 => ?_
  refine XC.seq fun K9 hK9 => ?_
  refine XC.region ?_
  refine x_v (r_mv rfl) rfl ?_
  refine x_v (yv (v' := .int .u8 ((b.toNat % 2 : Nat) : Int)) (r_remt rfl rfl (by decide)) rfl) rfl ?_
  refine x_v (r_eq rfl rfl) rfl ?_
  refine XL.nil ?_
  refine hK9 _ _ ?_
  refine XC.keep [(0, _), (1, _), (5, _), (6, _), (16, _)] ⟨rfl, rfl, rfl, rfl, rfl, trivial⟩ ?_
  refine XC.cond_d rfl (fun hc2 => ?_) (fun hc2 => ?_)
  ·refine XC.region ?_
   refine x_v (r_mv rfl) rfl ?_
   refine x_v (r_not_d rfl) rfl ?_
   refine x_v (r_as rfl) rfl ?_
   refine XL.nil ?_
   refine hK8 _ _ ?_
   refine XC.keep [(0, _), (1, _), (5, _), (6, _)] ⟨rfl, rfl, rfl, rfl, trivial⟩ ?_
   refine XC.seq fun K10 hK10 => ?_
   refine XC.region ?_
   refine x_v (r_mv rfl) rfl ?_
   refine x_v (yv (v' := .int .u32 ((r2 >>> 1).toNat : Int)) (r_quot rfl rfl (by decide)) (by rw [shr_half, show ((r2.toNat : Int).tdiv 2) = ((r2.toNat / 2 : Nat) : Int) from rfl, wrap_u32 _ (by have := r2.isLt; omega)])) rfl ?_
   refine x_v (r_as rfl) rfl ?_
   refine XL.nil ?_
   refine hK10 _ _ ?_
   refine XC.keep [(0, _), (1, _), (5, _), (6, _)] ⟨rfl, rfl, rfl, rfl, trivial⟩ ?_
   refine XC.seq fun K11 hK11 => ?_
   refine XC.region ?_
   refine x_v (r_mv rfl) rfl ?_
   refine x_v (yv (v' := .int .u8 ((b >>> 1).toNat : Int)) (r_quot rfl rfl (by decide)) (by rw [shr_half, show ((b.toNat : Int).tdiv 2) = ((b.toNat / 2 : Nat) : Int) from rfl, wrap_u8 _ (by omega)])) rfl ?_
   refine x_v (r_as rfl) rfl ?_
   refine XL.nil ?_
   refine hK11 _ _ ?_
   refine XC.keep [(0, _), (1, _), (5, _), (6, _)] ⟨rfl, rfl, rfl, rfl, trivial⟩ ?_
   refine XC.seq fun K12 hK12 => ?_
   refine XC.region ?_
   refine x_v (r_mv rfl) rfl ?_
   refine XL.nil ?_
   refine hK12 _ _ ?_
   refine XC.keep [(0, _), (1, _), (5, _), (23, _)] ⟨rfl, rfl, rfl, rfl, trivial⟩ ?_
   refine XC.cond_d rfl (fun hc3 => ?_) (fun hc3 => ?_)
   ·refine XC.region ?_
    refine x_v (r_mv rfl) rfl ?_
    refine x_v (r_bxor (k := .u32) rfl (r2 >>> 1) 3988292384#32 rfl rfl) rfl ?_
    refine x_v (r_as rfl) rfl ?_
    refine XL.nil ?_
    refine hK6 _ _ ?_
    refine XC.keep [(0, _), (1, _), (5, _)] ⟨rfl, rfl, rfl, trivial⟩ ?_
    refine XC.region ?_
    refine x_v (r_mv rfl) rfl ?_
    refine x_v (r_add rfl rfl (by omega)) rfl ?_
    refine x_v (r_as rfl) rfl ?_
    refine XL.nil ?_
    refine ⟨(m + 1, (r2 >>> 1) ^^^ 3988292384#32, b >>> 1), ?_, ?_, ⟨rfl, rfl, rfl, trivial⟩, gS⟩
    ·exact ⟨by dsimp only; omega, hnx m r2 b _ hcs (by rw [if_neg (by omega)]), hbn⟩
    ·dsimp only; omega
   ·refine XC.skip ?_
    refine hK6 _ _ ?_
    refine XC.keep [(0, _), (1, _), (5, _)] ⟨rfl, rfl, rfl, trivial⟩ ?_
    refine XC.region ?_
    refine x_v (r_mv rfl) rfl ?_
    refine x_v (r_add rfl rfl (by omega)) rfl ?_
    refine x_v (r_as rfl) rfl ?_
    refine XL.nil ?_
    refine ⟨(m + 1, r2 >>> 1, b >>> 1), ?_, ?_, ⟨rfl, rfl, rfl, trivial⟩, gS⟩
    ·exact ⟨by dsimp only; omega, hnx m r2 b _ hcs (by rw [if_pos (by omega)]), hbn⟩
    ·dsimp only; omega
  ·refine XC.skip ?_
   refine hK8 _ _ ?_
   refine XC.keep [(0, _), (1, _), (5, _), (6, _)] ⟨rfl, rfl, rfl, rfl, trivial⟩ ?_
   refine XC.seq fun K13 hK13 => ?_
   refine XC.region ?_
   refine x_v (r_mv rfl) rfl ?_
   refine x_v (yv (v' := .int .u32 ((r2 >>> 1).toNat : Int)) (r_quot rfl rfl (by decide)) (by rw [shr_half, show ((r2.toNat : Int).tdiv 2) = ((r2.toNat / 2 : Nat) : Int) from rfl, wrap_u32 _ (by have := r2.isLt; omega)])) rfl ?_
   refine x_v (r_as rfl) rfl ?_
   refine XL.nil ?_
   refine hK13 _ _ ?_
   refine XC.keep [(0, _), (1, _), (5, _), (6, _)] ⟨rfl, rfl, rfl, rfl, trivial⟩ ?_
   refine XC.seq fun K14 hK14 => ?_
   refine XC.region ?_
   refine x_v (r_mv rfl) rfl ?_
   refine x_v (yv (v' := .int .u8 ((b >>> 1).toNat : Int)) (r_quot rfl rfl (by decide)) (by rw [shr_half, show ((b.toNat : Int).tdiv 2) = ((b.toNat / 2 : Nat) : Int) from rfl, wrap_u8 _ (by omega)])) rfl ?_
   refine x_v (r_as rfl) rfl ?_
   refine XL.nil ?_
   refine hK14 _ _ ?_
   refine XC.keep [(0, _), (1, _), (5, _), (6, _)] ⟨rfl, rfl, rfl, rfl, trivial⟩ ?_
   refine XC.seq fun K15 hK15 => ?_
   refine XC.region ?_
   refine x_v (r_mv rfl) rfl ?_
   refine XL.nil ?_
   refine hK15 _ _ ?_
   refine XC.keep [(0, _), (1, _), (5, _), (23, _)] ⟨rfl, rfl, rfl, rfl, trivial⟩ ?_
   refine XC.cond_d rfl (fun hc4 => ?_) (fun hc4 => ?_)
   ·refine XC.region ?_
    refine x_v (r_mv rfl) rfl ?_
    refine x_v (r_bxor (k := .u32) rfl (r2 >>> 1) 3988292384#32 rfl rfl) rfl ?_
    refine x_v (r_as rfl) rfl ?_
    refine XL.nil ?_
    refine hK6 _ _ ?_
    refine XC.keep [(0, _), (1, _), (5, _)] ⟨rfl, rfl, rfl, trivial⟩ ?_
    refine XC.region ?_
    refine x_v (r_mv rfl) rfl ?_
    refine x_v (r_add rfl rfl (by omega)) rfl ?_
    refine x_v (r_as rfl) rfl ?_
    refine XL.nil ?_
    refine ⟨(m + 1, (r2 >>> 1) ^^^ 3988292384#32, b >>> 1), ?_, ?_, ⟨rfl, rfl, rfl, trivial⟩, gS⟩
    ·exact ⟨by dsimp only; omega, hnx m r2 b _ hcs (by rw [if_neg (by omega)]), hbn⟩
    ·dsimp only; omega
   ·refine XC.skip ?_
    refine hK6 _ _ ?_
    refine XC.keep [(0, _), (1, _), (5, _)] ⟨rfl, rfl, rfl, trivial⟩ ?_
    refine XC.region ?_
    refine x_v (r_mv rfl) rfl ?_
    refine x_v (r_add rfl rfl (by omega)) rfl ?_
    refine x_v (r_as rfl) rfl ?_
    refine XL.nil ?_
    refine ⟨(m + 1, r2 >>> 1, b >>> 1), ?_, ?_, ⟨rfl, rfl, rfl, trivial⟩, gS⟩
    ·exact ⟨by dsimp only; omega, hnx m r2 b _ hcs (by rw [if_pos (by omega)]), hbn⟩
    ·dsimp only; omega
 ·refine XC.exit rfl ?_
  refine hK2 _ _ ?_
  refine XC.keep [(0, _)] ⟨rfl, trivial⟩ ?_
  refine XC.seq fun K16 hK16 => ?_
  refine XC.region ?_
  refine x_v (r_mv rfl) rfl ?_
  refine x_v (r_as rfl) rfl ?_
  refine XL.nil ?_
  refine hK16 _ _ ?_
  refine XC.keep [(4, _)] ⟨rfl, trivial⟩ ?_
  refine XC.ret ?_
  have e8 : m = 8 := by omega
  have e0 : b = 0#32 := BitVec.eq_of_toNat_eq (by rw [hb, e8, Nat.div_eq_of_lt (by omega)]; rfl)
  rw [e8, e0, BitVec.xor_zero] at hcs
  exact fin1 rfl (⟨by rw [← hcs]; rfl, rfl⟩) gS
theorem rmore_tr {W0 : World} (sum : BitVec 32) (p : List UInt8) (Fr : List HP) (hl : p.length ≤ maxS) : Tr W0 Tryz.prog 133 [.int .u32 (sum.toNat : Int), str p] Fr (fun v Rs' => v = .int .u32 ((crcM sum [p]).toNat : Int) ∧ Rs' = Fr) := by
 have hmax : maxS = 140737488355328 := rfl
 have hnot : ∀ x : BitVec 32, IntKind.u32.wrap (4294967295 - (x.toNat : Int)) = ((~~~x).toNat : Int) := fun x => by
  have h1 := x.isLt
  have h2 : (~~~x).toNat = 4294967295 - x.toNat := BitVec.toNat_not
  rw [h2, show (4294967295 - (x.toNat : Int)) = ((4294967295 - x.toNat : Nat) : Int) by omega, wrap_u32 _ (by omega)]
 refine Entry.tr (N := 22) (rs := [.tmp 4]) ⟨_, Tryz.func133, rfl, by kernel_rfl, rfl, rfl⟩ rfl ?_
 refine XC.seq fun K1 hK1 => ?_
 refine XC.region ?_
 refine x_v (r_as rfl) rfl ?_
 refine XL.nil ?_
 refine hK1 _ _ ?_
 refine XC.keep [(0, _), (1, _)] ⟨rfl, rfl, trivial⟩ ?_
 refine XC.seq fun K2 hK2 => ?_
 refine XC.region ?_
 refine x_v (r_mv rfl) rfl ?_
 refine x_v (yv (v' := .int .u32 ((~~~sum).toNat : Int)) (r_subw rfl rfl) (by rw [hnot])) rfl ?_
 refine x_v (r_as rfl) rfl ?_
 refine XL.nil ?_
 refine hK2 _ _ ?_
 refine XC.keep [(1, _), (5, _)] ⟨rfl, rfl, trivial⟩ ?_
 refine XC.seq fun K3 hK3 => ?_
 refine XC.seq fun K4 hK4 => ?_
 refine XC.region ?_
 refine x_v (r_as rfl) rfl ?_
 refine XL.nil ?_
 refine hK4 _ _ ?_
 refine XC.keep [(1, _), (5, _), (6, _)] ⟨rfl, rfl, rfl, trivial⟩ ?_
 refine XC.block ?_
 refine XC.loop (σ := Nat × BitVec 32) (fun s => [(1, str p), (5, .int .u32 (s.2.toNat : Int)), (6, .int .i64 (s.1 : Int))]) (fun s => Fr) (fun s => s.1 ≤ p.length ∧ s.2 = (p.take s.1).foldl cbyte (~~~sum)) (fun s => p.length - s.1) (0, ~~~sum) ?_ ⟨rfl, rfl, rfl, trivial⟩ gS ?_
 ·exact ⟨Nat.zero_le _, rfl⟩
 rintro ⟨i, r⟩ ⟨hi, hr⟩
 dsimp only at hi hr ⊢
 refine XC.seq fun K5 hK5 => ?_
 refine XC.seq fun K6 hK6 => ?_
 refine XC.region ?_
 refine x_v (r_mv rfl) rfl ?_
 refine x_v (r_mv rfl) rfl ?_
 refine x_v (r_lens Tryz.underlying9 rfl) rfl ?_
 refine x_v (r_lt rfl rfl) rfl ?_
 refine XL.nil ?_
 refine hK6 _ _ ?_
 refine XC.keep [(1, _), (5, _), (6, _), (12, _)] ⟨rfl, rfl, rfl, rfl, trivial⟩ ?_
 refine XC.cond_d rfl (fun hc1 => ?_) (fun hc1 => ?_)
 ·refine XC.skip ?_
  refine hK5 _ _ ?_
  refine XC.keep [(1, _), (5, _), (6, _)] ⟨rfl, rfl, rfl, trivial⟩ ?_
  refine XC.seq fun K7 hK7 => ?_
  refine XC.block ?_
  obtain ⟨x, hx⟩ : ∃ x, p[i]? = some x := ⟨_, List.getElem?_eq_getElem (by omega)⟩
  refine XC.region ?_
  refine x_v (r_mv rfl) rfl ?_
  refine x_v (r_mv rfl) rfl ?_
  refine x_v (r_mv rfl) rfl ?_
  refine x_v (r_six (k := i) Tryz.underlying9 rfl rfl (by omega) hx) rfl ?_
  refine x_c (r_call0 (args := [_, _]) ⟨rfl, rfl, rfl⟩ (taken_tr r x Fr) gS) rfl ?_
  rintro _ _ ⟨rfl, hRs⟩
  rw [hRs]
  refine x_v (r_as rfl) rfl ?_
  refine XL.nil ?_
  refine hK7 _ _ ?_
  refine XC.keep [(1, _), (5, _), (6, _)] ⟨rfl, rfl, rfl, trivial⟩ ?_
  refine XC.region ?_
  refine x_v (r_mv rfl) rfl ?_
  refine x_v (r_add rfl rfl (by omega)) rfl ?_
  refine x_v (r_as rfl) rfl ?_
  refine XL.nil ?_
  refine ⟨(i + 1, cbyte r x), ?_, ?_, ⟨rfl, rfl, rfl, trivial⟩, gS⟩
  ·exact ⟨by dsimp only; omega, by dsimp only; rw [foldl_snoc _ _ _ _ _ hx, ← hr]⟩
  ·dsimp only; omega
 ·refine XC.exit rfl ?_
  refine hK3 _ _ ?_
  refine XC.keep [(5, _)] ⟨rfl, trivial⟩ ?_
  refine XC.seq fun K8 hK8 => ?_
  refine XC.region ?_
  refine x_v (r_mv rfl) rfl ?_
  refine x_v (yv (v' := .int .u32 ((~~~r).toNat : Int)) (r_subw rfl rfl) (by rw [hnot])) rfl ?_
  refine x_v (r_as rfl) rfl ?_
  refine XL.nil ?_
  refine hK8 _ _ ?_
  refine XC.keep [(4, _)] ⟨rfl, trivial⟩ ?_
  refine XC.ret ?_
  exact fin1 rfl (⟨by rw [hr, List.take_of_length_le (by omega)]; rfl, rfl⟩) gS
theorem rsum_tr {W0 : World} (p : List UInt8) (Fr : List HP) (hl : p.length ≤ maxS) : Tr W0 Tryz.prog 113 [str p] Fr (fun v Rs' => v = .int .u32 ((crcS p).toNat : Int) ∧ Rs' = Fr) := by
 refine Entry.tr (N := 5) (rs := [.tmp 2]) ⟨_, Tryz.func113, rfl, by kernel_rfl, rfl, rfl⟩ rfl ?_
 refine XC.seq fun K1 hK1 => ?_
 refine XC.region ?_
 refine x_v (r_as rfl) rfl ?_
 refine XL.nil ?_
 refine hK1 _ _ ?_
 refine XC.keep [(0, _)] ⟨rfl, trivial⟩ ?_
 refine XC.seq fun K2 hK2 => ?_
 refine XC.region ?_
 refine x_v (r_mv rfl) rfl ?_
 refine x_c (r_call0 (args := [_, _]) ⟨rfl, rfl, rfl⟩ (rmore_tr 0#32 p Fr hl) gS) rfl ?_
 rintro _ _ ⟨rfl, hRs⟩
 rw [hRs]
 refine x_v (r_as rfl) rfl ?_
 refine XL.nil ?_
 refine hK2 _ _ ?_
 refine XC.keep [(2, _)] ⟨rfl, trivial⟩ ?_
 refine XC.ret ?_
 exact fin1 rfl (⟨rfl, rfl⟩) gS
end Go.Proofs.YtcmdmhmgffjknaaGreatDoor
/- The document's frames: functions 79 (One), 78 (Seal). -/
namespace Go.Proofs.YtcmdmhmgffjknaaGreatDoor
open Go.Sx
set_option linter.unusedVariables false

theorem bv_le4 (r : BitVec 32) : bv (le4 r) = [.int .u8 ((r.setWidth 8).toNat : Int), .int .u8 (((r >>> 8).setWidth 8).toNat : Int), .int .u8 (((r >>> 16).setWidth 8).toNat : Int), .int .u8 (((r >>> 24).setWidth 8).toNat : Int)] := rfl
theorem rd_le4 {W0 : World} {Rs Fr : List HP} {b : Nat} (r : BitVec 32) (hp : Pick Rs (blk b 5 [.int .u8 ((r.setWidth 8).toNat : Int), .int .u8 (((r >>> 8).setWidth 8).toNat : Int), .int .u8 (((r >>> 16).setWidth 8).toNat : Int), .int .u8 (((r >>> 24).setWidth 8).toNat : Int)]) Fr) : Rdb W0 Rs (some ⟨b, 0, none⟩) (le4 r).length 1 (bv (le4 r)) := by
 rw [bv_le4]
 exact Rdb.of_blk hp 0 rfl (fun j u hu => by simpa using hu)
theorem one_tr {W0 : World} (p : List UInt8) (Fr : List HP) (hl : p.length ≤ 100000000) : Tr W0 Tryz.prog 79 [str p] Fr (fun v Rs' => v = str (frameB p) ∧ Rs' = Fr) := by
 have hmax : maxS = 140737488355328 := rfl
 have hten := vb_ten (z := 2 * p.length) (by omega)
 have h4 : ∀ r, (le4 r).length = 4 := fun _ => rfl
 refine Entry.tr (N := 25) (rs := [.tmp 2]) ⟨_, Tryz.func79, rfl, by kernel_rfl, rfl, rfl⟩ rfl ?_
 refine XC.seq fun K1 hK1 => ?_
 refine XC.region ?_
 refine x_v (r_as rfl) rfl ?_
 refine XL.nil ?_
 refine hK1 _ _ ?_
 refine XC.keep [(0, _)] ⟨rfl, trivial⟩ ?_
 refine XC.seq fun K2 hK2 => ?_
 refine XC.region ?_
 refine x_v (r_mv rfl) rfl ?_
 refine x_c (r_call0 (args := [_]) ⟨rfl, rfl⟩ (rsum_tr p Fr (by omega)) gS) rfl ?_
 rintro _ _ ⟨rfl, hRs⟩
 rw [hRs]
 refine x_v (r_as rfl) rfl ?_
 refine XL.nil ?_
 refine hK2 _ _ ?_
 refine XC.keep [(0, _), (3, _)] ⟨rfl, rfl, trivial⟩ ?_
 refine XC.seq fun K3 hK3 => ?_
 refine XC.draw3 [] [(0, false), (1, false), (3, false), (4, false), (5, false), (6, false), (7, false), (8, false), (9, false), (10, false), (11, false), (12, false), (13, false), (17, false)] 2 14 [(14, true), (15, true), (16, false), (18, false), (19, false)] [] 2 15 [(15, true), (16, false), (18, false), (19, false)] [(2, true), (16, false), (18, false), (19, false)] (by kernel_rfl) (by kernel_rfl) ?_
 refine y_v rfl (r_mv rfl) gT rfl ?_
 refine y_v rfl (r_lens Tryz.underlying9 rfl) gT rfl ?_
 refine y_v rfl (r_mv rfl) gT rfl ?_
 refine y_v rfl (r_bcv (k := .u32) (k' := .u8) rfl (crcS p) Tryz.underlying112 Tryz.underlying5 rfl) gT rfl ?_
 refine y_v rfl (r_mv rfl) gT rfl ?_
 refine y_v rfl (r_bshr (k := .u32) 8 (by decide) (crcS p) rfl rfl) gT rfl ?_
 refine y_v rfl (r_bcv (k := .u32) (k' := .u8) rfl (crcS p >>> 8) Tryz.underlying112 Tryz.underlying5 rfl) gT rfl ?_
 refine y_v rfl (r_mv rfl) gT rfl ?_
 refine y_v rfl (r_bshr (k := .u32) 16 (by decide) (crcS p) rfl rfl) gT rfl ?_
 refine y_v rfl (r_bcv (k := .u32) (k' := .u8) rfl (crcS p >>> 16) Tryz.underlying112 Tryz.underlying5 rfl) gT rfl ?_
 refine y_v rfl (r_mv rfl) gT rfl ?_
 refine y_v rfl (r_bshr (k := .u32) 24 (by decide) (crcS p) rfl rfl) gT rfl ?_
 refine y_v rfl (r_bcv (k := .u32) (k' := .u8) rfl (crcS p >>> 24) Tryz.underlying112 Tryz.underlying5 rfl) gT rfl ?_
 refine y_v rfl (r_mv rfl) gT rfl ?_
 refine XH.nil ?_
 refine ⟨?_, ?_⟩
 ·refine y_c rfl (r_call0 (args := [_]) ⟨rfl, rfl⟩ (rnum_tr p.length (by omega) _) gS) (by rintro _ _ _ _ ⟨rfl, hRs⟩ h; exact Gets.own gS h) rfl ?_
  rintro _ _ ⟨rfl, hRs⟩
  rw [hRs]
  refine y_a rfl (r_bs (vs := [_, _, _, _]) rfl ⟨rfl, rfl, rfl, rfl, rfl⟩ (bs80_4_0_1_2_3 _ _ _ _)) (fun _ _ _ h => Gets.own gS h) rfl fun b20 => ?_
  refine y_vl rfl (r_text (l := le4 (crcS p)) Tryz.underlying80 Tryz.underlying5 Tryz.underlying9 rfl (rd_le4 (crcS p) pK)) gT rfl ?_
  refine y_v rfl (r_cat rfl rfl (by rw [h4]; omega)) gT rfl ?_
  refine y_v rfl (r_cat rfl rfl (by rw [List.length_append, h4]; omega)) gT rfl ?_
  refine y_v rfl (r_as rfl) gT rfl ?_
  refine XH.nil ?_
  refine hK3 _ _ ?_
  refine XC.keep [(2, _)] ⟨rfl, trivial⟩ ?_
  refine XC.ret ?_
  exact fin1 rfl (⟨by unfold frameB; rw [List.append_assoc], rfl⟩) gS
 ·refine y_a rfl (r_bs (vs := [_, _, _, _]) rfl ⟨rfl, rfl, rfl, rfl, rfl⟩ (bs80_4_0_1_2_3 _ _ _ _)) (fun _ _ _ h => Gets.own gS h) rfl fun b20 => ?_
  refine XH.nil ?_
  refine ⟨?_, ?_⟩
  ·refine y_c rfl (r_call0 (args := [_]) ⟨rfl, rfl⟩ (rnum_tr p.length (by omega) _) gS) (by rintro _ _ _ _ ⟨rfl, hRs⟩ h; exact Gets.own gS h) rfl ?_
   rintro _ _ ⟨rfl, hRs⟩
   rw [hRs]
   refine y_vl rfl (r_text (l := le4 (crcS p)) Tryz.underlying80 Tryz.underlying5 Tryz.underlying9 rfl (rd_le4 (crcS p) pK)) gT rfl ?_
   refine y_v rfl (r_cat rfl rfl (by rw [h4]; omega)) gT rfl ?_
   refine y_v rfl (r_cat rfl rfl (by rw [List.length_append, h4]; omega)) gT rfl ?_
   refine y_v rfl (r_as rfl) gT rfl ?_
   refine XH.nil ?_
   refine hK3 _ _ ?_
   refine XC.keep [(2, _)] ⟨rfl, trivial⟩ ?_
   refine XC.ret ?_
   exact fin1 rfl (⟨by unfold frameB; rw [List.append_assoc], rfl⟩) gS
  ·refine y_vl rfl (r_text (l := le4 (crcS p)) Tryz.underlying80 Tryz.underlying5 Tryz.underlying9 rfl (rd_le4 (crcS p) pK)) gT rfl ?_
   refine y_c rfl (r_call0 (args := [_]) ⟨rfl, rfl⟩ (rnum_tr p.length (by omega) _) gS) (by rintro _ _ _ _ ⟨rfl, hRs⟩ h; exact Gets.own gS h) rfl ?_
   rintro _ _ ⟨rfl, hRs⟩
   rw [hRs]
   refine y_v rfl (r_cat rfl rfl (by rw [h4]; omega)) gT rfl ?_
   refine y_v rfl (r_cat rfl rfl (by rw [List.length_append, h4]; omega)) gT rfl ?_
   refine y_v rfl (r_as rfl) gT rfl ?_
   refine XH.nil ?_
   refine hK3 _ _ ?_
   refine XC.keep [(2, _)] ⟨rfl, trivial⟩ ?_
   refine XC.ret ?_
   exact fin1 rfl (⟨by unfold frameB; rw [List.append_assoc], rfl⟩) gS
theorem rseal_tr0 {W0 : World} (A0 : Option Addr) (c0 : Nat) (ps : List (List UInt8)) (hr : Rdb W0 [] A0 ps.length 1 (cells sv ps)) (hm : ∀ p ∈ ps, p.length ≤ 1048576) (hl : (sealB ps).length ≤ maxS) (hn : ps.length ≤ maxS) :
  Tr W0 Tryz.prog 78 [.slice A0 ps.length c0] [] (fun u Rs' => u = .tuple #[str (sealB ps), .int .i64 0] ∧ Rs' = []) := by
 have hmax : maxS = 140737488355328 := rfl
 refine Entry.tr (N := 35) (rs := [.tmp 2, .tmp 3]) ⟨_, Tryz.func78, rfl, by kernel_rfl, rfl, rfl⟩ rfl ?_
 refine XC.seq fun K1 hK1 => ?_
 refine XC.region ?_
 refine x_v (r_as rfl) rfl ?_
 refine x_v (r_as rfl) rfl ?_
 refine XL.nil ?_
 refine hK1 _ _ ?_
 refine XC.keep [(0, _)] ⟨rfl, trivial⟩ ?_
 refine XC.seq fun K2 hK2 => ?_
 refine XC.region ?_
 refine x_a (r_bs (vs := []) rfl rfl bs80_0_) rfl fun b7 => ?_
 refine XL.shut_ (g := b7) (n := 0) (c := 0) (sz := 1) (cur := []) (xs := []) pK (Nat.le_refl _) (Nat.zero_le _) rfl rfl ?_
 refine x_v (r_as rfl) rfl ?_
 refine XL.nil ?_
 refine hK2 _ _ ?_
 refine XC.keep [(0, _), (4, _)] ⟨rfl, rfl, trivial⟩ ?_
 refine XC.seq fun K3 hK3 => ?_
 refine XC.seq fun K4 hK4 => ?_
 refine XC.region ?_
 refine x_v (r_as rfl) rfl ?_
 refine XL.nil ?_
 refine hK4 _ _ ?_
 refine XC.keep [(0, _), (4, _), (5, _)] ⟨rfl, rfl, rfl, trivial⟩ ?_
 refine XC.block ?_
 refine XC.loop (σ := Nat) (fun i => [(0, .slice A0 ps.length c0), (4, .slice (some ⟨b7, 0, none⟩) 0 0), (5, .int .i64 (i : Int))]) (fun i => sl (some ⟨b7, 0, none⟩) 0 0 5 1 [] :: []) (fun i => i ≤ ps.length) (fun i => ps.length - i) 0 ?_ ⟨rfl, rfl, rfl, trivial⟩ gS ?_
 ·exact Nat.zero_le _
 rintro i hi
 refine XC.seq fun K5 hK5 => ?_
 refine XC.seq fun K6 hK6 => ?_
 refine XC.region ?_
 refine x_v (r_mv rfl) rfl ?_
 refine x_v (r_mv rfl) rfl ?_
 refine x_v (r_lensl Tryz.underlying22 rfl) rfl ?_
 refine x_v (r_lt rfl rfl) rfl ?_
 refine XL.nil ?_
 refine hK6 _ _ ?_
 refine XC.keep [(0, _), (4, _), (5, _), (11, _)] ⟨rfl, rfl, rfl, rfl, trivial⟩ ?_
 refine XC.cond_d rfl (fun hc1 => ?_) (fun hc1 => ?_)
 ·refine XC.skip ?_
  refine hK5 _ _ ?_
  refine XC.keep [(0, _), (4, _), (5, _)] ⟨rfl, rfl, rfl, trivial⟩ ?_
  refine XC.seq fun K7 hK7 => ?_
  refine XC.block ?_
  refine XC.seq fun K8 hK8 => ?_
  obtain ⟨x, hx⟩ : ∃ x, ps[i]? = some x := ⟨_, List.getElem?_eq_getElem (by omega)⟩
  have hxm := hm x (List.mem_of_getElem? hx)
  obtain ⟨ob, oo, rfl, hat⟩ := hr.at_ (by omega)
  refine XC.region ?_
  refine x_v (r_mv rfl) rfl ?_
  refine x_v (r_mv rfl) rfl ?_
  refine x_v (r_ia (k := i) Tryz.underlying22 ty9 rfl rfl (by omega) (by omega)) rfl ?_
  refine x_v (r_ldr (v := str x) ty9 rfl (fun w hw => hat w (Gets.own gS hw) (i * 1) _ (by rw [Nat.mul_one]; exact sv_get hx))) rfl ?_
  refine x_v (r_lens Tryz.underlying9 rfl) rfl ?_
  refine x_v (r_gt rfl rfl) rfl ?_
  refine XL.nil ?_
  refine hK8 _ _ ?_
  refine XC.keep [(0, _), (4, _), (5, _), (19, _)] ⟨rfl, rfl, rfl, rfl, trivial⟩ ?_
  refine XC.cond_d rfl (fun hc2 => ?_) (fun hc2 => ?_)
  ·exfalso; omega
  ·refine XC.skip ?_
   refine hK7 _ _ ?_
   refine XC.keep [(0, _), (4, _), (5, _)] ⟨rfl, rfl, rfl, trivial⟩ ?_
   refine XC.region ?_
   refine x_v (r_mv rfl) rfl ?_
   refine x_v (r_add rfl rfl (by omega)) rfl ?_
   refine x_v (r_as rfl) rfl ?_
   refine XL.nil ?_
   refine ⟨i + 1, ?_, ?_, ⟨rfl, rfl, rfl, trivial⟩, gS⟩
   ·omega
   ·omega
 ·refine XC.exit rfl ?_
  refine hK3 _ _ ?_
  refine XC.keep [(0, _), (4, _)] ⟨rfl, rfl, trivial⟩ ?_
  refine XC.seq fun K9 hK9 => ?_
  refine XC.seq fun K10 hK10 => ?_
  refine XC.region ?_
  refine x_v (r_as rfl) rfl ?_
  refine XL.nil ?_
  refine hK10 _ _ ?_
  refine XC.keep [(0, _), (4, _), (6, _)] ⟨rfl, rfl, rfl, trivial⟩ ?_
  refine XC.block ?_
  refine XC.loop (σ := Nat × Option Addr × Nat) (fun s => [(0, .slice A0 ps.length c0), (4, .slice s.2.1 (sealB (ps.take s.1)).length s.2.2), (6, .int .i64 (s.1 : Int))]) (fun s => sl s.2.1 (sealB (ps.take s.1)).length s.2.2 5 1 (bv (sealB (ps.take s.1))) :: []) (fun s => s.1 ≤ ps.length) (fun s => ps.length - s.1) (0, some ⟨b7, 0, none⟩, 0) ?_ ⟨rfl, rfl, rfl, trivial⟩ gS ?_
  ·exact Nat.zero_le _
  rintro ⟨i, A, c⟩ hi
  dsimp only at hi ⊢
  refine XC.seq fun K11 hK11 => ?_
  refine XC.seq fun K12 hK12 => ?_
  refine XC.region ?_
  refine x_v (r_mv rfl) rfl ?_
  refine x_v (r_mv rfl) rfl ?_
  refine x_v (r_lensl Tryz.underlying22 rfl) rfl ?_
  refine x_v (r_lt rfl rfl) rfl ?_
  refine XL.nil ?_
  refine hK12 _ _ ?_
  refine XC.keep [(0, _), (4, _), (6, _), (23, _)] ⟨rfl, rfl, rfl, rfl, trivial⟩ ?_
  refine XC.cond_d rfl (fun hc3 => ?_) (fun hc3 => ?_)
  ·refine XC.skip ?_
   refine hK11 _ _ ?_
   refine XC.keep [(0, _), (4, _), (6, _)] ⟨rfl, rfl, rfl, trivial⟩ ?_
   refine XC.seq fun K13 hK13 => ?_
   refine XC.block ?_
   obtain ⟨x, hx⟩ : ∃ x, ps[i]? = some x := ⟨_, List.getElem?_eq_getElem (by omega)⟩
   have hxm := hm x (List.mem_of_getElem? hx)
   obtain ⟨ob, oo, rfl, hat⟩ := hr.at_ (by omega)
   have hsn : sealB (ps.take i) ++ frameB x = sealB (ps.take (i + 1)) := (flat_snoc _ ps i x hx).symm
   have hln := flat_le frameB ps (i + 1)
   have hlx : (sealB (ps.take i)).length + (frameB x).length = (sealB (ps.take (i + 1))).length := by rw [← hsn, List.length_append]
   refine XC.region ?_
   refine x_v (r_mv rfl) rfl ?_
   refine x_v (r_mv rfl) rfl ?_
   refine x_v (r_mv rfl) rfl ?_
   refine x_v (r_ia (k := i) Tryz.underlying22 ty9 rfl rfl (by omega) (by omega)) rfl ?_
   refine x_v (r_ldr (v := str x) ty9 rfl (fun w hw => hat w (Gets.own gS hw) (i * 1) _ (by rw [Nat.mul_one]; exact sv_get hx))) rfl ?_
   refine x_c (r_call0 (args := [_]) ⟨rfl, rfl⟩ (one_tr x (sl A (sealB (ps.take i)).length c 5 1 (bv (sealB (ps.take i))) :: []) (by omega)) gS) rfl ?_
   rintro _ _ ⟨rfl, hRs⟩
   rw [hRs]
   refine x_a (r_apps Tryz.underlying80 Tryz.underlying9 ty5 rfl rfl pK (by unfold sealB at *; omega)) rfl fun ⟨A32, c32⟩ => ?_
   refine x_v (r_as rfl) rfl ?_
   refine XL.nil ?_
   refine hK13 _ _ ?_
   refine XC.keep [(0, _), (4, _), (6, _)] ⟨rfl, rfl, rfl, trivial⟩ ?_
   refine XC.region ?_
   refine x_v (r_mv rfl) rfl ?_
   refine x_v (r_add rfl rfl (by omega)) rfl ?_
   refine x_v (r_as rfl) rfl ?_
   refine XL.nil ?_
   rw [← bv_app, hsn, hlx]
   refine ⟨(i + 1, A32, c32), ?_, ?_, ⟨rfl, rfl, rfl, trivial⟩, gS⟩
   ·dsimp only; omega
   ·dsimp only; omega
  ·refine XC.exit rfl ?_
   refine hK9 _ _ ?_
   refine XC.keep [(4, _)] ⟨rfl, trivial⟩ ?_
   refine XC.seq fun K14 hK14 => ?_
   obtain rfl : i = ps.length := by omega
   rw [List.take_of_length_le (Nat.le_refl _)]
   refine XC.slnn (pK : Pick _ (sl A (sealB ps).length c 5 1 (bv (sealB ps))) _) fun hls hAs => ?_
   refine XC.region ?_
   refine x_v (r_mv rfl) rfl ?_
   refine x_v (r_text Tryz.underlying80 Tryz.underlying5 Tryz.underlying9 rfl (Rdb.of_sl pK hls hAs)) rfl ?_
   refine x_v (r_as rfl) rfl ?_
   refine x_v (r_as rfl) rfl ?_
   refine XL.nil ?_
   refine hK14 _ _ ?_
   refine XC.keep [(2, _), (3, _)] ⟨rfl, rfl, trivial⟩ ?_
   refine XC.ret ?_
   exact fin2 rfl rfl (⟨rfl, rfl⟩) gS
theorem rseal_th : ∃ fn c, Tryz.prog.funcs[78]? = some fn ∧ (fn.name == "runtime.NumGoroutine") = false ∧ fn.body = some c := ⟨_, _, Tryz.func78, by kernel_rfl, rfl⟩
theorem rseal_tr {W0 : World} {Fr : List HP} (A0 : Option Addr) (c0 : Nat) (ps : List (List UInt8)) (hr : Rdb W0 Fr A0 ps.length 1 (cells sv ps)) (hm : ∀ p ∈ ps, p.length ≤ 1048576) (hl : (sealB ps).length ≤ maxS) (hn : ps.length ≤ maxS) :
  Tr W0 Tryz.prog 78 [.slice A0 ps.length c0] Fr (fun u Rs' => u = .tuple #[str (sealB ps), .int .i64 0] ∧ Rs' = Fr) :=
 (Tr.frame rseal_th fun w hw => rseal_tr0 A0 c0 ps (hr.later Nat.one_pos hw []) hm hl hn).mono fun v Rs' ⟨R1, ⟨h1, h2⟩, h3⟩ => ⟨h1, by rw [h3, h2]; rfl⟩
end Go.Proofs.YtcmdmhmgffjknaaGreatDoor
/- The document's reader: functions 109 (Num), 110 (Text), 111 (Done). -/
namespace Go.Proofs.YtcmdmhmgffjknaaGreatDoor
open Go.Sx
set_option linter.unusedVariables false

/-- A reader in memory: all bytes, how many are read, whether something was wrong. -/
def rrc (r : Nat) (s : List UInt8) (a : Nat) (bad : Bool) : HP := blk r 147 [str s, .int .i64 (a : Int), .bool bad]
theorem unit_step (k : Nat) (h : k < 9) : IntKind.u64.wrap (((2 ^ (7 * k) : Nat) : Int) * 128) = ((2 ^ (7 * (k + 1)) : Nat) : Int) := by
 have e : 2 ^ (7 * (k + 1)) = 2 ^ (7 * k) * 128 := by rw [show 7 * (k + 1) = 7 * k + 7 by omega, Nat.pow_add]
 have hb : 2 ^ (7 * (k + 1)) ≤ 2 ^ 63 := Nat.pow_le_pow_right (by decide) (by omega)
 rw [show (((2 ^ (7 * k) : Nat) : Int) * 128) = ((2 ^ (7 * k) * 128 : Nat) : Int) by push_cast; rfl, ← e, wrap_u64 _ (by omega)]
theorem znum (k : Nat) (z : BitVec 64) (x : UInt8) (hk : k ≤ 9) (hz : z.toNat < 2 ^ (7 * k)) (hx : k = 9 → x.toNat ≤ 1) : IntKind.u64.wrap ((z.toNat : Int) + IntKind.u64.wrap (((x.toNat % 128 : Nat) : Int) * ((2 ^ (7 * k) : Nat) : Int))) = ((zstep k z x).toNat : Int) ∧ (zstep k z x).toNat = z.toNat + (x.toNat % 128) * 2 ^ (7 * k) := by
 have hb : (x.toNat % 128) * 2 ^ (7 * k) < 2 ^ 64 := by
  by_cases h9 : k = 9
  ·subst h9
   have := hx rfl
   have : (x.toNat % 128) * 2 ^ (7 * 9) ≤ 1 * 2 ^ (7 * 9) := Nat.mul_le_mul_right _ (by omega)
   omega
  ·have h1 : 2 ^ (7 * k) ≤ 2 ^ 56 := Nat.pow_le_pow_right (by decide) (by omega)
   have h2 : (x.toNat % 128) * 2 ^ (7 * k) ≤ 127 * 2 ^ (7 * k) := Nat.mul_le_mul_right _ (by omega)
   omega
 have h1 := zstep_nat k z x hz hb
 have h2 := (zstep k z x).isLt
 refine ⟨?_, h1⟩
 rw [show (((x.toNat % 128 : Nat) : Int) * ((2 ^ (7 * k) : Nat) : Int)) = (((x.toNat % 128) * 2 ^ (7 * k) : Nat) : Int) by push_cast; rfl, wrap_u64 _ (by omega), ← Int.natCast_add, ← h1, wrap_u64 _ h2]
theorem zlt (k : Nat) (z : BitVec 64) (x : UInt8) (hz : z.toNat < 2 ^ (7 * k)) (h : (zstep k z x).toNat = z.toNat + (x.toNat % 128) * 2 ^ (7 * k)) : (zstep k z x).toNat < 2 ^ (7 * (k + 1)) := by
 have e : 2 ^ (7 * (k + 1)) = 2 ^ (7 * k) * 128 := by rw [show 7 * (k + 1) = 7 * k + 7 by omega, Nat.pow_add]
 have h2 : (x.toNat % 128) * 2 ^ (7 * k) ≤ 127 * 2 ^ (7 * k) := Nat.mul_le_mul_right _ (by omega)
 omega
theorem drop_cons {s : List UInt8} {i : Nat} {x : UInt8} (h : s[i]? = some x) : s.drop i = x :: s.drop (i + 1) := by
 obtain ⟨h1, h2⟩ := List.getElem?_eq_some_iff.1 h
 rw [List.drop_eq_getElem_cons h1, h2]
theorem zig_even (w : BitVec 64) (h : ¬ w.toNat % 2 = 1) : zig w = ((w.toNat / 2 : Nat) : Int) := by
 unfold zig
 have h3 : (w &&& 1#64).toNat = w.toNat % 2 := by rw [BitVec.toNat_and]; exact Nat.and_one_is_mod _
 rw [if_pos (by omega), shr_half]
theorem zig_odd (w : BitVec 64) (h : w.toNat % 2 = 1) : zig w = -1 - ((w.toNat / 2 : Nat) : Int) := by
 unfold zig
 have h3 : (w &&& 1#64).toNat = w.toNat % 2 := by rw [BitVec.toNat_and]; exact Nat.and_one_is_mod _
 rw [if_neg (by omega), shr_half]; rfl
theorem rnumr_bad {W0 : World} (r : Nat) (s : List UInt8) (a : Nat) (Fr : List HP) : Tr W0 Tryz.prog 109 [.pointer (some ⟨r, 0, none⟩)] (rrc r s a true :: Fr) (fun v Rs' => v = .int .i64 0 ∧ Rs' = rrc r s a true :: Fr) := by
 unfold rrc
 refine Entry.tr (N := 85) (rs := [.tmp 2]) ⟨_, Tryz.func109, rfl, by kernel_rfl, rfl, rfl⟩ rfl ?_
 refine XC.seq fun K1 hK1 => ?_
 refine XC.region ?_
 refine x_v (r_as rfl) rfl ?_
 refine XL.nil ?_
 refine hK1 _ _ ?_
 refine XC.keep [(0, _)] ⟨rfl, trivial⟩ ?_
 refine XC.seq fun K2 hK2 => ?_
 refine XC.seq fun K3 hK3 => ?_
 refine XC.region ?_
 refine x_v (r_mv rfl) rfl ?_
 refine x_v (r_nc rfl) rfl ?_
 refine x_v (r_fa fo147_2 rfl) rfl ?_
 refine x_v (r_ld ty4 rfl pK (by rfl)) rfl ?_
 refine XL.nil ?_
 refine hK3 _ _ ?_
 refine XC.keep [(0, _), (10, _)] ⟨rfl, rfl, trivial⟩ ?_
 refine XC.cond_t rfl ?_
 refine XC.seq fun K4 hK4 => ?_
 refine XC.region ?_
 refine x_v (r_as rfl) rfl ?_
 refine XL.nil ?_
 refine hK4 _ _ ?_
 refine XC.keep [(2, _)] ⟨rfl, trivial⟩ ?_
 refine XC.ret ?_
 exact fin1 rfl (⟨rfl, rfl⟩) gS
theorem rnumr_tr {W0 : World} (r : Nat) (s : List UInt8) (a : Nat) (Fr : List HP) (hs : s.length ≤ maxS) (ha : a ≤ s.length) : Tr W0 Tryz.prog 109 [.pointer (some ⟨r, 0, none⟩)] (rrc r s a false :: Fr) (fun v Rs' => v = .int .i64 (numR (s.drop a, false)).1 ∧ Rs' = rrc r s (s.length - (numR (s.drop a, false)).2.1.length) (numR (s.drop a, false)).2.2 :: Fr) := by
 have hmax : maxS = 140737488355328 := rfl
 have hda : s.length - (s.drop a).length = a := by rw [List.length_drop]; omega
 have hnone : numGo 0 0 (s.drop a) = none → numR (s.drop a, false) = (0, s.drop a, true) := fun h => by unfold numR; rw [if_neg (by simp), h]; rfl
 have hsome : ∀ w q, numGo 0 0 (s.drop a) = some (w, q) → numR (s.drop a, false) = (zig w, q, false) := fun w q h => by unfold numR; rw [if_neg (by simp), h]; rfl
 unfold rrc
 refine Entry.tr (N := 85) (rs := [.tmp 2]) ⟨_, Tryz.func109, rfl, by kernel_rfl, rfl, rfl⟩ rfl ?_
 refine XC.seq fun K1 hK1 => ?_
 refine XC.region ?_
 refine x_v (r_as rfl) rfl ?_
 refine XL.nil ?_
 refine hK1 _ _ ?_
 refine XC.keep [(0, _)] ⟨rfl, trivial⟩ ?_
 refine XC.seq fun K2 hK2 => ?_
 refine XC.seq fun K3 hK3 => ?_
 refine XC.region ?_
 refine x_v (r_mv rfl) rfl ?_
 refine x_v (r_nc rfl) rfl ?_
 refine x_v (r_fa fo147_2 rfl) rfl ?_
 refine x_v (r_ld ty4 rfl pK (by rfl)) rfl ?_
 refine XL.nil ?_
 refine hK3 _ _ ?_
 refine XC.keep [(0, _), (10, _)] ⟨rfl, rfl, trivial⟩ ?_
 refine XC.cond_f rfl ?_
 refine XC.skip ?_
 refine hK2 _ _ ?_
 refine XC.keep [(0, _)] ⟨rfl, trivial⟩ ?_
 refine XC.seq fun K4 hK4 => ?_
 refine XC.region ?_
 refine x_v (r_as rfl) rfl ?_
 refine XL.nil ?_
 refine hK4 _ _ ?_
 refine XC.keep [(0, _), (3, _)] ⟨rfl, rfl, trivial⟩ ?_
 refine XC.seq fun K5 hK5 => ?_
 refine XC.region ?_
 refine x_v (r_as rfl) rfl ?_
 refine XL.nil ?_
 refine hK5 _ _ ?_
 refine XC.keep [(0, _), (3, _), (4, _)] ⟨rfl, rfl, rfl, trivial⟩ ?_
 refine XC.seq fun K6 hK6 => ?_
 refine XC.seq fun K7 hK7 => ?_
 refine XC.region ?_
 refine x_v (r_as rfl) rfl ?_
 refine XL.nil ?_
 refine hK7 _ _ ?_
 refine XC.keep [(0, _), (3, _), (4, _), (5, _)] ⟨rfl, rfl, rfl, rfl, trivial⟩ ?_
 refine XC.block ?_
 refine XC.loop (σ := Nat × BitVec 64) (fun q => [(0, .pointer (some ⟨r, 0, none⟩)), (3, .int .u64 (q.2.toNat : Int)), (4, .int .u64 ((2 ^ (7 * q.1) : Nat) : Int)), (5, .int .i64 (q.1 : Int))]) (fun q => blk r 147 [str s, .int .i64 (a : Int), .bool false] :: Fr) (fun q => q.1 ≤ 9 ∧ q.2.toNat < 2 ^ (7 * q.1) ∧ numGo 0 0 (s.drop a) = numGo q.1 q.2 (s.drop (a + q.1))) (fun q => 10 - q.1) (0, 0) ?_ ⟨rfl, rfl, rfl, rfl, trivial⟩ gS ?_
 ·exact ⟨Nat.zero_le _, by decide, rfl⟩
 rintro ⟨k, z⟩ ⟨hk, hz, hgo⟩
 dsimp only at hk hz hgo ⊢
 refine XC.seq fun K8 hK8 => ?_
 refine XC.seq fun K9 hK9 => ?_
 refine XC.draw (blk r 147 [str s, .int .i64 (a : Int), .bool false] :: []) false [(0, false), (1, false), (2, false), (3, false), (4, false), (5, false), (6, false), (7, false), (8, false), (9, false), (10, false), (11, false), (12, false), (13, false), (14, false), (15, false)] (by kernel_rfl) (by kernel_rfl) ?_
 refine y_v rfl (r_mv rfl) gT rfl ?_
 refine y_v rfl (r_lt rfl rfl) gT rfl ?_
 refine y_v rfl (r_mv rfl) gT rfl ?_
 refine XH.splitd 13 rfl (fun hg13 => ?_) (fun hg13 => ?_)
 ·refine y_vg rfl rfl rfl (r_mv rfl) gT rfl ?_
  refine y_vg rfl rfl rfl (r_nc rfl) gT rfl ?_
  refine y_vg rfl rfl rfl (r_fa fo147_1 rfl) gT rfl ?_
  refine y_vg rfl rfl rfl (r_ld ty3 rfl pK (by rfl)) gT rfl ?_
  refine y_vg rfl rfl rfl (r_mv rfl) gT rfl ?_
  refine y_vg rfl rfl rfl (r_add rfl rfl (by omega)) gT rfl ?_
  refine y_vg rfl rfl rfl (r_mv rfl) gT rfl ?_
  refine y_vg rfl rfl rfl (r_nc rfl) gT rfl ?_
  refine y_vg rfl rfl rfl (r_fa fo147_0 rfl) gT rfl ?_
  refine y_vg rfl rfl rfl (r_ld ty9 rfl pK (by rfl)) gT rfl ?_
  refine y_vg rfl rfl rfl (r_lens Tryz.underlying9 rfl) gT rfl ?_
  refine y_vg rfl rfl rfl (r_lt rfl rfl) gT rfl ?_
  refine y_v rfl (r_pk_t rfl rfl) gT rfl ?_
  refine XH.nil ?_
  refine hK9 _ _ ?_
  refine XC.keep [(0, _), (3, _), (4, _), (5, _), (26, _)] ⟨rfl, rfl, rfl, rfl, rfl, trivial⟩ ?_
  refine XC.cond_d rfl (fun hc2 => ?_) (fun hc2 => ?_)
  ·refine XC.skip ?_
   refine hK8 _ _ ?_
   refine XC.keep [(0, _), (3, _), (4, _), (5, _)] ⟨rfl, rfl, rfl, rfl, trivial⟩ ?_
   refine XC.seq fun K10 hK10 => ?_
   refine XC.block ?_
   refine XC.seq fun K11 hK11 => ?_
   obtain ⟨x, hx⟩ : ∃ x, s[a + k]? = some x := ⟨_, List.getElem?_eq_getElem (by omega)⟩
   have hx256 : x.toNat < 256 := x.toBitVec.isLt
   refine XC.draw (blk r 147 [str s, .int .i64 (a : Int), .bool false] :: []) false [(0, false), (1, false), (2, false), (3, false), (4, false), (5, false), (6, false), (7, false), (8, false), (9, false), (10, false), (11, false), (12, false)] (by kernel_rfl) (by kernel_rfl) ?_
   refine y_v rfl (r_mv rfl) gT rfl ?_
   refine y_v rfl (r_nc rfl) gT rfl ?_
   refine y_v rfl (r_fa fo147_0 rfl) gT rfl ?_
   refine y_v rfl (r_ld ty9 rfl pK (by rfl)) gT rfl ?_
   refine y_v rfl (r_mv rfl) gT rfl ?_
   refine y_v rfl (r_nc rfl) gT rfl ?_
   refine y_v rfl (r_fa fo147_1 rfl) gT rfl ?_
   refine y_v rfl (r_ld ty3 rfl pK (by rfl)) gT rfl ?_
   refine y_v rfl (r_mv rfl) gT rfl ?_
   refine y_v rfl (r_add rfl rfl (by omega)) gT rfl ?_
   refine y_v rfl (r_six (k := (a + k)) Tryz.underlying9 rfl rfl (by simp) hx) gT rfl ?_
   refine y_v rfl (r_cvn Tryz.underlying5 Tryz.underlying138 rfl (wrap_u64 x.toNat (by omega))) gT rfl ?_
   refine y_v rfl (r_as rfl) gT rfl ?_
   refine XH.nil ?_
   refine hK11 _ _ ?_
   refine XC.keep [(0, _), (3, _), (4, _), (5, _), (6, _)] ⟨rfl, rfl, rfl, rfl, rfl, trivial⟩ ?_
   refine XC.seqcut (σ := Unit) (fun q => [(0, .pointer (some ⟨r, 0, none⟩)), (3, .int .u64 (z.toNat : Int)), (4, .int .u64 ((2 ^ (7 * k) : Nat) : Int)), (5, .int .i64 (k : Int)), (6, .int .u64 (x.toNat : Int))]) (fun q => blk r 147 [str s, .int .i64 (a : Int), .bool false] :: Fr) (fun q => k = 9 → x.toNat ≤ 1) ?_ ?_
   ·refine XC.seq fun K13 hK13 => ?_
    refine XC.region ?_
    refine x_v (r_mv rfl) rfl ?_
    refine x_v (r_eq rfl rfl) rfl ?_
    refine x_v (r_mv rfl) rfl ?_
    refine XL.splitd 43 rfl (fun hg43 => ?_) (fun hg43 => ?_)
    ·refine x_want rfl rfl rfl ?_
     refine x_v (r_mv rfl) rfl ?_
     refine x_want rfl rfl rfl ?_
     refine x_v (r_gt rfl rfl) rfl ?_
     refine x_v (r_pk_t rfl rfl) rfl ?_
     refine XL.nil ?_
     refine hK13 _ _ ?_
     refine XC.keep [(0, _), (3, _), (4, _), (5, _), (6, _), (46, _)] ⟨rfl, rfl, rfl, rfl, rfl, rfl, trivial⟩ ?_
     refine XC.cond_d rfl (fun hc3 => ?_) (fun hc3 => ?_)
     ·refine XC.exit rfl ?_
      refine hK6 _ _ ?_
      refine XC.keep [(0, _)] ⟨rfl, trivial⟩ ?_
      refine XC.seq fun K14 hK14 => ?_
      refine XC.region ?_
      refine x_v (r_mv rfl) rfl ?_
      refine x_v (r_nc rfl) rfl ?_
      refine x_v (r_fa fo147_2 rfl) rfl ?_
      refine x_e (r_st ty4 rfl rfl rfl rfl rfl uD oV) ?_
      refine XL.nil ?_
      refine hK14 _ _ ?_
      refine XC.keep [] trivial ?_
      refine XC.seq fun K15 hK15 => ?_
      refine XC.region ?_
      refine x_v (r_as rfl) rfl ?_
      refine XL.nil ?_
      refine hK15 _ _ ?_
      refine XC.keep [(2, _)] ⟨rfl, trivial⟩ ?_
      refine XC.ret ?_
      have hn : numGo 0 0 (s.drop a) = none := by rw [hgo, drop_cons hx, numGo, if_pos ⟨by omega, by omega⟩]
      rw [hnone hn]
      dsimp only
      rw [hda]
      exact fin1 rfl (⟨rfl, rfl⟩) gS
     ·refine XC.skip ?_
      exact ⟨(), (fun h => by omega), ⟨rfl, rfl, rfl, rfl, rfl, trivial⟩, gS⟩
    ·refine x_unwant rfl rfl rfl rfl rfl ?_
     refine x_unwant rfl rfl rfl rfl rfl ?_
     refine x_v (r_pk_f rfl rfl) rfl ?_
     refine XL.nil ?_
     refine hK13 _ _ ?_
     refine XC.keep [(0, _), (3, _), (4, _), (5, _), (6, _), (46, _)] ⟨rfl, rfl, rfl, rfl, rfl, rfl, trivial⟩ ?_
     refine XC.cond_f rfl ?_
     refine XC.skip ?_
     exact ⟨(), (fun h => by omega), ⟨rfl, rfl, rfl, rfl, rfl, trivial⟩, gS⟩
   ·rintro ⟨⟩ hk9
    refine XC.seq fun K16 hK16 => ?_
    have hzn := znum k z x hk hz hk9
    refine XC.region ?_
    refine x_v (r_mv rfl) rfl ?_
    refine x_v (r_mv rfl) rfl ?_
    refine x_v (yv (v' := .int .u64 ((x.toNat % 128 : Nat) : Int)) (r_remt rfl rfl (by decide)) rfl) rfl ?_
    refine x_v (r_mv rfl) rfl ?_
    refine x_v (r_mulw rfl rfl) rfl ?_
    refine x_v (yv (v' := .int .u64 ((zstep k z x).toNat : Int)) (r_addw rfl rfl) (by rw [hzn.1])) rfl ?_
    refine x_v (r_as rfl) rfl ?_
    refine XL.nil ?_
    refine hK16 _ _ ?_
    refine XC.keep [(0, _), (3, _), (4, _), (5, _), (6, _)] ⟨rfl, rfl, rfl, rfl, rfl, trivial⟩ ?_
    refine XC.seq fun K17 hK17 => ?_
    refine XC.region ?_
    refine x_v (r_mv rfl) rfl ?_
    refine x_v (r_mulw rfl rfl) rfl ?_
    refine x_v (r_as rfl) rfl ?_
    refine XL.nil ?_
    refine hK17 _ _ ?_
    refine XC.keep [(0, _), (3, _), (4, _), (5, _), (6, _)] ⟨rfl, rfl, rfl, rfl, rfl, trivial⟩ ?_
    refine XC.seq fun K18 hK18 => ?_
    refine XC.region ?_
    refine x_v (r_mv rfl) rfl ?_
    refine x_v (r_lt rfl rfl) rfl ?_
    refine XL.nil ?_
    refine hK18 _ _ ?_
    refine XC.keep [(0, _), (3, _), (4, _), (5, _), (6, _), (56, _)] ⟨rfl, rfl, rfl, rfl, rfl, rfl, trivial⟩ ?_
    refine XC.cond_d rfl (fun hc5 => ?_) (fun hc5 => ?_)
    ·refine XC.seq fun K19 hK19 => ?_
     refine XC.seq fun K20 hK20 => ?_
     refine XC.region ?_
     refine x_v (r_mv rfl) rfl ?_
     refine x_v (r_gt rfl rfl) rfl ?_
     refine x_v (r_mv rfl) rfl ?_
     refine XL.splitd 59 rfl (fun hg59 => ?_) (fun hg59 => ?_)
     ·refine x_want rfl rfl rfl ?_
      refine x_v (r_mv rfl) rfl ?_
      refine x_want rfl rfl rfl ?_
      refine x_v (r_eq rfl rfl) rfl ?_
      refine x_v (r_pk_t rfl rfl) rfl ?_
      refine XL.nil ?_
      refine hK20 _ _ ?_
      refine XC.keep [(0, _), (3, _), (5, _), (62, _)] ⟨rfl, rfl, rfl, rfl, trivial⟩ ?_
      refine XC.cond_d rfl (fun hc6 => ?_) (fun hc6 => ?_)
      ·refine XC.exit rfl ?_
       refine hK6 _ _ ?_
       refine XC.keep [(0, _)] ⟨rfl, trivial⟩ ?_
       refine XC.seq fun K21 hK21 => ?_
       refine XC.region ?_
       refine x_v (r_mv rfl) rfl ?_
       refine x_v (r_nc rfl) rfl ?_
       refine x_v (r_fa fo147_2 rfl) rfl ?_
       refine x_e (r_st ty4 rfl rfl rfl rfl rfl uD oV) ?_
       refine XL.nil ?_
       refine hK21 _ _ ?_
       refine XC.keep [] trivial ?_
       refine XC.seq fun K22 hK22 => ?_
       refine XC.region ?_
       refine x_v (r_as rfl) rfl ?_
       refine XL.nil ?_
       refine hK22 _ _ ?_
       refine XC.keep [(2, _)] ⟨rfl, trivial⟩ ?_
       refine XC.ret ?_
       have hn : numGo 0 0 (s.drop a) = none := by rw [hgo, drop_cons hx, numGo, if_neg (by omega), if_neg (by rw [cont_iff]; omega), if_pos ⟨by omega, by omega⟩]
       rw [hnone hn]
       dsimp only
       rw [hda]
       exact fin1 rfl (⟨rfl, rfl⟩) gS
      ·refine XC.skip ?_
       refine hK19 _ _ ?_
       refine XC.keep [(0, _), (3, _), (5, _)] ⟨rfl, rfl, rfl, trivial⟩ ?_
       refine XC.seq fun K23 hK23 => ?_
       refine XC.region ?_
       refine x_v (r_mv rfl) rfl ?_
       refine x_v (r_nc rfl) rfl ?_
       refine x_v (r_fa fo147_1 rfl) rfl ?_
       refine x_v (r_ld ty3 rfl pK (by rfl)) rfl ?_
       refine x_v (r_mv rfl) rfl ?_
       refine x_v (r_add rfl rfl (by omega)) rfl ?_
       refine x_v (r_add rfl rfl (by omega)) rfl ?_
       refine x_v (r_nc rfl) rfl ?_
       refine x_v (r_fa fo147_1 rfl) rfl ?_
       refine x_e (r_st ty3 rfl rfl rfl rfl rfl uD oV) ?_
       refine XL.nil ?_
       refine hK23 _ _ ?_
       refine XC.keep [(3, _)] ⟨rfl, trivial⟩ ?_
       refine XC.seq fun K24 hK24 => ?_
       refine XC.seq fun K25 hK25 => ?_
       refine XC.region ?_
       refine x_v (r_mv rfl) rfl ?_
       refine x_v (yv (v' := .int .u64 (((zstep k z x).toNat % 2 : Nat) : Int)) (r_remt rfl rfl (by decide)) rfl) rfl ?_
       refine x_v (r_eq rfl rfl) rfl ?_
       refine XL.nil ?_
       refine hK25 _ _ ?_
       refine XC.keep [(3, _), (74, _)] ⟨rfl, rfl, trivial⟩ ?_
       refine XC.cond_d rfl (fun hc7 => ?_) (fun hc7 => ?_)
       ·refine XC.seq fun K26 hK26 => ?_
        refine XC.region ?_
        refine x_v (r_mv rfl) rfl ?_
        refine x_v (yv (v' := .int .u64 (((zstep k z x).toNat / 2 : Nat) : Int)) (r_quot rfl rfl (by decide)) (by rw [show (((zstep k z x).toNat : Int).tdiv 2) = (((zstep k z x).toNat / 2 : Nat) : Int) from rfl, wrap_u64 _ (by have := (zstep k z x).isLt; omega)])) rfl ?_
        refine x_v (r_cvn Tryz.underlying138 Tryz.underlying3 rfl (IntWalk.i64_in _ (by have := (zstep k z x).isLt; omega))) rfl ?_
        refine x_v (r_sub rfl rfl (by have := (zstep k z x).isLt; omega)) rfl ?_
        refine x_v (r_as rfl) rfl ?_
        refine XL.nil ?_
        refine hK26 _ _ ?_
        refine XC.keep [(2, _)] ⟨rfl, trivial⟩ ?_
        refine XC.ret ?_
        have hsq : numGo 0 0 (s.drop a) = some (zstep k z x, s.drop (a + k + 1)) := by rw [hgo, drop_cons hx, numGo, if_neg (by omega), if_neg (by rw [cont_iff]; omega), if_neg (by omega)]
        rw [hsome _ _ hsq]
        dsimp only
        have hl2 : s.length - (s.drop (a + k + 1)).length = a + (k + 1) := by rw [List.length_drop]; omega
        rw [hl2, zig_odd _ (by omega)]
        exact fin1 rfl (⟨rfl, rfl⟩) gS
       ·refine XC.skip ?_
        refine hK24 _ _ ?_
        refine XC.keep [(3, _)] ⟨rfl, trivial⟩ ?_
        refine XC.seq fun K27 hK27 => ?_
        refine XC.region ?_
        refine x_v (r_mv rfl) rfl ?_
        refine x_v (yv (v' := .int .u64 (((zstep k z x).toNat / 2 : Nat) : Int)) (r_quot rfl rfl (by decide)) (by rw [show (((zstep k z x).toNat : Int).tdiv 2) = (((zstep k z x).toNat / 2 : Nat) : Int) from rfl, wrap_u64 _ (by have := (zstep k z x).isLt; omega)])) rfl ?_
        refine x_v (r_cvn Tryz.underlying138 Tryz.underlying3 rfl (IntWalk.i64_in _ (by have := (zstep k z x).isLt; omega))) rfl ?_
        refine x_v (r_as rfl) rfl ?_
        refine XL.nil ?_
        refine hK27 _ _ ?_
        refine XC.keep [(2, _)] ⟨rfl, trivial⟩ ?_
        refine XC.ret ?_
        have hsq : numGo 0 0 (s.drop a) = some (zstep k z x, s.drop (a + k + 1)) := by rw [hgo, drop_cons hx, numGo, if_neg (by omega), if_neg (by rw [cont_iff]; omega), if_neg (by omega)]
        rw [hsome _ _ hsq]
        dsimp only
        have hl2 : s.length - (s.drop (a + k + 1)).length = a + (k + 1) := by rw [List.length_drop]; omega
        rw [hl2, zig_even _ (by omega)]
        exact fin1 rfl (⟨rfl, rfl⟩) gS
     ·refine x_unwant rfl rfl rfl rfl rfl ?_
      refine x_unwant rfl rfl rfl rfl rfl ?_
      refine x_v (r_pk_f rfl rfl) rfl ?_
      refine XL.nil ?_
      refine hK20 _ _ ?_
      refine XC.keep [(0, _), (3, _), (5, _), (62, _)] ⟨rfl, rfl, rfl, rfl, trivial⟩ ?_
      refine XC.cond_f rfl ?_
      refine XC.skip ?_
      refine hK19 _ _ ?_
      refine XC.keep [(0, _), (3, _), (5, _)] ⟨rfl, rfl, rfl, trivial⟩ ?_
      refine XC.seq fun K28 hK28 => ?_
      refine XC.region ?_
      refine x_v (r_mv rfl) rfl ?_
      refine x_v (r_nc rfl) rfl ?_
      refine x_v (r_fa fo147_1 rfl) rfl ?_
      refine x_v (r_ld ty3 rfl pK (by rfl)) rfl ?_
      refine x_v (r_mv rfl) rfl ?_
      refine x_v (r_add rfl rfl (by omega)) rfl ?_
      refine x_v (r_add rfl rfl (by omega)) rfl ?_
      refine x_v (r_nc rfl) rfl ?_
      refine x_v (r_fa fo147_1 rfl) rfl ?_
      refine x_e (r_st ty3 rfl rfl rfl rfl rfl uD oV) ?_
      refine XL.nil ?_
      refine hK28 _ _ ?_
      refine XC.keep [(3, _)] ⟨rfl, trivial⟩ ?_
      refine XC.seq fun K29 hK29 => ?_
      refine XC.seq fun K30 hK30 => ?_
      refine XC.region ?_
      refine x_v (r_mv rfl) rfl ?_
      refine x_v (yv (v' := .int .u64 (((zstep k z x).toNat % 2 : Nat) : Int)) (r_remt rfl rfl (by decide)) rfl) rfl ?_
      refine x_v (r_eq rfl rfl) rfl ?_
      refine XL.nil ?_
      refine hK30 _ _ ?_
      refine XC.keep [(3, _), (74, _)] ⟨rfl, rfl, trivial⟩ ?_
      refine XC.cond_d rfl (fun hc9 => ?_) (fun hc9 => ?_)
      ·refine XC.seq fun K31 hK31 => ?_
       refine XC.region ?_
       refine x_v (r_mv rfl) rfl ?_
       refine x_v (yv (v' := .int .u64 (((zstep k z x).toNat / 2 : Nat) : Int)) (r_quot rfl rfl (by decide)) (by rw [show (((zstep k z x).toNat : Int).tdiv 2) = (((zstep k z x).toNat / 2 : Nat) : Int) from rfl, wrap_u64 _ (by have := (zstep k z x).isLt; omega)])) rfl ?_
       refine x_v (r_cvn Tryz.underlying138 Tryz.underlying3 rfl (IntWalk.i64_in _ (by have := (zstep k z x).isLt; omega))) rfl ?_
       refine x_v (r_sub rfl rfl (by have := (zstep k z x).isLt; omega)) rfl ?_
       refine x_v (r_as rfl) rfl ?_
       refine XL.nil ?_
       refine hK31 _ _ ?_
       refine XC.keep [(2, _)] ⟨rfl, trivial⟩ ?_
       refine XC.ret ?_
       have hsq : numGo 0 0 (s.drop a) = some (zstep k z x, s.drop (a + k + 1)) := by rw [hgo, drop_cons hx, numGo, if_neg (by omega), if_neg (by rw [cont_iff]; omega), if_neg (by omega)]
       rw [hsome _ _ hsq]
       dsimp only
       have hl2 : s.length - (s.drop (a + k + 1)).length = a + (k + 1) := by rw [List.length_drop]; omega
       rw [hl2, zig_odd _ (by omega)]
       exact fin1 rfl (⟨rfl, rfl⟩) gS
      ·refine XC.skip ?_
       refine hK29 _ _ ?_
       refine XC.keep [(3, _)] ⟨rfl, trivial⟩ ?_
       refine XC.seq fun K32 hK32 => ?_
       refine XC.region ?_
       refine x_v (r_mv rfl) rfl ?_
       refine x_v (yv (v' := .int .u64 (((zstep k z x).toNat / 2 : Nat) : Int)) (r_quot rfl rfl (by decide)) (by rw [show (((zstep k z x).toNat : Int).tdiv 2) = (((zstep k z x).toNat / 2 : Nat) : Int) from rfl, wrap_u64 _ (by have := (zstep k z x).isLt; omega)])) rfl ?_
       refine x_v (r_cvn Tryz.underlying138 Tryz.underlying3 rfl (IntWalk.i64_in _ (by have := (zstep k z x).isLt; omega))) rfl ?_
       refine x_v (r_as rfl) rfl ?_
       refine XL.nil ?_
       refine hK32 _ _ ?_
       refine XC.keep [(2, _)] ⟨rfl, trivial⟩ ?_
       refine XC.ret ?_
       have hsq : numGo 0 0 (s.drop a) = some (zstep k z x, s.drop (a + k + 1)) := by rw [hgo, drop_cons hx, numGo, if_neg (by omega), if_neg (by rw [cont_iff]; omega), if_neg (by omega)]
       rw [hsome _ _ hsq]
       dsimp only
       have hl2 : s.length - (s.drop (a + k + 1)).length = a + (k + 1) := by rw [List.length_drop]; omega
       rw [hl2, zig_even _ (by omega)]
       exact fin1 rfl (⟨rfl, rfl⟩) gS
    ·refine XC.skip ?_
     refine hK10 _ _ ?_
     refine XC.keep [(0, _), (3, _), (4, _), (5, _)] ⟨rfl, rfl, rfl, rfl, trivial⟩ ?_
     refine XC.region ?_
     refine x_v (r_mv rfl) rfl ?_
     refine x_v (r_add rfl rfl (by omega)) rfl ?_
     refine x_v (r_as rfl) rfl ?_
     refine XL.nil ?_
     rw [unit_step k (by omega)]
     refine ⟨(k + 1, zstep k z x), ?_, ?_, ⟨rfl, rfl, rfl, rfl, trivial⟩, gS⟩
     ·exact ⟨by dsimp only; omega, zlt k z x hz hzn.2, by dsimp only; rw [hgo, drop_cons hx, numGo, if_neg (by omega), if_pos (by rw [cont_iff]; omega)]; rfl⟩
     ·dsimp only; omega
  ·refine XC.exit rfl ?_
   refine hK6 _ _ ?_
   refine XC.keep [(0, _)] ⟨rfl, trivial⟩ ?_
   refine XC.seq fun K33 hK33 => ?_
   refine XC.region ?_
   refine x_v (r_mv rfl) rfl ?_
   refine x_v (r_nc rfl) rfl ?_
   refine x_v (r_fa fo147_2 rfl) rfl ?_
   refine x_e (r_st ty4 rfl rfl rfl rfl rfl uD oV) ?_
   refine XL.nil ?_
   refine hK33 _ _ ?_
   refine XC.keep [] trivial ?_
   refine XC.seq fun K34 hK34 => ?_
   refine XC.region ?_
   refine x_v (r_as rfl) rfl ?_
   refine XL.nil ?_
   refine hK34 _ _ ?_
   refine XC.keep [(2, _)] ⟨rfl, trivial⟩ ?_
   refine XC.ret ?_
   have hn : numGo 0 0 (s.drop a) = none := by rw [hgo, List.drop_of_length_le (by omega)]; rfl
   rw [hnone hn]
   dsimp only
   rw [hda]
   exact fin1 rfl (⟨rfl, rfl⟩) gS
 ·exfalso; omega
theorem rnumr_all {W0 : World} (r : Nat) (s : List UInt8) (a : Nat) (bad : Bool) (Fr : List HP) (hs : s.length ≤ maxS) (ha : a ≤ s.length) : Tr W0 Tryz.prog 109 [.pointer (some ⟨r, 0, none⟩)] (rrc r s a bad :: Fr) (fun v Rs' => v = .int .i64 (numR (s.drop a, bad)).1 ∧ Rs' = rrc r s (s.length - (numR (s.drop a, bad)).2.1.length) (numR (s.drop a, bad)).2.2 :: Fr) := by
 cases bad with
 | false => exact rnumr_tr r s a Fr hs ha
 | true =>
  have e : numR (s.drop a, true) = (0, s.drop a, true) := by unfold numR; rw [if_pos rfl]
  have hda : s.length - (s.drop a).length = a := by rw [List.length_drop]; omega
  rw [e]
  dsimp only
  rw [hda]
  exact rnumr_bad r s a Fr
theorem numR_drop (s : List UInt8) (a : Nat) (bad : Bool) (ha : a ≤ s.length) : ∃ j, a ≤ j ∧ j ≤ s.length ∧ (numR (s.drop a, bad)).2.1 = s.drop j ∧ s.length - (numR (s.drop a, bad)).2.1.length = j := by
 obtain ⟨j, h1, h2⟩ := numR_suf (s.drop a, bad)
 dsimp only at h1 h2
 rw [List.length_drop] at h1
 refine ⟨a + j, by omega, by omega, by rw [h2, List.drop_drop], ?_⟩
 rw [h2, List.drop_drop, List.length_drop]; omega
theorem rtextr_tr {W0 : World} (r : Nat) (s : List UInt8) (a : Nat) (bad : Bool) (Fr : List HP) (hs : s.length ≤ maxS) (ha : a ≤ s.length) : Tr W0 Tryz.prog 110 [.pointer (some ⟨r, 0, none⟩)] (rrc r s a bad :: Fr) (fun v Rs' => v = str (textR (s.drop a, bad)).1 ∧ Rs' = rrc r s (s.length - (textR (s.drop a, bad)).2.1.length) (textR (s.drop a, bad)).2.2 :: Fr) := by
 have hmax : maxS = 140737488355328 := rfl
 obtain ⟨j, hj1, hj2, hj3, hj4⟩ := numR_drop s a bad ha
 have hT : textR (s.drop a, bad) = if (numR (s.drop a, bad)).2.2 = true then ([], (numR (s.drop a, bad)).2) else if 0 ≤ (numR (s.drop a, bad)).1 ∧ (numR (s.drop a, bad)).1 ≤ ((numR (s.drop a, bad)).2.1.length : Int) then ((numR (s.drop a, bad)).2.1.take (numR (s.drop a, bad)).1.toNat, (numR (s.drop a, bad)).2.1.drop (numR (s.drop a, bad)).1.toNat, false) else ([], (numR (s.drop a, bad)).2.1, true) := rfl
 have hall := rnumr_all (W0 := W0) r s a bad Fr hs ha
 rw [hj4] at hall
 generalize numR (s.drop a, bad) = N at hj3 hj4 hT hall
 obtain ⟨n, q, bad2⟩ := N
 dsimp only at hj3 hj4 hT hall
 subst hj3
 have hdl : (s.drop j).length = s.length - j := List.length_drop ..
 rw [hT]
 unfold rrc at *
 refine Entry.tr (N := 56) (rs := [.tmp 2]) ⟨_, Tryz.func110, rfl, by kernel_rfl, rfl, rfl⟩ rfl ?_
 refine XC.seq fun K1 hK1 => ?_
 refine XC.region ?_
 refine x_v (r_as rfl) rfl ?_
 refine XL.nil ?_
 refine hK1 _ _ ?_
 refine XC.keep [(0, _)] ⟨rfl, trivial⟩ ?_
 refine XC.seq fun K2 hK2 => ?_
 refine XC.region ?_
 refine x_v (r_mv rfl) rfl ?_
 refine x_c (r_call0 (args := [_]) ⟨rfl, rfl⟩ (hall) gS) rfl ?_
 rintro _ _ ⟨rfl, hRs⟩
 rw [hRs]
 refine x_v (r_as rfl) rfl ?_
 refine XL.nil ?_
 refine hK2 _ _ ?_
 refine XC.keep [(0, _), (3, _)] ⟨rfl, rfl, trivial⟩ ?_
 refine XC.seq fun K3 hK3 => ?_
 refine XC.seq fun K4 hK4 => ?_
 refine XC.draw (blk r 147 [str s, .int .i64 (j : Int), .bool bad2] :: []) false [(0, false), (1, false), (2, false), (3, false), (4, false), (5, false), (6, false), (7, false), (8, false), (9, false), (10, false), (11, false), (12, false), (13, false), (14, false), (15, false), (16, false), (17, false), (18, false), (19, false), (20, false), (21, false)] (by kernel_rfl) (by kernel_rfl) ?_
 refine y_v rfl (r_mv rfl) gT rfl ?_
 refine y_v rfl (r_nc rfl) gT rfl ?_
 refine y_v rfl (r_fa fo147_2 rfl) gT rfl ?_
 refine y_v rfl (r_ld ty4 rfl pK (by rfl)) gT rfl ?_
 refine y_v rfl (r_mv rfl) gT rfl ?_
 refine XH.split 11 rfl (fun hg11 => ?_) (fun hg11 => ?_)
 ·refine y_un rfl rfl rfl (fun _ h => Gets.own gS h) rfl ?_
  refine y_un rfl rfl rfl (fun _ h => Gets.own gS h) rfl ?_
  refine y_v rfl (r_pk_t rfl rfl) gT rfl ?_
  refine y_v rfl (r_mv rfl) gT rfl ?_
  refine y_un rfl rfl rfl (fun _ h => Gets.own gS h) rfl ?_
  refine y_un rfl rfl rfl (fun _ h => Gets.own gS h) rfl ?_
  refine y_un rfl rfl rfl (fun _ h => Gets.own gS h) rfl ?_
  refine y_un rfl rfl rfl (fun _ h => Gets.own gS h) rfl ?_
  refine y_un rfl rfl rfl (fun _ h => Gets.own gS h) rfl ?_
  refine y_un rfl rfl rfl (fun _ h => Gets.own gS h) rfl ?_
  refine y_un rfl rfl rfl (fun _ h => Gets.own gS h) rfl ?_
  refine y_un rfl rfl rfl (fun _ h => Gets.own gS h) rfl ?_
  refine y_un rfl rfl rfl (fun _ h => Gets.own gS h) rfl ?_
  refine y_un rfl rfl rfl (fun _ h => Gets.own gS h) rfl ?_
  refine y_un rfl rfl rfl (fun _ h => Gets.own gS h) rfl ?_
  refine y_un rfl rfl rfl (fun _ h => Gets.own gS h) rfl ?_
  refine y_v rfl (r_pk_t rfl rfl) gT rfl ?_
  refine XH.nil ?_
  refine hK4 _ _ ?_
  refine XC.keep [(0, _), (3, _), (28, _)] ⟨rfl, rfl, rfl, trivial⟩ ?_
  refine XC.cond_t rfl ?_
  refine XC.seq fun K5 hK5 => ?_
  refine XC.region ?_
  refine x_v (r_mv rfl) rfl ?_
  refine x_v (r_nc rfl) rfl ?_
  refine x_v (r_fa fo147_2 rfl) rfl ?_
  refine x_e (r_st ty4 rfl rfl rfl rfl rfl uD oV) ?_
  refine XL.nil ?_
  refine hK5 _ _ ?_
  refine XC.keep [] trivial ?_
  refine XC.seq fun K6 hK6 => ?_
  refine XC.region ?_
  refine x_v (r_as rfl) rfl ?_
  refine XL.nil ?_
  refine hK6 _ _ ?_
  refine XC.keep [(2, _)] ⟨rfl, trivial⟩ ?_
  refine XC.ret ?_
  rw [if_pos hg11]
  dsimp only
  rw [hdl, show s.length - (s.length - j) = j by omega, hg11]
  exact fin1 rfl (⟨rfl, rfl⟩) gS
 ·refine y_vg rfl rfl rfl (r_mv rfl) gT rfl ?_
  refine y_vg rfl rfl rfl (r_lt rfl rfl) gT rfl ?_
  refine y_v rfl (r_pk_f rfl rfl) gT rfl ?_
  refine y_v rfl (r_mv rfl) gT rfl ?_
  refine XH.splitd 15 rfl (fun hg15 => ?_) (fun hg15 => ?_)
  ·refine y_un rfl rfl rfl (fun _ h => Gets.own gS h) rfl ?_
   refine y_un rfl rfl rfl (fun _ h => Gets.own gS h) rfl ?_
   refine y_un rfl rfl rfl (fun _ h => Gets.own gS h) rfl ?_
   refine y_un rfl rfl rfl (fun _ h => Gets.own gS h) rfl ?_
   refine y_un rfl rfl rfl (fun _ h => Gets.own gS h) rfl ?_
   refine y_un rfl rfl rfl (fun _ h => Gets.own gS h) rfl ?_
   refine y_un rfl rfl rfl (fun _ h => Gets.own gS h) rfl ?_
   refine y_un rfl rfl rfl (fun _ h => Gets.own gS h) rfl ?_
   refine y_un rfl rfl rfl (fun _ h => Gets.own gS h) rfl ?_
   refine y_un rfl rfl rfl (fun _ h => Gets.own gS h) rfl ?_
   refine y_un rfl rfl rfl (fun _ h => Gets.own gS h) rfl ?_
   refine y_un rfl rfl rfl (fun _ h => Gets.own gS h) rfl ?_
   refine y_v rfl (r_pk_t rfl rfl) gT rfl ?_
   refine XH.nil ?_
   refine hK4 _ _ ?_
   refine XC.keep [(0, _), (3, _), (28, _)] ⟨rfl, rfl, rfl, trivial⟩ ?_
   refine XC.cond_t rfl ?_
   refine XC.seq fun K7 hK7 => ?_
   refine XC.region ?_
   refine x_v (r_mv rfl) rfl ?_
   refine x_v (r_nc rfl) rfl ?_
   refine x_v (r_fa fo147_2 rfl) rfl ?_
   refine x_e (r_st ty4 rfl rfl rfl rfl rfl uD oV) ?_
   refine XL.nil ?_
   refine hK7 _ _ ?_
   refine XC.keep [] trivial ?_
   refine XC.seq fun K8 hK8 => ?_
   refine XC.region ?_
   refine x_v (r_as rfl) rfl ?_
   refine XL.nil ?_
   refine hK8 _ _ ?_
   refine XC.keep [(2, _)] ⟨rfl, trivial⟩ ?_
   refine XC.ret ?_
   have hb2 : bad2 = false := by simpa using hg11
   rw [if_neg (by rw [hb2]; decide), if_neg (by omega)]
   dsimp only
   rw [hdl, show s.length - (s.length - j) = j by omega]
   exact fin1 rfl (⟨rfl, rfl⟩) gS
  ·refine y_vg rfl rfl rfl (r_mv rfl) gT rfl ?_
   refine y_vg rfl rfl rfl (r_mv rfl) gT rfl ?_
   refine y_vg rfl rfl rfl (r_nc rfl) gT rfl ?_
   refine y_vg rfl rfl rfl (r_fa fo147_0 rfl) gT rfl ?_
   refine y_vg rfl rfl rfl (r_ld ty9 rfl pK (by rfl)) gT rfl ?_
   refine y_vg rfl rfl rfl (r_lens Tryz.underlying9 rfl) gT rfl ?_
   refine y_vg rfl rfl rfl (r_mv rfl) gT rfl ?_
   refine y_vg rfl rfl rfl (r_nc rfl) gT rfl ?_
   refine y_vg rfl rfl rfl (r_fa fo147_1 rfl) gT rfl ?_
   refine y_vg rfl rfl rfl (r_ld ty3 rfl pK (by rfl)) gT rfl ?_
   refine y_vg rfl rfl rfl (r_sub rfl rfl (by omega)) gT rfl ?_
   refine y_vg rfl rfl rfl (r_gt rfl rfl) gT rfl ?_
   refine y_v rfl (r_pk_f rfl rfl) gT rfl ?_
   refine XH.nil ?_
   refine hK4 _ _ ?_
   refine XC.keep [(0, _), (3, _), (28, _)] ⟨rfl, rfl, rfl, trivial⟩ ?_
   refine XC.cond_d rfl (fun hc3 => ?_) (fun hc3 => ?_)
   ·refine XC.seq fun K9 hK9 => ?_
    refine XC.region ?_
    refine x_v (r_mv rfl) rfl ?_
    refine x_v (r_nc rfl) rfl ?_
    refine x_v (r_fa fo147_2 rfl) rfl ?_
    refine x_e (r_st ty4 rfl rfl rfl rfl rfl uD oV) ?_
    refine XL.nil ?_
    refine hK9 _ _ ?_
    refine XC.keep [] trivial ?_
    refine XC.seq fun K10 hK10 => ?_
    refine XC.region ?_
    refine x_v (r_as rfl) rfl ?_
    refine XL.nil ?_
    refine hK10 _ _ ?_
    refine XC.keep [(2, _)] ⟨rfl, trivial⟩ ?_
    refine XC.ret ?_
    have hb2 : bad2 = false := by simpa using hg11
    rw [if_neg (by rw [hb2]; decide), if_neg (by omega)]
    dsimp only
    rw [hdl, show s.length - (s.length - j) = j by omega]
    exact fin1 rfl (⟨rfl, rfl⟩) gS
   ·refine XC.skip ?_
    refine hK3 _ _ ?_
    refine XC.keep [(0, _), (3, _)] ⟨rfl, rfl, trivial⟩ ?_
    refine XC.seq fun K11 hK11 => ?_
    obtain ⟨m, rfl⟩ : ∃ m : Nat, n = m := ⟨n.toNat, by omega⟩
    have hb2 : bad2 = false := by simpa using hg11
    refine XC.draw (blk r 147 [str s, .int .i64 (j : Int), .bool bad2] :: []) false [(0, false), (1, false), (2, false), (3, false), (4, false), (5, false), (6, false), (7, false), (8, false), (9, false), (10, false), (11, false), (12, false), (13, false), (14, false), (15, false)] (by kernel_rfl) (by kernel_rfl) ?_
    refine y_v rfl (r_mv rfl) gT rfl ?_
    refine y_v rfl (r_nc rfl) gT rfl ?_
    refine y_v rfl (r_fa fo147_0 rfl) gT rfl ?_
    refine y_v rfl (r_ld ty9 rfl pK (by rfl)) gT rfl ?_
    refine y_v rfl (r_mv rfl) gT rfl ?_
    refine y_v rfl (r_nc rfl) gT rfl ?_
    refine y_v rfl (r_fa fo147_1 rfl) gT rfl ?_
    refine y_v rfl (r_ld ty3 rfl pK (by rfl)) gT rfl ?_
    refine y_v rfl (r_mv rfl) gT rfl ?_
    refine y_v rfl (r_nc rfl) gT rfl ?_
    refine y_v rfl (r_fa fo147_1 rfl) gT rfl ?_
    refine y_v rfl (r_ld ty3 rfl pK (by rfl)) gT rfl ?_
    refine y_v rfl (r_mv rfl) gT rfl ?_
    refine y_v rfl (r_add rfl rfl (by omega)) gT rfl ?_
    refine y_v rfl (yv (v' := str ((s.drop j).take m)) (r_ssl j (j + m) Tryz.underlying9 rfl ⟨_, by rfl⟩ ⟨_, by rfl⟩ (by omega) (by omega)) (by rw [Nat.add_sub_cancel_left])) gT rfl ?_
    refine y_v rfl (r_as rfl) gT rfl ?_
    refine XH.nil ?_
    refine hK11 _ _ ?_
    refine XC.keep [(0, _), (3, _), (4, _)] ⟨rfl, rfl, rfl, trivial⟩ ?_
    refine XC.seq fun K12 hK12 => ?_
    refine XC.region ?_
    refine x_v (r_mv rfl) rfl ?_
    refine x_v (r_nc rfl) rfl ?_
    refine x_v (r_fa fo147_1 rfl) rfl ?_
    refine x_v (r_ld ty3 rfl pK (by rfl)) rfl ?_
    refine x_v (r_mv rfl) rfl ?_
    refine x_v (r_add rfl rfl (by omega)) rfl ?_
    refine x_v (r_nc rfl) rfl ?_
    refine x_v (r_fa fo147_1 rfl) rfl ?_
    refine x_e (r_st ty3 rfl rfl rfl rfl rfl uD oV) ?_
    refine XL.nil ?_
    refine hK12 _ _ ?_
    refine XC.keep [(4, _)] ⟨rfl, trivial⟩ ?_
    refine XC.seq fun K13 hK13 => ?_
    refine XC.region ?_
    refine x_v (r_mv rfl) rfl ?_
    refine x_v (r_as rfl) rfl ?_
    refine XL.nil ?_
    refine hK13 _ _ ?_
    refine XC.keep [(2, _)] ⟨rfl, trivial⟩ ?_
    refine XC.ret ?_
    rw [if_neg (by rw [hb2]; decide), if_pos ⟨by omega, by omega⟩, Int.toNat_natCast]
    dsimp only
    rw [List.length_drop, hdl, show s.length - (s.length - j - m) = j + m by omega, hb2]
    exact fin1 rfl (⟨rfl, rfl⟩) gS
theorem rdoner_tr {W0 : World} (r : Nat) (s : List UInt8) (a : Nat) (bad : Bool) (Fr : List HP) (ha : a ≤ s.length) : Tr W0 Tryz.prog 111 [.pointer (some ⟨r, 0, none⟩)] (rrc r s a bad :: Fr) (fun v Rs' => v = .bool (doneB (s.drop a, bad)) ∧ Rs' = rrc r s a bad :: Fr) := by
 unfold rrc
 have hd : (s.drop a = []) ↔ (a : Int) = (s.length : Int) := by
  constructor
  ·intro h
   have := congrArg List.length h
   rw [List.length_drop] at this
   simp only [List.length_nil] at this; omega
  ·intro h; exact List.drop_of_length_le (by omega)
 refine Entry.tr (N := 20) (rs := [.tmp 2]) ⟨_, Tryz.func111, rfl, by kernel_rfl, rfl, rfl⟩ rfl ?_
 refine XC.seq fun K1 hK1 => ?_
 refine XC.region ?_
 refine x_v (r_as rfl) rfl ?_
 refine XL.nil ?_
 refine hK1 _ _ ?_
 refine XC.keep [(0, _)] ⟨rfl, trivial⟩ ?_
 refine XC.seq fun K2 hK2 => ?_
 refine XC.draw (blk r 147 [str s, .int .i64 (a : Int), .bool bad] :: []) false [(0, false), (1, false), (2, false), (3, false), (4, false), (5, false), (6, false), (7, false), (8, false), (9, false), (10, false), (11, false), (12, false), (13, false), (14, false), (15, false), (16, false), (17, false)] (by kernel_rfl) (by kernel_rfl) ?_
 refine y_v rfl (r_mv rfl) gT rfl ?_
 refine y_v rfl (r_nc rfl) gT rfl ?_
 refine y_v rfl (r_fa fo147_2 rfl) gT rfl ?_
 refine y_v rfl (r_ld ty4 rfl pK (by rfl)) gT rfl ?_
 refine y_v rfl (r_not rfl) gT rfl ?_
 refine y_v rfl (r_mv rfl) gT rfl ?_
 refine XH.split 8 rfl (fun hg8 => ?_) (fun hg8 => ?_)
 ·refine y_vg rfl rfl rfl (r_mv rfl) gT rfl ?_
  refine y_vg rfl rfl rfl (r_nc rfl) gT rfl ?_
  refine y_vg rfl rfl rfl (r_fa fo147_1 rfl) gT rfl ?_
  refine y_vg rfl rfl rfl (r_ld ty3 rfl pK (by rfl)) gT rfl ?_
  refine y_vg rfl rfl rfl (r_mv rfl) gT rfl ?_
  refine y_vg rfl rfl rfl (r_nc rfl) gT rfl ?_
  refine y_vg rfl rfl rfl (r_fa fo147_0 rfl) gT rfl ?_
  refine y_vg rfl rfl rfl (r_ld ty9 rfl pK (by rfl)) gT rfl ?_
  refine y_vg rfl rfl rfl (r_lens Tryz.underlying9 rfl) gT rfl ?_
  refine y_vg rfl rfl rfl (r_eq rfl rfl) gT rfl ?_
  refine y_v rfl (r_pk_t rfl rfl) gT rfl ?_
  refine y_v rfl (r_as rfl) gT rfl ?_
  refine XH.nil ?_
  refine hK2 _ _ ?_
  refine XC.keep [(2, _)] ⟨rfl, trivial⟩ ?_
  refine XC.ret ?_
  exact fin1 rfl (⟨by unfold doneB; first | (rw [show bad = false by simpa using hg8]; simp [hd]) | (rw [show bad = true by simpa using hg8]; rfl), rfl⟩) gS
 ·refine y_un rfl rfl rfl (fun _ h => Gets.own gS h) rfl ?_
  refine y_un rfl rfl rfl (fun _ h => Gets.own gS h) rfl ?_
  refine y_un rfl rfl rfl (fun _ h => Gets.own gS h) rfl ?_
  refine y_un rfl rfl rfl (fun _ h => Gets.own gS h) rfl ?_
  refine y_un rfl rfl rfl (fun _ h => Gets.own gS h) rfl ?_
  refine y_un rfl rfl rfl (fun _ h => Gets.own gS h) rfl ?_
  refine y_un rfl rfl rfl (fun _ h => Gets.own gS h) rfl ?_
  refine y_un rfl rfl rfl (fun _ h => Gets.own gS h) rfl ?_
  refine y_un rfl rfl rfl (fun _ h => Gets.own gS h) rfl ?_
  refine y_un rfl rfl rfl (fun _ h => Gets.own gS h) rfl ?_
  refine y_v rfl (r_pk_f rfl rfl) gT rfl ?_
  refine y_v rfl (r_as rfl) gT rfl ?_
  refine XH.nil ?_
  refine hK2 _ _ ?_
  refine XC.keep [(2, _)] ⟨rfl, trivial⟩ ?_
  refine XC.ret ?_
  exact fin1 rfl (⟨by unfold doneB; first | (rw [show bad = false by simpa using hg8]; simp [hd]) | (rw [show bad = true by simpa using hg8]; rfl), rfl⟩) gS
end Go.Proofs.YtcmdmhmgffjknaaGreatDoor
/- Frames that are cut off, or go on: plain facts. -/
namespace Go.Proofs.YtcmdmhmgffjknaaGreatDoor
open Go.Sx
set_option linter.unusedVariables false

theorem numGo_rest : ∀ (s : List UInt8) (k : Nat) (z w : BitVec 64) (r : List UInt8), numGo k z s = some (w, r) → ∃ c, 0 < c.length ∧ s = c ++ r ∧ ∀ r', numGo k z (c ++ r') = some (w, r')
 | [], k, z, w, r, h => by simp [numGo] at h
 | a :: s, k, z, w, r, h => by
  rw [numGo] at h
  split at h
  ·cases h
  ·rename_i h1
   split at h
   ·rename_i h2
    obtain ⟨c, _, rfl, hc⟩ := numGo_rest s _ _ _ _ h
    exact ⟨a :: c, by simp, rfl, fun r' => by rw [List.cons_append, numGo, if_neg h1, if_pos h2]; exact hc r'⟩
   ·rename_i h2
    split at h
    ·cases h
    ·rename_i h3
     injection h with h
     injection h with h4 h5
     subst h4; subst h5
     exact ⟨[a], by simp, rfl, fun r' => by rw [List.singleton_append, numGo, if_neg h1, if_neg h2, if_neg h3]⟩
theorem numGo_cut : ∀ (m z : Nat), z ≤ m → ∀ (k : Nat) (acc : BitVec 64) (j : Nat), j < (vb z).length → numGo k acc ((vb z).take j) = none := by
 intro m
 induction m using Nat.strongRecOn with
 | _ m ih =>
  intro z hz k acc j hj
  by_cases h : z ≤ 127
  ·rw [vb_le h] at hj ⊢
   obtain rfl : j = 0 := by simpa using hj
   rfl
  ·rw [vb_gt h] at hj ⊢
   match j, hj with
   | 0, _ => rfl
   | j + 1, hj =>
    rw [List.take_succ_cons, numGo]
    split
    ·rfl
    ·have hc : (UInt8.ofNat (z % 128 + 128)).toNat = z % 128 + 128 := by simp; omega
     rw [if_pos (by rw [cont_iff, hc]; omega)]
     exact ih (z / 128) (by omega) _ (Nat.le_refl _) _ _ _ (by simpa using hj)
theorem numR_some {s : List UInt8} (h : (numR (s, false)).2.2 = false) : ∃ w q, numGo 0 0 s = some (w, q) ∧ numR (s, false) = (zig w, q, false) := by
 unfold numR at h ⊢
 rw [if_neg (by simp)] at h ⊢
 cases hn : numGo 0 0 s with
 | none => rw [hn] at h; simp at h
 | some x => exact ⟨x.1, x.2, rfl, rfl⟩
/-- What is opened ahead is nothing to what is behind it. -/
theorem openF_rest {s p r : List UInt8} (h : openF s = some (p, r)) : ∃ c, 0 < c.length ∧ s = c ++ r ∧ ∀ r', openF (c ++ r') = some (p, r') := by
 unfold openF at h
 unfold openQ at h
 split at h
 ·rename_i hc
  obtain ⟨hb, h0, h1, h4, h5⟩ := hc
  split at h
  ·rename_i hcr
   injection h with h
   injection h with hp hr
   obtain ⟨w, q, hg, hR⟩ := numR_some hb
   rw [hR] at h0 h1 h4 h5 hcr hp hr
   dsimp only at h0 h1 h4 h5 hcr hp hr
   obtain ⟨a, b, c, d, t, rfl⟩ := four_of h4
   obtain ⟨c1, hc1, rfl, hrest⟩ := numGo_rest _ _ _ _ _ hg
   obtain ⟨n, hn⟩ : ∃ n : Nat, zig w = (n : Int) := ⟨(zig w).toNat, by omega⟩
   rw [hn] at h0 h1 h5 hcr hp hr hR
   rw [Int.toNat_natCast] at hcr hp hr
   have hnt : n ≤ t.length := by simp only [List.length_cons] at h5; omega
   have e4 : ∀ x : List UInt8, (a :: b :: c :: d :: x).drop 4 = x := fun x => rfl
   have e5 : ∀ x : List UInt8, (a :: b :: c :: d :: x).drop (4 + n) = x.drop n := fun x => by rw [← List.drop_drop, e4]
   rw [e4] at hcr hp
   rw [e5] at hr
   subst hp
   subst hr
   refine ⟨c1 ++ a :: b :: c :: d :: t.take n, by rw [List.length_append]; omega, by simp [List.take_append_drop], fun r' => ?_⟩
   have e6 : (c1 ++ a :: b :: c :: d :: t.take n) ++ r' = c1 ++ (a :: b :: c :: d :: (t.take n ++ r')) := by simp
   have hR' : numR (c1 ++ (a :: b :: c :: d :: (t.take n ++ r')), false) = ((n : Int), (a :: b :: c :: d :: (t.take n ++ r')), false) := by
    rw [← hn]
    unfold numR
    rw [if_neg (by simp), hrest]
    rfl
   have hl : (t.take n).length = n := by rw [List.length_take]; omega
   unfold openF
   rw [e6, hR']
   unfold openQ
   dsimp only
   rw [if_pos ⟨rfl, by omega, by omega, by simp, by simp only [List.length_cons, List.length_append, hl]; omega⟩, Int.toNat_natCast, e4, List.take_left' hl]
   rw [show le32 (a :: b :: c :: d :: (t.take n ++ r')) = le32 (a :: b :: c :: d :: t) from rfl, if_pos hcr, e5, List.drop_left' hl]
  ·cases h
 ·cases h
theorem openF_cut {p : List UInt8} (h : p.length ≤ 1048576) {j : Nat} (hj : j < (frameB p).length) : openF ((frameB p).take j) = none := by
 unfold openF
 have hfl := frameB_len p
 by_cases h1 : j < (vb (2 * p.length)).length
 ·have e : (frameB p).take j = (vb (2 * p.length)).take j := by unfold frameB; rw [List.take_append_of_le_length (by omega)]
  have hn := numGo_cut _ (2 * p.length) (Nat.le_refl _) 0 0 j h1
  have hR : (numR ((vb (2 * p.length)).take j, false)).2.2 = true := by
   unfold numR
   rw [if_neg (by simp), hn]
   rfl
  rw [e]
  unfold openQ
  rw [if_neg (by rw [hR]; simp)]
 ·have e : (frameB p).take j = vb (2 * p.length) ++ (le4 (crcS p) ++ p).take (j - (vb (2 * p.length)).length) := by unfold frameB; rw [List.take_append, List.take_of_length_le (by omega)]
  have hl : ((le4 (crcS p) ++ p).take (j - (vb (2 * p.length)).length)).length < 4 + p.length := by rw [List.length_take]; omega
  rw [e, numR_vb _ _ (by omega)]
  unfold openQ
  dsimp only
  rw [if_neg (by rintro ⟨_, _, _, h4, h5⟩; omega)]
/-- What is scanned ends where it says, and what is put there is scanned behind it. -/
theorem scan_split : ∀ (n : Nat) (x : List UInt8), x.length ≤ n → (scanF x).2 ≤ x.length ∧ ∀ y, scanF (x.take (scanF x).2 ++ y) = ((scanF x).1 ++ (scanF y).1, (scanF x).2 + (scanF y).2) := by
 intro n
 induction n with
 | zero =>
  intro x hx
  obtain rfl : x = [] := List.eq_nil_of_length_eq_zero (by omega)
  rw [scanF_none openF_nil]
  exact ⟨Nat.le_refl _, fun y => by simp⟩
 | succ n ih =>
  intro x hx
  cases hO : openF x with
  | none =>
   rw [scanF_none hO]
   exact ⟨Nat.zero_le _, fun y => by simp⟩
  | some q =>
   obtain ⟨p, r⟩ := q
   obtain ⟨c, hc, rfl, hcr⟩ := openF_rest hO
   rw [List.length_append] at hx
   obtain ⟨i1, i2⟩ := ih r (by omega)
   have e1 : (c ++ r).length - r.length = c.length := by rw [List.length_append]; omega
   rw [scanF_some hO, e1]
   refine ⟨by rw [List.length_append]; dsimp only; omega, fun y => ?_⟩
   dsimp only
   have e2 : (c ++ r).take (c.length + (scanF r).2) ++ y = c ++ (r.take (scanF r).2 ++ y) := by
    rw [List.take_append, List.take_of_length_le (by omega), show c.length + (scanF r).2 - c.length = (scanF r).2 by omega, List.append_assoc]
   rw [e2, scanF_some (hcr _), i2]
   have e3 : (c ++ (r.take (scanF r).2 ++ y)).length - (r.take (scanF r).2 ++ y).length = c.length := by rw [List.length_append]; omega
   rw [e3]
   simp only [List.cons_append, Nat.add_assoc]
theorem scan_le (x : List UInt8) : (scanF x).2 ≤ x.length := (scan_split _ x (Nat.le_refl _)).1
theorem scan_take (x : List UInt8) : scanF (x.take (scanF x).2) = scanF x := by
 have h := (scan_split _ x (Nat.le_refl _)).2 []
 rw [List.append_nil, scanF_none openF_nil] at h
 rw [h]; simp
theorem scan_app {x : List UInt8} (h : (scanF x).2 = x.length) (y : List UInt8) : scanF (x ++ y) = ((scanF x).1 ++ (scanF y).1, (scanF x).2 + (scanF y).2) := by
 have h2 := (scan_split _ x (Nat.le_refl _)).2 y
 rwa [h, List.take_of_length_le (Nat.le_refl _), ← h] at h2
/-- Of frames that are cut off anywhere the first ones are found. -/
theorem scan_cut : ∀ (ps : List (List UInt8)), (∀ p ∈ ps, p.length ≤ 1048576) → ∀ j, ∃ i e, scanF ((sealB ps).take j) = (ps.take i, e)
 | [], _, j => ⟨0, 0, by simp [sealB, scanF_none openF_nil]⟩
 | p :: ps, h, j => by
  have e : sealB (p :: ps) = frameB p ++ sealB ps := by simp [sealB]
  by_cases hj : j < (frameB p).length
  ·refine ⟨0, 0, ?_⟩
   rw [e, List.take_append_of_le_length (by omega), scanF_none (openF_cut (h p (by simp)) hj)]
   rfl
  ·obtain ⟨i, e2, h2⟩ := scan_cut ps (fun q hq => h q (by simp [hq])) (j - (frameB p).length)
   have key : (scanF ((sealB (p :: ps)).take j)).1 = (p :: ps).take (i + 1) := by
    rw [e, List.take_append, List.take_of_length_le (by omega), scanF_some (openF_frame p _ (h p (by simp))), h2]
    rfl
   exact ⟨i + 1, _, Prod.ext key rfl⟩
/-! a segment's head -/
theorem readS_zero {b : List UInt8} (h : openF b = none) : readS b = ⟨b, 0, [], 0⟩ := by unfold readS; rw [h]
theorem readS_same {a b p r r' : List UInt8} (h1 : openF a = some (p, r)) (h2 : openF b = some (p, r')) : (readS b).kind = (readS a).kind ∧ (readS b).base = (readS a).base ∧ (readS b).behind = (readS a).behind := by
 unfold readS
 rw [h1, h2]
 dsimp only
 split
 ·exact ⟨rfl, rfl, rfl⟩
 ·split
  ·exact ⟨rfl, rfl, rfl⟩
  ·exact ⟨rfl, rfl, rfl⟩
/-- What is put behind a segment that counts whole. -/
theorem readS_app {x : List UInt8} (hk : (readS x).kind ≠ 0) (y : List UInt8) : (readS (x ++ y)).kind = (readS x).kind ∧ (readS (x ++ y)).base = (readS x).base ∧ (readS (x ++ y)).behind = (readS x).behind := by
 obtain ⟨p, r, hO⟩ := readS_kind hk
 obtain ⟨c, _, rfl, hc⟩ := openF_rest hO
 exact readS_same hO (by rw [List.append_assoc]; exact hc _)
theorem scan_pos {x : List UInt8} (hk : (readS x).kind ≠ 0) : 0 < (scanF x).1.length ∧ 0 < (scanF x).2 := by
 obtain ⟨p, r, hO⟩ := readS_kind hk
 have := openF_lt hO
 rw [scanF_some hO]
 exact ⟨by simp, by dsimp only; omega⟩
/-- What a part of one segment and records behind a head holds. -/
theorem cut_head {h : List UInt8} (hh : h.length ≤ 1048576) {rs : List (List UInt8)} (hr : ∀ p ∈ rs, p.length ≤ 1048576) (j : Nat) :
  (openF ((sealB [h] ++ sealB rs).take j) = none) ∨ ∃ y i e, (sealB [h] ++ sealB rs).take j = sealB [h] ++ y ∧ scanF (sealB [h] ++ y) = (h :: rs.take i, e) := by
 have e1 : sealB [h] = frameB h := by simp [sealB]
 rw [e1]
 by_cases hj : j < (frameB h).length
 ·left
  rw [List.take_append_of_le_length (by omega)]
  exact openF_cut hh hj
 ·right
  obtain ⟨i, e, h2⟩ := scan_cut rs hr (j - (frameB h).length)
  have key : (scanF (frameB h ++ (sealB rs).take (j - (frameB h).length))).1 = h :: rs.take i := by
   rw [scanF_some (openF_frame h _ hh), h2]
  exact ⟨_, i, _, by rw [List.take_append, List.take_of_length_le (by omega)], Prod.ext key rfl⟩
end Go.Proofs.YtcmdmhmgffjknaaGreatDoor
/- The document's frames read: functions 112 (Open), 76 (Scan), 73 (head). -/
namespace Go.Proofs.YtcmdmhmgffjknaaGreatDoor
open Go.Sx
set_option linter.unusedVariables false

/-- What is read as a number is that number's bytes. -/
theorem numGo_canon : ∀ (s : List UInt8) (k : Nat) (z w : BitVec 64) (r : List UInt8), numGo k z s = some (w, r) → k ≤ 9 → z.toNat < 2 ^ (7 * k) → ∃ y, s = vb y ++ r ∧ w.toNat = z.toNat + y * 2 ^ (7 * k) ∧ (0 < k → 0 < y)
 | [], k, z, w, r, h, _, _ => by simp [numGo] at h
 | c :: s, k, z, w, r, h, hk, hz => by
  have hc256 : c.toNat < 256 := c.toBitVec.isLt
  rw [numGo] at h
  split at h
  ·cases h
  ·rename_i h1
   have hzn := (znum k z c hk hz (fun h9 => by omega)).2
   split at h
   ·rename_i h2
    rw [cont_iff] at h2
    obtain ⟨y, rfl, hw, hy⟩ := numGo_canon s _ _ _ _ h (by omega) (zlt k z c hz hzn)
    have hy0 := hy (by omega)
    have hc : UInt8.ofNat ((y * 128 + c.toNat % 128) % 128 + 128) = c := by
     rw [show (y * 128 + c.toNat % 128) % 128 + 128 = c.toNat by omega, UInt8.ofNat_toNat]
    refine ⟨y * 128 + c.toNat % 128, ?_, ?_, fun _ => by omega⟩
    ·rw [vb_gt (z := y * 128 + c.toNat % 128) (by omega), hc, show (y * 128 + c.toNat % 128) / 128 = y by omega]; rfl
    ·have e : 2 ^ (7 * (k + 1)) = 2 ^ (7 * k) * 128 := by rw [show 7 * (k + 1) = 7 * k + 7 by omega, Nat.pow_add]
     rw [hw, hzn, e, Nat.add_mul, Nat.mul_comm (2 ^ (7 * k)) 128, ← Nat.mul_assoc]; omega
   ·rename_i h2
    have h2' : (c.toBitVec &&& 128#8).toNat = 0 := Decidable.not_not.1 h2
    rw [cont_iff] at h2'
    split at h
    ·cases h
    ·rename_i h3
     injection h with h
     injection h with h4 h5
     subst h4; subst h5
     refine ⟨c.toNat, by rw [vb_le (by omega), UInt8.ofNat_toNat]; rfl, by rw [hzn, Nat.mod_eq_of_lt (by omega)], fun _ => by omega⟩
theorem le4_le32 (a b c d : UInt8) (t : List UInt8) : le4 (le32 (a :: b :: c :: d :: t)) = [a, b, c, d] := by
 have e : ∀ x y : UInt8, x.toBitVec = y.toBitVec → x = y := fun x y h => by cases x; cases y; simpa using h
 have key : ∀ (i : Nat), i < 32 → (le32 (a :: b :: c :: d :: t)).getLsbD i = if i < 8 then a.toBitVec.getLsbD i else if i < 16 then b.toBitVec.getLsbD (i - 8) else if i < 24 then c.toBitVec.getLsbD (i - 16) else d.toBitVec.getLsbD (i - 24) := fun i hi => by
  show ((((a.toBitVec.setWidth 32 ||| b.toBitVec.setWidth 32 <<< 8) ||| c.toBitVec.setWidth 32 <<< 16) ||| d.toBitVec.setWidth 32 <<< 24)).getLsbD i = _
  have ha : 8 ≤ i → a.toBitVec.getLsbD i = false := fun h => BitVec.getLsbD_of_ge _ _ h
  have hb : 16 ≤ i → b.toBitVec.getLsbD (i - 8) = false := fun h => BitVec.getLsbD_of_ge _ _ (by omega)
  have hc : 24 ≤ i → c.toBitVec.getLsbD (i - 16) = false := fun h => BitVec.getLsbD_of_ge _ _ (by omega)
  simp only [BitVec.getLsbD_or, BitVec.getLsbD_shiftLeft, BitVec.getLsbD_setWidth, hi, decide_true, Bool.true_and]
  by_cases h1 : i < 8
  ·simp [h1, show i < 16 by omega, show i < 24 by omega]
  ·by_cases h2 : i < 16
   ·simp [h1, h2, show i < 24 by omega, show i - 8 < 32 by omega, ha (by omega)]
   ·by_cases h3 : i < 24
    ·simp [h1, h2, h3, show i - 8 < 32 by omega, show i - 16 < 32 by omega, ha (by omega), hb (by omega)]
    ·simp [h1, h2, h3, show i - 8 < 32 by omega, show i - 16 < 32 by omega, show i - 24 < 32 by omega, ha (by omega), hb (by omega), hc (by omega)]
 have part : ∀ (k : Nat) (x : UInt8), k ≤ 24 → (∀ i, i < 8 → (le32 (a :: b :: c :: d :: t)).getLsbD (k + i) = x.toBitVec.getLsbD i) → (⟨((le32 (a :: b :: c :: d :: t)) >>> k).setWidth 8⟩ : UInt8) = x := fun k x hk h => e _ _ (by
  apply BitVec.eq_of_getLsbD_eq
  intro i hi
  rw [BitVec.getLsbD_setWidth, BitVec.getLsbD_ushiftRight, h i hi]
  simp [hi])
 have p0 : (⟨(le32 (a :: b :: c :: d :: t)).setWidth 8⟩ : UInt8) = a := by
  have := part 0 a (by omega) (fun i hi => by rw [Nat.zero_add, key i (by omega), if_pos hi])
  rwa [BitVec.ushiftRight_zero] at this
 have p1 := part 8 b (by omega) (fun i hi => by rw [key _ (by omega), if_neg (by omega), if_pos (by omega), show 8 + i - 8 = i by omega])
 have p2 := part 16 c (by omega) (fun i hi => by rw [key _ (by omega), if_neg (by omega), if_neg (by omega), if_pos (by omega), show 16 + i - 16 = i by omega])
 have p3 := part 24 d (by omega) (fun i hi => by rw [key _ (by omega), if_neg (by omega), if_neg (by omega), if_neg (by omega), show 24 + i - 24 = i by omega])
 show [(⟨(le32 (a :: b :: c :: d :: t)).setWidth 8⟩ : UInt8), ⟨((le32 (a :: b :: c :: d :: t)) >>> 8).setWidth 8⟩, ⟨((le32 (a :: b :: c :: d :: t)) >>> 16).setWidth 8⟩, ⟨((le32 (a :: b :: c :: d :: t)) >>> 24).setWidth 8⟩] = _
 rw [p0, p1, p2, p3]
/-- What is opened is a frame. -/
theorem openF_is {s p r : List UInt8} (h : openF s = some (p, r)) : s = frameB p ++ r ∧ p.length ≤ 1048576 ∧ numR (s, false) = ((p.length : Int), le4 (crcS p) ++ (p ++ r), false) := by
 unfold openF at h
 unfold openQ at h
 split at h
 ·rename_i hc
  obtain ⟨hb, h0, h1, h4, h5⟩ := hc
  split at h
  ·rename_i hcr
   injection h with h
   injection h with hp hr
   obtain ⟨w, q, hg, hR⟩ := numR_some hb
   rw [hR] at h0 h1 h4 h5 hcr hp hr ⊢
   dsimp only at h0 h1 h4 h5 hcr hp hr ⊢
   obtain ⟨a, b, c, d, t, rfl⟩ := four_of h4
   obtain ⟨y, rfl, hw, _⟩ := numGo_canon _ _ _ _ _ hg (by omega) (by decide)
   have hw : w.toNat = y := by rw [hw]; simp
   have hev : ¬ w.toNat % 2 = 1 := fun ho => by rw [zig_odd w ho] at h0; omega
   have hz := zig_even w hev
   obtain ⟨n, hn⟩ : ∃ n : Nat, n = w.toNat / 2 := ⟨_, rfl⟩
   rw [← hn] at hz
   rw [hz, Int.toNat_natCast] at hcr hp hr
   rw [hz] at h1 h5
   have e4 : (a :: b :: c :: d :: t).drop 4 = t := rfl
   have e5 : (a :: b :: c :: d :: t).drop (4 + n) = t.drop n := by rw [← List.drop_drop, e4]
   rw [e4] at hcr hp
   rw [e5] at hr
   have hnt : n ≤ t.length := by simp only [List.length_cons] at h5; omega
   have hpl : p.length = n := by rw [← hp, List.length_take]; omega
   have h4e : le4 (crcS p) = [a, b, c, d] := by rw [← hp, ← hcr]; exact le4_le32 a b c d t
   have htt : t = p ++ r := by rw [← hp, ← hr, List.take_append_drop]
   refine ⟨?_, by omega, ?_⟩
   ·unfold frameB
    rw [h4e, hpl, show 2 * n = y by omega, htt]
    simp
   ·rw [hz, hpl, h4e, htt]; rfl
  ·cases h
 ·cases h
theorem frame_parts {s p r : List UInt8} {j : Nat} (h : s = frameB p ++ r) (hj : j = (vb (2 * p.length)).length) : (s.drop (j + 4)).take p.length = p ∧ s.take (j + 4 + p.length) = frameB p := by
 have hl := frameB_len p
 have h4 : (le4 (crcS p)).length = 4 := rfl
 refine ⟨?_, by rw [h]; exact List.take_left' (by omega)⟩
 have e : s = (vb (2 * p.length) ++ le4 (crcS p)) ++ (p ++ r) := by rw [h]; simp [frameB]
 rw [e, List.drop_left' (by rw [List.length_append, h4]; omega)]
 exact List.take_left' rfl
def ropenV : Option (List UInt8 × List UInt8) → Value
 | none => .tuple #[str [], str [], .bool false]
 | some (p, r) => .tuple #[str p, str r, .bool true]
theorem ropen_tr {W0 : World} (s : List UInt8) (Fr : List HP) (hs : s.length ≤ 4194304) : Tr W0 Tryz.prog 112 [str s] Fr (fun v Rs' => v = ropenV (openF s) ∧ Rs' = Fr) := by
 have hmax : maxS = 140737488355328 := rfl
 obtain ⟨j, hj1, hj2, hj3, hj4⟩ := numR_drop s 0 false (Nat.zero_le _)
 have hall := fun r => rnumr_all (W0 := W0) r s 0 false Fr (by omega) (Nat.zero_le _)
 rw [List.drop_zero] at hj3 hj4
 simp only [List.drop_zero, hj4] at hall
 have hop : ∀ p r, openF s = some (p, r) → s = frameB p ++ r ∧ p.length ≤ 1048576 ∧ (numR (s, false)).1 = (p.length : Int) ∧ (numR (s, false)).2.2 = false ∧ j = (vb (2 * p.length)).length := fun p r h => by
  obtain ⟨h1, h2, h3⟩ := openF_is h
  rw [h3] at hj4 ⊢
  refine ⟨h1, h2, rfl, rfl, ?_⟩
  rw [← hj4, h1]
  simp only [frameB, List.length_append]; omega
 generalize numR (s, false) = N at hj3 hj4 hall hop
 obtain ⟨n, q, bad⟩ := N
 dsimp only at hj3 hj4 hall hop
 unfold rrc at hall
 refine Entry.tr (N := 69) (rs := [.tmp 2, .tmp 3, .tmp 4]) ⟨_, Tryz.func112, rfl, by kernel_rfl, rfl, rfl⟩ rfl ?_
 refine XC.seq fun K1 hK1 => ?_
 refine XC.region ?_
 refine x_v (r_as rfl) rfl ?_
 refine x_v (r_as rfl) rfl ?_
 refine x_v (r_as rfl) rfl ?_
 refine XL.nil ?_
 refine hK1 _ _ ?_
 refine XC.keep [(0, _)] ⟨rfl, trivial⟩ ?_
 refine XC.seq fun K2 hK2 => ?_
 refine XC.region ?_
 refine x_v (r_mv rfl) rfl ?_
 refine x_v (r_bd (vs := [_]) rfl ⟨rfl, rfl⟩ (bd147_0 _)) rfl ?_
 refine x_a (r_bx rfl rfl) rfl fun b11 => ?_
 refine x_v (r_as rfl) rfl ?_
 refine XL.nil ?_
 refine hK2 _ _ ?_
 refine XC.keep [(0, _), (5, _)] ⟨rfl, rfl, trivial⟩ ?_
 refine XC.seq fun K3 hK3 => ?_
 refine XC.region ?_
 refine x_v (r_mv rfl) rfl ?_
 refine x_c (r_call0 (args := [_]) ⟨rfl, rfl⟩ (hall b11) gS) rfl ?_
 rintro _ _ ⟨rfl, hRs⟩
 rw [hRs]
 refine x_v (r_as rfl) rfl ?_
 refine XL.nil ?_
 refine hK3 _ _ ?_
 refine XC.keep [(0, _), (5, _), (6, _)] ⟨rfl, rfl, rfl, trivial⟩ ?_
 refine XC.seq fun K4 hK4 => ?_
 refine XC.seq fun K5 hK5 => ?_
 refine XC.region ?_
 refine x_v (r_mv rfl) rfl ?_
 refine x_v (r_nc rfl) rfl ?_
 refine x_v (r_fa fo147_2 rfl) rfl ?_
 refine x_v (r_ld ty4 rfl pK (by rfl)) rfl ?_
 refine x_v (r_mv rfl) rfl ?_
 refine XL.split 18 rfl (fun hg18 => ?_) (fun hg18 => ?_)
 ·refine x_unwant rfl rfl rfl rfl rfl ?_
  refine x_unwant rfl rfl rfl rfl rfl ?_
  refine x_v (r_pk_t rfl rfl) rfl ?_
  refine x_v (r_mv rfl) rfl ?_
  refine x_unwant rfl rfl rfl rfl rfl ?_
  refine x_unwant rfl rfl rfl rfl rfl ?_
  refine x_v (r_pk_t rfl rfl) rfl ?_
  refine x_v (r_mv rfl) rfl ?_
  refine x_unwant rfl rfl rfl rfl rfl ?_
  refine x_unwant rfl rfl rfl rfl rfl ?_
  refine x_unwant rfl rfl rfl rfl rfl ?_
  refine x_unwant rfl rfl rfl rfl rfl ?_
  refine x_unwant rfl rfl rfl rfl rfl ?_
  refine x_unwant rfl rfl rfl rfl rfl ?_
  refine x_unwant rfl rfl rfl rfl rfl ?_
  refine x_unwant rfl rfl rfl rfl rfl ?_
  refine x_unwant rfl rfl rfl rfl rfl ?_
  refine x_unwant rfl rfl rfl rfl rfl ?_
  refine x_v (r_pk_t rfl rfl) rfl ?_
  refine XL.nil ?_
  refine hK5 _ _ ?_
  refine XC.keep [(0, _), (5, _), (6, _), (37, _)] ⟨rfl, rfl, rfl, rfl, trivial⟩ ?_
  refine XC.cond_t rfl ?_
  refine XC.seq fun K6 hK6 => ?_
  refine XC.region ?_
  refine x_v (r_as rfl) rfl ?_
  refine x_v (r_as rfl) rfl ?_
  refine x_v (r_as rfl) rfl ?_
  refine XL.nil ?_
  refine hK6 _ _ ?_
  refine XC.keep [(2, _), (3, _), (4, _)] ⟨rfl, rfl, rfl, trivial⟩ ?_
  refine XC.ret ?_
  have hO : openF s = none := Option.eq_none_iff_forall_ne_some.2 fun x hx => by obtain ⟨h1, h2, h3, h4, h5⟩ := hop x.1 x.2 hx; have h6 := congrArg List.length h1; rw [List.length_append, frameB_len] at h6; first | omega | (rw [h4] at hg18; cases hg18)
  rw [hO]
  exact fin3 rfl rfl rfl (⟨rfl, rfl⟩) gS
 ·refine x_want rfl rfl rfl ?_
  refine x_v (r_mv rfl) rfl ?_
  refine x_want rfl rfl rfl ?_
  refine x_v (r_lt rfl rfl) rfl ?_
  refine x_v (r_pk_f rfl rfl) rfl ?_
  refine x_v (r_mv rfl) rfl ?_
  refine XL.splitd 22 rfl (fun hg22 => ?_) (fun hg22 => ?_)
  ·refine x_unwant rfl rfl rfl rfl rfl ?_
   refine x_unwant rfl rfl rfl rfl rfl ?_
   refine x_v (r_pk_t rfl rfl) rfl ?_
   refine x_v (r_mv rfl) rfl ?_
   refine x_unwant rfl rfl rfl rfl rfl ?_
   refine x_unwant rfl rfl rfl rfl rfl ?_
   refine x_unwant rfl rfl rfl rfl rfl ?_
   refine x_unwant rfl rfl rfl rfl rfl ?_
   refine x_unwant rfl rfl rfl rfl rfl ?_
   refine x_unwant rfl rfl rfl rfl rfl ?_
   refine x_unwant rfl rfl rfl rfl rfl ?_
   refine x_unwant rfl rfl rfl rfl rfl ?_
   refine x_unwant rfl rfl rfl rfl rfl ?_
   refine x_unwant rfl rfl rfl rfl rfl ?_
   refine x_v (r_pk_t rfl rfl) rfl ?_
   refine XL.nil ?_
   refine hK5 _ _ ?_
   refine XC.keep [(0, _), (5, _), (6, _), (37, _)] ⟨rfl, rfl, rfl, rfl, trivial⟩ ?_
   refine XC.cond_t rfl ?_
   refine XC.seq fun K7 hK7 => ?_
   refine XC.region ?_
   refine x_v (r_as rfl) rfl ?_
   refine x_v (r_as rfl) rfl ?_
   refine x_v (r_as rfl) rfl ?_
   refine XL.nil ?_
   refine hK7 _ _ ?_
   refine XC.keep [(2, _), (3, _), (4, _)] ⟨rfl, rfl, rfl, trivial⟩ ?_
   refine XC.ret ?_
   have hO : openF s = none := Option.eq_none_iff_forall_ne_some.2 fun x hx => by obtain ⟨h1, h2, h3, h4, h5⟩ := hop x.1 x.2 hx; have h6 := congrArg List.length h1; rw [List.length_append, frameB_len] at h6; first | omega | (rw [h4] at hg18; cases hg18)
   rw [hO]
   exact fin3 rfl rfl rfl (⟨rfl, rfl⟩) gS
  ·refine x_want rfl rfl rfl ?_
   refine x_v (r_mv rfl) rfl ?_
   refine x_want rfl rfl rfl ?_
   refine x_v (r_gt rfl rfl) rfl ?_
   refine x_v (r_pk_f rfl rfl) rfl ?_
   refine x_v (r_mv rfl) rfl ?_
   refine XL.splitd 26 rfl (fun hg26 => ?_) (fun hg26 => ?_)
   ·refine x_unwant rfl rfl rfl rfl rfl ?_
    refine x_unwant rfl rfl rfl rfl rfl ?_
    refine x_unwant rfl rfl rfl rfl rfl ?_
    refine x_unwant rfl rfl rfl rfl rfl ?_
    refine x_unwant rfl rfl rfl rfl rfl ?_
    refine x_unwant rfl rfl rfl rfl rfl ?_
    refine x_unwant rfl rfl rfl rfl rfl ?_
    refine x_unwant rfl rfl rfl rfl rfl ?_
    refine x_unwant rfl rfl rfl rfl rfl ?_
    refine x_unwant rfl rfl rfl rfl rfl ?_
    refine x_v (r_pk_t rfl rfl) rfl ?_
    refine XL.nil ?_
    refine hK5 _ _ ?_
    refine XC.keep [(0, _), (5, _), (6, _), (37, _)] ⟨rfl, rfl, rfl, rfl, trivial⟩ ?_
    refine XC.cond_t rfl ?_
    refine XC.seq fun K8 hK8 => ?_
    refine XC.region ?_
    refine x_v (r_as rfl) rfl ?_
    refine x_v (r_as rfl) rfl ?_
    refine x_v (r_as rfl) rfl ?_
    refine XL.nil ?_
    refine hK8 _ _ ?_
    refine XC.keep [(2, _), (3, _), (4, _)] ⟨rfl, rfl, rfl, trivial⟩ ?_
    refine XC.ret ?_
    have hO : openF s = none := Option.eq_none_iff_forall_ne_some.2 fun x hx => by obtain ⟨h1, h2, h3, h4, h5⟩ := hop x.1 x.2 hx; have h6 := congrArg List.length h1; rw [List.length_append, frameB_len] at h6; first | omega | (rw [h4] at hg18; cases hg18)
    rw [hO]
    exact fin3 rfl rfl rfl (⟨rfl, rfl⟩) gS
   ·refine x_want rfl rfl rfl ?_
    refine x_v (r_mv rfl) rfl ?_
    refine x_want rfl rfl rfl ?_
    refine x_v (r_mv rfl) rfl ?_
    refine x_want rfl rfl rfl ?_
    refine x_v (r_lens Tryz.underlying9 rfl) rfl ?_
    refine x_want rfl rfl rfl ?_
    refine x_v (r_mv rfl) rfl ?_
    refine x_want rfl rfl rfl ?_
    refine x_v (r_nc rfl) rfl ?_
    refine x_want rfl rfl rfl ?_
    refine x_v (r_fa fo147_1 rfl) rfl ?_
    refine x_want rfl rfl rfl ?_
    refine x_v (r_ld ty3 rfl pK (by rfl)) rfl ?_
    refine x_want rfl rfl rfl ?_
    refine x_v (r_sub rfl rfl (by omega)) rfl ?_
    refine x_want rfl rfl rfl ?_
    refine x_v (r_sub rfl rfl (by omega)) rfl ?_
    refine x_want rfl rfl rfl ?_
    refine x_v (r_gt rfl rfl) rfl ?_
    refine x_v (r_pk_f rfl rfl) rfl ?_
    refine XL.nil ?_
    refine hK5 _ _ ?_
    refine XC.keep [(0, _), (5, _), (6, _), (37, _)] ⟨rfl, rfl, rfl, rfl, trivial⟩ ?_
    refine XC.cond_d rfl (fun hc4 => ?_) (fun hc4 => ?_)
    ·refine XC.seq fun K9 hK9 => ?_
     refine XC.region ?_
     refine x_v (r_as rfl) rfl ?_
     refine x_v (r_as rfl) rfl ?_
     refine x_v (r_as rfl) rfl ?_
     refine XL.nil ?_
     refine hK9 _ _ ?_
     refine XC.keep [(2, _), (3, _), (4, _)] ⟨rfl, rfl, rfl, trivial⟩ ?_
     refine XC.ret ?_
     have hO : openF s = none := Option.eq_none_iff_forall_ne_some.2 fun x hx => by obtain ⟨h1, h2, h3, h4, h5⟩ := hop x.1 x.2 hx; have h6 := congrArg List.length h1; rw [List.length_append, frameB_len] at h6; first | omega | (rw [h4] at hg18; cases hg18)
     rw [hO]
     exact fin3 rfl rfl rfl (⟨rfl, rfl⟩) gS
    ·refine XC.skip ?_
     refine hK4 _ _ ?_
     refine XC.keep [(0, _), (5, _), (6, _)] ⟨rfl, rfl, rfl, trivial⟩ ?_
     refine XC.seq fun K10 hK10 => ?_
     obtain ⟨m, rfl⟩ : ∃ m : Nat, n = m := ⟨n.toNat, by omega⟩
     have hjm : j + 4 + m ≤ s.length := by omega
     have hml : ((s.drop (j + 4)).take m).length = m := by rw [List.length_take, List.length_drop]; omega
     refine XC.draw (blk b11 147 [str s, .int .i64 (j : Int), .bool bad] :: []) false [(0, false), (1, false), (2, false), (3, false), (4, false), (5, false), (6, false), (7, false), (8, false), (9, false), (10, false), (11, false), (12, false), (13, false), (14, false)] (by kernel_rfl) (by kernel_rfl) ?_
     refine y_v rfl (r_mv rfl) gT rfl ?_
     refine y_v rfl (r_mv rfl) gT rfl ?_
     refine y_v rfl (r_nc rfl) gT rfl ?_
     refine y_v rfl (r_fa fo147_1 rfl) gT rfl ?_
     refine y_v rfl (r_ld ty3 rfl pK (by rfl)) gT rfl ?_
     refine y_v rfl (r_add rfl rfl (by omega)) gT rfl ?_
     refine y_v rfl (r_mv rfl) gT rfl ?_
     refine y_v rfl (r_nc rfl) gT rfl ?_
     refine y_v rfl (r_fa fo147_1 rfl) gT rfl ?_
     refine y_v rfl (r_ld ty3 rfl pK (by rfl)) gT rfl ?_
     refine y_v rfl (r_add rfl rfl (by omega)) gT rfl ?_
     refine y_v rfl (r_mv rfl) gT rfl ?_
     refine y_v rfl (r_add rfl rfl (by omega)) gT rfl ?_
     refine y_v rfl (yv (v' := str ((s.drop (j + 4)).take m)) (r_ssl (j + 4) (j + 4 + m) Tryz.underlying9 rfl ⟨_, by rfl⟩ ⟨_, by rfl⟩ (by omega) (by omega)) (by rw [Nat.add_sub_cancel_left])) gT rfl ?_
     refine y_v rfl (r_as rfl) gT rfl ?_
     refine XH.nil ?_
     refine hK10 _ _ ?_
     refine XC.keep [(0, _), (5, _), (6, _), (7, _)] ⟨rfl, rfl, rfl, rfl, trivial⟩ ?_
     refine XC.seq fun K11 hK11 => ?_
     refine XC.region ?_
     refine x_v (r_mv rfl) rfl ?_
     refine x_v (r_nc rfl) rfl ?_
     refine x_v (r_fa fo147_1 rfl) rfl ?_
     refine x_v (r_ld ty3 rfl pK (by rfl)) rfl ?_
     refine x_v (r_add rfl rfl (by omega)) rfl ?_
     refine x_v (r_mv rfl) rfl ?_
     refine x_v (r_add rfl rfl (by omega)) rfl ?_
     refine x_v (r_as rfl) rfl ?_
     refine XL.nil ?_
     refine hK11 _ _ ?_
     refine XC.keep [(0, _), (7, _), (8, _)] ⟨rfl, rfl, rfl, trivial⟩ ?_
     refine XC.seq fun K12 hK12 => ?_
     refine XC.seq fun K13 hK13 => ?_
     refine XC.draw [] false [(0, false), (2, false), (3, false), (4, false), (1, true), (5, false)] (by kernel_rfl) (by kernel_rfl) ?_
     refine y_v rfl (r_mv rfl) gT rfl ?_
     refine y_v rfl (r_mv rfl) gT rfl ?_
     refine y_v rfl (r_mv rfl) gT rfl ?_
     refine y_v rfl (yv (v' := str (s.take (j + 4 + m))) (r_ssl 0 (j + 4 + m) Tryz.underlying9 rfl rfl ⟨_, by rfl⟩ (by omega) (by omega)) (by rw [List.drop_zero, Nat.sub_zero])) gT rfl ?_
     refine y_c rfl (r_call0 (args := [_]) ⟨rfl, rfl⟩ (one_tr ((s.drop (j + 4)).take m) Fr (by omega)) gS) (by rintro _ _ _ _ ⟨rfl, hRs⟩ h; exact Gets.own gS h) rfl ?_
     rintro _ _ ⟨rfl, hRs⟩
     rw [hRs]
     refine y_v rfl (r_sne rfl rfl) gT rfl ?_
     refine XH.nil ?_
     refine hK13 _ _ ?_
     refine XC.keep [(0, _), (7, _), (8, _), (64, _)] ⟨rfl, rfl, rfl, rfl, trivial⟩ ?_
     refine XC.cond_d rfl (fun hc5 => ?_) (fun hc5 => ?_)
     ·refine XC.seq fun K14 hK14 => ?_
      refine XC.region ?_
      refine x_v (r_as rfl) rfl ?_
      refine x_v (r_as rfl) rfl ?_
      refine x_v (r_as rfl) rfl ?_
      refine XL.nil ?_
      refine hK14 _ _ ?_
      refine XC.keep [(2, _), (3, _), (4, _)] ⟨rfl, rfl, rfl, trivial⟩ ?_
      refine XC.ret ?_
      have hO : openF s = none := Option.eq_none_iff_forall_ne_some.2 fun x hx => by obtain ⟨h1, h2, h3, h4, h5⟩ := hop x.1 x.2 hx; have h7 : m = x.1.length := (by omega); obtain ⟨q1, q2⟩ := frame_parts h1 h5; rw [← h7] at q1 q2; have h8 : ¬ frameB ((s.drop (j + 4)).take m) = s.take (j + 4 + m) := (by assumption); exact h8 (by rw [q1, q2])
      rw [hO]
      exact fin3 rfl rfl rfl (⟨rfl, rfl⟩) gS
     ·refine XC.skip ?_
      refine hK12 _ _ ?_
      refine XC.keep [(0, _), (7, _), (8, _)] ⟨rfl, rfl, rfl, trivial⟩ ?_
      refine XC.seq fun K15 hK15 => ?_
      refine XC.draw [] false [(0, false), (1, false), (2, false), (3, false), (4, false), (5, false), (6, false)] (by kernel_rfl) (by kernel_rfl) ?_
      refine y_v rfl (r_mv rfl) gT rfl ?_
      refine y_v rfl (r_mv rfl) gT rfl ?_
      refine y_v rfl (r_mv rfl) gT rfl ?_
      refine y_v rfl (yv (v' := str (s.drop (j + 4 + m))) (r_ssl (j + 4 + m) s.length Tryz.underlying9 rfl ⟨_, by rfl⟩ rfl (by omega) (by omega)) (congrArg str (List.take_of_length_le (by simp)))) gT rfl ?_
      refine y_v rfl (r_as rfl) gT rfl ?_
      refine y_v rfl (r_as rfl) gT rfl ?_
      refine y_v rfl (r_as rfl) gT rfl ?_
      refine XH.nil ?_
      refine hK15 _ _ ?_
      refine XC.keep [(2, _), (3, _), (4, _)] ⟨rfl, rfl, rfl, trivial⟩ ?_
      refine XC.ret ?_
      have h8 : frameB ((s.drop (j + 4)).take m) = s.take (j + 4 + m) := Decidable.not_not.1 (by assumption)
      have hO : openF s = some ((s.drop (j + 4)).take m, s.drop (j + 4 + m)) := by have h9 := openF_frame ((s.drop (j + 4)).take m) (s.drop (j + 4 + m)) (by omega); rw [h8, List.take_append_drop] at h9; exact h9
      rw [hO]
      exact fin3 rfl rfl rfl (⟨rfl, rfl⟩) gS
theorem rscan_tr {W0 : World} (s : List UInt8) (Fr : List HP) (hs : s.length ≤ 4194304) : Tr W0 Tryz.prog 76 [str s] Fr (fun v Rs' => ∃ A c, v = .tuple #[.slice A (scanF s).1.length c, .int .i64 ((scanF s).2 : Int)] ∧ Rs' = sl A (scanF s).1.length c 9 1 (cells sv (scanF s).1) :: Fr) := by
 have hmax : maxS = 140737488355328 := rfl
 refine Tr.nil_ 9 1 ?_
 refine Entry.tr (N := 30) (rs := [.tmp 2, .tmp 3]) ⟨_, Tryz.func76, rfl, by kernel_rfl, rfl, rfl⟩ rfl ?_
 refine XC.seq fun K1 hK1 => ?_
 refine XC.region ?_
 refine x_v (r_as rfl) rfl ?_
 refine x_v (r_as rfl) rfl ?_
 refine XL.nil ?_
 refine hK1 _ _ ?_
 refine XC.keep [(0, _)] ⟨rfl, trivial⟩ ?_
 refine XC.seq fun K2 hK2 => ?_
 refine XC.region ?_
 refine x_v (r_as rfl) rfl ?_
 refine XL.nil ?_
 refine hK2 _ _ ?_
 refine XC.keep [(0, _), (4, _)] ⟨rfl, rfl, trivial⟩ ?_
 refine XC.seq fun K3 hK3 => ?_
 refine XC.region ?_
 refine x_v (r_as rfl) rfl ?_
 refine XL.nil ?_
 refine hK3 _ _ ?_
 refine XC.keep [(0, _), (4, _), (5, _)] ⟨rfl, rfl, rfl, trivial⟩ ?_
 refine XC.block ?_
 refine XC.loop (σ := Nat × List (List UInt8) × Option Addr × Nat) (fun q => [(0, str s), (4, .slice q.2.2.1 q.2.1.length q.2.2.2), (5, .int .i64 (q.1 : Int))]) (fun q => sl q.2.2.1 q.2.1.length q.2.2.2 9 1 (cells sv q.2.1) :: Fr) (fun q => q.1 ≤ s.length ∧ q.2.1.length ≤ q.1 ∧ scanF s = (q.2.1 ++ (scanF (s.drop q.1)).1, q.1 + (scanF (s.drop q.1)).2)) (fun q => s.length - q.1) (0, [], none, 0) ?_ ⟨rfl, rfl, rfl, trivial⟩ gS ?_
 ·exact ⟨Nat.zero_le _, Nat.le_refl _, by simp⟩
 rintro ⟨e, L, A, c⟩ ⟨he, hL, hg⟩
 dsimp only at he hL hg ⊢
 refine XC.block ?_
 refine XC.seq fun K4 hK4 => ?_
 refine XC.region ?_
 refine x_v (r_mv rfl) rfl ?_
 refine x_v (r_mv rfl) rfl ?_
 refine x_v (yv (v' := str (s.drop e)) (r_ssl e s.length Tryz.underlying9 rfl ⟨_, by rfl⟩ rfl (by omega) (by omega)) (congrArg str (List.take_of_length_le (by simp)))) rfl ?_
 refine x_c (r_call0 (args := [_]) ⟨rfl, rfl⟩ (ropen_tr (s.drop e) (sl A L.length c 9 1 (cells sv L) :: Fr) (by rw [List.length_drop]; omega)) gS) rfl ?_
 rintro _ _ ⟨hv, hRs⟩
 rw [hRs]
 rcases hO : openF (s.drop e) with _ | ⟨p, r⟩ <;> rw [hO] at hv <;> subst hv <;> simp only [ropenV]
 ·refine x_v (r_mv rfl) rfl ?_
  refine x_v (r_ex rfl rfl) rfl ?_
  refine x_v (r_ex rfl rfl) rfl ?_
  refine x_v (r_ex rfl rfl) rfl ?_
  refine x_v (r_as rfl) rfl ?_
  refine x_v (r_as rfl) rfl ?_
  refine x_v (r_as rfl) rfl ?_
  refine XL.nil ?_
  refine hK4 _ _ ?_
  refine XC.keep [(0, _), (4, _), (5, _), (6, _), (7, _), (8, _)] ⟨rfl, rfl, rfl, rfl, rfl, rfl, trivial⟩ ?_
  refine XC.seq fun K5 hK5 => ?_
  refine XC.seq fun K6 hK6 => ?_
  refine XC.region ?_
  refine x_v (r_mv rfl) rfl ?_
  refine x_v (r_not rfl) rfl ?_
  refine XL.nil ?_
  refine hK6 _ _ ?_
  refine XC.keep [(0, _), (4, _), (5, _), (6, _), (7, _), (18, _)] ⟨rfl, rfl, rfl, rfl, rfl, rfl, trivial⟩ ?_
  refine XC.cond rfl (fun hc1 => ?_) (fun hc1 => ?_)
  ·refine XC.seq fun K7 hK7 => ?_
   refine XC.region ?_
   refine x_v (r_mv rfl) rfl ?_
   refine x_v (r_mv rfl) rfl ?_
   refine x_v (r_as rfl) rfl ?_
   refine x_v (r_as rfl) rfl ?_
   refine XL.nil ?_
   refine hK7 _ _ ?_
   refine XC.keep [(2, _), (3, _)] ⟨rfl, rfl, trivial⟩ ?_
   refine XC.ret ?_
   have hS : scanF s = (L, e) := by rw [hg, scanF_none hO]; simp
   exact fin2 rfl rfl (⟨A, c, by rw [hS], by rw [hS]⟩) gS
  ·exfalso; exact absurd hc1 (by decide)
 ·obtain ⟨k, hk1, hk2, rfl, hk3⟩ := openF_suf hO
  rw [List.length_drop] at hk2
  have hkl : ((s.drop e).drop k).length = s.length - e - k := by simp; omega
  refine x_v (r_mv rfl) rfl ?_
  refine x_v (r_ex rfl rfl) rfl ?_
  refine x_v (r_ex rfl rfl) rfl ?_
  refine x_v (r_ex rfl rfl) rfl ?_
  refine x_v (r_as rfl) rfl ?_
  refine x_v (r_as rfl) rfl ?_
  refine x_v (r_as rfl) rfl ?_
  refine XL.nil ?_
  refine hK4 _ _ ?_
  refine XC.keep [(0, _), (4, _), (5, _), (6, _), (7, _), (8, _)] ⟨rfl, rfl, rfl, rfl, rfl, rfl, trivial⟩ ?_
  refine XC.seq fun K8 hK8 => ?_
  refine XC.seq fun K9 hK9 => ?_
  refine XC.region ?_
  refine x_v (r_mv rfl) rfl ?_
  refine x_v (r_not rfl) rfl ?_
  refine XL.nil ?_
  refine hK9 _ _ ?_
  refine XC.keep [(0, _), (4, _), (5, _), (6, _), (7, _), (18, _)] ⟨rfl, rfl, rfl, rfl, rfl, rfl, trivial⟩ ?_
  refine XC.cond rfl (fun hc2 => ?_) (fun hc2 => ?_)
  ·exfalso; exact absurd hc2 (by decide)
  ·refine XC.skip ?_
   refine hK8 _ _ ?_
   refine XC.keep [(0, _), (4, _), (6, _), (7, _)] ⟨rfl, rfl, rfl, rfl, trivial⟩ ?_
   refine XC.seq fun K10 hK10 => ?_
   refine XC.region ?_
   refine x_v (r_mv rfl) rfl ?_
   refine x_v (r_mv rfl) rfl ?_
   refine x_a (r_bs (vs := [_]) rfl ⟨rfl, rfl⟩ (bs22_1_0 _)) rfl fun b23 => ?_
   refine x_a (r_app Tryz.underlying22 ty9 rfl (by decide) rfl rfl pK (Rdb.of_blk (cs := [str p]) (xs := [str p]) pK 0 (by rfl) (fun j u hu => by simpa using hu)) rfl (by unfold maxLen; omega) (by omega)) rfl fun ⟨A24, c24⟩ => ?_
   refine x_v (r_as rfl) rfl ?_
   refine XL.nil ?_
   refine hK10 _ _ ?_
   refine XC.keep [(0, _), (4, _), (7, _)] ⟨rfl, rfl, rfl, trivial⟩ ?_
   refine XC.region ?_
   refine x_v (r_mv rfl) rfl ?_
   refine x_v (r_lens Tryz.underlying9 rfl) rfl ?_
   refine x_v (r_mv rfl) rfl ?_
   refine x_v (r_lens Tryz.underlying9 rfl) rfl ?_
   refine x_v (yv (v' := .int .i64 ((e + k : Nat) : Int)) (r_sub rfl rfl (by omega)) (congrArg _ (by omega))) rfl ?_
   refine x_v (r_as rfl) rfl ?_
   refine XL.nil ?_
   rw [show L.length + 1 = (L ++ [p]).length by simp, show cells sv L ++ [str p] = cells sv (L ++ [p]) by rw [cells_app]; rfl]
   refine ⟨(e + k, L ++ [p], A24, c24), ?_, ?_, ⟨rfl, rfl, rfl, trivial⟩, gS⟩
   ·exact ⟨by dsimp only; omega, by simp; omega, by dsimp only; rw [hg, scanF_some hO, ← List.drop_drop, List.append_assoc, List.singleton_append, List.length_drop]; congr 1; omega⟩
   ·dsimp only; omega
end Go.Proofs.YtcmdmhmgffjknaaGreatDoor
/- Files that are put, taken away, cut, and what is found then: plain facts. -/
namespace Go.Proofs.YtcmdmhmgffjknaaGreatDoor
open Go.Sx
set_option linter.unusedVariables false

theorem getF_setF : ∀ (L : List (List UInt8 × Fi)) (n : List UInt8) (x : Fi) (m : List UInt8), getF (setF L n x) m = if n = m then some x else getF L m
 | [], n, x, m => rfl
 | (k, y) :: L, n, x, m => by
  unfold setF
  by_cases h1 : k = n
  ·subst h1
   rw [if_pos rfl]
   by_cases h2 : k = m
   ·rw [getF, if_pos h2, if_pos h2]
   ·rw [getF, if_neg h2, if_neg h2, getF, if_neg h2]
  ·rw [if_neg h1]
   by_cases h2 : n < k
   ·rw [if_pos h2, getF]
   ·rw [if_neg h2, getF, getF_setF L n x m]
    by_cases h3 : k = m
    ·subst h3; rw [if_pos rfl, if_neg (fun h => h1 h.symm), getF, if_pos rfl]
    ·rw [if_neg h3, getF, if_neg h3]
theorem mem_setF : ∀ {L : List (List UInt8 × Fi)} {n : List UInt8} {x : Fi} {t : List UInt8 × Fi}, t ∈ setF L n x → t = (n, x) ∨ (t ∈ L ∧ t.1 ≠ n) ∨ t ∈ L
 | [], n, x, t, h => by simp [setF] at h; exact .inl h
 | (k, y) :: L, n, x, t, h => by
  unfold setF at h
  split at h
  ·rcases List.mem_cons.1 h with h | h
   ·exact .inl h
   ·exact .inr (.inr (by simp [h]))
  ·split at h
   ·rcases List.mem_cons.1 h with h | h
    ·exact .inl h
    ·exact .inr (.inr h)
   ·rcases List.mem_cons.1 h with h | h
    ·exact .inr (.inr (by simp [h]))
    ·rcases mem_setF h with h | h | h
     ·exact .inl h
     ·exact .inr (.inr (by simp [h.1]))
     ·exact .inr (.inr (by simp [h]))
theorem srt_map {L : List (List UInt8 × Fi)} : L.Pairwise (fun a b => a.1 < b.1) ↔ (L.map (·.1)).Pairwise (· < ·) := List.pairwise_map.symm
theorem srt_setF {L : List (List UInt8 × Fi)} (h : L.Pairwise (fun a b => a.1 < b.1)) (n : List UInt8) (x : Fi) : (setF L n x).Pairwise (fun a b => a.1 < b.1) := by
 rcases getF_split L n with ⟨_, h2⟩ | ⟨L1, y, L2, rfl, _, _⟩
 ·obtain ⟨L1, L2, rfl, e, h3, h4⟩ := setF_new L n x h2 h
  rw [e, List.pairwise_append, List.pairwise_cons]
  rw [List.pairwise_append] at h
  refine ⟨h.1, ⟨fun b hb => h4 b hb, h.2.1⟩, fun a ha b hb => ?_⟩
  rcases List.mem_cons.1 hb with rfl | hb
  ·exact h3 a ha
  ·exact h.2.2 a ha b hb
 ·rw [setF_at h, srt_map]
  rw [srt_map] at h
  simpa using h
theorem getF_of_mem : ∀ {L : List (List UInt8 × Fi)} {n : List UInt8} {x : Fi}, L.Pairwise (fun a b => a.1 < b.1) → (n, x) ∈ L → getF L n = some x
 | (k, y) :: L, n, x, hs, h => by
  rw [List.pairwise_cons] at hs
  rcases List.mem_cons.1 h with h | h
  ·injection h with h1 h2; subst h1; subst h2; rw [getF, if_pos rfl]
  ·have := hs.1 _ h
   rw [getF, if_neg (fun e => by subst e; exact List.lt_irrefl _ this)]
   exact getF_of_mem hs.2 h
theorem getF_delF : ∀ (L : List (List UInt8 × Fi)) (n m : List UInt8), getF (delF L n) m = if n = m then none else getF L m
 | [], n, m => by simp [delF, getF]
 | (k, y) :: L, n, m => by
  have ih := getF_delF L n m
  unfold delF at ih ⊢
  by_cases h1 : k = n
  ·subst h1
   rw [List.filter_cons_of_neg (by simp), ih]
   by_cases h2 : k = m
   ·rw [if_pos h2, if_pos h2]
   ·rw [if_neg h2, if_neg h2, getF, if_neg h2]
  ·rw [List.filter_cons_of_pos (by simp [h1]), getF, ih]
   by_cases h2 : k = m
   ·subst h2; rw [if_pos rfl, if_neg (fun h => h1 h.symm), getF, if_pos rfl]
   ·rw [if_neg h2, getF, if_neg h2]
theorem setF_setF : ∀ (L : List (List UInt8 × Fi)) (n : List UInt8) (x y : Fi), setF (setF L n x) n y = setF L n y
 | [], n, x, y => by simp [setF]
 | (k, z) :: L, n, x, y => by
  by_cases h1 : k = n
  ·simp [setF, h1]
  ·by_cases h2 : n < k
   ·simp [setF, h1, h2]
   ·simp [setF, h1, h2, setF_setF L n x y]
theorem delF_self {L : List (List UInt8 × Fi)} {n : List UInt8} (h : ∀ t ∈ L, t.1 ≠ n) : delF L n = L := List.filter_eq_self.2 fun t ht => by simpa using h t ht
theorem delF_setF {L : List (List UInt8 × Fi)} (hs : L.Pairwise (fun a b => a.1 < b.1)) {n : List UInt8} (x : Fi) (h : getF L n = none) : delF (setF L n x) n = L := by
 rcases getF_split L n with ⟨_, h2⟩ | ⟨L1, y, L2, rfl, h1, _⟩
 ·obtain ⟨L1, L2, rfl, e, h3, h4⟩ := setF_new L n x h2 hs
  have hs2 := srt_setF hs n x
  rw [e] at hs2 ⊢
  exact delF_at hs2
 ·rw [h1] at h; cases h
/-! what power's loss leaves -/
def St (t : List UInt8 × Fi) : Prop := t.2.sure = t.2.bytes.length ∧ t.2.old = true
theorem crash_app : ∀ (L1 r : List (List UInt8 × Fi)) (ks : List Int), (∀ t ∈ L1, St t) → crashL (L1 ++ r) ks = L1 ++ crashL r ks
 | [], r, ks, h => rfl
 | (n, x) :: L1, r, ks, h => by
  obtain ⟨h1, h2⟩ := h (n, x) (by simp)
  dsimp only at h1 h2
  rw [List.cons_append, crashL, if_neg (by omega), if_pos h2, crash_app L1 r ks fun t ht => h t (by simp [ht])]
  rfl
theorem crash_all {L : List (List UInt8 × Fi)} (h : ∀ t ∈ L, St t) (ks : List Int) : crashL L ks = L := by
 have := crash_app L [] ks h
 simpa [crashL] using this
theorem crash_one {L : List (List UInt8 × Fi)} (hs : L.Pairwise (fun a b => a.1 < b.1)) (h : ∀ t ∈ L, St t) (n : List UInt8) (x : Fi) (hx : x.sure < x.bytes.length) (ks : List Int) :
  crashL (setF L n x) ks = (if (cutF x (ks.headD 0)).old = true then setF L n (cutF x (ks.headD 0)) else delF L n) := by
 rcases getF_split L n with ⟨_, h2⟩ | ⟨L1, y, L2, rfl, _, _⟩
 ·obtain ⟨L1, L2, rfl, e, h3, h4⟩ := setF_new L n x h2 hs
  have hs2 := srt_setF hs n x
  have e2 : setF (L1 ++ L2) n (cutF x (ks.headD 0)) = L1 ++ (n, cutF x (ks.headD 0)) :: L2 := by
   rw [← setF_setF _ n x, e]
   rw [e] at hs2
   exact setF_at hs2
  rw [e, crash_app _ _ _ fun t ht => h t (by simp [ht]), crashL, if_pos hx, crash_all (fun t ht => h t (by simp [ht])), e2, delF_self h2]
  split <;> rfl
 ·rw [setF_at hs, crash_app _ _ _ fun t ht => h t (by simp [ht]), crashL, if_pos hx, crash_all (fun t ht => h t (by simp [ht])), setF_at hs, delF_at hs]
  split <;> rfl
theorem cut_is (x y : List UInt8) (o : Bool) (k : Int) : ∃ j, j ≤ y.length ∧ cutF ⟨x ++ y, x.length, o⟩ k = ⟨x ++ y.take j, (x ++ y.take j).length, o || decide (0 < j)⟩ := by
 refine ⟨(min (max k 0) ((y.length : Nat) : Int)).toNat, by omega, ?_⟩
 have e : (x ++ y).length - x.length = y.length := by rw [List.length_append]; omega
 unfold cutF
 dsimp only
 rw [e, List.take_append, List.take_of_length_le (by omega), show x.length + (min (max k 0) ((y.length : Nat) : Int)).toNat - x.length = (min (max k 0) ((y.length : Nat) : Int)).toNat by omega]
 have e2 : (x ++ y.take (min (max k 0) ((y.length : Nat) : Int)).toNat).length = x.length + (min (max k 0) ((y.length : Nat) : Int)).toNat := by rw [List.length_append, List.length_take]; omega
 rw [e2]
 congr 2
 rw [decide_eq_decide]; omega
theorem fine_name (n : Nat) (h : n ≤ 1000000001) : fineB (nameB n) = true := by
 unfold fineB
 rw [decide_eq_true_iff]
 have hl : (Lib.decDigits n).length ≤ 10 := by
  rw [Lib.decDigits_length]
  exact nDig 9 n (Nat.lt_of_le_of_lt h (by decide))
 unfold nameB
 rw [itoa_nat]
 refine ⟨by simp [logP], by rw [List.length_append]; have : logP.length = 4 := rfl; omega, fun c hc => ?_⟩
 rcases List.mem_append.1 hc with hc | hc
 ·have : ∀ c ∈ logP, oddN c.toNat = false := by decide
  exact this c hc
 ·have := dec_digit n c hc
  unfold oddN
  rw [decide_eq_false_iff_not]
  rintro ⟨_, h2, _⟩
  omega
/-! a drive that has a log's files alone, all of them settled -/
abbrev Nm (s : Nat → List UInt8) (k : Nat) : List UInt8 × Fi := (nameB k, ⟨s k, (s k).length, true⟩)
structure Fs (F : List (List UInt8 × Fi)) (s : Nat → List UInt8) (p : Nat → Prop) : Prop where
 srt : F.Pairwise (fun a b => a.1 < b.1)
 all : ∀ t ∈ F, ∃ k, p k ∧ t = Nm s k
 has : ∀ k, p k → getF F (nameB k) = some ⟨s k, (s k).length, true⟩
 num : ∀ k, p k → 1 ≤ k ∧ k ≤ 999999999
theorem Fs.congr {F : List (List UInt8 × Fi)} {s s' : Nat → List UInt8} {p p' : Nat → Prop} (h : Fs F s p) (hp : ∀ k, p' k ↔ p k) (hs : ∀ k, p k → s' k = s k) : Fs F s' p' :=
 ⟨h.srt, fun t ht => let ⟨k, h1, h2⟩ := h.all t ht; ⟨k, (hp k).2 h1, by rw [h2, Nm, Nm, hs k h1]⟩, fun k hk => by rw [hs k ((hp k).1 hk)]; exact h.has k ((hp k).1 hk), fun k hk => h.num k ((hp k).1 hk)⟩
theorem Fs.st {F : List (List UInt8 × Fi)} {s : Nat → List UInt8} {p : Nat → Prop} (h : Fs F s p) : ∀ t ∈ F, St t := fun t ht => by
 obtain ⟨k, _, rfl⟩ := h.all t ht
 exact ⟨rfl, rfl⟩
theorem Fs.not {F : List (List UInt8 × Fi)} {s : Nat → List UInt8} {p : Nat → Prop} (h : Fs F s p) {k : Nat} (hk : k ≤ 1000000001) (hn : ¬ p k) : getF F (nameB k) = none := by
 cases hg : getF F (nameB k) with
 | none => rfl
 | some x =>
  obtain ⟨m, h1, h2⟩ := h.all _ (getF_mem hg)
  injection h2 with h2 _
  have := h.num m h1
  have := name_inj hk (by omega) h2
  subst this
  exact absurd h1 hn
theorem Fs.empty (s : Nat → List UInt8) : Fs [] s (fun _ => False) := ⟨List.Pairwise.nil, by simp, fun k h => h.elim, fun k h => h.elim⟩
theorem Fs.nil {F : List (List UInt8 × Fi)} {s : Nat → List UInt8} {p : Nat → Prop} (h : Fs F s p) (hn : ∀ k, ¬ p k) : F = [] := by
 match F, h with
 | [], _ => rfl
 | t :: F, h => obtain ⟨k, hk, _⟩ := h.all t (by simp); exact absurd hk (hn k)
def upS (s : Nat → List UInt8) (n : Nat) (y : List UInt8) : Nat → List UInt8 := fun k => if k = n then y else s k
theorem upS_at (s : Nat → List UInt8) (n : Nat) (y : List UInt8) : upS s n y n = y := if_pos rfl
theorem upS_ne (s : Nat → List UInt8) {n k : Nat} (y : List UInt8) (h : k ≠ n) : upS s n y k = s k := if_neg h
theorem Fs.set {F : List (List UInt8 × Fi)} {s : Nat → List UInt8} {p : Nat → Prop} (h : Fs F s p) (n : Nat) (y : List UInt8) (h1 : 1 ≤ n) (h2 : n ≤ 999999999) : Fs (setF F (nameB n) ⟨y, y.length, true⟩) (upS s n y) (fun k => p k ∨ k = n) := by
 have hnum : ∀ k, p k ∨ k = n → 1 ≤ k ∧ k ≤ 999999999 := fun k hk => hk.elim (h.num k) (fun e => by subst e; exact ⟨h1, h2⟩)
 have hhas : ∀ k, p k ∨ k = n → getF (setF F (nameB n) ⟨y, y.length, true⟩) (nameB k) = some ⟨upS s n y k, (upS s n y k).length, true⟩ := fun k hk => by
  rw [getF_setF]
  by_cases e : k = n
  ·subst e; rw [if_pos rfl, upS_at]
  ·have hb := hnum k hk
   rw [if_neg (fun e2 => e (name_inj (by omega) (by omega) e2.symm)), upS_ne _ _ e]
   exact h.has k (hk.resolve_right e)
 refine ⟨srt_setF h.srt _ _, fun t ht => ?_, hhas, hnum⟩
 have key : t = (nameB n, ⟨y, y.length, true⟩) ∨ t ∈ F := by
  rcases mem_setF ht with h | h | h
  ·exact .inl h
  ·exact .inr h.1
  ·exact .inr h
 rcases key with rfl | hm
 ·exact ⟨n, .inr rfl, by rw [Nm, upS_at]⟩
 ·obtain ⟨k, hk, rfl⟩ := h.all t hm
  refine ⟨k, .inl hk, ?_⟩
  have e1 := getF_of_mem (srt_setF h.srt _ _) ht
  rw [hhas k (.inl hk)] at e1
  injection e1 with e1
  rw [Nm, Nm, ← e1]
theorem Fs.del {F : List (List UInt8 × Fi)} {s : Nat → List UInt8} {p : Nat → Prop} (h : Fs F s p) (n : Nat) (h2 : n ≤ 1000000001) : Fs (delF F (nameB n)) s (fun k => p k ∧ k ≠ n) := by
 refine ⟨h.srt.sublist List.filter_sublist, fun t ht => ?_, fun k hk => ?_, fun k hk => h.num k hk.1⟩
 ·unfold delF at ht
  obtain ⟨h3, h4⟩ := List.mem_filter.1 ht
  obtain ⟨k, hk, rfl⟩ := h.all t h3
  refine ⟨k, ⟨hk, fun e => ?_⟩, rfl⟩
  subst e
  simp at h4
 ·have hb := h.num k hk.1
  rw [getF_delF, if_neg (fun e => hk.2 (name_inj (by omega) (by omega) e.symm))]
  exact h.has k hk.1
theorem Fs.read {D : Dk} {s : Nat → List UInt8} {p : Nat → Prop} (h : Fs D.files s p) (ho : D.off = false) {k : Nat} (hk : p k) : (readD D (nameB k)).1 = s k := by
 unfold readD
 rw [if_neg (by rw [ho]; decide), h.has k hk]
theorem Fs.read0 {D : Dk} {s : Nat → List UInt8} {p : Nat → Prop} (h : Fs D.files s p) {k : Nat} (hk : k ≤ 1000000001) (hn : ¬ p k) : (readD D (nameB k)).1 = [] := by
 unfold readD
 split
 ·rfl
 ·rw [h.not hk hn]
theorem Fs.names {D : Dk} {s : Nat → List UInt8} {p : Nat → Prop} (h : Fs D.files s p) (ho : D.off = false) : namesD D logP = D.files.map (·.1) := by
 unfold namesD
 rw [if_neg (by rw [ho]; decide), List.filter_eq_self]
 intro n hn
 obtain ⟨t, ht, rfl⟩ := List.mem_map.1 hn
 obtain ⟨k, _, rfl⟩ := h.all t ht
 exact pre_log _
/-! a chain of segments -/
inductive Link (s : Nat → List UInt8) (f : Nat) : Nat → List (List UInt8) → Prop
 | one : Link s f f []
 | on {n : Nat} {C M : List (List UInt8)} : Link s f n C → followsF (readS (s (n + 1))) (readS (s n)) = some M → Link s f (n + 1) (C ++ M)
theorem Link.le {s : Nat → List UInt8} {f n : Nat} {C : List (List UInt8)} (h : Link s f n C) : f ≤ n := by
 induction h with
 | one => exact Nat.le_refl _
 | on _ _ ih => omega
theorem Link.kind {s : Nat → List UInt8} {f n : Nat} {C : List (List UInt8)} (h : Link s f n C) : ∀ k, f < k → k ≤ n → (readS (s k)).kind = 2 := by
 induction h with
 | one => intro k h1 h2; omega
 | on h hf ih =>
  rename_i n C M
  intro k h1 h2
  by_cases e : k = n + 1
  ·subst e; exact (follows_kind hf).1
  ·exact ih k h1 (by omega)
theorem follows_congr {a b c : Sg} (h1 : a.kind = b.kind) (h2 : a.behind = b.behind) : followsF a c = followsF b c := by unfold followsF; rw [h1, h2]
theorem Link.congr {s s' : Nat → List UInt8} {f n : Nat} {C : List (List UInt8)} (h : Link s f n C) : (∀ k, f ≤ k → k < n → s' k = s k) → (readS (s' n)).kind = (readS (s n)).kind → (readS (s' n)).behind = (readS (s n)).behind → Link s' f n C := by
 induction h with
 | one => intro _ _ _; exact .one
 | on h hf ih =>
  rename_i n C M
  intro h1 h2 h3
  have hle := h.le
  have e : s' n = s n := h1 n hle (by omega)
  refine .on (ih (fun k a b => h1 k a (by omega)) (by rw [e]) (by rw [e])) ?_
  rw [follows_congr h2 h3, e]; exact hf
theorem chain_link {D : Dk} {s : Nat → List UInt8} {f n : Nat} {C : List (List UInt8)} (h : Link s f n C) (r : List (List UInt8)) : (∀ k, f < k → k ≤ n → (readD D (nameB k)).1 = s k) → n ≤ 999999999 → chainL D (999999999 - f) f (readS (s f)) r = chainL D (999999999 - n) n (readS (s n)) (r ++ C) := by
 induction h with
 | one => intro _ _; rw [List.append_nil]
 | on h hf ih =>
  rename_i n C M
  intro h1 h2
  have hle := h.le
  rw [ih (fun k a b => h1 k a (by omega)) (by omega), show 999999999 - n = (999999999 - (n + 1)) + 1 by omega, chainL, h1 (n + 1) (by omega) (Nat.le_refl _), hf]
  dsimp only
  rw [List.append_assoc]
theorem chain_stop {D : Dk} {n : Nat} {a : Sg} (r : List (List UInt8)) (h : n < 999999999 → followsF (readS (readD D (nameB (n + 1))).1) a = none) : chainL D (999999999 - n) n a r = (n, a, r) := by
 by_cases hn : n < 999999999
 ·rw [show 999999999 - n = (999999999 - (n + 1)) + 1 by omega, chainL, h hn]
 ·rw [show 999999999 - n = 0 by omega]; rfl
theorem first_none {D : Dk} : ∀ (N : List (List UInt8)) (q : Nat × Sg), (∀ x ∈ N, (readS (readD D x).1).kind ≠ 1) → N.foldl (stepF D) q = q
 | [], q, _ => rfl
 | x :: N, q, h => by
  rw [List.foldl_cons]
  have : stepF D q x = q := by unfold stepF; rw [if_neg (fun e => h x (by simp) e.2)]
  rw [this]
  exact first_none N q fun y hy => h y (by simp [hy])
theorem first_is {D : Dk} {f : Nat} {S : Sg} : ∀ (N : List (List UInt8)) (q : Nat × Sg), (∀ x ∈ N, (readS (readD D x).1).kind = 1 → numB x ≤ f ∧ (numB x = f → readS (readD D x).1 = S)) → q.1 ≤ f → (q.1 = f → q.2 = S) → (q.1 = f ∨ ∃ x ∈ N, numB x = f ∧ (readS (readD D x).1).kind = 1) → N.foldl (stepF D) q = (f, S)
 | [], q, _, _, h2, h3 => by
  rcases h3 with h3 | ⟨x, hx, _⟩
  ·have := h2 h3
   rw [List.foldl_nil]; rw [← h3, ← this]
  ·cases hx
 | x :: N, q, h, h1, h2, h3 => by
  rw [List.foldl_cons]
  have hx := h x (by simp)
  refine first_is N _ (fun y hy => h y (by simp [hy])) ?_ ?_ ?_
  ·unfold stepF
   split
   ·rename_i hc; exact (hx hc.2).1
   ·exact h1
  ·unfold stepF
   split
   ·rename_i hc; exact (hx hc.2).2
   ·exact h2
  ·rcases h3 with h3 | ⟨y, hy, h4, h5⟩
   ·left
    unfold stepF
    rw [if_neg (by omega)]; exact h3
   ·rcases List.mem_cons.1 hy with rfl | hy
    ·left
     unfold stepF
     split
     ·exact h4
     ·rename_i hc
      have := (hx h5).1
      have : ¬ q.1 < numB y := fun h => hc ⟨h, h5⟩
      omega
    ·exact .inr ⟨y, hy, h4, h5⟩
theorem clean_keep {a b : Nat} : ∀ (N : List (List UInt8)) (D : Dk), (∀ x ∈ N, 1 ≤ numB x ∧ a ≤ numB x ∧ numB x ≤ b) → cleanL a b N D = (0, D)
 | [], D, _ => rfl
 | x :: N, D, h => by
  have := h x (by simp)
  rw [cleanL, if_neg (by omega)]
  exact clean_keep N D fun y hy => h y (by simp [hy])
theorem remove_ok {D : Dk} {s : Nat → List UInt8} {p : Nat → Prop} (h : Fs D.files s p) (ho : D.off = false) {k : Nat} (hk : p k) : removeD D (nameB k) = if D.fuse = 0 then (50, { D with off := true }) else (0, { stepD D with files := delF D.files (nameB k) }) := by
 have hb := h.num k hk
 have he : readyE D (nameB k) = 0 := by
  unfold readyE
  rw [if_neg (by rw [fine_name k (by omega)]; decide), if_neg (by rw [ho]; decide)]
 unfold removeD knownD
 rw [if_neg (by rw [he]; decide), h.has k hk]
 rfl
theorem clean_fs {a b : Nat} {s : Nat → List UInt8} : ∀ (N : List (List UInt8)) (D : Dk) (p : Nat → Prop), Fs D.files s p → D.off = false → D.fuse = -1 → N.Nodup → (∀ x ∈ N, ∃ k, p k ∧ x = nameB k) → ∃ D', cleanL a b N D = (0, D') ∧ Fs D'.files s (fun k => p k ∧ ¬ (nameB k ∈ N ∧ (k < a ∨ b < k))) ∧ D'.off = false ∧ D'.fuse = -1
 | [], D, p, h, ho, hf, _, _ => ⟨D, rfl, h.congr (fun k => by simp) (fun _ _ => rfl), ho, hf⟩
 | x :: N, D, p, h, ho, hf, hnd, hN => by
  obtain ⟨k, hk, rfl⟩ := hN x (by simp)
  have hb := h.num k hk
  have hnum := num_name k hb.1 hb.2
  rw [List.nodup_cons] at hnd
  rw [cleanL, hnum]
  by_cases hc : k = 0 ∨ k < a ∨ b < k
  ·have hrm : removeD D (nameB k) = (0, { stepD D with files := delF D.files (nameB k) }) := by rw [remove_ok h ho hk, if_neg (by rw [hf]; decide)]
   rw [if_pos hc, hrm]
   dsimp only
   rw [if_neg (fun h => h rfl)]
   obtain ⟨D', h1, h2, h3, h4⟩ := clean_fs (a := a) (b := b) N { stepD D with files := delF D.files (nameB k) } (fun i => p i ∧ i ≠ k) (h.del k (by omega)) ho (by show max (D.fuse - 1) (-1) = -1; rw [hf]; rfl) hnd.2 (fun y hy => by
    obtain ⟨i, hi, rfl⟩ := hN y (by simp [hy])
    exact ⟨i, ⟨hi, fun e => by subst e; exact hnd.1 hy⟩, rfl⟩)
   refine ⟨D', h1, h2.congr (fun i => ?_) (fun _ _ => rfl), h3, h4⟩
   constructor
   ·rintro ⟨hp, hn⟩
    refine ⟨⟨hp, fun e => hn ⟨by subst e; simp, by subst e; omega⟩⟩, fun hh => hn ⟨by simp [hh.1], hh.2⟩⟩
   ·rintro ⟨⟨hp, hik⟩, hn⟩
    refine ⟨hp, fun hh => hn ⟨?_, hh.2⟩⟩
    rcases List.mem_cons.1 hh.1 with e | e
    ·have hbi := h.num i hp
     exact absurd (name_inj (by omega) (by omega) e) hik
    ·exact e
  ·rw [if_neg hc]
   obtain ⟨D', h1, h2, h3, h4⟩ := clean_fs (a := a) (b := b) N D p h ho hf hnd.2 (fun y hy => hN y (by simp [hy]))
   refine ⟨D', h1, h2.congr (fun i => ?_) (fun _ _ => rfl), h3, h4⟩
   constructor
   ·rintro ⟨hp, hn⟩
    exact ⟨hp, fun hh => hn ⟨by simp [hh.1], hh.2⟩⟩
   ·rintro ⟨hp, hn⟩
    refine ⟨hp, fun hh => hn ⟨?_, hh.2⟩⟩
    rcases List.mem_cons.1 hh.1 with e | e
    ·have hbi := h.num i hp
     have := name_inj (by omega) (by omega) e
     subst this
     exact absurd (.inr hh.2) hc
    ·exact e
theorem Fs.nodup {F : List (List UInt8 × Fi)} {s : Nat → List UInt8} {p : Nat → Prop} (h : Fs F s p) : (F.map (·.1)).Nodup := List.pairwise_map.2 (h.srt.imp fun h e => by rw [e] at h; exact List.lt_irrefl _ h)
theorem follows_zero {a c : Sg} (h : a.kind ≠ 2) : followsF a c = none := by unfold followsF; rw [if_pos (.inl h)]
theorem readS_nil : readS [] = ⟨[], 0, [], 0⟩ := readS_zero openF_nil
/-- What is found where the segments from f to n follow each other, and no later one does. -/
theorem open_core {D : Dk} {s : Nat → List UInt8} {p : Nat → Prop} {f n : Nat} {C : List (List UInt8)} (h : Fs D.files s p) (ho : D.off = false) (hfu : D.fuse = -1) (hl : Link s f n C) (hin : ∀ k, f ≤ k → k ≤ n → p k) (hk : (readS (s f)).kind = 1)
  (hlt : ∀ k, p k → n < k → (readS (s k)).kind ≠ 1) (hnx : p (n + 1) → followsF (readS (s (n + 1))) (readS (s n)) = none) :
  ∃ D', openL D = (0, some (⟨n, (scanF (s n)).2, decide ((scanF (s n)).2 < (s n).length), f⟩, (readS (s f)).base, C ++ (scanF (s n)).1.tail), D') ∧ Fs D'.files s (fun k => f ≤ k ∧ k ≤ n) ∧ D'.off = false ∧ D'.fuse = -1 ∧ ((∀ k, p k → f ≤ k ∧ k ≤ n) → D' = D) := by
 have hle := hl.le
 have hf9 := h.num f (hin f (Nat.le_refl _) hle)
 have hn9 := h.num n (hin n hle (Nat.le_refl _))
 have hN := h.names ho
 have hmem : ∀ x ∈ D.files.map (·.1), ∃ k, p k ∧ x = nameB k := fun x hx => by
  obtain ⟨t, ht, rfl⟩ := List.mem_map.1 hx
  obtain ⟨k, hk, rfl⟩ := h.all t ht
  exact ⟨k, hk, rfl⟩
 have hF : firstL D (D.files.map (·.1)) = (f, readS (s f)) := by
  refine first_is _ _ (fun x hx hkx => ?_) (Nat.zero_le _) (fun e => by dsimp only at e; omega) (.inr ⟨nameB f, ?_, num_name f hf9.1 hf9.2, by rw [h.read ho (hin f (Nat.le_refl _) hle)]; exact hk⟩)
  ·obtain ⟨k, hpk, rfl⟩ := hmem x hx
   have hb := h.num k hpk
   rw [h.read ho hpk] at hkx ⊢
   rw [num_name k hb.1 hb.2]
   refine ⟨?_, fun e => by rw [e]⟩
   by_cases h1 : k ≤ f
   ·exact h1
   ·by_cases h2 : k ≤ n
    ·have := hl.kind k (by omega) h2
     rw [this] at hkx; exact absurd hkx (by decide)
    ·exact absurd hkx (hlt k hpk (by omega))
  ·exact List.mem_map.2 ⟨_, getF_mem (h.has f (hin f (Nat.le_refl _) hle)), rfl⟩
 have hC : chainD D = (n, readS (s n), C) := by
  unfold chainD
  rw [hN, hF]
  dsimp only
  rw [if_pos (by omega), chain_link hl [] (fun k a b => h.read ho (hin k (by omega) b)) hn9.2, chain_stop _ (fun hn => ?_), List.nil_append]
  by_cases hp : p (n + 1)
  ·rw [h.read ho hp]; exact hnx hp
  ·rw [h.read0 (by omega) hp, readS_nil]; exact follows_zero (by decide)
 have hT : tailD D = (C ++ (scanF (s n)).1.tail, (scanF (s n)).2, decide ((scanF (s n)).2 < (s n).length)) := by
  unfold tailD
  rw [hN, hF, hC]
  dsimp only
  rw [if_pos (by omega), readS_bytes]
 obtain ⟨D', hD, hFs, h1, h2⟩ := clean_fs (a := f) (b := n) _ D p h ho hfu h.nodup hmem
 refine ⟨D', ?_, ?_, h1, h2, fun hall => ?_⟩
 ·unfold openL
  rw [if_neg (by rw [ho]; decide), hN, hF, hC, hT]
  dsimp only
  rw [hD, if_neg (fun h => h rfl)]
 ·refine hFs.congr (fun k => ?_) (fun _ _ => rfl)
  constructor
  ·rintro ⟨a, b⟩
   exact ⟨hin k a b, fun hh => by omega⟩
  ·rintro ⟨hp, hh⟩
   have : nameB k ∈ D.files.map (·.1) := List.mem_map.2 ⟨_, getF_mem (h.has k hp), rfl⟩
   have hh2 : ¬ (k < f ∨ n < k) := fun e => hh ⟨this, e⟩
   omega
 ·rw [clean_keep _ D (fun x hx => by
   obtain ⟨k, hpk, rfl⟩ := hmem x hx
   have hb := h.num k hpk
   have := hall k hpk
   rw [num_name k hb.1 hb.2]; omega)] at hD
  injection hD with _ hD
  exact hD.symm
theorem open_none {D : Dk} {s : Nat → List UInt8} {p : Nat → Prop} (h : Fs D.files s p) (ho : D.off = false) (hfu : D.fuse = -1) (hk : ∀ k, p k → (readS (s k)).kind ≠ 1) :
  ∃ D', openL D = (0, some (⟨0, 0, false, 0⟩, [], []), D') ∧ Fs D'.files s (fun _ => False) ∧ D'.off = false ∧ D'.fuse = -1 ∧ ((∀ k, ¬ p k) → D' = D) := by
 have hN := h.names ho
 have hmem : ∀ x ∈ D.files.map (·.1), ∃ k, p k ∧ x = nameB k := fun x hx => by
  obtain ⟨t, ht, rfl⟩ := List.mem_map.1 hx
  obtain ⟨k, hk, rfl⟩ := h.all t ht
  exact ⟨k, hk, rfl⟩
 have hF : firstL D (D.files.map (·.1)) = (0, zeroSg) := first_none _ _ fun x hx => by
  obtain ⟨k, hpk, rfl⟩ := hmem x hx
  rw [h.read ho hpk]; exact hk k hpk
 have hC : chainD D = (0, zeroSg, []) := by
  unfold chainD
  rw [hN, hF, if_neg (by decide)]
 have hT : tailD D = ([], 0, false) := by
  unfold tailD
  rw [hN, hF, if_neg (by decide)]
 obtain ⟨D', hD, hFs, h1, h2⟩ := clean_fs (a := 0) (b := 0) _ D p h ho hfu h.nodup hmem
 refine ⟨D', ?_, ?_, h1, h2, fun hall => ?_⟩
 ·unfold openL
  rw [if_neg (by rw [ho]; decide), hN, hF, hC, hT]
  dsimp only
  rw [hD, if_neg (fun h => h rfl)]
  rfl
 ·refine hFs.congr (fun k => ?_) (fun _ _ => rfl)
  constructor
  ·exact fun h => h.elim
  ·rintro ⟨hp, hh⟩
   have := h.num k hp
   exact hh ⟨List.mem_map.2 ⟨_, getF_mem (h.has k hp), rfl⟩, by omega⟩
 ·have e := h.nil hall
  rw [e, List.map_nil, cleanL] at hD
  injection hD with _ hD
  exact hD.symm
end Go.Proofs.YtcmdmhmgffjknaaGreatDoor

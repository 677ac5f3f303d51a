/- The answers that the law asks for first: values. -/
import Derived.Test.YtcmdmhmgffjknaaGreatDoorWal25
namespace Go.Proofs.YtcmdmhmgffjknaaGreatDoor
open Go.Sx
set_option linter.unusedVariables false

def n1 : List UInt8 := [108, 111, 103, 46, 49]
def n2 : List UInt8 := [108, 111, 103, 46, 50]
def n3 : List UInt8 := [108, 111, 103, 46, 51]
theorem name1 : nameB 1 = n1 := by unfold nameB; rw [show ((1 : Nat) : Int) = ((1 : Nat) : Int) from rfl, itoa_nat, Lib.decDigits_one (by omega)]; rfl
theorem name2 : nameB 2 = n2 := by unfold nameB; rw [itoa_nat, Lib.decDigits_one (by omega)]; rfl
theorem name3 : nameB 3 = n3 := by unfold nameB; rw [itoa_nat, Lib.decDigits_one (by omega)]; rfl
theorem fine1 : fineB n1 = true := by decide
theorem fine2 : fineB n2 = true := by decide
theorem fine3 : fineB n3 = true := by decide
theorem num1 : numB n1 = 1 := by rw [← name1]; exact num_name 1 (by omega) (by omega)
theorem num2 : numB n2 = 2 := by rw [← name2]; exact num_name 2 (by omega) (by omega)
theorem mn21 : min (2 : Int) 1 = 1 := by decide
theorem mx21 : max (-1 - 1 : Int) (-1) = -1 := by decide
def L0 : Lg := ⟨0, 0, false, 0⟩
theorem openL_empty : openL emptyD = (0, some (L0, [], []), emptyD) := by
  have hN : namesD emptyD logP = [] := by decide
  unfold openL tailD chainD
  rw [hN]
  rfl
def s1 : List UInt8 := sealB [numsB [1, 0]] ++ sealB [[97, 98]]
def s2 : List UInt8 := baseB [120]
def s3 : List UInt8 := sealB [[99], []]
theorem vb_one (k : Nat) (h : k ≤ 127) : (vb k).length = 1 := by rw [vb_le h]; rfl
theorem s1_len : s1.length = 14 := by
  have e1 : (numsB [1, 0]).length = 2 := by simp [numsB, vb_le]
  unfold s1 sealB
  simp only [List.flatMap_cons, List.flatMap_nil, List.append_nil, List.length_append, frameB_len, e1]
  rw [vb_one _ (by omega), vb_one _ (by simp)]
  rfl
theorem s2_len : s2.length = 8 := by
  have e1 : (numsB [1] ++ textB [[120]]).length = 3 := by simp [numsB, textB, vb_le]
  unfold s2 baseB sealB
  simp only [List.flatMap_cons, List.flatMap_nil, List.append_nil, frameB_len, e1]
  rw [vb_one _ (by omega)]
theorem s3_len : s3.length = 11 := by
  unfold s3 sealB
  simp only [List.flatMap_cons, List.flatMap_nil, List.append_nil, List.length_append, frameB_len]
  rw [vb_one _ (by simp), vb_one _ (by simp)]
  rfl
def D1 : Dk := ⟨[(n1, ⟨s1, 14, true⟩)], -1, false, 2⟩
def D2 : Dk := ⟨[(n2, ⟨s2, 8, true⟩)], -1, false, 5⟩
def D3 : Dk := ⟨[(n2, ⟨s2 ++ s3, 19, true⟩)], -1, false, 7⟩
theorem write_empty (s : List UInt8) (h : s.length ≤ 1048576) : writeD emptyD n1 s = (0, ⟨[(n1, ⟨s, s.length, true⟩)], -1, false, 2⟩) := by
  have h1 : ¬ 1048576 < s.length := by omega
  simp [writeD, appendD, syncD, knownD, readyE, fine1, emptyD, getF, setF, stepD, h1, mn21, mx21]
theorem app1_val : appendL L0 emptyD [[97, 98]] = (0, ⟨1, 14, false, 1⟩, D1) := by
  have hl := s1_len
  have e : (sealB [[97, 98]]).length = 7 := by
    unfold sealB
    simp only [List.flatMap_cons, List.flatMap_nil, List.append_nil, frameB_len]
    rw [vb_one _ (by simp)]; rfl
  have hne : sealB [[97, 98]] ≠ [] := fun h => by rw [h] at e; cases e
  have hh := (numsB_len2 1 0 (by decide) (by decide)).2
  have hf : fullB (numsB [1, 0]) (sealB [[97, 98]]) = s1 := by unfold fullB; rw [if_neg hh]; rfl
  have hp : planL L0 = some (numsB [1, 0], 1, 0, false) := by unfold planL; rw [if_pos (show L0.number = 0 from rfl)]
  have hw := write_empty s1 (by omega)
  unfold appendL
  rw [if_neg (by simp), if_neg (by omega), if_neg hne, hp]
  dsimp only
  rw [hf, name1, hw]
  dsimp only
  rw [if_neg (by decide), hl]
  rfl
theorem lay_val : layL ⟨1, 14, false, 1⟩ D1 [120] = (0, ⟨2, 8, false, 2⟩, D2) := by
  have hl := s2_len
  have hw : writeD D1 n2 s2 = (0, ⟨[(n1, ⟨s1, 14, true⟩), (n2, ⟨s2, 8, true⟩)], -1, false, 4⟩) := by
    have h1 : ¬ 1048576 < s2.length := by omega
    have hn : ¬ n1 = n2 := by decide
    have hn2 : ¬ n2 < n1 := by decide
    simp [writeD, appendD, syncD, knownD, readyE, fine2, D1, getF, setF, stepD, h1, hn, hn2, hl, mn21, mx21]
  have hr : removeD ⟨[(n1, ⟨s1, 14, true⟩), (n2, ⟨s2, 8, true⟩)], -1, false, 4⟩ n1 = (0, D2) := by
    have hn : ¬ n2 = n1 := by decide
    simp [removeD, knownD, readyE, fine1, D2, getF, delF, stepD, hn, mn21, mx21]
  have hb : baseB [120] = s2 := rfl
  unfold layL
  rw [if_neg (by simp), if_neg (by decide)]
  dsimp only
  rw [name2, hb, hw]
  dsimp only
  rw [if_neg (by decide)]
  show ((remD _ 1 1).1, _, (remD _ 1 1).2) = _
  rw [remD, name1, hr, if_neg (by decide), remD, hl]
theorem app2_val : appendL ⟨2, 8, false, 2⟩ D2 [[99], []] = (0, ⟨2, 19, false, 2⟩, D3) := by
  have hl := s3_len
  have hl2 := s2_len
  have hne : sealB [[99], []] ≠ [] := fun h => by have : s3 = [] := h; rw [this] at hl; cases hl
  have hp : planL ⟨2, 8, false, 2⟩ = some ([], 2, 8, false) := by unfold planL; rw [if_neg (by decide), if_neg (by decide)]
  have hf : fullB [] (sealB [[99], []]) = s3 := by unfold fullB; rw [if_pos rfl]; rfl
  have h6 : ¬ 65536 < (sealB [[99], []]).length := by have : (sealB [[99], []]).length = s3.length := rfl; omega
  have hw : writeD D2 n2 s3 = (0, D3) := by
    have h1 : ¬ 1048576 < s3.length + s2.length := by omega
    have h2 : s2.length + s3.length = 19 := by omega
    simp [writeD, appendD, syncD, knownD, readyE, fine2, D2, D3, getF, setF, stepD, h1, h2, mn21, mx21]
  unfold appendL
  rw [if_neg (by simp), if_neg h6, if_neg hne, hp]
  dsimp only
  rw [hf, name2, hw]
  dsimp only
  rw [if_neg (by decide), hl]
  rfl
theorem open3_val : ∃ L D', openL D3 = (0, some (L, [120], [[99], []]), D') := by
  have hl := s3_len
  have hl2 := s2_len
  have hN : namesD D3 logP = [n2] := by
    unfold namesD
    rw [if_neg (by simp [D3])]
    show [n2].filter _ = [n2]
    decide
  have hr : readD D3 n2 = (s2 ++ s3, true) := by simp [readD, D3, getF]
  have hs : readS (s2 ++ s3) = ⟨s2 ++ s3, 1, [120], 0⟩ := readS_base [120] s3 (by simp)
  have hF : firstL D3 [n2] = (2, ⟨s2 ++ s3, 1, [120], 0⟩) := by
    show stepF D3 (0, zeroSg) n2 = _
    unfold stepF
    rw [hr, num2]
    dsimp only
    rw [hs, if_pos ⟨by omega, rfl⟩]
  have hr3 : (readD D3 (nameB 3)).1 = [] := by
    have hn : ¬ n2 = n3 := by decide
    rw [name3]; simp [readD, D3, getF, hn]
  have hz : readS [] = ⟨[], 0, [], 0⟩ := by unfold readS; rw [openF_nil]
  have hC : chainD D3 = (2, ⟨s2 ++ s3, 1, [120], 0⟩, []) := by
    unfold chainD
    rw [hN, hF, if_pos (by decide)]
    show chainL D3 (999999996 + 1) 2 _ [] = _
    rw [chainL, hr3, hz]
    have hfo : followsF ⟨[], 0, [], 0⟩ ⟨s2 ++ s3, 1, [120], 0⟩ = none := by unfold followsF; rw [if_pos (.inl (by decide))]
    rw [hfo]
  have hsc : scanF (s2 ++ s3) = ([numsB [1] ++ textB [[120]], [99], []], 19) := by
    have e : s2 ++ s3 = sealB [numsB [1] ++ textB [[120]], [99], []] := by simp [s2, s3, baseB, sealB]
    rw [e, scanF_sealed _ (by
      intro p hp
      have e1 : (numsB [1] ++ textB [[120]]).length = 3 := by simp [numsB, textB, vb_le]
      simp only [List.mem_cons, List.not_mem_nil, or_false] at hp
      rcases hp with rfl | rfl | rfl
      · omega
      · simp
      · simp), ← e, List.length_append]
    rw [hl, hl2]
  have hT : tailD D3 = ([[99], []], 19, decide (19 < (s2 ++ s3).length)) := by
    unfold tailD
    rw [hN, hF, if_pos (by decide), hC]
    dsimp only
    rw [hsc]
    rfl
  have hK : cleanL 2 2 [n2] D3 = (0, D3) := by
    rw [cleanL, num2, if_neg (by omega), cleanL]
  unfold openL
  rw [if_neg (by simp [D3]), hN, hF, hC, hT]
  dsimp only
  rw [hK]
  exact ⟨_, _, rfl⟩
theorem read1_val : readD D1 n1 = (s1, true) := by simp [readD, D1, getF]
theorem read2_val : readD D2 n1 = ([], false) := by
  have hn : ¬ n2 = n1 := by decide
  simp [readD, D2, getF, hn]
end Go.Proofs.YtcmdmhmgffjknaaGreatDoor

/- A reader of packed bytes: functions 58, 59, 100, 99, 97, 98. -/
import Derived.Test.YtcmdmhmgffjknaaGreatDoorFacts
import Derived.Test.YtcmdmhmgffjknaaGreatDoorWal4
namespace Go.Proofs.YtcmdmhmgffjknaaGreatDoor
open Go.Sx
set_option linter.unusedVariables false

/-! what a reader reads -/
def zstep (k : Nat) (z : BitVec 64) (c : UInt8) : BitVec 64 := z ||| ((c.toBitVec &&& 127#8).setWidth 64) <<< (7 * k)
def numGo : Nat → BitVec 64 → List UInt8 → Option (BitVec 64 × List UInt8)
  | _, _, [] => none
  | k, z, c :: s => if k = 9 ∧ 1 < c.toNat then none else if ¬ (c.toBitVec &&& 128#8).toNat = 0 then numGo (k + 1) (zstep k z c) s else if c.toNat = 0 ∧ 0 < k then none else some (zstep k z c, s)
def zig (z : BitVec 64) : Int := if (z &&& 1#64).toNat = 0 then ((z >>> 1).toNat : Int) else -1 - ((z >>> 1).toNat : Int)
abbrev Rd := List UInt8 × Bool
def numR (r : Rd) : Int × Rd := if r.2 = true then (0, r) else (((numGo 0 0 r.1).map (fun q => zig q.1)).getD 0, ((numGo 0 0 r.1).map (·.2)).getD r.1, !(numGo 0 0 r.1).isSome)
def rdc (r : Nat) (x : Rd) : HP := blk r 136 [str x.1, .bool x.2]

set_option maxRecDepth 100000 in
theorem cont_iff' : ∀ x : Fin 256, (BitVec.ofNat 8 x.val &&& 128#8).toNat = 0 ↔ x.val < 128 := by decide
theorem cont_iff (c : UInt8) : (c.toBitVec &&& 128#8).toNat = 0 ↔ c.toNat < 128 := by
  have h := cont_iff' ⟨c.toNat, c.toBitVec.isLt⟩
  have e : BitVec.ofNat 8 c.toNat = c.toBitVec := by apply BitVec.eq_of_toNat_eq; simp
  rw [e] at h; exact h

theorem shr1_lt (z : BitVec 64) : (z >>> 1).toNat < 9223372036854775808 := by
  have := z.isLt
  rw [BitVec.toNat_ushiftRight, Nat.shiftRight_eq_div_pow]; omega
theorem and1 (z : BitVec 64) : (z &&& 1#64).toNat = 0 ∨ (z &&& 1#64).toNat = 1 := by
  have : (z &&& 1#64).toNat = z.toNat % 2 := by
    rw [BitVec.toNat_and]; exact Nat.and_one_is_mod _
  omega

theorem r_zig {C : Cx} {e : Env} {Rs : List HP} {x y : Operand} {ty T T2 : TypeId} (z : BitVec 64) (hx : ev e x = some (.int .i64 ((z >>> 1).toNat : Int))) (hy : ev e y = some (.int .i64 (-((z &&& 1#64).toNat : Int)))) : Yld C e Rs (.binOp .xor T x y T2) ty (.int .i64 (zig z)) := by
  rcases and1 z with h | h
  · rw [zig, if_pos h]; rw [h] at hy; exact r_xor0 _ (shr1_lt z) hx hy
  · rw [zig, if_neg (by omega)]; rw [h] at hy; exact r_xor1 _ (shr1_lt z) hx hy
theorem num1_tr {W0 : World} (b1 b2 r : Nat) (s : List UInt8) (Fr : List HP) (hs : s.length ≤ maxS) :
    Tr W0 Tryz.prog 100 [.pointer (some ⟨b1, 0, none⟩), .pointer (some ⟨b2, 0, none⟩)] (rdc r (s, false) :: blk b1 104 [.pointer (some ⟨r, 0, none⟩)] :: blk b2 3 [.int .i64 0] :: Fr)
      (fun v Rs' => v = .bool (numGo 0 0 s).isSome ∧ Rs' = rdc r (((numGo 0 0 s).map (·.2)).getD s, false) :: blk b1 104 [.pointer (some ⟨r, 0, none⟩)] :: blk b2 3 [.int .i64 (((numGo 0 0 s).map (fun q => zig q.1)).getD 0)] :: Fr) := by
  have hmax : maxS = 140737488355328 := rfl
  unfold rdc
  refine Entry.tr (N := 64) (rs := [.tmp 2]) ⟨_, Tryz.func100, rfl, by kernel_rfl, rfl, rfl⟩ rfl ?_
  refine XC.seq fun K1 hK1 => ?_
  refine XC.region ?_
  refine x_v (r_as rfl) rfl ?_
  refine XL.nil ?_
  refine hK1 _ _ ?_
  refine XC.keep [(0, _), (1, _)] ⟨rfl, rfl, trivial⟩ ?_
  refine XC.seq fun K2 hK2 => ?_
  refine XC.region ?_
  refine x_v (r_as rfl) rfl ?_
  refine x_v (r_as rfl) rfl ?_
  refine XL.nil ?_
  refine hK2 _ _ ?_
  refine XC.keep [(0, _), (1, _), (3, _), (4, _)] ⟨rfl, rfl, rfl, rfl, trivial⟩ ?_
  refine XC.seq fun K3 hK3 => ?_
  refine XC.seq fun K4 hK4 => ?_
  refine XC.region ?_
  refine x_v (r_as rfl) rfl ?_
  refine XL.nil ?_
  refine hK4 _ _ ?_
  refine XC.keep [(0, _), (1, _), (3, _), (4, _), (5, _)] ⟨rfl, rfl, rfl, rfl, rfl, trivial⟩ ?_
  refine XC.block ?_
  refine XC.loop (σ := Nat × BitVec 64) (fun q => [(0, .pointer (some ⟨b1, 0, none⟩)), (1, .pointer (some ⟨b2, 0, none⟩)), (3, .int .u64 (q.2.toNat : Int)), (4, .int .i64 ((7 * q.1 : Nat) : Int)), (5, .int .i64 (q.1 : Int))]) (fun q => blk b1 104 [.pointer (some ⟨r, 0, none⟩)] :: blk b2 3 [.int .i64 0] :: blk r 136 [str s, .bool false] :: Fr) (fun q => q.1 ≤ 9 + 0 * q.1 ∧ q.1 ≤ s.length ∧ numGo 0 0 s = numGo q.1 q.2 (s.drop q.1)) (fun q => s.length - q.1) (0, 0#64) ?_ ⟨rfl, rfl, rfl, rfl, rfl, trivial⟩ gS ?_
  · exact ⟨Nat.zero_le _, Nat.zero_le _, rfl⟩
  rintro ⟨i, z⟩ ⟨hi9, hi, hg⟩
  dsimp only at hi9 hi hg ⊢
  refine XC.seq fun K5 hK5 => ?_
  refine XC.seq fun K6 hK6 => ?_
  refine XC.region ?_
  refine x_v (r_mv rfl) rfl ?_
  refine x_v (r_ld ty104 rfl pK (by rfl)) rfl ?_
  refine x_v (r_nc rfl) rfl ?_
  refine x_v (r_fa fo136_0 rfl) rfl ?_
  refine x_v (r_ld ty9 rfl pK (by rfl)) rfl ?_
  refine x_v (r_lens Tryz.underlying9 rfl) rfl ?_
  refine x_v (r_lt rfl rfl) rfl ?_
  refine XL.nil ?_
  refine hK6 _ _ ?_
  refine XC.keep [(0, _), (1, _), (3, _), (4, _), (5, _), (13, _)] ⟨rfl, rfl, rfl, rfl, rfl, rfl, trivial⟩ ?_
  refine XC.cond_d rfl (fun hc1 => ?_) (fun hc1 => ?_)
  · refine XC.skip ?_
    refine hK5 _ _ ?_
    refine XC.keep [(0, _), (1, _), (3, _), (4, _), (5, _)] ⟨rfl, rfl, rfl, rfl, rfl, trivial⟩ ?_
    refine XC.seq fun K7 hK7 => ?_
    refine XC.block ?_
    refine XC.seq fun K8 hK8 => ?_
    obtain ⟨c, hc⟩ : ∃ c, s[i]? = some c := ⟨_, List.getElem?_eq_getElem (by omega)⟩
    have hd : s.drop i = c :: s.drop (i + 1) := by rw [List.drop_eq_getElem_cons (show i < s.length by omega), (List.getElem?_eq_some_iff.1 hc).2]
    refine XC.region ?_
    refine x_v (r_ld ty104 rfl pK (by rfl)) rfl ?_
    refine x_v (r_nc rfl) rfl ?_
    refine x_v (r_fa fo136_0 rfl) rfl ?_
    refine x_v (r_ld ty9 rfl pK (by rfl)) rfl ?_
    refine x_v (r_mv rfl) rfl ?_
    refine x_v (r_six (k := i) Tryz.underlying9 rfl rfl (by omega) hc) rfl ?_
    refine x_v (r_as rfl) rfl ?_
    refine XL.nil ?_
    refine hK8 _ _ ?_
    refine XC.keep [(0, _), (1, _), (3, _), (4, _), (5, _), (6, _)] ⟨rfl, rfl, rfl, rfl, rfl, rfl, trivial⟩ ?_
    refine XC.seq fun K9 hK9 => ?_
    refine XC.seq fun K10 hK10 => ?_
    refine XC.region ?_
    refine x_v (r_mv rfl) rfl ?_
    refine x_v (r_eq rfl rfl) rfl ?_
    refine x_v (r_mv rfl) rfl ?_
    refine XL.splitd 24 rfl (fun hg24 => ?_) (fun hg24 => ?_)
    · refine x_want rfl rfl rfl ?_
      refine x_v (r_mv rfl) rfl ?_
      refine x_want rfl rfl rfl ?_
      refine x_v (r_gt rfl rfl) rfl ?_
      refine x_v (r_pk_t rfl rfl) rfl ?_
      refine XL.nil ?_
      refine hK10 _ _ ?_
      refine XC.keep [(0, _), (1, _), (3, _), (4, _), (5, _), (6, _), (27, _)] ⟨rfl, rfl, rfl, rfl, rfl, rfl, rfl, trivial⟩ ?_
      refine XC.cond_d rfl (fun hc2 => ?_) (fun hc2 => ?_)
      · refine XC.seq fun K11 hK11 => ?_
        refine XC.region ?_
        refine x_v (r_as rfl) rfl ?_
        refine XL.nil ?_
        refine hK11 _ _ ?_
        refine XC.keep [(2, _)] ⟨rfl, trivial⟩ ?_
        refine XC.ret ?_
        exact fin1 rfl ((by first | (have hN : numGo 0 0 s = none := (by rw [hg, List.drop_of_length_le (by omega)]; rfl); rw [hN]; exact ⟨rfl, rfl⟩) | (have hN : numGo 0 0 s = none := (by rw [hg, hd, numGo]; first | rw [if_pos ⟨by omega, by omega⟩] | rw [if_neg (by omega), if_neg (by omega), if_pos ⟨by omega, by omega⟩]); rw [hN]; exact ⟨rfl, rfl⟩) | (have hN : numGo 0 0 s = some (zstep i z c, s.drop (i + 1)) := (by rw [hg, hd, numGo, if_neg (by omega), if_neg (by omega), if_neg (by omega)]); rw [hN]; exact ⟨rfl, rfl⟩))) gS
      · refine XC.skip ?_
        refine hK9 _ _ ?_
        refine XC.keep [(0, _), (1, _), (3, _), (4, _), (5, _), (6, _)] ⟨rfl, rfl, rfl, rfl, rfl, rfl, trivial⟩ ?_
        refine XC.seq fun K12 hK12 => ?_
        refine XC.region ?_
        refine x_v (r_mv rfl) rfl ?_
        refine x_v (r_mv rfl) rfl ?_
        refine x_v (r_band (k := .u8) rfl c.toBitVec 127#8 rfl rfl) rfl ?_
        refine x_v (r_bcv (k := .u8) (k' := .u64) rfl (c.toBitVec &&& 127#8) Tryz.underlying5 Tryz.underlying138 rfl) rfl ?_
        refine x_v (r_mv rfl) rfl ?_
        refine x_v (r_bshl (k := .u64) rfl (7 * i) (by show 7 * i ≤ 64; omega) ((c.toBitVec &&& 127#8).setWidth 64) rfl rfl) rfl ?_
        refine x_v (yv (v' := .int .u64 ((zstep i z c).toNat : Int)) (r_bor (k := .u64) rfl z (((c.toBitVec &&& 127#8).setWidth 64) <<< (7 * i)) rfl rfl) rfl) rfl ?_
        refine x_v (r_as rfl) rfl ?_
        refine XL.nil ?_
        refine hK12 _ _ ?_
        refine XC.keep [(0, _), (1, _), (3, _), (4, _), (5, _), (6, _)] ⟨rfl, rfl, rfl, rfl, rfl, rfl, trivial⟩ ?_
        refine XC.seq fun K13 hK13 => ?_
        refine XC.seq fun K14 hK14 => ?_
        refine XC.region ?_
        refine x_v (r_mv rfl) rfl ?_
        refine x_v (yv (v' := .int .i64 ((7 * (i + 1) : Nat) : Int)) (r_add rfl rfl (by omega)) (by congr 1)) rfl ?_
        refine x_v (r_as rfl) rfl ?_
        refine XL.nil ?_
        refine hK14 _ _ ?_
        refine XC.keep [(0, _), (1, _), (3, _), (4, _), (5, _), (6, _)] ⟨rfl, rfl, rfl, rfl, rfl, rfl, trivial⟩ ?_
        refine XC.seq fun K15 hK15 => ?_
        refine XC.region ?_
        refine x_v (r_mv rfl) rfl ?_
        refine x_v (yv (v' := .int .u8 (((c.toBitVec &&& 128#8).toNat : Nat) : Int)) (r_band (k := .u8) rfl c.toBitVec 128#8 rfl rfl) rfl) rfl ?_
        refine x_v (r_ne rfl rfl) rfl ?_
        refine XL.nil ?_
        refine hK15 _ _ ?_
        refine XC.keep [(0, _), (1, _), (3, _), (4, _), (5, _), (6, _), (39, _)] ⟨rfl, rfl, rfl, rfl, rfl, rfl, rfl, trivial⟩ ?_
        refine XC.cond_d rfl (fun hc3 => ?_) (fun hc3 => ?_)
        · refine XC.exit rfl ?_
          refine hK7 _ _ ?_
          refine XC.keep [(0, _), (1, _), (3, _), (4, _), (5, _)] ⟨rfl, rfl, rfl, rfl, rfl, trivial⟩ ?_
          refine XC.region ?_
          refine x_v (r_mv rfl) rfl ?_
          refine x_v (r_add rfl rfl (by omega)) rfl ?_
          refine x_v (r_as rfl) rfl ?_
          refine XL.nil ?_
          have hct := cont_iff c
          refine ⟨(i + 1, zstep i z c), ?_, ?_, ⟨rfl, rfl, rfl, rfl, rfl, trivial⟩, gS⟩
          · exact ⟨by dsimp only; omega, by dsimp only; omega, by dsimp only; rw [hg, hd, numGo, if_neg (by omega), if_pos (by omega)]⟩
          · dsimp only; omega
        · refine XC.skip ?_
          refine hK13 _ _ ?_
          refine XC.keep [(0, _), (1, _), (3, _), (5, _), (6, _)] ⟨rfl, rfl, rfl, rfl, rfl, trivial⟩ ?_
          refine XC.seq fun K16 hK16 => ?_
          refine XC.seq fun K17 hK17 => ?_
          refine XC.region ?_
          refine x_v (r_mv rfl) rfl ?_
          refine x_v (r_eq rfl rfl) rfl ?_
          refine x_v (r_mv rfl) rfl ?_
          refine XL.splitd 42 rfl (fun hg42 => ?_) (fun hg42 => ?_)
          · refine x_want rfl rfl rfl ?_
            refine x_v (r_mv rfl) rfl ?_
            refine x_want rfl rfl rfl ?_
            refine x_v (r_gt rfl rfl) rfl ?_
            refine x_v (r_pk_t rfl rfl) rfl ?_
            refine XL.nil ?_
            refine hK17 _ _ ?_
            refine XC.keep [(0, _), (1, _), (3, _), (5, _), (45, _)] ⟨rfl, rfl, rfl, rfl, rfl, trivial⟩ ?_
            refine XC.cond_d rfl (fun hc4 => ?_) (fun hc4 => ?_)
            · refine XC.seq fun K18 hK18 => ?_
              refine XC.region ?_
              refine x_v (r_as rfl) rfl ?_
              refine XL.nil ?_
              refine hK18 _ _ ?_
              refine XC.keep [(2, _)] ⟨rfl, trivial⟩ ?_
              refine XC.ret ?_
              exact fin1 rfl ((by first | (have hN : numGo 0 0 s = none := (by rw [hg, List.drop_of_length_le (by omega)]; rfl); rw [hN]; exact ⟨rfl, rfl⟩) | (have hN : numGo 0 0 s = none := (by rw [hg, hd, numGo]; first | rw [if_pos ⟨by omega, by omega⟩] | rw [if_neg (by omega), if_neg (by omega), if_pos ⟨by omega, by omega⟩]); rw [hN]; exact ⟨rfl, rfl⟩) | (have hN : numGo 0 0 s = some (zstep i z c, s.drop (i + 1)) := (by rw [hg, hd, numGo, if_neg (by omega), if_neg (by omega), if_neg (by omega)]); rw [hN]; exact ⟨rfl, rfl⟩))) gS
            · refine XC.skip ?_
              refine hK16 _ _ ?_
              refine XC.keep [(0, _), (1, _), (3, _), (5, _)] ⟨rfl, rfl, rfl, rfl, trivial⟩ ?_
              refine XC.seq fun K19 hK19 => ?_
              refine XC.draw [blk b1 104 [.pointer (some ⟨r, 0, none⟩)], blk r 136 [str s, .bool false]] true [(0, false), (1, false), (2, false), (3, false), (4, false), (5, false), (6, false), (7, false), (8, false), (9, false), (10, false), (11, false), (12, false), (13, false), (14, false), (15, false), (16, true), (17, false), (18, false), (19, true)] (by kernel_rfl) (by kernel_rfl) ?_
              refine y_v rfl (r_ld ty104 rfl pK (by rfl)) gT rfl ?_
              refine y_v rfl (r_mv rfl) gT rfl ?_
              refine y_v rfl (yv (v' := .int .u64 ((((zstep i z c) >>> 1 : BitVec 64).toNat : Nat) : Int)) (r_bshr (k := .u64) 1 (by decide) (zstep i z c) rfl rfl) rfl) gT rfl ?_
              refine y_v rfl (r_cvn Tryz.underlying138 Tryz.underlying3 rfl (IntWalk.i64_in _ (by have := shr1_lt (zstep i z c); omega))) gT rfl ?_
              refine y_v rfl (r_mv rfl) gT rfl ?_
              refine y_v rfl (yv (v' := .int .u64 ((((zstep i z c) &&& 1#64 : BitVec 64).toNat : Nat) : Int)) (r_band (k := .u64) rfl (zstep i z c) 1#64 rfl rfl) rfl) gT rfl ?_
              refine y_v rfl (r_cvn Tryz.underlying138 Tryz.underlying3 rfl (IntWalk.i64_in _ (by have := and1 (zstep i z c); omega))) gT rfl ?_
              refine y_v rfl (r_negi rfl (by rw [Int.zero_sub]; exact IntWalk.i64_in _ (by have := and1 (zstep i z c); omega))) gT rfl ?_
              refine y_v rfl (r_zig (zstep i z c) rfl rfl) gT rfl ?_
              refine y_v rfl (r_ld ty104 rfl pK (by rfl)) gT rfl ?_
              refine y_v rfl (r_nc rfl) gT rfl ?_
              refine y_v rfl (r_fa fo136_0 rfl) gT rfl ?_
              refine y_v rfl (r_ld ty9 rfl pK (by rfl)) gT rfl ?_
              refine y_v rfl (r_mv rfl) gT rfl ?_
              refine y_v rfl (r_add rfl rfl (by omega)) gT rfl ?_
              refine y_v rfl (yv (v' := str (s.drop (i + 1))) (r_ssl (i + 1) s.length Tryz.underlying9 rfl ⟨_, by rfl⟩ rfl (by omega) (by omega)) (congrArg str (List.take_of_length_le (by simp)))) gT rfl ?_
              refine y_e rfl (r_st ty3 rfl rfl rfl rfl rfl uD oV) (fun _ _ h => Gets.own gS h) ?_
              refine y_v rfl (r_nc rfl) gT rfl ?_
              refine y_v rfl (r_fa fo136_0 rfl) gT rfl ?_
              refine y_e rfl (r_st ty9 rfl rfl rfl rfl rfl uD oV) (fun h => absurd h (by decide)) ?_
              refine XH.nil ?_
              refine hK19 _ _ ?_
              refine XC.keep [] trivial ?_
              refine XC.seq fun K20 hK20 => ?_
              refine XC.region ?_
              refine x_v (r_as rfl) rfl ?_
              refine XL.nil ?_
              refine hK20 _ _ ?_
              refine XC.keep [(2, _)] ⟨rfl, trivial⟩ ?_
              refine XC.ret ?_
              exact fin1 rfl ((by first | (have hN : numGo 0 0 s = none := (by rw [hg, List.drop_of_length_le (by omega)]; rfl); rw [hN]; exact ⟨rfl, rfl⟩) | (have hN : numGo 0 0 s = none := (by rw [hg, hd, numGo]; first | rw [if_pos ⟨by omega, by omega⟩] | rw [if_neg (by omega), if_neg (by omega), if_pos ⟨by omega, by omega⟩]); rw [hN]; exact ⟨rfl, rfl⟩) | (have hN : numGo 0 0 s = some (zstep i z c, s.drop (i + 1)) := (by rw [hg, hd, numGo, if_neg (by omega), if_neg (by omega), if_neg (by omega)]); rw [hN]; exact ⟨rfl, rfl⟩))) gS
          · refine x_unwant rfl rfl rfl rfl rfl ?_
            refine x_unwant rfl rfl rfl rfl rfl ?_
            refine x_v (r_pk_f rfl rfl) rfl ?_
            refine XL.nil ?_
            refine hK17 _ _ ?_
            refine XC.keep [(0, _), (1, _), (3, _), (5, _), (45, _)] ⟨rfl, rfl, rfl, rfl, rfl, trivial⟩ ?_
            refine XC.cond_f rfl ?_
            refine XC.skip ?_
            refine hK16 _ _ ?_
            refine XC.keep [(0, _), (1, _), (3, _), (5, _)] ⟨rfl, rfl, rfl, rfl, trivial⟩ ?_
            refine XC.seq fun K21 hK21 => ?_
            refine XC.draw [blk b1 104 [.pointer (some ⟨r, 0, none⟩)], blk r 136 [str s, .bool false]] true [(0, false), (1, false), (2, false), (3, false), (4, false), (5, false), (6, false), (7, false), (8, false), (9, false), (10, false), (11, false), (12, false), (13, false), (14, false), (15, false), (16, true), (17, false), (18, false), (19, true)] (by kernel_rfl) (by kernel_rfl) ?_
            refine y_v rfl (r_ld ty104 rfl pK (by rfl)) gT rfl ?_
            refine y_v rfl (r_mv rfl) gT rfl ?_
            refine y_v rfl (yv (v' := .int .u64 ((((zstep i z c) >>> 1 : BitVec 64).toNat : Nat) : Int)) (r_bshr (k := .u64) 1 (by decide) (zstep i z c) rfl rfl) rfl) gT rfl ?_
            refine y_v rfl (r_cvn Tryz.underlying138 Tryz.underlying3 rfl (IntWalk.i64_in _ (by have := shr1_lt (zstep i z c); omega))) gT rfl ?_
            refine y_v rfl (r_mv rfl) gT rfl ?_
            refine y_v rfl (yv (v' := .int .u64 ((((zstep i z c) &&& 1#64 : BitVec 64).toNat : Nat) : Int)) (r_band (k := .u64) rfl (zstep i z c) 1#64 rfl rfl) rfl) gT rfl ?_
            refine y_v rfl (r_cvn Tryz.underlying138 Tryz.underlying3 rfl (IntWalk.i64_in _ (by have := and1 (zstep i z c); omega))) gT rfl ?_
            refine y_v rfl (r_negi rfl (by rw [Int.zero_sub]; exact IntWalk.i64_in _ (by have := and1 (zstep i z c); omega))) gT rfl ?_
            refine y_v rfl (r_zig (zstep i z c) rfl rfl) gT rfl ?_
            refine y_v rfl (r_ld ty104 rfl pK (by rfl)) gT rfl ?_
            refine y_v rfl (r_nc rfl) gT rfl ?_
            refine y_v rfl (r_fa fo136_0 rfl) gT rfl ?_
            refine y_v rfl (r_ld ty9 rfl pK (by rfl)) gT rfl ?_
            refine y_v rfl (r_mv rfl) gT rfl ?_
            refine y_v rfl (r_add rfl rfl (by omega)) gT rfl ?_
            refine y_v rfl (yv (v' := str (s.drop (i + 1))) (r_ssl (i + 1) s.length Tryz.underlying9 rfl ⟨_, by rfl⟩ rfl (by omega) (by omega)) (congrArg str (List.take_of_length_le (by simp)))) gT rfl ?_
            refine y_e rfl (r_st ty3 rfl rfl rfl rfl rfl uD oV) (fun _ _ h => Gets.own gS h) ?_
            refine y_v rfl (r_nc rfl) gT rfl ?_
            refine y_v rfl (r_fa fo136_0 rfl) gT rfl ?_
            refine y_e rfl (r_st ty9 rfl rfl rfl rfl rfl uD oV) (fun h => absurd h (by decide)) ?_
            refine XH.nil ?_
            refine hK21 _ _ ?_
            refine XC.keep [] trivial ?_
            refine XC.seq fun K22 hK22 => ?_
            refine XC.region ?_
            refine x_v (r_as rfl) rfl ?_
            refine XL.nil ?_
            refine hK22 _ _ ?_
            refine XC.keep [(2, _)] ⟨rfl, trivial⟩ ?_
            refine XC.ret ?_
            exact fin1 rfl ((by first | (have hN : numGo 0 0 s = none := (by rw [hg, List.drop_of_length_le (by omega)]; rfl); rw [hN]; exact ⟨rfl, rfl⟩) | (have hN : numGo 0 0 s = none := (by rw [hg, hd, numGo]; first | rw [if_pos ⟨by omega, by omega⟩] | rw [if_neg (by omega), if_neg (by omega), if_pos ⟨by omega, by omega⟩]); rw [hN]; exact ⟨rfl, rfl⟩) | (have hN : numGo 0 0 s = some (zstep i z c, s.drop (i + 1)) := (by rw [hg, hd, numGo, if_neg (by omega), if_neg (by omega), if_neg (by omega)]); rw [hN]; exact ⟨rfl, rfl⟩))) gS
    · refine x_unwant rfl rfl rfl rfl rfl ?_
      refine x_unwant rfl rfl rfl rfl rfl ?_
      refine x_v (r_pk_f rfl rfl) rfl ?_
      refine XL.nil ?_
      refine hK10 _ _ ?_
      refine XC.keep [(0, _), (1, _), (3, _), (4, _), (5, _), (6, _), (27, _)] ⟨rfl, rfl, rfl, rfl, rfl, rfl, rfl, trivial⟩ ?_
      refine XC.cond_f rfl ?_
      refine XC.skip ?_
      refine hK9 _ _ ?_
      refine XC.keep [(0, _), (1, _), (3, _), (4, _), (5, _), (6, _)] ⟨rfl, rfl, rfl, rfl, rfl, rfl, trivial⟩ ?_
      refine XC.seq fun K23 hK23 => ?_
      refine XC.region ?_
      refine x_v (r_mv rfl) rfl ?_
      refine x_v (r_mv rfl) rfl ?_
      refine x_v (r_band (k := .u8) rfl c.toBitVec 127#8 rfl rfl) rfl ?_
      refine x_v (r_bcv (k := .u8) (k' := .u64) rfl (c.toBitVec &&& 127#8) Tryz.underlying5 Tryz.underlying138 rfl) rfl ?_
      refine x_v (r_mv rfl) rfl ?_
      refine x_v (r_bshl (k := .u64) rfl (7 * i) (by show 7 * i ≤ 64; omega) ((c.toBitVec &&& 127#8).setWidth 64) rfl rfl) rfl ?_
      refine x_v (yv (v' := .int .u64 ((zstep i z c).toNat : Int)) (r_bor (k := .u64) rfl z (((c.toBitVec &&& 127#8).setWidth 64) <<< (7 * i)) rfl rfl) rfl) rfl ?_
      refine x_v (r_as rfl) rfl ?_
      refine XL.nil ?_
      refine hK23 _ _ ?_
      refine XC.keep [(0, _), (1, _), (3, _), (4, _), (5, _), (6, _)] ⟨rfl, rfl, rfl, rfl, rfl, rfl, trivial⟩ ?_
      refine XC.seq fun K24 hK24 => ?_
      refine XC.seq fun K25 hK25 => ?_
      refine XC.region ?_
      refine x_v (r_mv rfl) rfl ?_
      refine x_v (yv (v' := .int .i64 ((7 * (i + 1) : Nat) : Int)) (r_add rfl rfl (by omega)) (by congr 1)) rfl ?_
      refine x_v (r_as rfl) rfl ?_
      refine XL.nil ?_
      refine hK25 _ _ ?_
      refine XC.keep [(0, _), (1, _), (3, _), (4, _), (5, _), (6, _)] ⟨rfl, rfl, rfl, rfl, rfl, rfl, trivial⟩ ?_
      refine XC.seq fun K26 hK26 => ?_
      refine XC.region ?_
      refine x_v (r_mv rfl) rfl ?_
      refine x_v (yv (v' := .int .u8 (((c.toBitVec &&& 128#8).toNat : Nat) : Int)) (r_band (k := .u8) rfl c.toBitVec 128#8 rfl rfl) rfl) rfl ?_
      refine x_v (r_ne rfl rfl) rfl ?_
      refine XL.nil ?_
      refine hK26 _ _ ?_
      refine XC.keep [(0, _), (1, _), (3, _), (4, _), (5, _), (6, _), (39, _)] ⟨rfl, rfl, rfl, rfl, rfl, rfl, rfl, trivial⟩ ?_
      refine XC.cond_d rfl (fun hc7 => ?_) (fun hc7 => ?_)
      · refine XC.exit rfl ?_
        refine hK7 _ _ ?_
        refine XC.keep [(0, _), (1, _), (3, _), (4, _), (5, _)] ⟨rfl, rfl, rfl, rfl, rfl, trivial⟩ ?_
        refine XC.region ?_
        refine x_v (r_mv rfl) rfl ?_
        refine x_v (r_add rfl rfl (by omega)) rfl ?_
        refine x_v (r_as rfl) rfl ?_
        refine XL.nil ?_
        have hct := cont_iff c
        refine ⟨(i + 1, zstep i z c), ?_, ?_, ⟨rfl, rfl, rfl, rfl, rfl, trivial⟩, gS⟩
        · exact ⟨by dsimp only; omega, by dsimp only; omega, by dsimp only; rw [hg, hd, numGo, if_neg (by omega), if_pos (by omega)]⟩
        · dsimp only; omega
      · refine XC.skip ?_
        refine hK24 _ _ ?_
        refine XC.keep [(0, _), (1, _), (3, _), (5, _), (6, _)] ⟨rfl, rfl, rfl, rfl, rfl, trivial⟩ ?_
        refine XC.seq fun K27 hK27 => ?_
        refine XC.seq fun K28 hK28 => ?_
        refine XC.region ?_
        refine x_v (r_mv rfl) rfl ?_
        refine x_v (r_eq rfl rfl) rfl ?_
        refine x_v (r_mv rfl) rfl ?_
        refine XL.splitd 42 rfl (fun hg42 => ?_) (fun hg42 => ?_)
        · refine x_want rfl rfl rfl ?_
          refine x_v (r_mv rfl) rfl ?_
          refine x_want rfl rfl rfl ?_
          refine x_v (r_gt rfl rfl) rfl ?_
          refine x_v (r_pk_t rfl rfl) rfl ?_
          refine XL.nil ?_
          refine hK28 _ _ ?_
          refine XC.keep [(0, _), (1, _), (3, _), (5, _), (45, _)] ⟨rfl, rfl, rfl, rfl, rfl, trivial⟩ ?_
          refine XC.cond_d rfl (fun hc8 => ?_) (fun hc8 => ?_)
          · refine XC.seq fun K29 hK29 => ?_
            refine XC.region ?_
            refine x_v (r_as rfl) rfl ?_
            refine XL.nil ?_
            refine hK29 _ _ ?_
            refine XC.keep [(2, _)] ⟨rfl, trivial⟩ ?_
            refine XC.ret ?_
            exact fin1 rfl ((by first | (have hN : numGo 0 0 s = none := (by rw [hg, List.drop_of_length_le (by omega)]; rfl); rw [hN]; exact ⟨rfl, rfl⟩) | (have hN : numGo 0 0 s = none := (by rw [hg, hd, numGo]; first | rw [if_pos ⟨by omega, by omega⟩] | rw [if_neg (by omega), if_neg (by omega), if_pos ⟨by omega, by omega⟩]); rw [hN]; exact ⟨rfl, rfl⟩) | (have hN : numGo 0 0 s = some (zstep i z c, s.drop (i + 1)) := (by rw [hg, hd, numGo, if_neg (by omega), if_neg (by omega), if_neg (by omega)]); rw [hN]; exact ⟨rfl, rfl⟩))) gS
          · refine XC.skip ?_
            refine hK27 _ _ ?_
            refine XC.keep [(0, _), (1, _), (3, _), (5, _)] ⟨rfl, rfl, rfl, rfl, trivial⟩ ?_
            refine XC.seq fun K30 hK30 => ?_
            refine XC.draw [blk b1 104 [.pointer (some ⟨r, 0, none⟩)], blk r 136 [str s, .bool false]] true [(0, false), (1, false), (2, false), (3, false), (4, false), (5, false), (6, false), (7, false), (8, false), (9, false), (10, false), (11, false), (12, false), (13, false), (14, false), (15, false), (16, true), (17, false), (18, false), (19, true)] (by kernel_rfl) (by kernel_rfl) ?_
            refine y_v rfl (r_ld ty104 rfl pK (by rfl)) gT rfl ?_
            refine y_v rfl (r_mv rfl) gT rfl ?_
            refine y_v rfl (yv (v' := .int .u64 ((((zstep i z c) >>> 1 : BitVec 64).toNat : Nat) : Int)) (r_bshr (k := .u64) 1 (by decide) (zstep i z c) rfl rfl) rfl) gT rfl ?_
            refine y_v rfl (r_cvn Tryz.underlying138 Tryz.underlying3 rfl (IntWalk.i64_in _ (by have := shr1_lt (zstep i z c); omega))) gT rfl ?_
            refine y_v rfl (r_mv rfl) gT rfl ?_
            refine y_v rfl (yv (v' := .int .u64 ((((zstep i z c) &&& 1#64 : BitVec 64).toNat : Nat) : Int)) (r_band (k := .u64) rfl (zstep i z c) 1#64 rfl rfl) rfl) gT rfl ?_
            refine y_v rfl (r_cvn Tryz.underlying138 Tryz.underlying3 rfl (IntWalk.i64_in _ (by have := and1 (zstep i z c); omega))) gT rfl ?_
            refine y_v rfl (r_negi rfl (by rw [Int.zero_sub]; exact IntWalk.i64_in _ (by have := and1 (zstep i z c); omega))) gT rfl ?_
            refine y_v rfl (r_zig (zstep i z c) rfl rfl) gT rfl ?_
            refine y_v rfl (r_ld ty104 rfl pK (by rfl)) gT rfl ?_
            refine y_v rfl (r_nc rfl) gT rfl ?_
            refine y_v rfl (r_fa fo136_0 rfl) gT rfl ?_
            refine y_v rfl (r_ld ty9 rfl pK (by rfl)) gT rfl ?_
            refine y_v rfl (r_mv rfl) gT rfl ?_
            refine y_v rfl (r_add rfl rfl (by omega)) gT rfl ?_
            refine y_v rfl (yv (v' := str (s.drop (i + 1))) (r_ssl (i + 1) s.length Tryz.underlying9 rfl ⟨_, by rfl⟩ rfl (by omega) (by omega)) (congrArg str (List.take_of_length_le (by simp)))) gT rfl ?_
            refine y_e rfl (r_st ty3 rfl rfl rfl rfl rfl uD oV) (fun _ _ h => Gets.own gS h) ?_
            refine y_v rfl (r_nc rfl) gT rfl ?_
            refine y_v rfl (r_fa fo136_0 rfl) gT rfl ?_
            refine y_e rfl (r_st ty9 rfl rfl rfl rfl rfl uD oV) (fun h => absurd h (by decide)) ?_
            refine XH.nil ?_
            refine hK30 _ _ ?_
            refine XC.keep [] trivial ?_
            refine XC.seq fun K31 hK31 => ?_
            refine XC.region ?_
            refine x_v (r_as rfl) rfl ?_
            refine XL.nil ?_
            refine hK31 _ _ ?_
            refine XC.keep [(2, _)] ⟨rfl, trivial⟩ ?_
            refine XC.ret ?_
            exact fin1 rfl ((by first | (have hN : numGo 0 0 s = none := (by rw [hg, List.drop_of_length_le (by omega)]; rfl); rw [hN]; exact ⟨rfl, rfl⟩) | (have hN : numGo 0 0 s = none := (by rw [hg, hd, numGo]; first | rw [if_pos ⟨by omega, by omega⟩] | rw [if_neg (by omega), if_neg (by omega), if_pos ⟨by omega, by omega⟩]); rw [hN]; exact ⟨rfl, rfl⟩) | (have hN : numGo 0 0 s = some (zstep i z c, s.drop (i + 1)) := (by rw [hg, hd, numGo, if_neg (by omega), if_neg (by omega), if_neg (by omega)]); rw [hN]; exact ⟨rfl, rfl⟩))) gS
        · refine x_unwant rfl rfl rfl rfl rfl ?_
          refine x_unwant rfl rfl rfl rfl rfl ?_
          refine x_v (r_pk_f rfl rfl) rfl ?_
          refine XL.nil ?_
          refine hK28 _ _ ?_
          refine XC.keep [(0, _), (1, _), (3, _), (5, _), (45, _)] ⟨rfl, rfl, rfl, rfl, rfl, trivial⟩ ?_
          refine XC.cond_f rfl ?_
          refine XC.skip ?_
          refine hK27 _ _ ?_
          refine XC.keep [(0, _), (1, _), (3, _), (5, _)] ⟨rfl, rfl, rfl, rfl, trivial⟩ ?_
          refine XC.seq fun K32 hK32 => ?_
          refine XC.draw [blk b1 104 [.pointer (some ⟨r, 0, none⟩)], blk r 136 [str s, .bool false]] true [(0, false), (1, false), (2, false), (3, false), (4, false), (5, false), (6, false), (7, false), (8, false), (9, false), (10, false), (11, false), (12, false), (13, false), (14, false), (15, false), (16, true), (17, false), (18, false), (19, true)] (by kernel_rfl) (by kernel_rfl) ?_
          refine y_v rfl (r_ld ty104 rfl pK (by rfl)) gT rfl ?_
          refine y_v rfl (r_mv rfl) gT rfl ?_
          refine y_v rfl (yv (v' := .int .u64 ((((zstep i z c) >>> 1 : BitVec 64).toNat : Nat) : Int)) (r_bshr (k := .u64) 1 (by decide) (zstep i z c) rfl rfl) rfl) gT rfl ?_
          refine y_v rfl (r_cvn Tryz.underlying138 Tryz.underlying3 rfl (IntWalk.i64_in _ (by have := shr1_lt (zstep i z c); omega))) gT rfl ?_
          refine y_v rfl (r_mv rfl) gT rfl ?_
          refine y_v rfl (yv (v' := .int .u64 ((((zstep i z c) &&& 1#64 : BitVec 64).toNat : Nat) : Int)) (r_band (k := .u64) rfl (zstep i z c) 1#64 rfl rfl) rfl) gT rfl ?_
          refine y_v rfl (r_cvn Tryz.underlying138 Tryz.underlying3 rfl (IntWalk.i64_in _ (by have := and1 (zstep i z c); omega))) gT rfl ?_
          refine y_v rfl (r_negi rfl (by rw [Int.zero_sub]; exact IntWalk.i64_in _ (by have := and1 (zstep i z c); omega))) gT rfl ?_
          refine y_v rfl (r_zig (zstep i z c) rfl rfl) gT rfl ?_
          refine y_v rfl (r_ld ty104 rfl pK (by rfl)) gT rfl ?_
          refine y_v rfl (r_nc rfl) gT rfl ?_
          refine y_v rfl (r_fa fo136_0 rfl) gT rfl ?_
          refine y_v rfl (r_ld ty9 rfl pK (by rfl)) gT rfl ?_
          refine y_v rfl (r_mv rfl) gT rfl ?_
          refine y_v rfl (r_add rfl rfl (by omega)) gT rfl ?_
          refine y_v rfl (yv (v' := str (s.drop (i + 1))) (r_ssl (i + 1) s.length Tryz.underlying9 rfl ⟨_, by rfl⟩ rfl (by omega) (by omega)) (congrArg str (List.take_of_length_le (by simp)))) gT rfl ?_
          refine y_e rfl (r_st ty3 rfl rfl rfl rfl rfl uD oV) (fun _ _ h => Gets.own gS h) ?_
          refine y_v rfl (r_nc rfl) gT rfl ?_
          refine y_v rfl (r_fa fo136_0 rfl) gT rfl ?_
          refine y_e rfl (r_st ty9 rfl rfl rfl rfl rfl uD oV) (fun h => absurd h (by decide)) ?_
          refine XH.nil ?_
          refine hK32 _ _ ?_
          refine XC.keep [] trivial ?_
          refine XC.seq fun K33 hK33 => ?_
          refine XC.region ?_
          refine x_v (r_as rfl) rfl ?_
          refine XL.nil ?_
          refine hK33 _ _ ?_
          refine XC.keep [(2, _)] ⟨rfl, trivial⟩ ?_
          refine XC.ret ?_
          exact fin1 rfl ((by first | (have hN : numGo 0 0 s = none := (by rw [hg, List.drop_of_length_le (by omega)]; rfl); rw [hN]; exact ⟨rfl, rfl⟩) | (have hN : numGo 0 0 s = none := (by rw [hg, hd, numGo]; first | rw [if_pos ⟨by omega, by omega⟩] | rw [if_neg (by omega), if_neg (by omega), if_pos ⟨by omega, by omega⟩]); rw [hN]; exact ⟨rfl, rfl⟩) | (have hN : numGo 0 0 s = some (zstep i z c, s.drop (i + 1)) := (by rw [hg, hd, numGo, if_neg (by omega), if_neg (by omega), if_neg (by omega)]); rw [hN]; exact ⟨rfl, rfl⟩))) gS
  · refine XC.exit rfl ?_
    refine hK3 _ _ ?_
    refine XC.keep [] trivial ?_
    refine XC.seq fun K34 hK34 => ?_
    refine XC.region ?_
    refine x_v (r_as rfl) rfl ?_
    refine XL.nil ?_
    refine hK34 _ _ ?_
    refine XC.keep [(2, _)] ⟨rfl, trivial⟩ ?_
    refine XC.ret ?_
    exact fin1 rfl ((by first | (have hN : numGo 0 0 s = none := (by rw [hg, List.drop_of_length_le (by omega)]; rfl); rw [hN]; exact ⟨rfl, rfl⟩) | (have hN : numGo 0 0 s = none := (by rw [hg, hd, numGo]; first | rw [if_pos ⟨by omega, by omega⟩] | rw [if_neg (by omega), if_neg (by omega), if_pos ⟨by omega, by omega⟩]); rw [hN]; exact ⟨rfl, rfl⟩) | (have hN : numGo 0 0 s = some (zstep i z c, s.drop (i + 1)) := (by rw [hg, hd, numGo, if_neg (by omega), if_neg (by omega), if_neg (by omega)]); rw [hN]; exact ⟨rfl, rfl⟩))) gS
end Go.Proofs.YtcmdmhmgffjknaaGreatDoor

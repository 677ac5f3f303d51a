/- Packed numbers and texts, written: functions 68, 34, 37. -/
import Derived.Test.YtcmdmhmgffjknaaGreatDoorFacts
import Derived.Test.YtcmdmhmgffjknaaGreatDoorWal2
namespace Go.Proofs.YtcmdmhmgffjknaaGreatDoor
open Go.Sx
set_option linter.unusedVariables false

/-- The bytes of a number. -/
def vb (z : Nat) : List UInt8 := if h : z ≤ 127 then [UInt8.ofNat z] else UInt8.ofNat (z % 128 + 128) :: vb (z / 128)
termination_by z
decreasing_by omega
theorem vb_le {z : Nat} (h : z ≤ 127) : vb z = [UInt8.ofNat z] := by rw [vb, dif_pos h]
theorem vb_gt {z : Nat} (h : ¬ z ≤ 127) : vb z = UInt8.ofNat (z % 128 + 128) :: vb (z / 128) := by rw [vb, dif_neg h]
theorem vb_pos (z : Nat) : 0 < (vb z).length := by
  by_cases h : z ≤ 127
  · rw [vb_le h]; simp
  · rw [vb_gt h]; simp
theorem vb_len : ∀ (k z : Nat), z < 128 ^ (k + 1) → (vb z).length ≤ k + 1
  | 0, z, h => by rw [vb_le (by omega)]; simp
  | k + 1, z, h => by
    by_cases h0 : z ≤ 127
    · rw [vb_le h0]; simp
    · rw [vb_gt h0, List.length_cons]
      have := vb_len k (z / 128) (Nat.div_lt_of_lt_mul (by rw [Nat.pow_succ] at h; omega))
      omega
theorem vb_ten {z : Nat} (h : z < 18446744073709551616) : (vb z).length ≤ 10 := vb_len 9 z (Nat.lt_of_lt_of_le h (by decide))
set_option maxRecDepth 100000 in
theorem or128 : ∀ x : Fin 256, (BitVec.ofNat 8 x.val ||| 128#8).toNat = x.val % 128 + 128 := by decide
theorem or128' (z : BitVec 64) : ((z.setWidth 8) ||| 128#8).toNat = z.toNat % 128 + 128 := by
  have h := or128 ⟨z.toNat % 256, Nat.mod_lt _ (by decide)⟩
  have e : z.setWidth 8 = BitVec.ofNat 8 (z.toNat % 256) := by
    apply BitVec.eq_of_toNat_eq; simp
  rw [e, h]
  show z.toNat % 256 % 128 + 128 = _
  omega
theorem low8 (z : BitVec 64) (h : z.toNat ≤ 127) : (z.setWidth 8).toNat = z.toNat := by simp; omega
theorem bv_snoc (l : List UInt8) (n : Nat) (h : n < 256) : bv l ++ [.int .u8 (n : Int)] = bv (l ++ [UInt8.ofNat n]) := by
  have : (UInt8.ofNat n).toNat = n := by simp; omega
  simp [bv, this, Nat.mod_eq_of_lt h]

theorem put_tr {W0 : World} (b : Nat) (p A : Option Addr) (c m : Nat) (l : List UInt8) (n : Nat) (Fr : List HP) (hp : p = none ∨ p = some ⟨b, 0, none⟩) (hm : m = l.length) (hn : n ≤ maxS) (hl : l.length + (vb (2 * n)).length ≤ maxS) :
    Tr W0 Tryz.prog 68 [.pointer (some ⟨b, 0, none⟩), .int .i64 (n : Int)] (blk b 111 [.pointer p, .slice A m c] :: sl A m c 5 1 (bv l) :: Fr) (fun u Rs' => u = .tuple #[] ∧ ∃ A' c', Rs' = blk b 111 [.pointer (some ⟨b, 0, none⟩), .slice A' (l ++ vb (2 * n)).length c'] :: sl A' (l ++ vb (2 * n)).length c' 5 1 (bv (l ++ vb (2 * n))) :: Fr) := by
  have hmax : maxS = 140737488355328 := rfl
  subst hm
  have hz0 : (BitVec.ofNat 64 n <<< 1 ^^^ 0#64 : BitVec 64).toNat = 2 * n := by
    rw [BitVec.xor_zero, BitVec.toNat_shiftLeft, BitVec.toNat_ofNat, Nat.shiftLeft_eq, Nat.mod_eq_of_lt (show n < 2 ^ 64 by omega), Nat.mod_eq_of_lt (by omega)]; omega
  refine Entry.tr (N := 25) (rs := []) ⟨_, Tryz.func68, rfl, by kernel_rfl, rfl, rfl⟩ rfl ?_
  refine XC.seq fun K1 hK1 => ?_
  refine XC.region ?_
  refine x_v (r_mv rfl) rfl ?_
  refine x_v (r_cvn (i := ((BitVec.ofNat 64 n).toNat : Int)) Tryz.underlying3 Tryz.underlying138 (by rw [BitVec.toNat_ofNat, Nat.mod_eq_of_lt (show n < 2 ^ 64 by omega)]; rfl) (wrap_bv (k := .u64) rfl _)) rfl ?_
  refine x_v (r_bshl (k := .u64) rfl 1 (by decide) (BitVec.ofNat 64 n) rfl rfl) rfl ?_
  refine x_v (r_mv rfl) rfl ?_
  refine x_v (r_shr0 n (by omega) rfl rfl) rfl ?_
  refine x_v (r_cvn Tryz.underlying3 Tryz.underlying138 rfl (by decide)) rfl ?_
  refine x_v (r_bxor (k := .u64) rfl (BitVec.ofNat 64 n <<< 1) 0#64 rfl rfl) rfl ?_
  refine x_v (r_as rfl) rfl ?_
  refine XL.nil ?_
  refine hK1 _ _ ?_
  refine XC.keep [(0, _), (4, _)] ⟨rfl, rfl, trivial⟩ ?_
  refine XC.seq fun K2 hK2 => ?_
  refine XC.block ?_
  refine XC.loop (σ := BitVec 64 × List UInt8 × Option Addr × Option Addr × Nat) (fun s => [(0, .pointer (some ⟨b, 0, none⟩)), (4, .int .u64 (s.1.toNat : Int))]) (fun s => blk b 111 [.pointer s.2.2.1, .slice s.2.2.2.1 (l ++ s.2.1).length s.2.2.2.2] :: sl s.2.2.2.1 (l ++ s.2.1).length s.2.2.2.2 5 1 (bv (l ++ s.2.1)) :: Fr) (fun s => (s.2.2.1 = none ∨ s.2.2.1 = some ⟨b, 0, none⟩) ∧ s.2.1 ++ vb s.1.toNat = vb (2 * n)) (fun s => s.1.toNat) (BitVec.ofNat 64 n <<< 1 ^^^ 0#64, [], p, A, c) ?_ ⟨rfl, rfl, trivial⟩ (by rw [List.append_nil]; exact gS) ?_
  · exact ⟨hp, by rw [hz0]; rfl⟩
  rintro ⟨z, out, p, A, c⟩ ⟨hp, hv⟩
  dsimp only at hp hv ⊢
  have hpos := vb_pos z.toNat
  have hvl : out.length + (vb z.toNat).length = (vb (2 * n)).length := by rw [← hv, List.length_append]
  have hal : (l ++ out).length = l.length + out.length := List.length_append
  refine XC.seq fun K3 hK3 => ?_
  refine XC.seq fun K4 hK4 => ?_
  refine XC.region ?_
  refine x_v (r_mv rfl) rfl ?_
  refine x_v (r_gt rfl rfl) rfl ?_
  refine XL.nil ?_
  refine hK4 _ _ ?_
  refine XC.keep [(0, _), (4, _), (13, _)] ⟨rfl, rfl, rfl, trivial⟩ ?_
  refine XC.cond_d rfl (fun hc1 => ?_) (fun hc1 => ?_)
  · refine XC.skip ?_
    refine hK3 _ _ ?_
    refine XC.keep [(0, _), (4, _)] ⟨rfl, rfl, trivial⟩ ?_
    refine XC.seq fun K5 hK5 => ?_
    refine XC.block ?_
    refine XC.region ?_
    refine x_v (r_mv rfl) rfl ?_
    refine x_v (r_mv rfl) rfl ?_
    refine x_v (r_bcv (k := .u64) (k' := .u8) rfl z Tryz.underlying138 Tryz.underlying5 rfl) rfl ?_
    refine x_v (yv (v' := .int .u8 ((z.toNat % 128 + 128 : Nat) : Int)) (r_bor (k := .u8) rfl (z.setWidth 8) 128#8 rfl rfl) (congrArg (fun q : Nat => Value.int .u8 (q : Int)) (or128' z))) rfl ?_
    refine x_c (r_call0 (args := [_, _]) ⟨rfl, rfl, rfl⟩ (wbyte_tr b p A c (l ++ out).length (bv (l ++ out)) _ _ hp (by omega)) gS) rfl ?_
    rintro _ _ ⟨rfl, A20, c20, hRs⟩
    refine XL.nil ?_
    refine hK5 _ _ ?_
    refine XC.keep [(0, _), (4, _)] ⟨rfl, rfl, trivial⟩ ?_
    refine XC.region ?_
    refine x_v (r_mv rfl) rfl ?_
    refine x_v (r_bshr (k := .u64) 7 (by decide) z rfl rfl) rfl ?_
    refine x_v (r_as rfl) rfl ?_
    refine XL.nil ?_
    rw [bv_snoc _ _ (by omega), List.append_assoc] at hRs
    rw [hRs, ← show (l ++ (out ++ [UInt8.ofNat (z.toNat % 128 + 128)])).length = (l ++ out).length + 1 by simp; omega]
    refine ⟨(z >>> 7, out ++ [UInt8.ofNat (z.toNat % 128 + 128)], some ⟨b, 0, none⟩, A20, c20), ?_, ?_, ⟨rfl, rfl, trivial⟩, gS⟩
    · exact ⟨.inr rfl, by dsimp only; rw [← hv, vb_gt (z := z.toNat) (by omega), List.append_assoc, List.singleton_append, BitVec.toNat_ushiftRight, Nat.shiftRight_eq_div_pow]⟩
    · dsimp only; rw [BitVec.toNat_ushiftRight, Nat.shiftRight_eq_div_pow]; omega
  · refine XC.exit rfl ?_
    refine hK2 _ _ ?_
    refine XC.keep [(0, _), (4, _)] ⟨rfl, rfl, trivial⟩ ?_
    refine XC.region ?_
    refine x_v (r_mv rfl) rfl ?_
    refine x_v (r_mv rfl) rfl ?_
    refine x_v (yv (v' := .int .u8 (z.toNat : Int)) (r_bcv (k := .u64) (k' := .u8) rfl z Tryz.underlying138 Tryz.underlying5 rfl) (congrArg (fun q : Nat => Value.int .u8 (q : Int)) (low8 z (by omega)))) rfl ?_
    refine x_c (r_call0 (args := [_, _]) ⟨rfl, rfl, rfl⟩ (wbyte_tr b p A c (l ++ out).length (bv (l ++ out)) _ _ hp (by omega)) gS) rfl ?_
    rintro _ _ ⟨rfl, A24, c24, hRs⟩
    rw [vb_le (z := z.toNat) (by omega)] at hv
    rw [bv_snoc _ _ (by omega), List.append_assoc, hv] at hRs
    rw [hRs, show (l ++ out).length + 1 = (l ++ vb (2 * n)).length by rw [← hv]; simp; omega]
    refine XL.nil ?_
    exact fin0 (⟨rfl, _, _, rfl⟩) gS
end Go.Proofs.YtcmdmhmgffjknaaGreatDoor

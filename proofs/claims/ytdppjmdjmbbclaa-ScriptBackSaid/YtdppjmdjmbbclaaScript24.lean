/- Scripts: the statements' functions 7 and 10. -/
import Derived.Test.YtdppjmdjmbbclaaScript23
namespace Go.Proofs.Ytdppjmdjmbbclaa
open Go.Sx
set_option linter.unusedVariables false

theorem rda_sub {W0 : World} {Fr : List HP} {A : Option Addr} {L : List Ac} (h : RdA W0 Fr A L) {m : Nat} (hm : m ≤ L.length) : RdA W0 Fr A (L.take m) := by
  have hl : (L.take m).length = m := by rw [List.length_take]; omega
  have hc := h.rd.cut (lo := 0) (hi := m) (cap := L.length) (Nat.zero_le _) hm (Nat.le_refl _)
  refine ⟨?_, fun a ha => h.ks a (List.mem_of_mem_take ha), by have := h.le; omega, fun a ha => h.kl a (List.mem_of_mem_take ha)⟩
  rw [hl]
  have e : (if L.length = 0 then A else A.map (·.add (0 * 12))) = A := by
    split
    · rfl
    · rw [Nat.zero_mul]; cases A <;> simp [Addr.add]
  rw [e, Nat.sub_zero, Nat.zero_mul, List.drop_zero, cells_take ac_len] at hc
  exact hc

theorem reads_tr {W0 : World} {Fr : List HP} (s : List UInt8) : Tr W0 Try.prog 7 [str s] Fr (fun v _ => v = .bool true) := by
  refine Entry.tr (N := 16) (rs := [.tmp 2]) ⟨_, Try.func7, rfl, by kernel_rfl, rfl, rfl⟩ rfl ?_
  refine XC.seq fun K1 hK1 => ?_
  refine XC.region ?_
  refine x_v (r_as rfl) rfl ?_
  refine XL.nil ?_
  refine hK1 _ _ ?_
  refine XC.keep [(0, _)] ⟨rfl, trivial⟩ ?_
  refine XC.seq fun K2 hK2 => ?_
  refine XC.seq fun K3 hK3 => ?_
  refine XC.region ?_
  refine x_c (r_call0 (args := []) rfl (awake_tr) (by repeat (first | exact Gets.done _ | exact Gets.all _ | (apply Gets.step; focus ((repeat (first | exact Pick.head _ _ | apply Pick.tail)); done)) | apply Gets.drop))) rfl ?_
  rintro _ _ ⟨rfl, hO1⟩
  rename_i R1
  refine x_v (r_not rfl) rfl ?_
  refine x_v (r_mv rfl) rfl ?_
  refine x_want rfl rfl rfl ?_
  refine x_v (r_mv rfl) rfl ?_
  refine x_want rfl rfl rfl ?_
  refine x_v (r_lens Try.underlying9 rfl) rfl ?_
  refine x_want rfl rfl rfl ?_
  refine x_v (r_gt rfl rfl) rfl ?_
  refine x_v (r_pk_f rfl rfl) rfl ?_
  refine XL.nil ?_
  refine hK3 _ _ ?_
  refine XC.keep [(0, _), (9, _)] ⟨rfl, rfl, trivial⟩ ?_
  refine XC.cond_d rfl (fun hc1 => ?_) (fun hc1 => ?_)
  · refine XC.seq fun K4 hK4 => ?_
    refine XC.region ?_
    refine x_c (r_call0 (args := []) rfl (awake_tr (Fr := R1)) (by repeat (first | exact Gets.done _ | exact Gets.all _ | (apply Gets.step; focus ((repeat (first | exact Pick.head _ _ | apply Pick.tail)); done)) | apply Gets.drop))) rfl ?_
    rintro _ _ ⟨rfl, hO2⟩
    refine x_v (r_as rfl) rfl ?_
    refine XL.nil ?_
    refine hK4 _ _ ?_
    refine XC.keep [(2, _)] ⟨rfl, trivial⟩ ?_
    refine XC.ret ?_
    exact fin1 rfl (rfl) (by repeat (first | exact Gets.done _ | exact Gets.all _ | (apply Gets.step; focus ((repeat (first | exact Pick.head _ _ | apply Pick.tail)); done)) | apply Gets.drop))
  · refine XC.skip ?_
    refine hK2 _ _ ?_
    refine XC.keep [(0, _)] ⟨rfl, trivial⟩ ?_
    refine XC.seq fun K5 hK5 => ?_
    refine XC.region ?_
    refine x_v (r_mv rfl) rfl ?_
    refine x_c (r_call0 (args := [_]) ⟨rfl, rfl⟩ (read_tr (Fr := R1) s (by omega)) (by repeat (first | exact Gets.done _ | exact Gets.all _ | (apply Gets.step; focus ((repeat (first | exact Pick.head _ _ | apply Pick.tail)); done)) | apply Gets.drop))) rfl ?_
    rintro _ _ ⟨A1, c1, L1, rfl, hR1, hL1, hQ1, hc1⟩
    rename_i R2
    refine x_v (r_mv rfl) rfl ?_
    refine x_c (r_call0 (args := [_]) ⟨rfl, rfl⟩ (ref_read_tr (Fr := R2) s (by omega)) (by repeat (first | exact Gets.done _ | exact Gets.all _ | (apply Gets.step; focus ((repeat (first | exact Pick.head _ _ | apply Pick.tail)); done)) | apply Gets.drop))) rfl ?_
    rintro _ _ ⟨A2, c2, L2, rfl, hR2, hL2, hQ2, hc2⟩
    rename_i R3
    refine x_c (r_call0 (args := [_, _]) ⟨rfl, rfl, rfl⟩ (same_tr (Fr := R3) A1 A2 c1 c2 L1 L2 (hR1.mono hQ2) hR2) (by repeat (first | exact Gets.done _ | exact Gets.all _ | (apply Gets.step; focus ((repeat (first | exact Pick.head _ _ | apply Pick.tail)); done)) | apply Gets.drop))) rfl ?_
    rintro _ _ ⟨rfl, hRs⟩
    rw [hL1, hL2, read_same]
    refine x_v (r_as rfl) rfl ?_
    refine XL.nil ?_
    refine hK5 _ _ ?_
    refine XC.keep [(2, _)] ⟨rfl, trivial⟩ ?_
    refine XC.ret ?_
    exact fin1 rfl (by simp) (by repeat (first | exact Gets.done _ | exact Gets.all _ | (apply Gets.step; focus ((repeat (first | exact Pick.head _ _ | apply Pick.tail)); done)) | apply Gets.drop))

theorem cuts_tr {W0 : World} {Fr : List HP} (s : List UInt8) (cut : Int) : Tr W0 Try.prog 10 [str s, .int .i64 cut] Fr (fun v _ => v = .bool true) := by
  refine Entry.tr (N := 41) (rs := [.tmp 4]) ⟨_, Try.func10, rfl, by kernel_rfl, rfl, rfl⟩ rfl ?_
  refine XC.seq fun K1 hK1 => ?_
  refine XC.region ?_
  refine x_v (r_as rfl) rfl ?_
  refine XL.nil ?_
  refine hK1 _ _ ?_
  refine XC.keep [(0, _), (1, _)] ⟨rfl, rfl, trivial⟩ ?_
  refine XC.seq fun K2 hK2 => ?_
  refine XC.seq fun K3 hK3 => ?_
  refine XC.region ?_
  refine x_c (r_call0 (args := []) rfl (awake_tr) (by repeat (first | exact Gets.done _ | exact Gets.all _ | (apply Gets.step; focus ((repeat (first | exact Pick.head _ _ | apply Pick.tail)); done)) | apply Gets.drop))) rfl ?_
  rintro _ _ ⟨rfl, hO1⟩
  rename_i R1
  refine x_v (r_not rfl) rfl ?_
  refine x_v (r_mv rfl) rfl ?_
  refine x_want rfl rfl rfl ?_
  refine x_v (r_mv rfl) rfl ?_
  refine x_want rfl rfl rfl ?_
  refine x_v (r_lens Try.underlying9 rfl) rfl ?_
  refine x_want rfl rfl rfl ?_
  refine x_v (r_gt rfl rfl) rfl ?_
  refine x_v (r_pk_f rfl rfl) rfl ?_
  refine XL.nil ?_
  refine hK3 _ _ ?_
  refine XC.keep [(0, _), (1, _), (13, _)] ⟨rfl, rfl, rfl, trivial⟩ ?_
  refine XC.cond_d rfl (fun hc1 => ?_) (fun hc1 => ?_)
  · refine XC.seq fun K4 hK4 => ?_
    refine XC.region ?_
    refine x_c (r_call0 (args := []) rfl (awake_tr (Fr := R1)) (by repeat (first | exact Gets.done _ | exact Gets.all _ | (apply Gets.step; focus ((repeat (first | exact Pick.head _ _ | apply Pick.tail)); done)) | apply Gets.drop))) rfl ?_
    rintro _ _ ⟨rfl, hO2⟩
    refine x_v (r_as rfl) rfl ?_
    refine XL.nil ?_
    refine hK4 _ _ ?_
    refine XC.keep [(4, _)] ⟨rfl, trivial⟩ ?_
    refine XC.ret ?_
    exact fin1 rfl (rfl) (by repeat (first | exact Gets.done _ | exact Gets.all _ | (apply Gets.step; focus ((repeat (first | exact Pick.head _ _ | apply Pick.tail)); done)) | apply Gets.drop))
  · refine XC.skip ?_
    refine hK2 _ _ ?_
    refine XC.keep [(0, _), (1, _)] ⟨rfl, rfl, trivial⟩ ?_
    refine XC.seq fun K5 hK5 => ?_
    refine XC.region ?_
    refine x_v (r_mv rfl) rfl ?_
    refine x_c (r_call0 (args := [_]) ⟨rfl, rfl⟩ (read_tr (Fr := R1) s (by omega)) (by repeat (first | exact Gets.done _ | exact Gets.all _ | (apply Gets.step; focus ((repeat (first | exact Pick.head _ _ | apply Pick.tail)); done)) | apply Gets.drop))) rfl ?_
    rintro _ _ ⟨A1, c1, L1, rfl, hR1, hL1, hQ1, hc1⟩
    rename_i R2
    obtain ⟨k, hk, hks⟩ : ∃ k : Nat, (IntKind.u64.wrap cut).tmod ((s.length : Int) + 1) = (k : Int) ∧ k ≤ s.length := by (have hu := IntKind.wrap_u64 cut; have h1 : 0 ≤ IntKind.u64.wrap cut := by omega); rw [Int.tmod_eq_emod_of_nonneg h1]; have h2 := Int.emod_nonneg (IntKind.u64.wrap cut) (show ((s.length : Int) + 1) ≠ 0 by omega); have h3 := Int.emod_lt_of_pos (IntKind.u64.wrap cut) (show 0 < ((s.length : Int) + 1) by omega); exact ⟨((IntKind.u64.wrap cut) % ((s.length : Int) + 1)).toNat, by omega, by omega⟩
    refine x_v (r_as rfl) rfl ?_
    refine XL.nil ?_
    refine hK5 _ _ ?_
    refine XC.keep [(0, _), (1, _), (5, _)] ⟨rfl, rfl, rfl, trivial⟩ ?_
    refine XC.seq fun K6 hK6 => ?_
    refine XC.region ?_
    refine x_v (r_mv rfl) rfl ?_
    refine x_v (r_mv rfl) rfl ?_
    refine x_v (r_cvi Try.underlying3 Try.underlying66 rfl) rfl ?_
    refine x_v (r_mv rfl) rfl ?_
    refine x_v (r_lens Try.underlying9 rfl) rfl ?_
    refine x_v (r_add rfl rfl (by omega)) rfl ?_
    refine x_v (r_cvn Try.underlying3 Try.underlying66 rfl (by rw [IntKind.wrap_u64]; omega)) rfl ?_
    refine x_v (r_remt rfl rfl (by omega)) rfl ?_
    rw [hk]
    refine x_v (r_cvn Try.underlying66 Try.underlying3 rfl (by rw [IntKind.wrap_i64]; omega)) rfl ?_
    refine x_v (r_ssl (0) (k) Try.underlying9 rfl rfl ⟨_, by rfl⟩ (by omega) (by omega)) rfl ?_
    rw [List.drop_zero, Nat.sub_zero]
    refine x_c (r_call0 (args := [_]) ⟨rfl, rfl⟩ (read_tr (Fr := R2) (s.take k) (by rw [List.length_take]; omega)) (by repeat (first | exact Gets.done _ | exact Gets.all _ | (apply Gets.step; focus ((repeat (first | exact Pick.head _ _ | apply Pick.tail)); done)) | apply Gets.drop))) rfl ?_
    rintro _ _ ⟨A2, c2, L2, rfl, hR2, hL2, hQ2, hc2⟩
    rename_i R3
    have hpre := read_cut s k
    rw [← hL1, ← hL2] at hpre
    have hle := hpre.length_le
    rw [List.length_map, List.length_map] at hle
    have hlt : (L1.take L2.length).length = L2.length := by rw [List.length_take]; omega
    refine x_v (r_as rfl) rfl ?_
    refine XL.nil ?_
    refine hK6 _ _ ?_
    refine XC.keep [(5, _), (6, _)] ⟨rfl, rfl, trivial⟩ ?_
    refine XC.seq fun K7 hK7 => ?_
    refine XC.region ?_
    refine x_v (r_mv rfl) rfl ?_
    refine x_v (r_lensl Try.underlying56 rfl) rfl ?_
    refine x_v (r_mv rfl) rfl ?_
    refine x_v (r_lensl Try.underlying56 rfl) rfl ?_
    refine x_v (r_le rfl rfl) rfl ?_
    refine x_v (r_mv rfl) rfl ?_
    refine XL.splitd 33 rfl (fun hg33 => ?_) (fun hg33 => ?_)
    · refine x_want rfl rfl rfl ?_
      refine x_v (r_mv rfl) rfl ?_
      refine x_want rfl rfl rfl ?_
      refine x_v (r_mv rfl) rfl ?_
      refine x_want rfl rfl rfl ?_
      refine x_v (r_mv rfl) rfl ?_
      refine x_want rfl rfl rfl ?_
      refine x_v (r_lensl Try.underlying56 rfl) rfl ?_
      refine x_want rfl rfl rfl ?_
      refine x_v (r_sll0 (L1.take L2.length).length Try.underlying56 ty83 rfl ⟨_, by rw [hlt]; rfl⟩ (by omega)) rfl ?_
      refine x_want rfl rfl rfl ?_
      refine x_c (r_call0 (args := [_, _]) ⟨rfl, rfl, rfl⟩ (same_tr (Fr := R3) A2 A1 c2 c1 L2 (L1.take L2.length) hR2 (rda_sub (hR1.mono hQ2) hle)) (by repeat (first | exact Gets.done _ | exact Gets.all _ | (apply Gets.step; focus ((repeat (first | exact Pick.head _ _ | apply Pick.tail)); done)) | apply Gets.drop))) rfl ?_
      rintro _ _ ⟨rfl, hRs⟩
      refine x_v (r_pk_t rfl rfl) rfl ?_
      refine x_v (r_as rfl) rfl ?_
      refine XL.nil ?_
      refine hK7 _ _ ?_
      refine XC.keep [(4, _)] ⟨rfl, trivial⟩ ?_
      refine XC.ret ?_
      exact fin1 rfl (by rw [List.map_take]; have := List.prefix_iff_eq_take.1 hpre; rw [List.length_map] at this; rw [← this]; simp) (by repeat (first | exact Gets.done _ | exact Gets.all _ | (apply Gets.step; focus ((repeat (first | exact Pick.head _ _ | apply Pick.tail)); done)) | apply Gets.drop))
    · exfalso; omega
end Go.Proofs.Ytdppjmdjmbbclaa

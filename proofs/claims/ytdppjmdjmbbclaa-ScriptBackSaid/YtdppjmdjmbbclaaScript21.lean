/- Scripts: the reference's printing (function 31). -/
import Derived.Test.YtdppjmdjmbbclaaScript20
namespace Go.Proofs.Ytdppjmdjmbbclaa
open Go.Sx
set_option linter.unusedVariables false

theorem blk_at {W0 w : World} {b T : Nat} {cs : List Value} {Rs : List HP} (h : Own W0 w (blk b T cs :: Rs)) : ∀ j u, cs[j]? = some u → w.cell? ⟨b, 0 + j, none⟩ = some u := fun j u hu => by
  have := h.cells
  simp [World.cell?, this, hu]
theorem u8_is (i : Int) : Value.int .u8 (IntKind.u8.wrap i) = .int .u8 ((byteOf i).toNat : Int) := by rw [wrap_u8, ← byteOf_nat]
theorem rda_one {W0 : World} {Fr : List HP} {b : Nat} {a : Ac} (h : ∀ w, Own W0 w Fr → ∀ j u, (ac a)[j]? = some u → w.cell? ⟨b, 0 + j, none⟩ = some u) (hk : Rdb W0 Fr a.A a.n 1 (iv a.ks)) (hn : a.n ≤ 32768) : RdA W0 Fr (some ⟨b, 0, none⟩) [a] :=
  ⟨⟨rfl, fun _ => ⟨b, 0, rfl, fun w hw j u hu => h w hw j u (by rw [cells_one] at hu; exact hu)⟩⟩, fun x hx => by rw [List.mem_singleton.1 hx]; exact hk, by simp, fun x hx => by rw [List.mem_singleton.1 hx]; omega⟩

theorem tdiv_in {i : Int} (h : -9000000000000000000 ≤ i ∧ i ≤ 9000000000000000000) : -9000000000000000000 ≤ i.tdiv 256 ∧ i.tdiv 256 ≤ 9000000000000000000 := by
  rcases Int.le_total 0 i with h0 | h0
  · rw [Int.tdiv_eq_ediv_of_nonneg h0]; omega
  · obtain ⟨j, rfl⟩ : ∃ j, i = -j := ⟨-i, by omega⟩
    rw [Int.neg_tdiv, Int.tdiv_eq_ediv_of_nonneg (by omega)]; omega
theorem tmod_in (i : Int) : -65536 ≤ i.tmod 65536 ∧ i.tmod 65536 ≤ 65536 := by
  rcases Int.le_total 0 i with h0 | h0
  · rw [Int.tmod_eq_emod_of_nonneg h0]; omega
  · obtain ⟨j, rfl⟩ : ∃ j, i = -j := ⟨-i, by omega⟩
    rw [Int.neg_tmod, Int.tmod_eq_emod_of_nonneg (by omega)]; omega

theorem ref_print_tr {W0 : World} {Fr : List HP} (A : Option Addr) (c : Nat) (L : List Ac) (hL : RdA W0 Fr A L) (hs : ∀ a ∈ L, Small a) :
    Tr W0 Try.prog 31 [.slice A L.length c] Fr (Said W0 Fr (printF (L.map Ac.v))) := by
  have hle := hL.le
  refine Entry.tr (N := 197) (rs := [.tmp 2, .tmp 3]) ⟨_, Try.func31, rfl, by kernel_rfl, rfl, rfl⟩ rfl ?_
  refine XC.seq fun K1 hK1 => ?_
  refine XC.region ?_
  refine x_v (r_as rfl) rfl ?_
  refine x_v (r_as rfl) rfl ?_
  refine XL.nil ?_
  refine hK1 _ _ ?_
  refine XC.keep [(0, _)] ⟨rfl, trivial⟩ ?_
  refine XC.seq fun K2 hK2 => ?_
  refine XC.seq fun K3 hK3 => ?_
  refine XC.region ?_
  refine x_v (r_mv rfl) rfl ?_
  refine x_v (r_lensl Try.underlying56 rfl) rfl ?_
  refine x_v (r_gt rfl rfl) rfl ?_
  refine XL.nil ?_
  refine hK3 _ _ ?_
  refine XC.keep [(0, _), (12, _)] ⟨rfl, rfl, trivial⟩ ?_
  refine XC.cond_d rfl (fun hc1 => ?_) (fun hc1 => ?_)
  · have hp : printF (L.map Ac.v) = ([], 1) := by unfold printF; rw [if_pos (by simp; omega)]
    rw [hp]
    refine XC.seq fun K4 hK4 => ?_
    refine XC.region ?_
    refine x_v (r_as rfl) rfl ?_
    refine x_v (r_as rfl) rfl ?_
    refine XL.nil ?_
    refine hK4 _ _ ?_
    refine XC.keep [(2, _), (3, _)] ⟨rfl, rfl, trivial⟩ ?_
    refine XC.ret ?_
    exact fin2 rfl rfl (⟨rfl, rfl⟩) (by repeat (first | exact Gets.done _ | exact Gets.all _ | (apply Gets.step; focus ((repeat (first | exact Pick.head _ _ | apply Pick.tail)); done)) | apply Gets.drop))
  · refine XC.skip ?_
    refine hK2 _ _ ?_
    refine XC.keep [(0, _)] ⟨rfl, trivial⟩ ?_
    refine XC.seq fun K5 hK5 => ?_
    refine XC.region ?_
    refine x_a (r_bs (vs := []) rfl rfl bs92_0_) rfl fun b13 => ?_
    refine XL.shut_ (n := 0) (c := 0) (sz := 1) (xs := bv []) (by repeat (first | exact Pick.head _ _ | apply Pick.tail)) (Nat.le_refl _) (Nat.zero_le _) rfl rfl ?_
    refine x_v (r_as rfl) rfl ?_
    refine XL.nil ?_
    refine hK5 _ _ ?_
    refine XC.keep [(0, _), (4, _)] ⟨rfl, rfl, trivial⟩ ?_
    refine XC.seq fun K6 hK6 => ?_
    refine XC.seq fun K7 hK7 => ?_
    refine XC.region ?_
    refine x_v (r_as rfl) rfl ?_
    refine XL.nil ?_
    refine hK7 _ _ ?_
    refine XC.keep [(0, _), (4, _), (5, _)] ⟨rfl, rfl, rfl, trivial⟩ ?_
    refine XC.block ?_
    refine XC.loop (σ := Nat × List UInt8 × Option Addr × Nat) (fun s => [(0, .slice A L.length c), (4, .slice s.2.2.1 s.2.1.length s.2.2.2), (5, .int .i64 (s.1 : Int))]) (fun s => sl s.2.2.1 s.2.1.length s.2.2.2 5 1 (bv s.2.1) :: Fr) (fun s => s.1 ≤ L.length ∧ s.2.1 = ((L.take s.1).map Ac.v).flatMap actB ∧ (∀ a ∈ (L.take s.1).map Ac.v, Good a) ∧ s.2.1.length ≤ 100000 * s.1) (fun s => L.length - s.1) (0, [], some ⟨b13, 0, none⟩, 0) ?_ ⟨rfl, rfl, rfl, trivial⟩ (by repeat (first | exact Gets.done _ | exact Gets.all _ | (apply Gets.step; focus ((repeat (first | exact Pick.head _ _ | apply Pick.tail)); done)) | apply Gets.drop)) ?_
    · exact ⟨Nat.zero_le _, by simp, by simp, Nat.zero_le _⟩
    rintro ⟨i, out, A1, c1⟩ ⟨hi, hout, hall, hol⟩
    dsimp only at hi hout hall hol ⊢
    refine XC.seq fun K8 hK8 => ?_
    refine XC.seq fun K9 hK9 => ?_
    refine XC.region ?_
    refine x_v (r_mv rfl) rfl ?_
    refine x_v (r_mv rfl) rfl ?_
    refine x_v (r_lensl Try.underlying56 rfl) rfl ?_
    refine x_v (r_lt rfl rfl) rfl ?_
    refine XL.nil ?_
    refine hK9 _ _ ?_
    refine XC.keep [(0, _), (4, _), (5, _), (17, _)] ⟨rfl, rfl, rfl, rfl, trivial⟩ ?_
    refine XC.cond_d rfl (fun hc2 => ?_) (fun hc2 => ?_)
    · refine XC.skip ?_
      refine hK8 _ _ ?_
      refine XC.keep [(0, _), (4, _), (5, _)] ⟨rfl, rfl, rfl, trivial⟩ ?_
      refine XC.seq fun K10 hK10 => ?_
      refine XC.block ?_
      refine XC.seq fun K11 hK11 => ?_
      refine XC.region ?_
      refine x_v (r_mv rfl) rfl ?_
      refine x_v (r_mv rfl) rfl ?_
      obtain ⟨a, ho⟩ : ∃ a, L[i]? = some a := ⟨_, List.getElem?_eq_getElem (by omega)⟩
      have hsa := hs a (List.mem_of_getElem? ho)
      have hsa1 := hsa.1
      have hsa2 := hsa.2.1
      have hsa3 := hsa.2.2
      have hka := hL.ks a (List.mem_of_getElem? ho)
      have hna : a.n = a.ks.length := by have := hka.len; simpa [iv] using this.symm
      obtain ⟨sb, so, rfl, hat⟩ := hL.rd.at_ (by omega)
      refine x_v (r_ia (k := i) Try.underlying56 ty83 rfl rfl (by omega) (by omega)) rfl ?_
      refine x_v (r_ldar (l' := ac a) ty83 rfl rfl (fun w hw j u hu => by rw [Nat.add_assoc]; exact hat w (Gets.own (by repeat (first | exact Gets.done _ | exact Gets.all _ | (apply Gets.step; focus ((repeat (first | exact Pick.head _ _ | apply Pick.tail)); done)) | apply Gets.drop)) hw) _ u (cells_get ac_len L i _ ho j u hu))) rfl ?_
      refine x_a (r_al ty83 rfl) rfl fun b6 => ?_
      refine x_e (r_st (vs := ac a) ty83 rfl rfl rfl rfl rfl (by repeat (first | exact Upd.head _ _ _ | apply Upd.tail)) (by repeat (first | exact Over.nil _ | apply Over.put | apply Over.skip))) ?_
      unfold ac
      refine XL.nil ?_
      refine hK11 _ _ ?_
      refine XC.keep [(0, _), (4, _), (5, _), (6, _)] ⟨rfl, rfl, rfl, rfl, trivial⟩ ?_
      refine XC.seq fun K12 hK12 => ?_
      refine XC.region ?_
      refine x_v (r_as rfl) rfl ?_
      refine XL.nil ?_
      refine hK12 _ _ ?_
      refine XC.keep [(0, _), (4, _), (5, _), (6, _)] ⟨rfl, rfl, rfl, rfl, trivial⟩ ?_
      refine XC.seqcut (σ := List UInt8 × Option Addr × Nat) (fun s => [(0, .slice (some ⟨sb, so, none⟩) L.length c), (4, .slice A1 out.length c1), (5, .int .i64 (i : Int)), (6, .pointer (some ⟨b6, 0, none⟩)), (7, .slice s.2.1 s.1.length s.2.2)]) (fun s => sl s.2.1 s.1.length s.2.2 5 1 (bv s.1) :: blk b6 83 (ac a) :: sl A1 out.length c1 5 1 (bv out) :: Fr) (fun s => s.1 = refB a.v ∧ Kd a.kind) ?_ ?_
      · refine XC.seq fun K14 hK14 => ?_
        refine XC.region ?_
        refine x_v (r_fa fo83_0 rfl) rfl ?_
        refine x_v (r_ld ty3 rfl (by repeat (first | exact Pick.head _ _ | apply Pick.tail)) (by rfl)) rfl ?_
        refine XL.nil ?_
        refine hK14 _ _ ?_
        refine XC.keep [(0, _), (4, _), (5, _), (6, _), (25, _)] ⟨rfl, rfl, rfl, rfl, rfl, trivial⟩ ?_
        refine XC.block ?_
        refine XC.seq fun K15 hK15 => ?_
        refine XC.region ?_
        refine x_v (r_eq rfl rfl) rfl ?_
        refine x_v (r_as rfl) rfl ?_
        refine XL.nil ?_
        refine hK15 _ _ ?_
        refine XC.keep [(0, _), (4, _), (5, _), (6, _), (25, _), (26, _)] ⟨rfl, rfl, rfl, rfl, rfl, rfl, trivial⟩ ?_
        refine XC.cond_d rfl (fun hc3 => ?_) (fun hc3 => ?_)
        · have hk : a.kind = 1 := by omega
          refine XC.seq fun K16 hK16 => ?_
          refine XC.region ?_
          refine x_v (r_fa fo83_1 rfl) rfl ?_
          refine x_v (r_ld ty3 rfl (by repeat (first | exact Pick.head _ _ | apply Pick.tail)) (by rfl)) rfl ?_
          refine x_v (r_cvi Try.underlying3 Try.underlying5 rfl) rfl ?_
          refine x_v (r_fa fo83_5 rfl) rfl ?_
          refine x_v (r_fa fo81_0 rfl) rfl ?_
          refine x_v (r_ld ty3 rfl (by repeat (first | exact Pick.head _ _ | apply Pick.tail)) (by rfl)) rfl ?_
          refine x_v (r_cvi Try.underlying3 Try.underlying5 rfl) rfl ?_
          refine x_v (r_fa fo83_5 rfl) rfl ?_
          refine x_v (r_fa fo81_1 rfl) rfl ?_
          refine x_v (r_ld ty3 rfl (by repeat (first | exact Pick.head _ _ | apply Pick.tail)) (by rfl)) rfl ?_
          refine x_v (r_cvi Try.underlying3 Try.underlying5 rfl) rfl ?_
          refine x_v (r_fa fo83_5 rfl) rfl ?_
          refine x_v (r_fa fo81_2 rfl) rfl ?_
          refine x_v (r_ld ty3 rfl (by repeat (first | exact Pick.head _ _ | apply Pick.tail)) (by rfl)) rfl ?_
          refine x_v (r_cvi Try.underlying3 Try.underlying5 rfl) rfl ?_
          refine x_v (r_fa fo83_5 rfl) rfl ?_
          refine x_v (r_fa fo81_5 rfl) rfl ?_
          refine x_v (r_ld ty3 rfl (by repeat (first | exact Pick.head _ _ | apply Pick.tail)) (by rfl)) rfl ?_
          refine x_v (r_cvi Try.underlying3 Try.underlying5 rfl) rfl ?_
          refine x_v (r_fa fo83_5 rfl) rfl ?_
          refine x_v (r_fa fo81_6 rfl) rfl ?_
          refine x_v (r_ld ty3 rfl (by repeat (first | exact Pick.head _ _ | apply Pick.tail)) (by rfl)) rfl ?_
          refine x_v (r_cvi Try.underlying3 Try.underlying5 rfl) rfl ?_
          refine x_v (r_fa fo83_5 rfl) rfl ?_
          refine x_v (r_fa fo81_3 rfl) rfl ?_
          refine x_v (r_ld ty9 rfl (by repeat (first | exact Pick.head _ _ | apply Pick.tail)) (by rfl)) rfl ?_
          refine x_v (r_lens Try.underlying9 rfl) rfl ?_
          refine x_v (r_rem rfl rfl (by omega)) rfl ?_
          rw [show ((a.q.name.length : Int) % 32) = ((a.q.name.length % 32 : Nat) : Int) by omega]
          refine x_v (r_cvi Try.underlying3 Try.underlying5 rfl) rfl ?_
          refine x_a (r_bs (vs := [_, _, _, _, _, _, _, _]) rfl ⟨rfl, rfl, rfl, rfl, rfl, rfl, rfl, rfl, rfl⟩ (bs92_8_0_1_2_3_4_5_6_7 _ _ _ _ _ _ _ _)) rfl fun b57 => ?_
          refine XL.shut_ (n := 8) (c := 8) (sz := 1) (xs := bv [byteOf 1, byteOf a.node, byteOf a.q.kind, byteOf a.q.client, byteOf a.q.seq, byteOf a.q.mode, byteOf a.q.lag, byteOf ((a.q.name.length % 32 : Nat) : Int)]) (by repeat (first | exact Pick.head _ _ | apply Pick.tail)) (Nat.le_refl _) (by decide) rfl (by simp only [u8_is]; rfl) ?_
          refine x_v (r_as rfl) rfl ?_
          refine XL.nil ?_
          refine hK16 _ _ ?_
          refine XC.keep [(0, _), (4, _), (5, _), (6, _), (7, _)] ⟨rfl, rfl, rfl, rfl, rfl, trivial⟩ ?_
          refine XC.seq fun K17 hK17 => ?_
          refine XC.region ?_
          refine x_v (r_mv rfl) rfl ?_
          refine x_v (r_fa fo83_5 rfl) rfl ?_
          refine x_v (r_fa fo81_3 rfl) rfl ?_
          refine x_v (r_ld ty9 rfl (by repeat (first | exact Pick.head _ _ | apply Pick.tail)) (by rfl)) rfl ?_
          refine x_v (r_fa fo83_5 rfl) rfl ?_
          refine x_v (r_fa fo81_3 rfl) rfl ?_
          refine x_v (r_ld ty9 rfl (by repeat (first | exact Pick.head _ _ | apply Pick.tail)) (by rfl)) rfl ?_
          refine x_v (r_lens Try.underlying9 rfl) rfl ?_
          refine x_v (r_rem rfl rfl (by omega)) rfl ?_
          rw [show ((a.q.name.length : Int) % 32) = ((a.q.name.length % 32 : Nat) : Int) by omega]
          have hm := Nat.mod_lt a.q.name.length (show 0 < 32 by decide)
          refine x_v (r_ssl (0) (a.q.name.length % 32) Try.underlying9 rfl rfl ⟨_, by rfl⟩ (by omega) (Nat.mod_le _ _)) rfl ?_
          rw [List.drop_zero, Nat.sub_zero]
          obtain ⟨nm, hnm⟩ : ∃ nm, nm = a.q.name.take (a.q.name.length % 32) := ⟨_, rfl⟩
          rw [← hnm]
          have hnl : nm.length ≤ 31 := by rw [hnm, List.length_take]; omega
          refine x_a (r_apps Try.underlying92 Try.underlying9 ty5 rfl rfl (by repeat (first | exact Pick.head _ _ | apply Pick.tail)) (by omega)) rfl fun ⟨A68, c68⟩ => ?_
          dsimp only
          rw [← bv_app]
          refine x_v (r_as rfl) rfl ?_
          refine XL.nil ?_
          refine hK17 _ _ ?_
          refine XC.keep [(0, _), (4, _), (5, _), (6, _), (7, _)] ⟨rfl, rfl, rfl, rfl, rfl, trivial⟩ ?_
          refine XC.seq fun K18 hK18 => ?_
          refine XC.region ?_
          refine x_v (r_mv rfl) rfl ?_
          refine x_v (r_fa fo83_5 rfl) rfl ?_
          refine x_v (r_fa fo81_4 rfl) rfl ?_
          refine x_v (r_ld ty9 rfl (by repeat (first | exact Pick.head _ _ | apply Pick.tail)) (by rfl)) rfl ?_
          refine x_v (r_lens Try.underlying9 rfl) rfl ?_
          refine x_v (r_rem rfl rfl (by omega)) rfl ?_
          rw [show ((a.q.data.length : Int) % 1024) = ((a.q.data.length % 1024 : Nat) : Int) by omega]
          refine x_v (r_cvi Try.underlying3 Try.underlying5 rfl) rfl ?_
          refine x_v (r_fa fo83_5 rfl) rfl ?_
          refine x_v (r_fa fo81_4 rfl) rfl ?_
          refine x_v (r_ld ty9 rfl (by repeat (first | exact Pick.head _ _ | apply Pick.tail)) (by rfl)) rfl ?_
          refine x_v (r_lens Try.underlying9 rfl) rfl ?_
          refine x_v (r_rem rfl rfl (by omega)) rfl ?_
          rw [show ((a.q.data.length : Int) % 1024) = ((a.q.data.length % 1024 : Nat) : Int) by omega]
          refine x_v (r_quo rfl rfl (by omega)) rfl ?_
          refine x_v (r_cvi Try.underlying3 Try.underlying5 rfl) rfl ?_
          refine x_a (r_bs (vs := [_, _]) rfl ⟨rfl, rfl, rfl⟩ (bs92_2_0_1 _ _)) rfl fun b83 => ?_
          refine XL.shut_ (n := 2) (c := 2) (sz := 1) (xs := bv [byteOf ((a.q.data.length % 1024 : Nat) : Int), byteOf (((a.q.data.length % 1024 : Nat) : Int) / 256)]) (by repeat (first | exact Pick.head _ _ | apply Pick.tail)) (Nat.le_refl _) (by decide) rfl (by simp only [u8_is]; rfl) ?_
          refine x_a (r_app Try.underlying92 ty5 rfl (by decide) rfl rfl (by repeat (first | exact Pick.head _ _ | apply Pick.tail)) (Rdb.of_sl (by repeat (first | exact Pick.head _ _ | apply Pick.tail)) rfl (fun _ => ⟨_, rfl⟩)) (bv_one _) (by unfold maxLen; omega) (by omega)) rfl fun ⟨A84, c84⟩ => ?_
          dsimp only
          rw [← bv_app]
          refine x_v (r_as rfl) rfl ?_
          refine XL.nil ?_
          refine hK18 _ _ ?_
          refine XC.keep [(0, _), (4, _), (5, _), (6, _), (7, _)] ⟨rfl, rfl, rfl, rfl, rfl, trivial⟩ ?_
          refine XC.region ?_
          refine x_v (r_mv rfl) rfl ?_
          refine x_v (r_fa fo83_5 rfl) rfl ?_
          refine x_v (r_fa fo81_4 rfl) rfl ?_
          refine x_v (r_ld ty9 rfl (by repeat (first | exact Pick.head _ _ | apply Pick.tail)) (by rfl)) rfl ?_
          refine x_v (r_fa fo83_5 rfl) rfl ?_
          refine x_v (r_fa fo81_4 rfl) rfl ?_
          refine x_v (r_ld ty9 rfl (by repeat (first | exact Pick.head _ _ | apply Pick.tail)) (by rfl)) rfl ?_
          refine x_v (r_lens Try.underlying9 rfl) rfl ?_
          refine x_v (r_rem rfl rfl (by omega)) rfl ?_
          rw [show ((a.q.data.length : Int) % 1024) = ((a.q.data.length % 1024 : Nat) : Int) by omega]
          have hm2 := Nat.mod_lt a.q.data.length (show 0 < 1024 by decide)
          refine x_v (r_ssl (0) (a.q.data.length % 1024) Try.underlying9 rfl rfl ⟨_, by rfl⟩ (by omega) (Nat.mod_le _ _)) rfl ?_
          rw [List.drop_zero, Nat.sub_zero]
          obtain ⟨dt, hdt⟩ : ∃ dt, dt = a.q.data.take (a.q.data.length % 1024) := ⟨_, rfl⟩
          rw [← hdt]
          have hdl : dt.length ≤ 1023 := by rw [hdt, List.length_take]; omega
          refine x_a (r_apps Try.underlying92 Try.underlying9 ty5 rfl rfl (by repeat (first | exact Pick.head _ _ | apply Pick.tail)) (by omega)) rfl fun ⟨A95, c95⟩ => ?_
          dsimp only
          rw [← bv_app]
          obtain ⟨bb, hbb⟩ : ∃ bb, bb = [byteOf 1, byteOf a.node, byteOf a.q.kind, byteOf a.q.client, byteOf a.q.seq, byteOf a.q.mode, byteOf a.q.lag, byteOf ((a.q.name.length % 32 : Nat) : Int)] ++ nm ++ [byteOf ((a.q.data.length % 1024 : Nat) : Int), byteOf (((a.q.data.length % 1024 : Nat) : Int) / 256)] ++ dt := ⟨_, rfl⟩
          rw [← hbb, show 8 + nm.length + 2 + dt.length = bb.length by rw [hbb]; simp; omega]
          refine x_v (r_as rfl) rfl ?_
          refine XL.nil ?_
          exact ⟨(bb, A95, c95), ⟨by dsimp only; rw [hbb]; unfold refB; rw [if_pos (by exact hk)]; dsimp only [Ac.v]; rw [hk, hnm, hdt]; simp, .inl hk⟩, ⟨rfl, rfl, rfl, rfl, rfl, trivial⟩, (by repeat (first | exact Gets.done _ | exact Gets.all _ | (apply Gets.step; focus ((repeat (first | exact Pick.head _ _ | apply Pick.tail)); done)) | apply Gets.drop))⟩
        · refine XC.seqcut (σ := Bool) (fun p => [(0, .slice (some ⟨sb, so, none⟩) L.length c), (4, .slice A1 out.length c1), (5, .int .i64 (i : Int)), (6, .pointer (some ⟨b6, 0, none⟩)), (25, .int .i64 a.kind), (96, .bool p)]) (fun p => blk b6 83 (ac a) :: sl A1 out.length c1 5 1 (bv out) :: Fr) (fun p => p = true ↔ (a.kind = 2 ∨ a.kind = 3 ∨ a.kind = 4 ∨ a.kind = 9)) ?_ ?_
          · refine XC.seq fun K20 hK20 => ?_
            refine XC.region ?_
            refine x_v (r_eq rfl rfl) rfl ?_
            refine x_v (r_as rfl) rfl ?_
            refine XL.nil ?_
            refine hK20 _ _ ?_
            refine XC.keep [(0, _), (4, _), (5, _), (6, _), (25, _), (96, _)] ⟨rfl, rfl, rfl, rfl, rfl, rfl, trivial⟩ ?_
            refine XC.cond_d rfl (fun hc4 => ?_) (fun hc4 => ?_)
            · refine XC.skip ?_
              exact ⟨_, by simp only [decide_eq_true_eq]; omega, ⟨rfl, rfl, rfl, rfl, rfl, rfl, trivial⟩, (by repeat (first | exact Gets.done _ | exact Gets.all _ | (apply Gets.step; focus ((repeat (first | exact Pick.head _ _ | apply Pick.tail)); done)) | apply Gets.drop))⟩
            · refine XC.seq fun K21 hK21 => ?_
              refine XC.region ?_
              refine x_v (r_eq rfl rfl) rfl ?_
              refine x_v (r_as rfl) rfl ?_
              refine XL.nil ?_
              refine hK21 _ _ ?_
              refine XC.keep [(0, _), (4, _), (5, _), (6, _), (25, _), (96, _)] ⟨rfl, rfl, rfl, rfl, rfl, rfl, trivial⟩ ?_
              refine XC.cond_d rfl (fun hc5 => ?_) (fun hc5 => ?_)
              · refine XC.skip ?_
                exact ⟨_, by simp only [decide_eq_true_eq]; omega, ⟨rfl, rfl, rfl, rfl, rfl, rfl, trivial⟩, (by repeat (first | exact Gets.done _ | exact Gets.all _ | (apply Gets.step; focus ((repeat (first | exact Pick.head _ _ | apply Pick.tail)); done)) | apply Gets.drop))⟩
              · refine XC.seq fun K22 hK22 => ?_
                refine XC.region ?_
                refine x_v (r_eq rfl rfl) rfl ?_
                refine x_v (r_as rfl) rfl ?_
                refine XL.nil ?_
                refine hK22 _ _ ?_
                refine XC.keep [(0, _), (4, _), (5, _), (6, _), (25, _), (96, _)] ⟨rfl, rfl, rfl, rfl, rfl, rfl, trivial⟩ ?_
                refine XC.cond_d rfl (fun hc6 => ?_) (fun hc6 => ?_)
                · refine XC.skip ?_
                  exact ⟨_, by simp only [decide_eq_true_eq]; omega, ⟨rfl, rfl, rfl, rfl, rfl, rfl, trivial⟩, (by repeat (first | exact Gets.done _ | exact Gets.all _ | (apply Gets.step; focus ((repeat (first | exact Pick.head _ _ | apply Pick.tail)); done)) | apply Gets.drop))⟩
                · refine XC.region ?_
                  refine x_v (r_eq rfl rfl) rfl ?_
                  refine x_v (r_as rfl) rfl ?_
                  refine XL.nil ?_
                  exact ⟨_, by simp only [decide_eq_true_eq]; omega, ⟨rfl, rfl, rfl, rfl, rfl, rfl, trivial⟩, (by repeat (first | exact Gets.done _ | exact Gets.all _ | (apply Gets.step; focus ((repeat (first | exact Pick.head _ _ | apply Pick.tail)); done)) | apply Gets.drop))⟩
          · rintro p hp
            unfold ac
            refine XC.cond rfl (fun hc7 => ?_) (fun hc7 => ?_)
            · have hk := hp.1 hc7
              refine XC.region ?_
              refine x_v (r_fa fo83_0 rfl) rfl ?_
              refine x_v (r_ld ty3 rfl (by repeat (first | exact Pick.head _ _ | apply Pick.tail)) (by rfl)) rfl ?_
              refine x_v (r_cvi Try.underlying3 Try.underlying5 rfl) rfl ?_
              refine x_v (r_fa fo83_2 rfl) rfl ?_
              refine x_v (r_ld ty3 rfl (by repeat (first | exact Pick.head _ _ | apply Pick.tail)) (by rfl)) rfl ?_
              refine x_v (r_cvi Try.underlying3 Try.underlying5 rfl) rfl ?_
              refine x_a (r_bs (vs := [_, _]) rfl ⟨rfl, rfl, rfl⟩ (bs92_2_0_1 _ _)) rfl fun b107 => ?_
              refine XL.shut_ (n := 2) (c := 2) (sz := 1) (xs := bv [byteOf a.kind, byteOf a.k]) (by repeat (first | exact Pick.head _ _ | apply Pick.tail)) (Nat.le_refl _) (by decide) rfl (by simp only [u8_is]; rfl) ?_
              refine x_v (r_as rfl) rfl ?_
              refine XL.nil ?_
              exact ⟨([byteOf a.kind, byteOf a.k], some ⟨b107, 0, none⟩, 2), ⟨by dsimp only; unfold refB; rw [if_neg (by dsimp only [Ac.v]; omega), if_pos (by dsimp only [Ac.v]; omega)]; rfl, by unfold Kd; omega⟩, ⟨rfl, rfl, rfl, rfl, rfl, trivial⟩, (by repeat (first | exact Gets.done _ | exact Gets.all _ | (apply Gets.step; focus ((repeat (first | exact Pick.head _ _ | apply Pick.tail)); done)) | apply Gets.drop))⟩
            · have hnk : ¬ (a.kind = 2 ∨ a.kind = 3 ∨ a.kind = 4 ∨ a.kind = 9) := fun h => Bool.noConfusion (hc7.symm.trans (hp.2 h))
              refine XC.seq fun K23 hK23 => ?_
              refine XC.region ?_
              refine x_v (r_eq rfl rfl) rfl ?_
              refine x_v (r_as rfl) rfl ?_
              refine XL.nil ?_
              refine hK23 _ _ ?_
              refine XC.keep [(0, _), (4, _), (5, _), (6, _), (25, _), (108, _)] ⟨rfl, rfl, rfl, rfl, rfl, rfl, trivial⟩ ?_
              refine XC.cond_d rfl (fun hc8 => ?_) (fun hc8 => ?_)
              · refine XC.region ?_
                refine x_v (r_fa fo83_1 rfl) rfl ?_
                refine x_v (r_ld ty3 rfl (by repeat (first | exact Pick.head _ _ | apply Pick.tail)) (by rfl)) rfl ?_
                refine x_v (r_cvi Try.underlying3 Try.underlying5 rfl) rfl ?_
                refine x_v (r_fa fo83_3 rfl) rfl ?_
                refine x_v (r_ld ty3 rfl (by repeat (first | exact Pick.head _ _ | apply Pick.tail)) (by rfl)) rfl ?_
                refine x_v (r_cvi Try.underlying3 Try.underlying5 rfl) rfl ?_
                refine x_a (r_bs (vs := [_, _, _]) rfl ⟨rfl, rfl, rfl, rfl⟩ (bs92_3_0_1_2 _ _ _)) rfl fun b116 => ?_
                refine XL.shut_ (n := 3) (c := 3) (sz := 1) (xs := bv [byteOf 5, byteOf a.node, byteOf a.draw]) (by repeat (first | exact Pick.head _ _ | apply Pick.tail)) (Nat.le_refl _) (by decide) rfl (by simp only [u8_is]; rfl) ?_
                refine x_v (r_as rfl) rfl ?_
                refine XL.nil ?_
                exact ⟨([byteOf 5, byteOf a.node, byteOf a.draw], some ⟨b116, 0, none⟩, 3), ⟨by dsimp only; unfold refB; rw [if_neg (by dsimp only [Ac.v]; omega), if_neg (by dsimp only [Ac.v]; omega), if_pos (by dsimp only [Ac.v]; omega), show a.v.kind = 5 by dsimp only [Ac.v]; omega]; rfl, by unfold Kd; omega⟩, ⟨rfl, rfl, rfl, rfl, rfl, trivial⟩, (by repeat (first | exact Gets.done _ | exact Gets.all _ | (apply Gets.step; focus ((repeat (first | exact Pick.head _ _ | apply Pick.tail)); done)) | apply Gets.drop))⟩
              · refine XC.seqcut (σ := Bool) (fun p => [(0, .slice (some ⟨sb, so, none⟩) L.length c), (4, .slice A1 out.length c1), (5, .int .i64 (i : Int)), (6, .pointer (some ⟨b6, 0, none⟩)), (25, .int .i64 a.kind), (117, .bool p)]) (fun p => blk b6 83 (ac a) :: sl A1 out.length c1 5 1 (bv out) :: Fr) (fun p => p = true ↔ (a.kind = 6 ∨ a.kind = 7)) ?_ ?_
                · refine XC.seq fun K25 hK25 => ?_
                  refine XC.region ?_
                  refine x_v (r_eq rfl rfl) rfl ?_
                  refine x_v (r_as rfl) rfl ?_
                  refine XL.nil ?_
                  refine hK25 _ _ ?_
                  refine XC.keep [(0, _), (4, _), (5, _), (6, _), (25, _), (117, _)] ⟨rfl, rfl, rfl, rfl, rfl, rfl, trivial⟩ ?_
                  refine XC.cond_d rfl (fun hc9 => ?_) (fun hc9 => ?_)
                  · refine XC.skip ?_
                    exact ⟨_, by simp only [decide_eq_true_eq]; omega, ⟨rfl, rfl, rfl, rfl, rfl, rfl, trivial⟩, (by repeat (first | exact Gets.done _ | exact Gets.all _ | (apply Gets.step; focus ((repeat (first | exact Pick.head _ _ | apply Pick.tail)); done)) | apply Gets.drop))⟩
                  · refine XC.region ?_
                    refine x_v (r_eq rfl rfl) rfl ?_
                    refine x_v (r_as rfl) rfl ?_
                    refine XL.nil ?_
                    exact ⟨_, by simp only [decide_eq_true_eq]; omega, ⟨rfl, rfl, rfl, rfl, rfl, rfl, trivial⟩, (by repeat (first | exact Gets.done _ | exact Gets.all _ | (apply Gets.step; focus ((repeat (first | exact Pick.head _ _ | apply Pick.tail)); done)) | apply Gets.drop))⟩
                · rintro p hp
                  unfold ac
                  refine XC.cond rfl (fun hc10 => ?_) (fun hc10 => ?_)
                  · have hk := hp.1 hc10
                    have hm := Nat.mod_lt a.n (show 0 < 8 by decide)
                    have hm3 := Nat.mod_le a.n 8
                    refine XC.seq fun K26 hK26 => ?_
                    refine XC.region ?_
                    refine x_v (r_fa fo83_0 rfl) rfl ?_
                    refine x_v (r_ld ty3 rfl (by repeat (first | exact Pick.head _ _ | apply Pick.tail)) (by rfl)) rfl ?_
                    refine x_v (r_cvi Try.underlying3 Try.underlying5 rfl) rfl ?_
                    refine x_v (r_fa fo83_1 rfl) rfl ?_
                    refine x_v (r_ld ty3 rfl (by repeat (first | exact Pick.head _ _ | apply Pick.tail)) (by rfl)) rfl ?_
                    refine x_v (r_cvi Try.underlying3 Try.underlying5 rfl) rfl ?_
                    refine x_v (r_fa fo83_4 rfl) rfl ?_
                    refine x_v (r_ld ty40 rfl (by repeat (first | exact Pick.head _ _ | apply Pick.tail)) (by rfl)) rfl ?_
                    refine x_v (r_lensl Try.underlying40 rfl) rfl ?_
                    refine x_v (r_rem rfl rfl (by omega)) rfl ?_
                    rw [show ((a.n : Int) % 8) = ((a.n % 8 : Nat) : Int) by omega]
                    refine x_v (r_cvi Try.underlying3 Try.underlying5 rfl) rfl ?_
                    refine x_a (r_bs (vs := [_, _, _]) rfl ⟨rfl, rfl, rfl, rfl⟩ (bs92_3_0_1_2 _ _ _)) rfl fun b131 => ?_
                    refine XL.shut_ (n := 3) (c := 3) (sz := 1) (xs := bv [byteOf a.kind, byteOf a.node, byteOf ((a.n % 8 : Nat) : Int)]) (by repeat (first | exact Pick.head _ _ | apply Pick.tail)) (Nat.le_refl _) (by decide) rfl (by simp only [u8_is]; rfl) ?_
                    refine x_v (r_as rfl) rfl ?_
                    refine XL.nil ?_
                    refine hK26 _ _ ?_
                    refine XC.keep [(0, _), (4, _), (5, _), (6, _), (7, _)] ⟨rfl, rfl, rfl, rfl, rfl, trivial⟩ ?_
                    refine XC.seq fun K27 hK27 => ?_
                    refine XC.region ?_
                    refine x_v (r_as rfl) rfl ?_
                    refine XL.nil ?_
                    refine hK27 _ _ ?_
                    refine XC.keep [(0, _), (4, _), (5, _), (6, _), (7, _), (8, _)] ⟨rfl, rfl, rfl, rfl, rfl, rfl, trivial⟩ ?_
                    refine XC.block ?_
                    refine XC.loop (σ := Nat × List UInt8 × Option Addr × Nat) (fun s2 => [(0, .slice (some ⟨sb, so, none⟩) L.length c), (4, .slice A1 out.length c1), (5, .int .i64 (i : Int)), (6, .pointer (some ⟨b6, 0, none⟩)), (7, .slice s2.2.2.1 s2.2.1.length s2.2.2.2), (8, .int .i64 (s2.1 : Int))]) (fun s2 => sl s2.2.2.1 s2.2.1.length s2.2.2.2 5 1 (bv s2.2.1) :: blk b6 83 (ac a) :: sl A1 out.length c1 5 1 (bv out) :: Fr) (fun s2 => s2.1 ≤ a.n % 8 ∧ s2.2.1 = [byteOf a.kind, byteOf a.node, byteOf ((a.n % 8 : Nat) : Int)] ++ (a.ks.take s2.1).map byteOf) (fun s2 => a.n % 8 - s2.1) (0, [byteOf a.kind, byteOf a.node, byteOf ((a.n % 8 : Nat) : Int)], some ⟨b131, 0, none⟩, 3) ?_ ⟨rfl, rfl, rfl, rfl, rfl, rfl, trivial⟩ (by repeat (first | exact Gets.done _ | exact Gets.all _ | (apply Gets.step; focus ((repeat (first | exact Pick.head _ _ | apply Pick.tail)); done)) | apply Gets.drop)) ?_
                    · exact ⟨Nat.zero_le _, by simp⟩
                    rintro ⟨k, bb, A2, c2⟩ ⟨hk8, hbb⟩
                    dsimp only at hk8 hbb ⊢
                    unfold ac
                    have hbl : bb.length ≤ 11 := by rw [hbb]; simp; omega
                    refine XC.seq fun K28 hK28 => ?_
                    refine XC.seq fun K29 hK29 => ?_
                    refine XC.region ?_
                    refine x_v (r_mv rfl) rfl ?_
                    refine x_v (r_fa fo83_4 rfl) rfl ?_
                    refine x_v (r_ld ty40 rfl (by repeat (first | exact Pick.head _ _ | apply Pick.tail)) (by rfl)) rfl ?_
                    refine x_v (r_lensl Try.underlying40 rfl) rfl ?_
                    refine x_v (r_rem rfl rfl (by omega)) rfl ?_
                    rw [show ((a.n : Int) % 8) = ((a.n % 8 : Nat) : Int) by omega]
                    refine x_v (r_lt rfl rfl) rfl ?_
                    refine XL.nil ?_
                    refine hK29 _ _ ?_
                    refine XC.keep [(0, _), (4, _), (5, _), (6, _), (7, _), (8, _), (137, _)] ⟨rfl, rfl, rfl, rfl, rfl, rfl, rfl, trivial⟩ ?_
                    refine XC.cond_d rfl (fun hc11 => ?_) (fun hc11 => ?_)
                    · refine XC.skip ?_
                      refine hK28 _ _ ?_
                      refine XC.keep [(0, _), (4, _), (5, _), (6, _), (7, _), (8, _)] ⟨rfl, rfl, rfl, rfl, rfl, rfl, trivial⟩ ?_
                      refine XC.seq fun K30 hK30 => ?_
                      refine XC.block ?_
                      refine XC.region ?_
                      refine x_v (r_mv rfl) rfl ?_
                      refine x_v (r_fa fo83_4 rfl) rfl ?_
                      refine x_v (r_ld ty40 rfl (by repeat (first | exact Pick.head _ _ | apply Pick.tail)) (by rfl)) rfl ?_
                      refine x_v (r_mv rfl) rfl ?_
                      obtain ⟨x, hx⟩ : ∃ x, a.ks[k]? = some x := ⟨_, List.getElem?_eq_getElem (by omega)⟩
                      obtain ⟨kb, ko, hkA, hkat⟩ := hka.at_ (by omega)
                      rw [hkA]
                      refine x_v (r_ia (k := k) Try.underlying40 ty3 rfl rfl (by omega) (by omega)) rfl ?_
                      refine x_v (r_ldr ty3 rfl (fun w hw => by rw [Nat.mul_one]; exact hkat w (Gets.own (by repeat (first | exact Gets.done _ | exact Gets.all _ | (apply Gets.step; focus ((repeat (first | exact Pick.head _ _ | apply Pick.tail)); done)) | apply Gets.drop)) hw) k _ (iv_get hx))) rfl ?_
                      refine x_v (r_cvi Try.underlying3 Try.underlying5 rfl) rfl ?_
                      refine x_a (r_bs (vs := [_]) rfl ⟨rfl, rfl⟩ (bs92_1_0 _)) rfl fun b147 => ?_
                      refine XL.shut_ (n := 1) (c := 1) (sz := 1) (xs := bv [byteOf x]) (by repeat (first | exact Pick.head _ _ | apply Pick.tail)) (Nat.le_refl _) (by decide) rfl (by simp only [u8_is]; rfl) ?_
                      refine x_a (r_app Try.underlying92 ty5 rfl (by decide) rfl rfl (by repeat (first | exact Pick.head _ _ | apply Pick.tail)) (Rdb.of_sl (by repeat (first | exact Pick.head _ _ | apply Pick.tail)) rfl (fun _ => ⟨_, rfl⟩)) (bv_one _) (by unfold maxLen; omega) (by omega)) rfl fun ⟨A148, c148⟩ => ?_
                      dsimp only
                      rw [← bv_app, show bb.length + 1 = (bb ++ [byteOf x]).length by simp, ← hkA]
                      refine x_v (r_as rfl) rfl ?_
                      refine XL.nil ?_
                      refine hK30 _ _ ?_
                      refine XC.keep [(0, _), (4, _), (5, _), (6, _), (7, _), (8, _)] ⟨rfl, rfl, rfl, rfl, rfl, rfl, trivial⟩ ?_
                      refine XC.region ?_
                      refine x_v (r_mv rfl) rfl ?_
                      refine x_v (r_add rfl rfl (by omega)) rfl ?_
                      refine x_v (r_as rfl) rfl ?_
                      refine XL.nil ?_
                      refine ⟨(k + 1, bb ++ [byteOf x], A148, c148), ?_, ?_, ⟨rfl, rfl, rfl, rfl, rfl, rfl, trivial⟩, (by repeat (first | exact Gets.done _ | exact Gets.all _ | (apply Gets.step; focus ((repeat (first | exact Pick.head _ _ | apply Pick.tail)); done)) | apply Gets.drop))⟩
                      · exact ⟨by dsimp only; omega, by dsimp only; rw [hbb, tk_snoc hx]; simp⟩
                      · dsimp only; omega
                    · refine XC.exit rfl ?_
                      exact ⟨(bb, A2, c2), ⟨by dsimp only; rw [hbb]; unfold refB; rw [if_neg (by dsimp only [Ac.v]; omega), if_neg (by dsimp only [Ac.v]; omega), if_neg (by dsimp only [Ac.v]; omega), if_pos (by dsimp only [Ac.v]; omega), show k = a.n % 8 by omega, hna]; simp [Ac.v], by unfold Kd; omega⟩, ⟨rfl, rfl, rfl, rfl, rfl, trivial⟩, (by repeat (first | exact Gets.done _ | exact Gets.all _ | (apply Gets.step; focus ((repeat (first | exact Pick.head _ _ | apply Pick.tail)); done)) | apply Gets.drop))⟩
                  · have hnk2 : ¬ (a.kind = 6 ∨ a.kind = 7) := fun h => Bool.noConfusion (hc10.symm.trans (hp.2 h))
                    refine XC.seq fun K31 hK31 => ?_
                    refine XC.region ?_
                    refine x_v (r_eq rfl rfl) rfl ?_
                    refine x_v (r_as rfl) rfl ?_
                    refine XL.nil ?_
                    refine hK31 _ _ ?_
                    refine XC.keep [(0, _), (4, _), (5, _), (6, _), (25, _), (149, _)] ⟨rfl, rfl, rfl, rfl, rfl, rfl, trivial⟩ ?_
                    refine XC.cond_d rfl (fun hc12 => ?_) (fun hc12 => ?_)
                    · refine XC.region ?_
                      refine x_v (r_fa fo83_1 rfl) rfl ?_
                      refine x_v (r_ld ty3 rfl (by repeat (first | exact Pick.head _ _ | apply Pick.tail)) (by rfl)) rfl ?_
                      refine x_v (r_cvi Try.underlying3 Try.underlying5 rfl) rfl ?_
                      refine x_v (r_fa fo83_2 rfl) rfl ?_
                      refine x_v (r_ld ty3 rfl (by repeat (first | exact Pick.head _ _ | apply Pick.tail)) (by rfl)) rfl ?_
                      refine x_v (r_cvi Try.underlying3 Try.underlying5 rfl) rfl ?_
                      refine x_a (r_bs (vs := [_, _, _]) rfl ⟨rfl, rfl, rfl, rfl⟩ (bs92_3_0_1_2 _ _ _)) rfl fun b157 => ?_
                      refine XL.shut_ (n := 3) (c := 3) (sz := 1) (xs := bv [byteOf 8, byteOf a.node, byteOf a.k]) (by repeat (first | exact Pick.head _ _ | apply Pick.tail)) (Nat.le_refl _) (by decide) rfl (by simp only [u8_is]; rfl) ?_
                      refine x_v (r_as rfl) rfl ?_
                      refine XL.nil ?_
                      exact ⟨([byteOf 8, byteOf a.node, byteOf a.k], some ⟨b157, 0, none⟩, 3), ⟨by dsimp only; unfold refB; (repeat rw [if_neg (by dsimp only [Ac.v]; omega)]); rw [if_pos (by dsimp only [Ac.v]; omega), show a.v.kind = 8 by dsimp only [Ac.v]; omega]; rfl, by unfold Kd; omega⟩, ⟨rfl, rfl, rfl, rfl, rfl, trivial⟩, (by repeat (first | exact Gets.done _ | exact Gets.all _ | (apply Gets.step; focus ((repeat (first | exact Pick.head _ _ | apply Pick.tail)); done)) | apply Gets.drop))⟩
                    · refine XC.seq fun K32 hK32 => ?_
                      refine XC.region ?_
                      refine x_v (r_eq rfl rfl) rfl ?_
                      refine x_v (r_as rfl) rfl ?_
                      refine XL.nil ?_
                      refine hK32 _ _ ?_
                      refine XC.keep [(0, _), (4, _), (5, _), (6, _), (158, _)] ⟨rfl, rfl, rfl, rfl, rfl, trivial⟩ ?_
                      refine XC.cond_d rfl (fun hc13 => ?_) (fun hc13 => ?_)
                      · refine XC.region ?_
                        refine x_v (r_fa fo83_1 rfl) rfl ?_
                        refine x_v (r_ld ty3 rfl (by repeat (first | exact Pick.head _ _ | apply Pick.tail)) (by rfl)) rfl ?_
                        refine x_v (r_cvi Try.underlying3 Try.underlying5 rfl) rfl ?_
                        refine x_v (r_fa fo83_2 rfl) rfl ?_
                        refine x_v (r_ld ty3 rfl (by repeat (first | exact Pick.head _ _ | apply Pick.tail)) (by rfl)) rfl ?_
                        refine x_v (r_cvi Try.underlying3 Try.underlying5 rfl) rfl ?_
                        refine x_v (r_fa fo83_3 rfl) rfl ?_
                        refine x_v (r_ld ty3 rfl (by repeat (first | exact Pick.head _ _ | apply Pick.tail)) (by rfl)) rfl ?_
                        refine x_v (r_remt rfl rfl (by decide)) rfl ?_
                        refine x_v (r_cvi Try.underlying3 Try.underlying5 rfl) rfl ?_
                        refine x_v (r_fa fo83_3 rfl) rfl ?_
                        refine x_v (r_ld ty3 rfl (by repeat (first | exact Pick.head _ _ | apply Pick.tail)) (by rfl)) rfl ?_
                        refine x_v (r_remt rfl rfl (by decide)) rfl ?_
                        refine x_v (r_quot rfl rfl (by decide)) rfl ?_
                        have htm := tmod_in a.draw
                        have htd := tdiv_in (i := a.draw.tmod 65536) (by omega)
                        rw [show IntKind.i64.wrap ((a.draw.tmod 65536).tdiv 256) = (a.draw.tmod 65536).tdiv 256 by rw [IntKind.wrap_i64]; omega]
                        refine x_v (r_cvi Try.underlying3 Try.underlying5 rfl) rfl ?_
                        refine x_a (r_bs (vs := [_, _, _, _, _]) rfl ⟨rfl, rfl, rfl, rfl, rfl, rfl⟩ (bs92_5_0_1_2_3_4 _ _ _ _ _)) rfl fun b175 => ?_
                        refine XL.shut_ (n := 5) (c := 5) (sz := 1) (xs := bv [byteOf 10, byteOf a.node, byteOf a.k, byteOf (a.draw.tmod 65536), byteOf ((a.draw.tmod 65536).tdiv 256)]) (by repeat (first | exact Pick.head _ _ | apply Pick.tail)) (Nat.le_refl _) (by decide) rfl (by simp only [u8_is]; rfl) ?_
                        refine x_v (r_as rfl) rfl ?_
                        refine XL.nil ?_
                        exact ⟨([byteOf 10, byteOf a.node, byteOf a.k, byteOf (a.draw.tmod 65536), byteOf ((a.draw.tmod 65536).tdiv 256)], some ⟨b175, 0, none⟩, 5), ⟨by dsimp only; unfold refB; (repeat rw [if_neg (by dsimp only [Ac.v]; omega)]); rw [if_pos (by dsimp only [Ac.v]; omega), show a.v.kind = 10 by dsimp only [Ac.v]; omega]; rfl, by unfold Kd; omega⟩, ⟨rfl, rfl, rfl, rfl, rfl, trivial⟩, (by repeat (first | exact Gets.done _ | exact Gets.all _ | (apply Gets.step; focus ((repeat (first | exact Pick.head _ _ | apply Pick.tail)); done)) | apply Gets.drop))⟩
                      · refine XC.seq fun K33 hK33 => ?_
                        refine XC.region ?_
                        refine x_v (r_as rfl) rfl ?_
                        refine x_v (r_as rfl) rfl ?_
                        refine XL.nil ?_
                        refine hK33 _ _ ?_
                        refine XC.keep [(2, _), (3, _)] ⟨rfl, rfl, trivial⟩ ?_
                        refine XC.ret ?_
                        rw [printF_bad (List.mem_map.2 ⟨a, List.mem_of_getElem? ho, rfl⟩) (fun h => by (have := good_kd h); unfold Kd at this; dsimp only [Ac.v] at this; omega)]
                        exact fin2 rfl rfl (⟨rfl, rfl⟩) (by repeat (first | exact Gets.done _ | exact Gets.all _ | (apply Gets.step; focus ((repeat (first | exact Pick.head _ _ | apply Pick.tail)); done)) | apply Gets.drop))
      · rintro ⟨bb, A7, c7⟩ ⟨hbb, hkd⟩
        dsimp only at hbb ⊢
        have hbl := refB_len a.v
        rw [← hbb] at hbl
        refine XC.slnn (A := A7) (by repeat (first | exact Pick.head _ _ | apply Pick.tail)) fun hl7 hA7 => ?_
        refine XC.seq fun K34 hK34 => ?_
        refine XC.seq fun K35 hK35 => ?_
        refine XC.region ?_
        refine x_v (r_mv rfl) rfl ?_
        refine x_v (r_text Try.underlying92 Try.underlying5 Try.underlying9 rfl (Rdb.of_sl (by repeat (first | exact Pick.head _ _ | apply Pick.tail)) hl7 hA7)) rfl ?_
        refine x_c (r_call0 (args := [_]) ⟨rfl, rfl⟩ (ref_read_tr (Fr := sl A7 bb.length c7 5 1 (bv bb) :: blk b6 83 (ac a) :: sl A1 out.length c1 5 1 (bv out) :: Fr) bb (by omega)) (by repeat (first | exact Gets.done _ | exact Gets.all _ | (apply Gets.step; focus ((repeat (first | exact Pick.head _ _ | apply Pick.tail)); done)) | apply Gets.drop))) rfl ?_
        rintro _ _ ⟨A9, c9, Lb, rfl, hRb, hLb, hOb, hcb⟩
        rename_i R9
        rw [hbb, refRead_one (a := a.v) hkd] at hLb
        have hLb1 : Lb.length = 1 := by have := congrArg List.length hLb; simpa using this
        refine x_v (r_as rfl) rfl ?_
        refine XL.nil ?_
        refine hK35 _ _ ?_
        refine XC.keep [(0, _), (4, _), (5, _), (6, _), (7, _), (9, _)] ⟨rfl, rfl, rfl, rfl, rfl, rfl, trivial⟩ ?_
        refine XC.seq fun K36 hK36 => ?_
        refine XC.region ?_
        refine x_v (r_mv rfl) rfl ?_
        refine x_v (r_lensl Try.underlying56 rfl) rfl ?_
        refine x_v (r_ne rfl rfl) rfl ?_
        refine x_v (r_mv rfl) rfl ?_
        refine XL.splitd 182 rfl (fun hg182 => ?_) (fun hg182 => ?_)
        · exfalso; omega
        · refine x_want rfl rfl rfl ?_
          refine x_v (r_mv rfl) rfl ?_
          refine x_want rfl rfl rfl ?_
          refine x_v (r_ldar (l' := [.int .i64 a.kind, .int .i64 a.node, .int .i64 a.k, .int .i64 a.draw, .slice a.A a.n a.c, .int .i64 a.q.kind, .int .i64 a.q.client, .int .i64 a.q.seq, str a.q.name, str a.q.data, .int .i64 a.q.mode, .int .i64 a.q.lag]) ty83 rfl rfl (fun w hw j u hu => blk_at (hOb w hw).tail j u hu)) rfl ?_
          refine x_want rfl rfl rfl ?_
          refine x_a (r_bs (vs := [_]) rfl ⟨rfl, rfl⟩ (bs56_1_0 _ _ _ _ _ _ _ _ _ _ _ _ _ _)) rfl fun b185 => ?_
          refine x_want rfl rfl rfl ?_
          refine x_c (r_call0 (args := [_, _]) ⟨rfl, rfl, rfl⟩ (same_tr (Fr := blk b185 83 (ac a) :: R9) A9 (some ⟨b185, 0, none⟩) c9 1 Lb [a] (hRb.mono fun w h => h.tail) (rda_one (fun w h j u hu => blk_at h j u hu) (hka.mono fun w h => (hOb w h.tail).tail.tail.tail) (by omega))) (by repeat (first | exact Gets.done _ | exact Gets.all _ | (apply Gets.step; focus ((repeat (first | exact Pick.head _ _ | apply Pick.tail)); done)) | apply Gets.drop))) rfl ?_
          rintro _ _ ⟨rfl, hRs⟩
          rw [hRs, hLb]
          refine x_want rfl rfl rfl ?_
          refine x_v (r_not_d rfl) rfl ?_
          refine x_v (r_pk_f rfl rfl) rfl ?_
          refine XL.nil ?_
          refine hK36 _ _ ?_
          refine XC.keep [(0, _), (4, _), (5, _), (7, _), (188, _)] ⟨rfl, rfl, rfl, rfl, rfl, trivial⟩ ?_
          refine XC.cond_d rfl (fun hc14 => ?_) (fun hc14 => ?_)
          · have hg : ¬ Good a.v := fun h => by (have := (canon_iff (a := a.v) hkd).2 h); apply hc14; rw [this]; rfl
            rw [printF_bad (List.mem_map.2 ⟨a, List.mem_of_getElem? ho, rfl⟩) hg]
            refine XC.mem Fr (fun w h => (hOb w h.tail).tail.tail.tail) ?_
            refine XC.seq fun K37 hK37 => ?_
            refine XC.region ?_
            refine x_v (r_as rfl) rfl ?_
            refine x_v (r_as rfl) rfl ?_
            refine XL.nil ?_
            refine hK37 _ _ ?_
            refine XC.keep [(2, _), (3, _)] ⟨rfl, rfl, trivial⟩ ?_
            refine XC.ret ?_
            exact fin2 rfl rfl (⟨rfl, rfl⟩) (by repeat (first | exact Gets.done _ | exact Gets.all _ | (apply Gets.step; focus ((repeat (first | exact Pick.head _ _ | apply Pick.tail)); done)) | apply Gets.drop))
          · have hg : Good a.v := (canon_iff (a := a.v) hkd).1 (by have := Decidable.not_not.1 hc14; simpa using this)
            refine XC.skip ?_
            refine hK34 _ _ ?_
            refine XC.keep [(0, _), (4, _), (5, _), (7, _)] ⟨rfl, rfl, rfl, rfl, trivial⟩ ?_
            refine XC.mem (sl A7 bb.length c7 5 1 (bv bb) :: blk b6 83 (ac a) :: sl A1 out.length c1 5 1 (bv out) :: Fr) (fun w h => hOb w h.tail) ?_
            refine XC.region ?_
            refine x_v (r_mv rfl) rfl ?_
            refine x_v (r_mv rfl) rfl ?_
            refine x_a (r_app Try.underlying92 ty5 rfl (by decide) rfl rfl (by repeat (first | exact Pick.head _ _ | apply Pick.tail)) (Rdb.of_sl (by repeat (first | exact Pick.head _ _ | apply Pick.tail)) hl7 hA7) (bv_one _) (by unfold maxLen; omega) (by omega)) rfl fun ⟨A191, c191⟩ => ?_
            dsimp only
            rw [← bv_app, ← List.length_append, hbb, good_bytes hg]
            refine x_v (r_as rfl) rfl ?_
            refine XL.nil ?_
            refine hK10 _ _ ?_
            refine XC.keep [(0, _), (4, _), (5, _)] ⟨rfl, rfl, rfl, trivial⟩ ?_
            refine XC.region ?_
            refine x_v (r_mv rfl) rfl ?_
            refine x_v (r_add rfl rfl (by omega)) rfl ?_
            refine x_v (r_as rfl) rfl ?_
            refine XL.nil ?_
            refine ⟨(i + 1, out ++ actB a.v, A191, c191), ?_, ?_, ⟨rfl, rfl, rfl, trivial⟩, (by repeat (first | exact Gets.done _ | exact Gets.all _ | (apply Gets.step; focus ((repeat (first | exact Pick.head _ _ | apply Pick.tail)); done)) | apply Gets.drop))⟩
            · exact ⟨by dsimp only; omega, by dsimp only; rw [tk_snoc ho, hout]; simp, by dsimp only; rw [tk_snoc ho]; intro q hq; rw [List.map_append] at hq; rcases List.mem_append.1 hq with h | h; exact hall q h; simp only [List.map_cons, List.map_nil, List.mem_singleton] at h; rw [h]; exact hg, by (have := actB_len (a := a.v) (by rw [← show a.n = a.v.ks.length from hna]; exact hsa.1) hsa.2.1 hsa.2.2); simp; omega⟩
            · dsimp only; omega
    · refine XC.exit rfl ?_
      refine hK6 _ _ ?_
      refine XC.keep [(4, _)] ⟨rfl, trivial⟩ ?_
      refine XC.seq fun K38 hK38 => ?_
      refine XC.seq fun K39 hK39 => ?_
      obtain rfl : i = L.length := by omega
      rw [List.take_length] at hout hall
      refine XC.slnn (A := A1) (by repeat (first | exact Pick.head _ _ | apply Pick.tail)) fun hla hA => ?_
      refine XC.region ?_
      refine x_v (r_mv rfl) rfl ?_
      refine x_v (r_lensl Try.underlying92 rfl) rfl ?_
      refine x_v (r_gt rfl rfl) rfl ?_
      refine XL.nil ?_
      refine hK39 _ _ ?_
      refine XC.keep [(4, _), (194, _)] ⟨rfl, rfl, trivial⟩ ?_
      refine XC.cond_d rfl (fun hc15 => ?_) (fun hc15 => ?_)
      · have hp : printF (L.map Ac.v) = ([], 4) := by unfold printF; rw [if_neg (by simp; omega), if_pos hall, ← hout, if_pos (by omega)]
        rw [hp]
        refine XC.seq fun K40 hK40 => ?_
        refine XC.region ?_
        refine x_v (r_as rfl) rfl ?_
        refine x_v (r_as rfl) rfl ?_
        refine XL.nil ?_
        refine hK40 _ _ ?_
        refine XC.keep [(2, _), (3, _)] ⟨rfl, rfl, trivial⟩ ?_
        refine XC.ret ?_
        exact fin2 rfl rfl (⟨rfl, rfl⟩) (by repeat (first | exact Gets.done _ | exact Gets.all _ | (apply Gets.step; focus ((repeat (first | exact Pick.head _ _ | apply Pick.tail)); done)) | apply Gets.drop))
      · have hp : printF (L.map Ac.v) = (out, 0) := by unfold printF; rw [if_neg (by simp; omega), if_pos hall, ← hout, if_neg (by omega)]
        refine XC.skip ?_
        refine hK38 _ _ ?_
        refine XC.keep [(4, _)] ⟨rfl, trivial⟩ ?_
        refine XC.seq fun K41 hK41 => ?_
        refine XC.region ?_
        refine x_v (r_mv rfl) rfl ?_
        refine x_v (r_text Try.underlying92 Try.underlying5 Try.underlying9 rfl (Rdb.of_sl (by repeat (first | exact Pick.head _ _ | apply Pick.tail)) hla hA)) rfl ?_
        refine x_v (r_as rfl) rfl ?_
        refine x_v (r_as rfl) rfl ?_
        refine XL.nil ?_
        refine hK41 _ _ ?_
        refine XC.keep [(2, _), (3, _)] ⟨rfl, rfl, trivial⟩ ?_
        refine XC.ret ?_
        rw [hp]
        exact fin2 rfl rfl (⟨rfl, rfl⟩) (by repeat (first | exact Gets.done _ | exact Gets.all _ | (apply Gets.step; focus ((repeat (first | exact Pick.head _ _ | apply Pick.tail)); done)) | apply Gets.drop))
end Go.Proofs.Ytdppjmdjmbbclaa

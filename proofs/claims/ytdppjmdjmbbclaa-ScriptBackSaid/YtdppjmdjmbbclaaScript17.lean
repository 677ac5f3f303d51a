/- Scripts: the program's reading (function 26). -/
import Derived.Test.YtdppjmdjmbbclaaScript16
namespace Go.Proofs.Ytdppjmdjmbbclaa
open Go.Sx
set_option linter.unusedVariables false

theorem oneS_le (t : Tp) : (oneS t).1.length ≤ t.1.length - 1 := by
  unfold oneS; split
  · simp_all
  · rename_i h; rw [h]; simp
theorem textS_le (t : Tp) (n : Nat) : (textS t n).1.length ≤ t.1.length := by
  unfold textS; split <;> simp
theorem actT_le (k : Nat) (t : Tp) : (actT k t).2.1.length ≤ t.1.length := by
  have h1 : ∀ t, (oneS t).1.length ≤ t.1.length := fun t => Nat.le_trans (oneS_le t) (Nat.sub_le _ _)
  have h2 : ∀ t, (pairS t).1.length ≤ t.1.length := fun t => Nat.le_trans (h1 _) (h1 _)
  unfold actT
  dsimp only
  repeat (first | exact Nat.le_refl _ | (split; first | exact Nat.le_refl _ | exact h1 _ | exact Nat.le_trans (h1 _) (h1 _) | exact Nat.le_trans (h2 _) (Nat.le_trans (h1 _) (h1 _)) | exact Nat.le_trans (textS_le _ _) (Nat.le_trans (h1 _) (h1 _)) | exact Nat.le_trans (textS_le _ _) (Nat.le_trans (h2 _) (Nat.le_trans (textS_le _ _) (Nat.le_trans (h1 _) (Nat.le_trans (h1 _) (Nat.le_trans (h1 _) (Nat.le_trans (h1 _) (Nat.le_trans (h1 _) (Nat.le_trans (h1 _) (h1 _)))))))))))

/-- What holds between two acts of the program's reading. -/
structure RP (W0 : World) (Fr : List HP) (res : List Av) (t : Tp) (f : Nat) (L : List Ac) (F2 : List HP) : Prop where
  hf : t.1.length ≤ f
  ht : t.1.length ≤ 16384
  eq : res = readT f t (L.map Ac.v)
  own : ∀ w, Own W0 w F2 → Own W0 w Fr
  ks : ∀ x ∈ L, Rdb W0 F2 x.A x.n 1 (iv x.ks) ∧ x.n ≤ 7
  le : L.length ≤ 4255

theorem set_rep {α : Type} {i n : Nat} (x y : α) (h : i < n) : (List.replicate i x ++ List.replicate (n - i) y).set i x = List.replicate (i + 1) x ++ List.replicate (n - (i + 1)) y := by
  rw [List.set_append_right _ _ (by simp)]
  obtain ⟨m, hm⟩ : ∃ m, n - i = m + 1 := ⟨n - i - 1, by omega⟩
  rw [hm, show n - (i + 1) = m by omega, List.length_replicate, Nat.sub_self, List.replicate_succ, List.set_cons_zero, List.replicate_succ', List.append_assoc]
  rfl

theorem readT_go {f : Nat} {t : Tp} {acc : List Av} (hf : 0 < f) (h0 : ¬ t.1 = []) (hl : acc.length < 4000) (hs : ¬ (actT (oneV t % 16) (oneS t)).2.2 = true) : readT f t acc = readT (f - 1) (actT (oneV t % 16) (oneS t)).2 (acc ++ (actT (oneV t % 16) (oneS t)).1) := by
  obtain ⟨g, rfl⟩ : ∃ g, f = g + 1 := ⟨f - 1, by omega⟩
  conv => lhs; unfold readT
  rw [if_neg (by rintro (h | h); exact h0 h; omega), if_neg hs]; rfl
theorem readT_stop {f : Nat} {t : Tp} {acc : List Av} (h : t.1 = [] ∨ 4000 ≤ acc.length ∨ (actT (oneV t % 16) (oneS t)).2.2 = true) : readT f t acc = acc := by
  cases f with
  | zero => rfl
  | succ g =>
    unfold readT
    split
    · rfl
    · rename_i h2
      rw [if_pos]
      rcases h with h | h | h
      · exact absurd (Or.inl h) h2
      · exact absurd (Or.inr h) h2
      · exact h

theorem read_tr {W0 : World} {Fr : List HP} (s : List UInt8) (hs : s.length ≤ 1000000) : Tr W0 Try.prog 26 [str s] Fr (Out W0 Fr (readF s)) := by
  obtain ⟨m, hm, hm2⟩ : ∃ m : Nat, min (s.length : Int) 16384 = (m : Int) ∧ m = min s.length 16384 := ⟨_, by omega, rfl⟩
  obtain ⟨w8, hw8⟩ : ∃ w8, w8 = s.take 16384 := ⟨_, rfl⟩
  have hwl : w8.length ≤ 16384 := by rw [hw8, List.length_take]; omega
  obtain ⟨res, hres⟩ : ∃ res, res = readT w8.length (w8, false) [] := ⟨_, rfl⟩
  have hF : readF s = res.take 4000 := by rw [hres, hw8]; rfl
  rw [hF]
  refine Entry.tr (N := 55) (rs := [.tmp 2]) ⟨_, Try.func26, rfl, by kernel_rfl, rfl, rfl⟩ rfl ?_
  refine XC.seq fun K1 hK1 => ?_
  refine XC.region ?_
  refine x_v (r_as rfl) rfl ?_
  refine XL.nil ?_
  refine hK1 _ _ ?_
  refine XC.keep [(0, _)] ⟨rfl, trivial⟩ ?_
  refine XC.seq fun K2 hK2 => ?_
  refine XC.region ?_
  refine x_v (r_mv rfl) rfl ?_
  refine x_v (r_mv rfl) rfl ?_
  refine x_v (r_lens Try.underlying9 rfl) rfl ?_
  refine x_v (r_min rfl rfl) rfl ?_
  rw [hm]
  refine x_v (r_ssl (0) (m) Try.underlying9 rfl rfl ⟨_, by rfl⟩ (by omega) (by omega)) rfl ?_
  rw [show (s.drop 0).take (m - 0) = w8 by rw [hw8, List.drop_zero, Nat.sub_zero]; rcases Nat.le_total s.length 16384 with h | h; rw [List.take_of_length_le (by omega), List.take_of_length_le (by omega)]; rw [show m = 16384 by omega]]
  refine x_v (r_bd (vs := [_]) rfl ⟨rfl, rfl⟩ (bd86_0 _)) rfl ?_
  refine x_a (r_bx rfl rfl) rfl fun b14 => ?_
  refine x_v (r_as rfl) rfl ?_
  refine XL.nil ?_
  refine hK2 _ _ ?_
  refine XC.keep [(3, _)] ⟨rfl, trivial⟩ ?_
  refine XC.seq fun K3 hK3 => ?_
  refine XC.nil_ 83 12 ?_
  refine XC.region ?_
  refine x_v (r_as rfl) rfl ?_
  refine XL.nil ?_
  refine hK3 _ _ ?_
  refine XC.keep [(3, _), (4, _)] ⟨rfl, rfl, trivial⟩ ?_
  refine XC.seqcut (σ := List Ac × (Option Addr × Nat) × List HP) (fun s3 => [(4, .slice s3.2.1.1 s3.1.length s3.2.1.2)]) (fun s3 => sl s3.2.1.1 s3.1.length s3.2.1.2 83 12 (cells ac s3.1) :: s3.2.2) (fun s3 => res = s3.1.map Ac.v ∧ (∀ w, Own W0 w s3.2.2 → Own W0 w Fr) ∧ (∀ x ∈ s3.1, Rdb W0 s3.2.2 x.A x.n 1 (iv x.ks) ∧ x.n ≤ 7) ∧ s3.1.length ≤ 4255) ?_ ?_
  · refine XC.block ?_
    refine XC.loop (σ := Tp × Nat × List Ac × (Option Addr × Nat) × List HP) (fun s1 => [(3, .pointer (some ⟨b14, 0, none⟩)), (4, .slice s1.2.2.2.1.1 s1.2.2.1.length s1.2.2.2.1.2)]) (fun s1 => sl s1.2.2.2.1.1 s1.2.2.1.length s1.2.2.2.1.2 83 12 (cells ac s1.2.2.1) :: blk b14 86 [str s1.1.1, .bool s1.1.2] :: s1.2.2.2.2) (fun s1 => RP W0 Fr res s1.1 s1.2.1 s1.2.2.1 s1.2.2.2.2) (fun s1 => s1.1.1.length) ((w8, false), w8.length, [], (none, 0), Fr) ?_ ⟨rfl, rfl, trivial⟩ (by repeat (first | exact Gets.done _ | exact Gets.all _ | (apply Gets.step; focus ((repeat (first | exact Pick.head _ _ | apply Pick.tail)); done)) | apply Gets.drop)) ?_
    · exact ⟨Nat.le_refl _, hwl, hres, fun _ h => h, by simp, by simp⟩
    rintro ⟨t, f, L, ⟨A, c⟩, F2⟩ hI
    dsimp only at hI ⊢
    have htl := hI.ht
    have htf := hI.hf
    have hLl := hI.le
    refine XC.seq fun K5 hK5 => ?_
    refine XC.seq fun K6 hK6 => ?_
    refine XC.region ?_
    refine x_v (r_mv rfl) rfl ?_
    refine x_v (r_nc rfl) rfl ?_
    refine x_v (r_fa fo86_0 rfl) rfl ?_
    refine x_v (r_ld ty9 rfl (by repeat (first | exact Pick.head _ _ | apply Pick.tail)) (by rfl)) rfl ?_
    refine x_v (r_sne rfl rfl) rfl ?_
    refine x_v (r_mv rfl) rfl ?_
    refine XL.splitd 20 rfl (fun hg20 => ?_) (fun hg20 => ?_)
    · refine x_want rfl rfl rfl ?_
      refine x_v (r_mv rfl) rfl ?_
      refine x_want rfl rfl rfl ?_
      refine x_v (r_lensl Try.underlying56 rfl) rfl ?_
      refine x_want rfl rfl rfl ?_
      refine x_v (r_lt rfl rfl) rfl ?_
      refine x_v (r_pk_t rfl rfl) rfl ?_
      refine XL.nil ?_
      refine hK6 _ _ ?_
      refine XC.keep [(3, _), (4, _), (24, _)] ⟨rfl, rfl, rfl, trivial⟩ ?_
      refine XC.cond_d rfl (fun hc1 => ?_) (fun hc1 => ?_)
      · refine XC.skip ?_
        refine hK5 _ _ ?_
        refine XC.keep [(3, _), (4, _)] ⟨rfl, rfl, trivial⟩ ?_
        refine XC.block ?_
        refine XC.seq fun K7 hK7 => ?_
        refine XC.region ?_
        refine x_v (r_mv rfl) rfl ?_
        refine x_c (r_call0 (args := [_]) ⟨rfl, rfl⟩ (one_tr b14 t) (by repeat (first | exact Gets.done _ | exact Gets.all _ | (apply Gets.step; focus ((repeat (first | exact Pick.head _ _ | apply Pick.tail)); done)) | apply Gets.drop))) rfl ?_
        rintro _ _ ⟨rfl, rfl⟩
        unfold tp
        refine x_v (r_rem rfl rfl (by omega)) rfl ?_
        rw [show ((oneV t : Nat) : Int) % 16 = ((oneV t % 16 : Nat) : Int) by omega]
        have hos := oneS_le t
        have hat := actT_le (oneV t % 16) (oneS t)
        have ht0 : 0 < t.1.length := by rcases Nat.eq_zero_or_pos t.1.length with h | h; exact absurd (List.eq_nil_of_length_eq_zero h) hg20; exact h
        refine x_v (r_as rfl) rfl ?_
        refine XL.nil ?_
        refine hK7 _ _ ?_
        refine XC.keep [(3, _), (4, _), (5, _)] ⟨rfl, rfl, rfl, trivial⟩ ?_
        refine XC.seq fun K8 hK8 => ?_
        refine XC.region ?_
        refine x_v (r_mv rfl) rfl ?_
        refine x_v (r_mv rfl) rfl ?_
        refine x_c (r_call0 (args := [_, _]) ⟨rfl, rfl, rfl⟩ (act_tr b14 (oneS t) (oneV t % 16) (Nat.mod_lt _ (by decide)) (by omega)) (by repeat (first | exact Gets.done _ | exact Gets.all _ | (apply Gets.step; focus ((repeat (first | exact Pick.head _ _ | apply Pick.tail)); done)) | apply Gets.drop))) rfl ?_
        rintro _ _ ⟨A6, c6, L2, kp, rfl, rfl, hks2, hL2, hcase⟩
        refine x_v (r_as rfl) rfl ?_
        refine XL.nil ?_
        refine hK8 _ _ ?_
        refine XC.keep [(3, _), (4, _), (5, _), (6, _)] ⟨rfl, rfl, rfl, rfl, trivial⟩ ?_
        refine XC.seq fun K9 hK9 => ?_
        refine XC.seq fun K10 hK10 => ?_
        refine XC.region ?_
        refine x_v (r_mv rfl) rfl ?_
        refine x_v (r_nc rfl) rfl ?_
        refine x_v (r_fa fo86_1 rfl) rfl ?_
        refine x_v (r_ld ty4 rfl (by repeat (first | exact Pick.head _ _ | apply Pick.tail)) (by rfl)) rfl ?_
        refine XL.nil ?_
        refine hK10 _ _ ?_
        refine XC.keep [(3, _), (4, _), (5, _), (6, _), (34, _)] ⟨rfl, rfl, rfl, rfl, rfl, trivial⟩ ?_
        refine XC.cond rfl (fun hc2 => ?_) (fun hc2 => ?_)
        · refine XC.exit rfl ?_
          exact ⟨(L, (A, c), F2), ⟨hI.eq.trans (readT_stop (.inr (.inr hc2))), hI.own, hI.ks, by dsimp only; omega⟩, ⟨rfl, trivial⟩, (by repeat (first | exact Gets.done _ | exact Gets.all _ | (apply Gets.step; focus ((repeat (first | exact Pick.head _ _ | apply Pick.tail)); done)) | apply Gets.drop))⟩
        · have hsh : ¬ (actT (oneV t % 16) (oneS t)).2.2 = true := by rw [hc2]; exact Bool.noConfusion
          refine XC.skip ?_
          refine hK9 _ _ ?_
          refine XC.keep [(3, _), (4, _), (5, _), (6, _)] ⟨rfl, rfl, rfl, rfl, trivial⟩ ?_
          refine XC.seqcut (σ := List Ac) (fun s2 => [(3, .pointer (some ⟨b14, 0, none⟩)), (4, .slice A L.length c), (6, .slice A6 s2.length c6)]) (fun s2 => sl A6 s2.length c6 83 12 (cells ac s2) :: blk b14 86 [str (actT (oneV t % 16) (oneS t)).2.1, .bool (actT (oneV t % 16) (oneS t)).2.2] :: kp :: sl A L.length c 83 12 (cells ac L) :: F2) (fun s2 => s2.map Ac.v = (actT (oneV t % 16) (oneS t)).1 ∧ (∀ x ∈ s2, Rdb W0 [kp] x.A x.n 1 (iv x.ks) ∧ x.n ≤ 7) ∧ s2.length ≤ 255) ?_ ?_
          · refine XC.seq fun K12 hK12 => ?_
            refine XC.region ?_
            refine x_v (r_mv rfl) rfl ?_
            refine x_v (r_eq rfl rfl) rfl ?_
            refine XL.nil ?_
            refine hK12 _ _ ?_
            refine XC.keep [(3, _), (4, _), (6, _), (36, _)] ⟨rfl, rfl, rfl, rfl, trivial⟩ ?_
            refine XC.cond_d rfl (fun hc3 => ?_) (fun hc3 => ?_)
            · have hk : oneV t % 16 = 12 := by omega
              rw [if_pos hk] at hcase
              refine XC.seq fun K13 hK13 => ?_
              refine XC.region ?_
              refine x_v (r_mv rfl) rfl ?_
              refine x_v (r_lensl Try.underlying56 rfl) rfl ?_
              refine x_v (r_mv rfl) rfl ?_
              refine XL.nil ?_
              refine hK13 _ _ ?_
              refine XC.keep [(3, _), (4, _), (6, _), (38, _), (39, _)] ⟨rfl, rfl, rfl, rfl, rfl, trivial⟩ ?_
              refine XC.block ?_
              refine XC.loop (σ := Nat × List Ac) (fun s2 => [(3, .pointer (some ⟨b14, 0, none⟩)), (4, .slice A L.length c), (6, .slice A6 s2.2.length c6), (38, .int .i64 (L2.length : Int)), (39, .int .i64 (s2.1 : Int))]) (fun s2 => sl A6 s2.2.length c6 83 12 (cells ac s2.2) :: blk b14 86 [str (actT (oneV t % 16) (oneS t)).2.1, .bool (actT (oneV t % 16) (oneS t)).2.2] :: kp :: sl A L.length c 83 12 (cells ac L) :: F2) (fun s2 => s2.1 ≤ L2.length ∧ s2.2 = List.replicate s2.1 dl ++ List.replicate (L2.length - s2.1) za) (fun s2 => L2.length - s2.1) (0, L2) ?_ ⟨rfl, rfl, rfl, rfl, rfl, trivial⟩ (by repeat (first | exact Gets.done _ | exact Gets.all _ | (apply Gets.step; focus ((repeat (first | exact Pick.head _ _ | apply Pick.tail)); done)) | apply Gets.drop)) ?_
              · exact ⟨Nat.zero_le _, by dsimp only; rw [hcase]; simp⟩
              rintro ⟨i, N⟩ ⟨hi, hN⟩
              dsimp only at hi hN ⊢
              have hNl : N.length = L2.length := by rw [hN]; simp; omega
              refine XC.seq fun K14 hK14 => ?_
              refine XC.region ?_
              refine x_v (r_lt rfl rfl) rfl ?_
              refine XL.nil ?_
              refine hK14 _ _ ?_
              refine XC.keep [(3, _), (4, _), (6, _), (38, _), (39, _), (40, _)] ⟨rfl, rfl, rfl, rfl, rfl, rfl, trivial⟩ ?_
              refine XC.seq fun K15 hK15 => ?_
              refine XC.cond_d rfl (fun hc4 => ?_) (fun hc4 => ?_)
              · refine XC.skip ?_
                refine hK15 _ _ ?_
                refine XC.keep [(3, _), (4, _), (6, _), (38, _), (39, _)] ⟨rfl, rfl, rfl, rfl, rfl, trivial⟩ ?_
                refine XC.seq fun K16 hK16 => ?_
                refine XC.block ?_
                refine XC.seq fun K17 hK17 => ?_
                refine XC.region ?_
                refine x_v (r_mv rfl) rfl ?_
                refine x_v (r_as rfl) rfl ?_
                refine XL.nil ?_
                refine hK17 _ _ ?_
                refine XC.keep [(3, _), (4, _), (6, _), (7, _), (38, _), (39, _)] ⟨rfl, rfl, rfl, rfl, rfl, rfl, trivial⟩ ?_
                refine XC.openp (A := A6) (by repeat (first | exact Pick.head _ _ | apply Pick.tail)) (by omega) fun g cur hA h1 h2 h3 h4 => ?_
                subst hA
                refine XC.region ?_
                refine x_v (r_mv rfl) rfl ?_
                refine x_v (r_mv rfl) rfl ?_
                refine x_v (r_ia (k := i) Try.underlying56 ty83 rfl rfl (by omega) (by omega)) rfl ?_
                refine x_v (r_fa fo83_0 rfl) rfl ?_
                refine x_e (r_st (vs := [.int .i64 2]) ty3 rfl rfl rfl rfl rfl (by repeat (first | exact Upd.head _ _ _ | apply Upd.tail)) (Over.set (by omega) _)) ?_
                refine XL.nil ?_
                refine hK16 _ _ ?_
                refine XC.keep [(3, _), (4, _), (6, _), (38, _), (39, _)] ⟨rfl, rfl, rfl, rfl, rfl, trivial⟩ ?_
                have hNi : N[i]? = some za := by rw [hN, List.getElem?_append_right (by simp), List.getElem?_replicate]; rw [if_pos (by simp; omega)]
                have hset : (cur.set (i * 12 + 0) (.int .i64 2)).take (N.length * 12) = cells ac (N.set i dl) := by rw [List.take_set, h4]; exact cells_set ac_len (by decide) N i za _ hNi rfl
                simp only [Nat.zero_add]
                refine XC.shut_ (n := N.length) (by repeat (first | exact Pick.head _ _ | apply Pick.tail)) h1 h2 (by rw [List.length_set]; exact h3) hset ?_
                rw [show N.length = (N.set i dl).length by simp]
                refine XC.region ?_
                refine x_v (r_add rfl rfl (by omega)) rfl ?_
                refine x_v (r_mv rfl) rfl ?_
                refine XL.nil ?_
                refine ⟨(i + 1, N.set i dl), ?_, ?_, ⟨rfl, rfl, rfl, rfl, rfl, trivial⟩, (by repeat (first | exact Gets.done _ | exact Gets.all _ | (apply Gets.step; focus ((repeat (first | exact Pick.head _ _ | apply Pick.tail)); done)) | apply Gets.drop))⟩
                · exact ⟨by dsimp only; omega, by dsimp only; rw [hN]; exact set_rep dl za (by omega)⟩
                · dsimp only; omega
              · refine XC.exit rfl ?_
                exact ⟨N, ⟨by (obtain rfl : i = L2.length := by omega); rw [hN, hcase, hk]; simp [actT, dl, Ac.v], fun x hx => by rw [hN] at hx; rcases List.mem_append.1 hx with h | h <;> rw [List.eq_of_mem_replicate h] <;> exact ⟨Rdb.nil _ _ _, Nat.zero_le _⟩, by omega⟩, ⟨rfl, rfl, rfl, trivial⟩, (by repeat (first | exact Gets.done _ | exact Gets.all _ | (apply Gets.step; focus ((repeat (first | exact Pick.head _ _ | apply Pick.tail)); done)) | apply Gets.drop))⟩
            · refine XC.skip ?_
              exact ⟨L2, ⟨by rw [if_neg (by omega)] at hcase; exact hcase, hks2, hL2⟩, ⟨rfl, rfl, rfl, trivial⟩, (by repeat (first | exact Gets.done _ | exact Gets.all _ | (apply Gets.step; focus ((repeat (first | exact Pick.head _ _ | apply Pick.tail)); done)) | apply Gets.drop))⟩
          · rintro M ⟨hM1, hM2, hM3⟩
            refine XC.slnn (A := A6) (by repeat (first | exact Pick.head _ _ | apply Pick.tail)) fun hl6 hA6 => ?_
            refine XC.region ?_
            refine x_v (r_mv rfl) rfl ?_
            refine x_v (r_mv rfl) rfl ?_
            refine x_a (r_app Try.underlying56 ty83 rfl (by decide) rfl rfl (by repeat (first | exact Pick.head _ _ | apply Pick.tail)) (Rdb.of_sl (by repeat (first | exact Pick.head _ _ | apply Pick.tail)) (by rw [hl6]) hA6) (cells_one' ac_one M) (by unfold maxLen; omega) (by omega)) rfl fun ⟨A49, c49⟩ => ?_
            dsimp only
            rw [← List.length_append, ← cells_app]
            refine x_v (r_as rfl) rfl ?_
            refine XL.nil ?_
            refine ⟨((actT (oneV t % 16) (oneS t)).2, f - 1, L ++ M, (A49, c49), kp :: F2), ?_, ?_, ⟨rfl, rfl, trivial⟩, (by repeat (first | exact Gets.done _ | exact Gets.all _ | (apply Gets.step; focus ((repeat (first | exact Pick.head _ _ | apply Pick.tail)); done)) | apply Gets.drop))⟩
            · exact ⟨by dsimp only; omega, by dsimp only; omega, by dsimp only; rw [hI.eq, List.map_append, hM1]; exact readT_go (by omega) hg20 (by simp; omega) hsh, fun w h => hI.own w h.tail, fun x hx => (List.mem_append.1 hx).elim (fun hx => ⟨(hI.ks x hx).1.mono fun w h => h.tail, (hI.ks x hx).2⟩) (fun hx => ⟨(hM2 x hx).1.mono fun w h => Gets.own (.step (.head _ _) (.all _)) h, (hM2 x hx).2⟩), by simp; omega⟩
            · dsimp only; omega
      · refine XC.exit rfl ?_
        exact ⟨(L, (A, c), F2), ⟨hI.eq.trans (readT_stop (.inr (.inl (by simp; omega)))), hI.own, hI.ks, by dsimp only; omega⟩, ⟨rfl, trivial⟩, (by repeat (first | exact Gets.done _ | exact Gets.all _ | (apply Gets.step; focus ((repeat (first | exact Pick.head _ _ | apply Pick.tail)); done)) | apply Gets.drop))⟩
    · refine x_unwant rfl rfl rfl rfl rfl ?_
      refine x_unwant rfl rfl rfl rfl rfl ?_
      refine x_unwant rfl rfl rfl rfl rfl ?_
      refine x_v (r_pk_f rfl rfl) rfl ?_
      refine XL.nil ?_
      refine hK6 _ _ ?_
      refine XC.keep [(3, _), (4, _), (24, _)] ⟨rfl, rfl, rfl, trivial⟩ ?_
      refine XC.cond_f rfl ?_
      refine XC.exit rfl ?_
      exact ⟨(L, (A, c), F2), ⟨hI.eq.trans (readT_stop (.inl (Decidable.not_not.1 hg20))), hI.own, hI.ks, by dsimp only; omega⟩, ⟨rfl, trivial⟩, (by repeat (first | exact Gets.done _ | exact Gets.all _ | (apply Gets.step; focus ((repeat (first | exact Pick.head _ _ | apply Pick.tail)); done)) | apply Gets.drop))⟩
  · rintro ⟨L, ⟨A, c⟩, F2⟩ ⟨hR, hO, hK, hLn⟩
    dsimp only at hR hO hK hLn ⊢
    refine XC.seq fun K18 hK18 => ?_
    obtain ⟨m4, hm4, hm5⟩ : ∃ m4 : Nat, min (L.length : Int) 4000 = (m4 : Int) ∧ m4 = min L.length 4000 := ⟨_, by omega, rfl⟩
    refine XC.slnn (A := A) (by repeat (first | exact Pick.head _ _ | apply Pick.tail)) fun hlA hA => ?_
    refine XC.sllen (A := A) (by repeat (first | exact Pick.head _ _ | apply Pick.tail)) fun _ hLc _ => ?_
    refine XC.region ?_
    refine x_v (r_mv rfl) rfl ?_
    refine x_v (r_mv rfl) rfl ?_
    refine x_v (r_lensl Try.underlying56 rfl) rfl ?_
    refine x_v (r_min rfl rfl) rfl ?_
    rw [hm4]
    refine x_v (r_sll0 m4 Try.underlying56 ty83 rfl ⟨_, by rfl⟩ (by omega)) rfl ?_
    refine x_v (r_as rfl) rfl ?_
    refine XL.nil ?_
    refine hK18 _ _ ?_
    refine XC.keep [(2, _)] ⟨rfl, trivial⟩ ?_
    refine XC.ret ?_
    exact fin1 rfl (⟨A, c, L.take m4, by rw [List.length_take, show min m4 L.length = m4 by omega], rda_take (by omega) hA (by omega) hK, by rw [hR, List.map_take, hm5]; rw [show min L.length 4000 = min 4000 (L.map Ac.v).length by simp; omega, List.take_eq_take_min.symm], fun w h => hO w h.tail, by rw [List.length_take]; omega⟩) (by repeat (first | exact Gets.done _ | exact Gets.all _ | (apply Gets.step; focus ((repeat (first | exact Pick.head _ _ | apply Pick.tail)); done)) | apply Gets.drop))
end Go.Proofs.Ytdppjmdjmbbclaa

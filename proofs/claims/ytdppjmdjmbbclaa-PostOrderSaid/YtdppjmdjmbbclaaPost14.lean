/- Letters: the law function PostOrder. -/
import Derived.Test.YtdppjmdjmbbclaaPost13
namespace Go.Proofs.Ytdppjmdjmbbclaa
open Go.Sx
set_option linter.unusedVariables false

theorem kth_drop {L : List Lt} {k : Nat} {l : Lt} (h : L[k]? = some l) : kth (L.drop k) 0 = some l := by
  unfold kth; rw [if_neg (by decide)]; simpa using h
theorem order_tr {W0 : World} {Fr : List HP} (m : Int) (IA : Option Addr) (ic : Nat) (Ls : List Lt) (hI : ∀ Fr, Rdb W0 Fr IA Ls.length 3 (cells lc Ls)) (hle : Ls.length ≤ 140737488355328) :
    Tr W0 Try.prog 3 [.int .i64 m, .slice IA Ls.length ic] Fr (fun v _ => v = .bool true) := by
  by_cases hm : 1 ≤ m ∧ m ≤ 512
  · refine Entry.tr (N := 85) (rs := [.tmp 4]) ⟨_, Try.func3, rfl, by kernel_rfl, rfl, rfl⟩ rfl ?_
    refine XC.seq fun K1 hK1 => ?_
    refine XC.region ?_
    refine x_v (r_as rfl) rfl ?_
    refine XL.nil ?_
    refine hK1 _ _ ?_
    refine XC.keep [(0, _), (1, _)] ⟨rfl, rfl, trivial⟩ ?_
    refine XC.seq fun K2 hK2 => ?_
    refine XC.region ?_
    refine x_v (r_mv rfl) rfl ?_
    refine x_c (r_call0 (args := [_]) ⟨rfl, rfl⟩ (newq_tr m) (by repeat (first | exact Gets.done _ | exact Gets.all _ | (apply Gets.step; focus ((repeat (first | exact Pick.head _ _ | apply Pick.tail)); done)) | apply Gets.drop))) rfl ?_
    rintro _ _ hq
    rcases hq with ⟨h, _⟩ | ⟨_, b, rfl, rfl⟩
    · omega
    refine x_v (r_mv rfl) rfl ?_
    refine x_v (r_ex rfl rfl) rfl ?_
    refine x_v (r_ex rfl rfl) rfl ?_
    refine x_v (r_as rfl) rfl ?_
    refine x_v (r_as rfl) rfl ?_
    refine XL.nil ?_
    refine hK2 _ _ ?_
    refine XC.keep [(0, _), (1, _), (5, _), (6, _)] ⟨rfl, rfl, rfl, rfl, trivial⟩ ?_
    refine XC.seq fun K3 hK3 => ?_
    refine XC.seq fun K4 hK4 => ?_
    refine XC.region ?_
    refine x_c (r_call0 (args := []) rfl (awake_tr) (by repeat (first | exact Gets.done _ | exact Gets.all _ | (apply Gets.step; focus ((repeat (first | exact Pick.head _ _ | apply Pick.tail)); done)) | apply Gets.drop))) rfl ?_
    rintro _ _ ⟨rfl, rfl⟩
    refine x_v (r_not rfl) rfl ?_
    refine x_v (r_mv rfl) rfl ?_
    refine x_want rfl rfl rfl ?_
    refine x_v (r_mv rfl) rfl ?_
    refine x_want rfl rfl rfl ?_
    refine x_v (r_ne rfl rfl) rfl ?_
    refine x_v (r_pk_f rfl rfl) rfl ?_
    refine x_v (r_mv rfl) rfl ?_
    refine x_want rfl rfl rfl ?_
    refine x_v (r_mv rfl) rfl ?_
    refine x_want rfl rfl rfl ?_
    refine x_v (r_lensl Try.underlying22 rfl) rfl ?_
    refine x_want rfl rfl rfl ?_
    refine x_v (r_gt rfl rfl) rfl ?_
    refine x_v (r_pk_f rfl rfl) rfl ?_
    refine XL.nil ?_
    refine hK4 _ _ ?_
    refine XC.keep [(0, _), (1, _), (5, _), (31, _)] ⟨rfl, rfl, rfl, rfl, trivial⟩ ?_
    refine XC.cond_d rfl (fun hc1 => ?_) (fun hc1 => ?_)
    · refine XC.seq fun K5 hK5 => ?_
      refine XC.region ?_
      refine x_c (r_call0 (args := []) rfl (awake_tr) (by repeat (first | exact Gets.done _ | exact Gets.all _ | (apply Gets.step; focus ((repeat (first | exact Pick.head _ _ | apply Pick.tail)); done)) | apply Gets.drop))) rfl ?_
      rintro _ _ ⟨rfl, rfl⟩
      refine x_v (r_as rfl) rfl ?_
      refine XL.nil ?_
      refine hK5 _ _ ?_
      refine XC.keep [(4, _)] ⟨rfl, trivial⟩ ?_
      refine XC.ret ?_
      exact fin1 rfl (rfl) (by repeat (first | exact Gets.done _ | exact Gets.all _ | (apply Gets.step; focus ((repeat (first | exact Pick.head _ _ | apply Pick.tail)); done)) | apply Gets.drop))
    · refine XC.skip ?_
      refine hK3 _ _ ?_
      refine XC.keep [(0, _), (1, _), (5, _)] ⟨rfl, rfl, rfl, trivial⟩ ?_
      refine XC.seq fun K6 hK6 => ?_
      refine XC.region ?_
      refine x_v (r_as rfl) rfl ?_
      refine XL.nil ?_
      refine hK6 _ _ ?_
      refine XC.keep [(0, _), (1, _), (5, _), (7, _)] ⟨rfl, rfl, rfl, rfl, trivial⟩ ?_
      refine XC.seq fun K7 hK7 => ?_
      refine XC.seq fun K8 hK8 => ?_
      refine XC.nil_ 29 3 ?_
      refine XC.region ?_
      refine x_v (r_mv rfl) rfl ?_
      refine x_v (r_lensl Try.underlying22 rfl) rfl ?_
      refine x_v (r_mv rfl) rfl ?_
      refine XL.nil ?_
      refine hK8 _ _ ?_
      refine XC.keep [(0, _), (5, _), (7, _), (33, _), (34, _), (35, _)] ⟨rfl, rfl, rfl, rfl, rfl, rfl, trivial⟩ ?_
      refine XC.block ?_
      refine XC.loop (σ := Nat × List Lt × (Option Addr × Nat) × (Option Addr × Nat)) (fun s => [(0, .int .i64 m), (5, .pointer (some ⟨b, 0, none⟩)), (7, .slice s.2.2.2.1 s.2.1.length s.2.2.2.2), (33, .slice IA Ls.length ic), (34, .int .i64 Ls.length), (35, .int .i64 (s.1 : Int))]) (fun s => PL b 71 s.2.2.1.1 s.2.2.1.2 m s.2.1 (sl s.2.2.2.1 s.2.1.length s.2.2.2.2 29 3 (cells lc s.2.1) :: Fr)) (fun s => s.1 ≤ Ls.length ∧ Fit m s.2.1) (fun s => Ls.length - s.1) (0, [], (none, 0), (none, 0)) ?_ ⟨rfl, rfl, rfl, rfl, rfl, rfl, trivial⟩ (by repeat (first | exact Gets.done _ | exact Gets.all _ | (apply Gets.step; focus ((repeat (first | exact Pick.head _ _ | apply Pick.tail)); done)) | apply Gets.drop)) ?_
      · exact ⟨Nat.zero_le _, fit_nil hm⟩
      rintro ⟨i, L, ⟨A, c⟩, ⟨Ao, co⟩⟩ ⟨hi, hF⟩
      dsimp only at hi hF ⊢
      have hLn := hF.len hm
      refine XC.seq fun K9 hK9 => ?_
      refine XC.region ?_
      refine x_v (r_lt rfl rfl) rfl ?_
      refine XL.nil ?_
      refine hK9 _ _ ?_
      refine XC.keep [(0, _), (5, _), (7, _), (33, _), (34, _), (35, _), (36, _)] ⟨rfl, rfl, rfl, rfl, rfl, rfl, rfl, trivial⟩ ?_
      refine XC.seq fun K10 hK10 => ?_
      refine XC.cond_d rfl (fun hc2 => ?_) (fun hc2 => ?_)
      · refine XC.skip ?_
        refine hK10 _ _ ?_
        refine XC.keep [(0, _), (5, _), (7, _), (33, _), (34, _), (35, _)] ⟨rfl, rfl, rfl, rfl, rfl, rfl, trivial⟩ ?_
        refine XC.seq fun K11 hK11 => ?_
        refine XC.block ?_
        refine XC.seq fun K12 hK12 => ?_
        refine XC.region ?_
        obtain ⟨l, ho⟩ : ∃ l, Ls[i]? = some l := ⟨_, List.getElem?_eq_getElem (by omega)⟩
        obtain ⟨sb, so, rfl, hat⟩ := (hI _).at_ (by omega)
        refine x_v (r_ia (k := i) Try.underlying22 ty29 rfl rfl (by omega) (by omega)) rfl ?_
        refine x_v (r_ldar (l' := lc l) ty29 rfl rfl (fun w hw j u hu => by rw [Nat.add_assoc]; exact hat w hw _ u (cells_get lc_len Ls i l ho j u hu))) rfl ?_
        refine x_a (r_al ty29 rfl) rfl fun b9 => ?_
        refine x_e (r_st (vs := lc l) ty29 rfl rfl rfl rfl rfl (by repeat (first | exact Upd.head _ _ _ | apply Upd.tail)) (by repeat (first | exact Over.nil _ | apply Over.put | apply Over.skip))) ?_
        refine XL.nil ?_
        refine hK12 _ _ ?_
        refine XC.keep [(0, _), (5, _), (7, _), (9, _), (33, _), (34, _), (35, _)] ⟨rfl, rfl, rfl, rfl, rfl, rfl, rfl, trivial⟩ ?_
        refine XC.seq fun K13 hK13 => ?_
        refine XC.region ?_
        refine x_v (r_mv rfl) rfl ?_
        refine x_v (r_lda (l' := [_, _, _]) ty29 rfl (by repeat (first | exact Pick.head _ _ | apply Pick.tail)) rfl (Sub.get (by repeat (first | exact Sub.nil _ | apply Sub.take | apply Sub.skip)))) rfl ?_
        refine x_c (r_call0 (args := [_, _]) ⟨rfl, rfl, rfl⟩ (sendf_tr b A c m L l hLn) (by repeat (first | exact Gets.done _ | exact Gets.all _ | (apply Gets.step; focus ((repeat (first | exact Pick.head _ _ | apply Pick.tail)); done)) | apply Gets.drop))) rfl ?_
        rintro _ _ ⟨rfl, A1, c1, rfl⟩
        refine x_v (r_eq rfl rfl) rfl ?_
        refine XL.nil ?_
        refine hK13 _ _ ?_
        refine XC.keep [(0, _), (5, _), (7, _), (9, _), (33, _), (34, _), (35, _), (42, _)] ⟨rfl, rfl, rfl, rfl, rfl, rfl, rfl, rfl, trivial⟩ ?_
        refine XC.cond_d rfl (fun hc3 => ?_) (fun hc3 => ?_)
        · have hnb : ¬ bad l.1 l.2.1 ∧ ¬ m ≤ L.length := by unfold sendE at hc3; split at hc3; exact absurd hc3 (by decide); split at hc3; exact absurd hc3 (by decide); exact ⟨by assumption, by assumption⟩
          have hFs := hF.snoc (l := l) hnb.1 hnb.2
          rw [show sendL m L l = L ++ [l] by unfold sendL; rw [if_neg hnb.1, if_neg hnb.2]]
          refine XC.region ?_
          refine x_v (r_mv rfl) rfl ?_
          refine x_v (r_lda (l' := [_, _, _]) ty29 rfl (by repeat (first | exact Pick.head _ _ | apply Pick.tail)) rfl (Sub.get (by repeat (first | exact Sub.nil _ | apply Sub.take | apply Sub.skip)))) rfl ?_
          refine x_a (r_bs (vs := [_]) rfl ⟨rfl, rfl⟩ (bs22_1_0 _ _ _)) rfl fun b45 => ?_
          refine x_a (r_app Try.underlying22 ty29 rfl (by decide) rfl rfl (by repeat (first | exact Pick.head _ _ | apply Pick.tail)) (Rdb.of_blk (b := b45) (n := 1) (sz := 3) (xs := lc l) (by repeat (first | exact Pick.head _ _ | apply Pick.tail)) 0 rfl (fun _ _ h => by rw [Nat.zero_add]; exact h)) rfl (by unfold maxLen; omega) (by omega)) rfl fun ⟨A46, c46⟩ => ?_
          rw [show L.length + 1 = (L ++ [l]).length by simp, show cells lc L ++ lc l = cells lc (L ++ [l]) by rw [cells_app, cells_one]]
          refine x_v (r_as rfl) rfl ?_
          refine XL.nil ?_
          refine hK11 _ _ ?_
          refine XC.keep [(0, _), (5, _), (7, _), (33, _), (34, _), (35, _)] ⟨rfl, rfl, rfl, rfl, rfl, rfl, trivial⟩ ?_
          refine XC.region ?_
          refine x_v (r_add rfl rfl (by omega)) rfl ?_
          refine x_v (r_mv rfl) rfl ?_
          refine XL.nil ?_
          refine ⟨(i + 1, L ++ [l], (A1, c1), (A46, c46)), ?_, ?_, ⟨rfl, rfl, rfl, rfl, rfl, rfl, trivial⟩, (by repeat (first | exact Gets.done _ | exact Gets.all _ | (apply Gets.step; focus ((repeat (first | exact Pick.head _ _ | apply Pick.tail)); done)) | apply Gets.drop))⟩
          · exact ⟨by dsimp only; omega, hFs⟩
          · dsimp only; omega
        · rw [show sendL m L l = L by unfold sendE at hc3; unfold sendL; split; rfl; split; rfl; rename_i h1 h2; rw [if_neg h1, if_neg h2] at hc3; exact absurd rfl hc3]
          refine XC.skip ?_
          refine hK11 _ _ ?_
          refine XC.keep [(0, _), (5, _), (7, _), (33, _), (34, _), (35, _)] ⟨rfl, rfl, rfl, rfl, rfl, rfl, trivial⟩ ?_
          refine XC.region ?_
          refine x_v (r_add rfl rfl (by omega)) rfl ?_
          refine x_v (r_mv rfl) rfl ?_
          refine XL.nil ?_
          refine ⟨(i + 1, L, (A1, c1), (Ao, co)), ?_, ?_, ⟨rfl, rfl, rfl, rfl, rfl, rfl, trivial⟩, (by repeat (first | exact Gets.done _ | exact Gets.all _ | (apply Gets.step; focus ((repeat (first | exact Pick.head _ _ | apply Pick.tail)); done)) | apply Gets.drop))⟩
          · exact ⟨by dsimp only; omega, hF⟩
          · dsimp only; omega
      · refine XC.exit rfl ?_
        refine hK7 _ _ ?_
        refine XC.keep [(0, _), (5, _), (7, _)] ⟨rfl, rfl, rfl, trivial⟩ ?_
        refine XC.seq fun K14 hK14 => ?_
        refine XC.seq fun K15 hK15 => ?_
        refine XC.region ?_
        refine x_v (r_mv rfl) rfl ?_
        refine x_v (r_lensl Try.underlying22 rfl) rfl ?_
        refine x_v (r_mv rfl) rfl ?_
        refine XL.nil ?_
        refine hK15 _ _ ?_
        refine XC.keep [(0, _), (5, _), (7, _), (48, _), (49, _), (50, _)] ⟨rfl, rfl, rfl, rfl, rfl, rfl, trivial⟩ ?_
        refine XC.block ?_
        refine XC.loop (σ := Nat × (Option Addr × Nat)) (fun s => [(0, .int .i64 m), (5, .pointer (some ⟨b, 0, none⟩)), (7, .slice Ao L.length co), (48, .slice Ao L.length co), (49, .int .i64 L.length), (50, .int .i64 (s.1 : Int))]) (fun s => PL b 71 s.2.1 s.2.2 m (L.drop s.1) (sl Ao L.length co 29 3 (cells lc L) :: Fr)) (fun s => s.1 ≤ L.length) (fun s => L.length - s.1) (0, A, c) ?_ ⟨rfl, rfl, rfl, rfl, rfl, rfl, trivial⟩ (by repeat (first | exact Gets.done _ | exact Gets.all _ | (apply Gets.step; focus ((repeat (first | exact Pick.head _ _ | apply Pick.tail)); done)) | apply Gets.drop)) ?_
        · exact Nat.zero_le _
        rintro ⟨k, A2, c2⟩ hk
        dsimp only at hk ⊢
        have hdn : (L.drop k).length ≤ 100000 := by rw [List.length_drop]; omega
        refine XC.seq fun K16 hK16 => ?_
        refine XC.region ?_
        refine x_v (r_lt rfl rfl) rfl ?_
        refine XL.nil ?_
        refine hK16 _ _ ?_
        refine XC.keep [(0, _), (5, _), (7, _), (48, _), (49, _), (50, _), (51, _)] ⟨rfl, rfl, rfl, rfl, rfl, rfl, rfl, trivial⟩ ?_
        refine XC.seq fun K17 hK17 => ?_
        refine XC.cond_d rfl (fun hc4 => ?_) (fun hc4 => ?_)
        · refine XC.skip ?_
          refine hK17 _ _ ?_
          refine XC.keep [(0, _), (5, _), (7, _), (48, _), (49, _), (50, _)] ⟨rfl, rfl, rfl, rfl, rfl, rfl, trivial⟩ ?_
          refine XC.seq fun K18 hK18 => ?_
          refine XC.block ?_
          refine XC.seq fun K19 hK19 => ?_
          refine XC.region ?_
          obtain ⟨l, hl⟩ : ∃ l, L[k]? = some l := ⟨_, List.getElem?_eq_getElem (by omega)⟩
          have hkd := kth_drop hl
          unfold PL
          refine XL.open_ (A := Ao) (by repeat (first | exact Pick.head _ _ | apply Pick.tail)) (by omega) fun g cur hA h1 h2 h3 h4 => ?_
          subst hA
          refine x_v (r_ia (k := k) Try.underlying22 ty29 rfl rfl (by omega) (by omega)) rfl ?_
          refine x_v (r_lda (l' := lc l) ty29 rfl (by repeat (first | exact Pick.head _ _ | apply Pick.tail)) rfl (elem_at lc_len h4 hl)) rfl ?_
          refine XL.shut_ (by repeat (first | exact Pick.head _ _ | apply Pick.tail)) h1 h2 h3 h4 ?_
          refine x_a (r_al ty29 rfl) rfl fun b11 => ?_
          refine x_e (r_st (vs := lc l) ty29 rfl rfl rfl rfl rfl (by repeat (first | exact Upd.head _ _ _ | apply Upd.tail)) (by repeat (first | exact Over.nil _ | apply Over.put | apply Over.skip))) ?_
          refine XL.nil ?_
          refine hK19 _ _ ?_
          refine XC.keep [(0, _), (5, _), (7, _), (11, _), (48, _), (49, _), (50, _)] ⟨rfl, rfl, rfl, rfl, rfl, rfl, rfl, trivial⟩ ?_
          refine XC.seq fun K20 hK20 => ?_
          refine XC.region ?_
          refine x_v (r_mv rfl) rfl ?_
          refine x_c (r_call0 (args := [_, _]) ⟨rfl, rfl, rfl⟩ (takef_tr b A2 c2 m (L.drop k) 0 hdn) (by repeat (first | exact Gets.done _ | exact Gets.all _ | (apply Gets.step; focus ((repeat (first | exact Pick.head _ _ | apply Pick.tail)); done)) | apply Gets.drop))) rfl ?_
          rintro _ _ ⟨rfl, A3, c3, rfl⟩
          rw [show takeX (L.drop k) 0 = l by unfold takeX; rw [hkd]; rfl, show takeE (L.drop k) 0 = 0 by unfold takeE; rw [hkd]; rfl, show takeL (L.drop k) 0 = L.drop (k + 1) by unfold takeL; rw [hkd]; simp [List.eraseIdx_zero]]
          refine x_v (r_mv rfl) rfl ?_
          refine x_v (r_ex rfl rfl) rfl ?_
          refine x_v (r_ex rfl rfl) rfl ?_
          refine x_a (r_al ty29 rfl) rfl fun b12 => ?_
          refine x_e (r_st (vs := lc l) ty29 rfl rfl rfl rfl rfl (by repeat (first | exact Upd.head _ _ _ | apply Upd.tail)) (by repeat (first | exact Over.nil _ | apply Over.put | apply Over.skip))) ?_
          refine x_v (r_as rfl) rfl ?_
          refine XL.nil ?_
          refine hK20 _ _ ?_
          refine XC.keep [(0, _), (5, _), (7, _), (11, _), (12, _), (13, _), (48, _), (49, _), (50, _)] ⟨rfl, rfl, rfl, rfl, rfl, rfl, rfl, rfl, rfl, trivial⟩ ?_
          refine XC.seq fun K21 hK21 => ?_
          refine XC.region ?_
          refine x_v (r_lda (l' := [_, _, _]) ty29 rfl (by repeat (first | exact Pick.head _ _ | apply Pick.tail)) rfl (Sub.get (by repeat (first | exact Sub.nil _ | apply Sub.take | apply Sub.skip)))) rfl ?_
          refine x_v (r_lda (l' := [_, _, _]) ty29 rfl (by repeat (first | exact Pick.head _ _ | apply Pick.tail)) rfl (Sub.get (by repeat (first | exact Sub.nil _ | apply Sub.take | apply Sub.skip)))) rfl ?_
          refine x_v (r_stne (by kernel_rfl) (fun w => eq29 _ _ _ _ _ _ w) rfl rfl) rfl ?_
          refine x_v (r_mv rfl) rfl ?_
          refine XL.splitd 62 rfl (fun hg62 => ?_) (fun hg62 => ?_)
          · exfalso; exact hg62 ⟨rfl, rfl, rfl⟩
          · refine x_want rfl rfl rfl ?_
            refine x_v (r_mv rfl) rfl ?_
            refine x_want rfl rfl rfl ?_
            refine x_v (r_ne rfl rfl) rfl ?_
            refine x_v (r_pk_f rfl rfl) rfl ?_
            refine XL.nil ?_
            refine hK21 _ _ ?_
            refine XC.keep [(0, _), (5, _), (7, _), (48, _), (49, _), (50, _), (65, _)] ⟨rfl, rfl, rfl, rfl, rfl, rfl, rfl, trivial⟩ ?_
            refine XC.cond_f rfl ?_
            refine XC.skip ?_
            refine hK18 _ _ ?_
            refine XC.keep [(0, _), (5, _), (7, _), (48, _), (49, _), (50, _)] ⟨rfl, rfl, rfl, rfl, rfl, rfl, trivial⟩ ?_
            refine XC.region ?_
            refine x_v (r_add rfl rfl (by omega)) rfl ?_
            refine x_v (r_mv rfl) rfl ?_
            refine XL.nil ?_
            refine ⟨(k + 1, A3, c3), ?_, ?_, ⟨rfl, rfl, rfl, rfl, rfl, rfl, trivial⟩, (by repeat (first | exact Gets.done _ | exact Gets.all _ | (apply Gets.step; focus ((repeat (first | exact Pick.head _ _ | apply Pick.tail)); done)) | apply Gets.drop))⟩
            · dsimp only; omega
            · dsimp only; omega
        · refine XC.exit rfl ?_
          refine hK14 _ _ ?_
          refine XC.keep [(0, _), (5, _), (7, _)] ⟨rfl, rfl, rfl, trivial⟩ ?_
          refine XC.seq fun K22 hK22 => ?_
          obtain rfl : k = L.length := by omega
          rw [List.drop_length]
          refine XC.region ?_
          refine x_v (r_mv rfl) rfl ?_
          refine x_c (r_call0 (args := [_, _]) ⟨rfl, rfl, rfl⟩ (takef_tr b A2 c2 m [] 0 (by decide)) (by repeat (first | exact Gets.done _ | exact Gets.all _ | (apply Gets.step; focus ((repeat (first | exact Pick.head _ _ | apply Pick.tail)); done)) | apply Gets.drop))) rfl ?_
          rintro _ _ ⟨rfl, A3, c3, rfl⟩
          rw [show takeX [] 0 = zl from rfl, show takeE [] 0 = 51 from rfl, show takeL [] 0 = [] from rfl]
          refine x_v (r_mv rfl) rfl ?_
          refine x_v (r_ex rfl rfl) rfl ?_
          refine x_v (r_ex rfl rfl) rfl ?_
          refine x_a (r_al ty29 rfl) rfl fun b14 => ?_
          refine x_e (r_st (vs := lc zl) ty29 rfl rfl rfl rfl rfl (by repeat (first | exact Upd.head _ _ _ | apply Upd.tail)) (by repeat (first | exact Over.nil _ | apply Over.put | apply Over.skip))) ?_
          refine x_v (r_as rfl) rfl ?_
          refine XL.nil ?_
          refine hK22 _ _ ?_
          refine XC.keep [(0, _), (5, _), (7, _), (15, _)] ⟨rfl, rfl, rfl, rfl, trivial⟩ ?_
          refine XC.seq fun K23 hK23 => ?_
          refine XC.region ?_
          refine x_v (r_mv rfl) rfl ?_
          refine x_v (r_lensl Try.underlying22 rfl) rfl ?_
          refine x_v (r_mv rfl) rfl ?_
          refine x_v (r_le rfl rfl) rfl ?_
          refine x_v (r_mv rfl) rfl ?_
          refine XL.splitd 76 rfl (fun hg76 => ?_) (fun hg76 => ?_)
          · refine x_want rfl rfl rfl ?_
            refine x_v (r_mv rfl) rfl ?_
            refine x_want rfl rfl rfl ?_
            refine x_c (r_call0 (args := [_]) ⟨rfl, rfl⟩ (len_tr b A3 0 c3 m []) (by repeat (first | exact Gets.done _ | exact Gets.all _ | (apply Gets.step; focus ((repeat (first | exact Pick.head _ _ | apply Pick.tail)); done)) | apply Gets.drop))) rfl ?_
            rintro _ _ ⟨rfl, rfl⟩
            refine x_want rfl rfl rfl ?_
            refine x_v (r_eq rfl rfl) rfl ?_
            refine x_v (r_pk_t rfl rfl) rfl ?_
            refine x_v (r_mv rfl) rfl ?_
            refine x_want rfl rfl rfl ?_
            refine x_v (r_mv rfl) rfl ?_
            refine x_want rfl rfl rfl ?_
            refine x_v (r_eq rfl rfl) rfl ?_
            refine x_v (r_pk_t rfl rfl) rfl ?_
            refine x_v (r_as rfl) rfl ?_
            refine XL.nil ?_
            refine hK23 _ _ ?_
            refine XC.keep [(4, _)] ⟨rfl, trivial⟩ ?_
            refine XC.ret ?_
            exact fin1 rfl (rfl) (by repeat (first | exact Gets.done _ | exact Gets.all _ | (apply Gets.step; focus ((repeat (first | exact Pick.head _ _ | apply Pick.tail)); done)) | apply Gets.drop))
          · exfalso; exact hg76 hF.1
  · refine Entry.tr (N := 85) (rs := [.tmp 4]) ⟨_, Try.func3, rfl, by kernel_rfl, rfl, rfl⟩ rfl ?_
    refine XC.seq fun K1 hK1 => ?_
    refine XC.region ?_
    refine x_v (r_as rfl) rfl ?_
    refine XL.nil ?_
    refine hK1 _ _ ?_
    refine XC.keep [(0, _), (1, _)] ⟨rfl, rfl, trivial⟩ ?_
    refine XC.seq fun K2 hK2 => ?_
    refine XC.region ?_
    refine x_v (r_mv rfl) rfl ?_
    refine x_c (r_call0 (args := [_]) ⟨rfl, rfl⟩ (newq_tr m) (by repeat (first | exact Gets.done _ | exact Gets.all _ | (apply Gets.step; focus ((repeat (first | exact Pick.head _ _ | apply Pick.tail)); done)) | apply Gets.drop))) rfl ?_
    rintro _ _ hq
    rcases hq with ⟨_, rfl, rfl⟩ | ⟨h, _⟩
    rotate_left
    · omega
    refine x_v (r_mv rfl) rfl ?_
    refine x_v (r_ex rfl rfl) rfl ?_
    refine x_v (r_ex rfl rfl) rfl ?_
    refine x_v (r_as rfl) rfl ?_
    refine x_v (r_as rfl) rfl ?_
    refine XL.nil ?_
    refine hK2 _ _ ?_
    refine XC.keep [(0, _), (1, _), (5, _), (6, _)] ⟨rfl, rfl, rfl, rfl, trivial⟩ ?_
    refine XC.seq fun K3 hK3 => ?_
    refine XC.seq fun K4 hK4 => ?_
    refine XC.region ?_
    refine x_c (r_call0 (args := []) rfl (awake_tr) (by repeat (first | exact Gets.done _ | exact Gets.all _ | (apply Gets.step; focus ((repeat (first | exact Pick.head _ _ | apply Pick.tail)); done)) | apply Gets.drop))) rfl ?_
    rintro _ _ ⟨rfl, rfl⟩
    refine x_v (r_not rfl) rfl ?_
    refine x_v (r_mv rfl) rfl ?_
    refine x_want rfl rfl rfl ?_
    refine x_v (r_mv rfl) rfl ?_
    refine x_want rfl rfl rfl ?_
    refine x_v (r_ne rfl rfl) rfl ?_
    refine x_v (r_pk_f rfl rfl) rfl ?_
    refine x_v (r_mv rfl) rfl ?_
    refine x_unwant rfl rfl rfl rfl rfl ?_
    refine x_unwant rfl rfl rfl rfl rfl ?_
    refine x_unwant rfl rfl rfl rfl rfl ?_
    refine x_v (r_pk_t rfl rfl) rfl ?_
    refine XL.nil ?_
    refine hK4 _ _ ?_
    refine XC.keep [(0, _), (1, _), (5, _), (31, _)] ⟨rfl, rfl, rfl, rfl, trivial⟩ ?_
    refine XC.cond_t rfl ?_
    refine XC.seq fun K5 hK5 => ?_
    refine XC.region ?_
    refine x_c (r_call0 (args := []) rfl (awake_tr) (by repeat (first | exact Gets.done _ | exact Gets.all _ | (apply Gets.step; focus ((repeat (first | exact Pick.head _ _ | apply Pick.tail)); done)) | apply Gets.drop))) rfl ?_
    rintro _ _ ⟨rfl, rfl⟩
    refine x_v (r_as rfl) rfl ?_
    refine XL.nil ?_
    refine hK5 _ _ ?_
    refine XC.keep [(4, _)] ⟨rfl, trivial⟩ ?_
    refine XC.ret ?_
    exact fin1 rfl (rfl) (by repeat (first | exact Gets.done _ | exact Gets.all _ | (apply Gets.step; focus ((repeat (first | exact Pick.head _ _ | apply Pick.tail)); done)) | apply Gets.drop))
end Go.Proofs.Ytdppjmdjmbbclaa

/- The law's functions: 7 (awake). -/
import Derived.Test.YtcmdmhmgffjknaaGreatDoorFacts
import Derived.Test.YtcmdmhmgffjknaaGreatDoorWal26
namespace Go.Proofs.YtcmdmhmgffjknaaGreatDoor
open Go.Sx
set_option linter.unusedVariables false

theorem awake_tr {W0 : World} (hL : Laid W0) (Fr : List HP) : Tr W0 Tryz.prog 7 [] Fr (fun v Rs' => v = .bool true ∧ Rs' = Fr) := by
  have hs1 := s1_len
  obtain ⟨L4, D4, hop3⟩ := open3_val
  refine Entry.tr (N := 103) (rs := [.tmp 0]) ⟨_, Tryz.func7, rfl, by kernel_rfl, rfl, rfl⟩ rfl ?_
  refine XC.seq fun K1 hK1 => ?_
  refine XC.region ?_
  refine x_v (r_as rfl) rfl ?_
  refine XL.nil ?_
  refine hK1 _ _ ?_
  refine XC.keep [] trivial ?_
  refine XC.seq fun K2 hK2 => ?_
  refine XC.region ?_
  refine x_c (r_call0 (args := []) rfl (new_tr Fr) gS) rfl ?_
  rintro _ _ ⟨d, rfl, hRs⟩
  rw [hRs]
  refine x_v (r_as rfl) rfl ?_
  refine XL.nil ?_
  refine hK2 _ _ ?_
  refine XC.keep [(1, _)] ⟨rfl, trivial⟩ ?_
  refine XC.seq fun K3 hK3 => ?_
  refine XC.region ?_
  refine x_v (r_mv rfl) rfl ?_
  refine x_c (r_call0 (args := [_]) ⟨rfl, rfl⟩ (openl_tr hL d emptyD Fr (by decide)) gS) rfl ?_
  rintro _ _ hop
  unfold OpenV at hop
  rw [openL_empty] at hop
  dsimp only at hop
  obtain ⟨l, Ar, cr, rfl, hRs⟩ := hop
  rw [hRs]
  refine x_v (r_mv rfl) rfl ?_
  refine x_v (r_ex rfl rfl) rfl ?_
  refine x_v (r_ex rfl rfl) rfl ?_
  refine x_v (r_ex rfl rfl) rfl ?_
  refine x_v (r_ex rfl rfl) rfl ?_
  refine x_v (r_as rfl) rfl ?_
  refine x_v (r_as rfl) rfl ?_
  refine x_v (r_as rfl) rfl ?_
  refine x_v (r_as rfl) rfl ?_
  refine XL.nil ?_
  refine hK3 _ _ ?_
  refine XC.keep [(1, _), (2, _), (4, _), (5, _)] ⟨rfl, rfl, rfl, rfl, trivial⟩ ?_
  refine XC.seq fun K4 hK4 => ?_
  refine XC.seq fun K5 hK5 => ?_
  refine XC.region ?_
  refine x_v (r_mv rfl) rfl ?_
  refine x_v (r_ne rfl rfl) rfl ?_
  refine x_v (r_mv rfl) rfl ?_
  refine XL.splitd 26 rfl (fun hg26 => ?_) (fun hg26 => ?_)
  · exfalso; omega
  · refine x_want rfl rfl rfl ?_
    refine x_v (r_mv rfl) rfl ?_
    refine x_want rfl rfl rfl ?_
    refine x_v (r_peq_some Tryz.underlying29 rfl rfl) rfl ?_
    refine x_v (r_pk_f rfl rfl) rfl ?_
    refine x_v (r_mv rfl) rfl ?_
    refine x_want rfl rfl rfl ?_
    refine x_v (r_mv rfl) rfl ?_
    refine x_want rfl rfl rfl ?_
    refine x_v (r_lensl Tryz.underlying22 rfl) rfl ?_
    refine x_want rfl rfl rfl ?_
    refine x_v (r_ne rfl rfl) rfl ?_
    refine x_v (r_pk_f rfl rfl) rfl ?_
    refine XL.nil ?_
    refine hK5 _ _ ?_
    refine XC.keep [(1, _), (2, _), (34, _)] ⟨rfl, rfl, rfl, trivial⟩ ?_
    refine XC.cond_d rfl (fun hc1 => ?_) (fun hc1 => ?_)
    · exfalso; (first | omega | simp_all)
    · refine XC.skip ?_
      refine hK4 _ _ ?_
      refine XC.keep [(1, _), (2, _)] ⟨rfl, rfl, trivial⟩ ?_
      refine XC.seq fun K6 hK6 => ?_
      refine XC.region ?_
      refine x_v (r_mv rfl) rfl ?_
      refine x_a (r_bs (vs := [_]) rfl ⟨rfl, rfl⟩ (bs22_1_0 _)) rfl fun b36 => ?_
      refine x_c (r_call0 (args := [_, _]) ⟨rfl, rfl, rfl⟩ (appendl_tr hL l d L0 emptyD (some ⟨b36, 0, none⟩) 1 [[97, 98]] (blk b36 9 [str [97, 98]] :: Fr) (Rdb.of_blk (cs := [str [97, 98]]) (xs := [str [97, 98]]) pK 0 rfl (fun j u hu => by simpa using hu)) (by decide) (by decide) (by decide) (by decide) (by decide)) gS) rfl ?_
      rintro _ _ ⟨hv37, hRs⟩
      rw [app1_val] at hv37 hRs
      dsimp only at hv37 hRs
      subst hv37
      rw [hRs]
      refine x_v (r_as rfl) rfl ?_
      refine XL.nil ?_
      refine hK6 _ _ ?_
      refine XC.keep [(1, _), (2, _), (6, _)] ⟨rfl, rfl, rfl, trivial⟩ ?_
      refine XC.seq fun K7 hK7 => ?_
      refine XC.region ?_
      refine x_v (r_mv rfl) rfl ?_
      refine x_c (r_call0 (args := [_, _]) ⟨rfl, rfl, rfl⟩ (dread_tr d D1 n1 (lgc l d ⟨1, 14, false, 1⟩ :: Fr)) gS) rfl ?_
      rintro _ _ ⟨hv40, hRs⟩
      rw [read1_val] at hv40
      dsimp only at hv40
      subst hv40
      rw [hRs]
      refine x_v (r_mv rfl) rfl ?_
      refine x_v (r_ex rfl rfl) rfl ?_
      refine x_v (r_ex rfl rfl) rfl ?_
      refine x_v (r_as rfl) rfl ?_
      refine x_v (r_as rfl) rfl ?_
      refine XL.nil ?_
      refine hK7 _ _ ?_
      refine XC.keep [(1, _), (2, _), (6, _), (7, _)] ⟨rfl, rfl, rfl, rfl, trivial⟩ ?_
      refine XC.seq fun K8 hK8 => ?_
      refine XC.region ?_
      refine x_v (r_mv rfl) rfl ?_
      refine x_c (r_call0 (args := [_, _]) ⟨rfl, rfl, rfl⟩ (layl_tr hL l d ⟨1, 14, false, 1⟩ D1 [120] Fr (by decide) (by decide) (by decide)) gS) rfl ?_
      rintro _ _ ⟨hv44, hRs⟩
      rw [lay_val] at hv44 hRs
      dsimp only at hv44 hRs
      subst hv44
      rw [hRs]
      refine x_v (r_as rfl) rfl ?_
      refine XL.nil ?_
      refine hK8 _ _ ?_
      refine XC.keep [(1, _), (2, _), (6, _), (7, _), (9, _)] ⟨rfl, rfl, rfl, rfl, rfl, trivial⟩ ?_
      refine XC.seq fun K9 hK9 => ?_
      refine XC.region ?_
      refine x_v (r_mv rfl) rfl ?_
      refine x_c (r_call0 (args := [_, _]) ⟨rfl, rfl, rfl⟩ (dread_tr d D2 n1 (lgc l d ⟨2, 8, false, 2⟩ :: Fr)) gS) rfl ?_
      rintro _ _ ⟨hv47, hRs⟩
      rw [read2_val] at hv47
      dsimp only at hv47
      subst hv47
      rw [hRs]
      refine x_v (r_mv rfl) rfl ?_
      refine x_v (r_ex rfl rfl) rfl ?_
      refine x_v (r_ex rfl rfl) rfl ?_
      refine x_v (r_as rfl) rfl ?_
      refine x_v (r_as rfl) rfl ?_
      refine XL.nil ?_
      refine hK9 _ _ ?_
      refine XC.keep [(1, _), (2, _), (6, _), (7, _), (9, _), (11, _)] ⟨rfl, rfl, rfl, rfl, rfl, rfl, trivial⟩ ?_
      refine XC.seq fun K10 hK10 => ?_
      refine XC.region ?_
      refine x_v (r_mv rfl) rfl ?_
      refine x_a (r_bs (vs := [_, _]) rfl ⟨rfl, rfl, rfl⟩ (bs22_2_0_1 _ _)) rfl fun b51 => ?_
      refine x_c (r_call0 (args := [_, _]) ⟨rfl, rfl, rfl⟩ (appendl_tr hL l d ⟨2, 8, false, 2⟩ D2 (some ⟨b51, 0, none⟩) 2 [[99], []] (blk b51 9 [str [99], str []] :: Fr) (Rdb.of_blk (cs := [str [99], str []]) (xs := [str [99], str []]) pK 0 rfl (fun j u hu => by simpa using hu)) (by decide) (by decide) (by decide) (by decide) (by decide)) gS) rfl ?_
      rintro _ _ ⟨hv52, hRs⟩
      rw [app2_val] at hv52 hRs
      dsimp only at hv52 hRs
      subst hv52
      rw [hRs]
      refine x_v (r_as rfl) rfl ?_
      refine XL.nil ?_
      refine hK10 _ _ ?_
      refine XC.keep [(1, _), (2, _), (6, _), (7, _), (9, _), (11, _), (12, _)] ⟨rfl, rfl, rfl, rfl, rfl, rfl, rfl, trivial⟩ ?_
      refine XC.seq fun K11 hK11 => ?_
      refine XC.region ?_
      refine x_v (r_mv rfl) rfl ?_
      refine x_c (r_call0 (args := [_]) ⟨rfl, rfl⟩ (openl_tr hL d D3 (lgc l d ⟨2, 19, false, 2⟩ :: Fr) (by decide)) gS) rfl ?_
      rintro _ _ hop
      unfold OpenV at hop
      rw [hop3] at hop
      dsimp only at hop
      obtain ⟨l4, A4, c4, rfl, hRs⟩ := hop
      rw [hRs]
      refine x_v (r_mv rfl) rfl ?_
      refine x_v (r_ex rfl rfl) rfl ?_
      refine x_v (r_ex rfl rfl) rfl ?_
      refine x_v (r_ex rfl rfl) rfl ?_
      refine x_v (r_ex rfl rfl) rfl ?_
      refine x_v (r_as rfl) rfl ?_
      refine x_v (r_as rfl) rfl ?_
      refine x_v (r_as rfl) rfl ?_
      refine x_v (r_as rfl) rfl ?_
      refine XL.nil ?_
      refine hK11 _ _ ?_
      refine XC.keep [(2, _), (4, _), (6, _), (7, _), (9, _), (11, _), (12, _), (14, _), (15, _)] ⟨rfl, rfl, rfl, rfl, rfl, rfl, rfl, rfl, rfl, trivial⟩ ?_
      refine XC.seq fun K12 hK12 => ?_
      refine XC.region ?_
      refine x_v (r_mv rfl) rfl ?_
      refine x_v (r_eq rfl rfl) rfl ?_
      refine x_v (r_mv rfl) rfl ?_
      refine XL.splitd 62 rfl (fun hg62 => ?_) (fun hg62 => ?_)
      · refine x_want rfl rfl rfl ?_
        refine x_v (r_mv rfl) rfl ?_
        refine x_want rfl rfl rfl ?_
        refine x_v (r_eq rfl rfl) rfl ?_
        refine x_v (r_pk_t rfl rfl) rfl ?_
        refine x_v (r_mv rfl) rfl ?_
        refine XL.splitd 66 rfl (fun hg66 => ?_) (fun hg66 => ?_)
        · refine x_want rfl rfl rfl ?_
          refine x_v (r_mv rfl) rfl ?_
          refine x_want rfl rfl rfl ?_
          refine x_v (r_eq rfl rfl) rfl ?_
          refine x_v (r_pk_t rfl rfl) rfl ?_
          refine x_v (r_mv rfl) rfl ?_
          refine XL.splitd 70 rfl (fun hg70 => ?_) (fun hg70 => ?_)
          · refine x_want rfl rfl rfl ?_
            refine x_v (r_mv rfl) rfl ?_
            refine x_want rfl rfl rfl ?_
            refine x_v (r_lens Tryz.underlying9 rfl) rfl ?_
            refine x_want rfl rfl rfl ?_
            refine x_v (r_eq rfl rfl) rfl ?_
            refine x_v (r_pk_t rfl rfl) rfl ?_
            refine x_v (r_mv rfl) rfl ?_
            refine XL.splitd 75 rfl (fun hg75 => ?_) (fun hg75 => ?_)
            · refine x_want rfl rfl rfl ?_
              refine x_v (r_mv rfl) rfl ?_
              refine x_want rfl rfl rfl ?_
              refine x_v (r_not rfl) rfl ?_
              refine x_v (r_pk_t rfl rfl) rfl ?_
              refine x_v (r_mv rfl) rfl ?_
              refine XL.split 79 rfl (fun hg79 => ?_) (fun hg79 => ?_)
              · refine x_want rfl rfl rfl ?_
                refine x_v (r_mv rfl) rfl ?_
                refine x_want rfl rfl rfl ?_
                refine x_c (r_call0 (args := [_]) ⟨rfl, rfl⟩ (segment_tr l d ⟨2, 19, false, 2⟩ (sl A4 [[99], []].length c4 9 1 (cells sv [[99], []]) :: Fr)) gS) rfl ?_
                rintro _ _ ⟨rfl, hRs⟩
                rw [hRs]
                refine x_want rfl rfl rfl ?_
                refine x_v (r_eq rfl rfl) rfl ?_
                refine x_v (r_pk_t rfl rfl) rfl ?_
                refine x_v (r_mv rfl) rfl ?_
                refine XL.splitd 84 rfl (fun hg84 => ?_) (fun hg84 => ?_)
                · refine x_want rfl rfl rfl ?_
                  refine x_v (r_mv rfl) rfl ?_
                  refine x_want rfl rfl rfl ?_
                  refine x_v (r_seq rfl rfl) rfl ?_
                  refine x_v (r_pk_t rfl rfl) rfl ?_
                  refine x_v (r_mv rfl) rfl ?_
                  refine XL.splitd 88 rfl (fun hg88 => ?_) (fun hg88 => ?_)
                  · refine x_want rfl rfl rfl ?_
                    refine x_v (r_mv rfl) rfl ?_
                    refine x_want rfl rfl rfl ?_
                    refine x_v (r_lensl Tryz.underlying22 rfl) rfl ?_
                    refine x_want rfl rfl rfl ?_
                    refine x_v (r_eq rfl rfl) rfl ?_
                    refine x_v (r_pk_t rfl rfl) rfl ?_
                    refine x_v (r_mv rfl) rfl ?_
                    refine XL.splitd 93 rfl (fun hg93 => ?_) (fun hg93 => ?_)
                    · refine x_want rfl rfl rfl ?_
                      refine x_v (r_mv rfl) rfl ?_
                      refine x_want rfl rfl rfl ?_
                      refine XL.slnn (pK : Pick _ (sl A4 [[99], []].length c4 9 1 (cells sv [[99], []])) _) fun hl hA => ?_
                      obtain ⟨g, rfl⟩ := hA (by decide)
                      have hrN := Rdb.of_sl (W0 := W0) (pK : Pick (sl (some ⟨g, 0, none⟩) [[99], []].length c4 9 1 (cells sv [[99], []]) :: Fr) (sl (some ⟨g, 0, none⟩) [[99], []].length c4 9 1 (cells sv [[99], []])) _) hl (fun _ => ⟨g, rfl⟩)
                      obtain ⟨g2, o2, he2, hat⟩ := hrN.at_ (by decide)
                      injection he2 with he2
                      injection he2 with hg2 ho2
                      subst hg2
                      subst ho2
                      refine x_v (r_ia (k := 0) Tryz.underlying22 ty9 rfl rfl (by omega) (by decide)) rfl ?_
                      refine x_want rfl rfl rfl ?_
                      refine x_v (r_ldr (v := str [99]) ty9 rfl (fun w hw => hat w (Gets.own gS hw) (0 * 1) _ rfl)) rfl ?_
                      refine x_want rfl rfl rfl ?_
                      refine x_v (r_seq rfl rfl) rfl ?_
                      refine x_v (r_pk_t rfl rfl) rfl ?_
                      refine x_v (r_mv rfl) rfl ?_
                      refine XL.splitd 99 rfl (fun hg99 => ?_) (fun hg99 => ?_)
                      · refine x_want rfl rfl rfl ?_
                        refine x_v (r_mv rfl) rfl ?_
                        refine x_want rfl rfl rfl ?_
                        refine x_v (r_eq rfl rfl) rfl ?_
                        refine x_v (r_pk_t rfl rfl) rfl ?_
                        refine x_v (r_as rfl) rfl ?_
                        refine XL.nil ?_
                        refine hK12 _ _ ?_
                        refine XC.keep [(0, _)] ⟨rfl, trivial⟩ ?_
                        refine XC.ret ?_
                        exact fin1 rfl (⟨by simp, rfl⟩) gS
                      · exfalso; exact hg99 rfl
                    · exfalso; (first | omega | exact hg93 rfl | simp at hg93)
                  · exfalso; exact hg88 rfl
                · exfalso; exact hg84 rfl
              · exfalso; exact absurd hg79 (by decide)
            · exfalso; omega
          · exfalso; omega
        · exfalso; omega
      · exfalso; omega
end Go.Proofs.YtcmdmhmgffjknaaGreatDoor

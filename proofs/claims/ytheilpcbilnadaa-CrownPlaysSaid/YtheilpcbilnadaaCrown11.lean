/- Crowns: a crown that is none; commands and mails that are the same. -/
import Derived.Test.YtheilpcbilnadaaCrown9
namespace Go.Proofs.Ytheilpcbilnadaa
open Go.Sx
set_option linter.unusedVariables false

theorem sameh_tr {W0 : World} {Fr : List HP} : Tr W0 Try.prog 57 [.slice none 0 0, .slice none 0 0] Fr (fun v Rs' => v = .bool true ∧ Rs' = Fr) := by
 refine Entry.tr (N := 26) (rs := [.tmp 4]) ⟨_, Try.func57, rfl, by kernel_rfl, rfl, rfl⟩ rfl ?_
 refine XC.seq fun K1 hK1 => ?_
 refine XC.region ?_
 refine x_v (r_as rfl) rfl ?_
 refine XL.nil ?_
 refine hK1 _ _ ?_
 refine XC.keep [(0, _), (1, _)] ⟨rfl, rfl, trivial⟩ ?_
 refine XC.seq fun K2 hK2 => ?_
 refine XC.seq fun K3 hK3 => ?_
 refine XC.region ?_
 refine x_v (r_mv rfl) rfl ?_
 refine x_v (r_lensl Try.underlying32 rfl) rfl ?_
 refine x_v (r_mv rfl) rfl ?_
 refine x_v (r_lensl Try.underlying32 rfl) rfl ?_
 refine x_v (r_ne rfl rfl) rfl ?_
 refine XL.nil ?_
 refine hK3 _ _ ?_
 refine XC.keep [(0, _), (1, _), (10, _)] ⟨rfl, rfl, rfl, trivial⟩ ?_
 refine XC.cond_d rfl (fun hc1 => ?_) (fun hc1 => ?_)
 ·exfalso; omega
 ·refine XC.skip ?_
  refine hK2 _ _ ?_
  refine XC.keep [(0, _), (1, _)] ⟨rfl, rfl, trivial⟩ ?_
  refine XC.seq fun K4 hK4 => ?_
  refine XC.seq fun K5 hK5 => ?_
  refine XC.region ?_
  refine x_v (r_as rfl) rfl ?_
  refine XL.nil ?_
  refine hK5 _ _ ?_
  refine XC.keep [(0, _), (1, _), (5, _)] ⟨rfl, rfl, rfl, trivial⟩ ?_
  refine XC.block ?_
  refine XC.loop (σ := Unit) (fun s => [(0, .slice none 0 0), (1, .slice none 0 0), (5, .int .i64 0)]) (fun s => Fr) (fun s => True) (fun s => 0) () ?_ ⟨rfl, rfl, rfl, trivial⟩ gS ?_
  ·trivial
  rintro _ _
  refine XC.seq fun K6 hK6 => ?_
  refine XC.seq fun K7 hK7 => ?_
  refine XC.region ?_
  refine x_v (r_mv rfl) rfl ?_
  refine x_v (r_mv rfl) rfl ?_
  refine x_v (r_lensl Try.underlying32 rfl) rfl ?_
  refine x_v (r_lt rfl rfl) rfl ?_
  refine XL.nil ?_
  refine hK7 _ _ ?_
  refine XC.keep [(0, _), (1, _), (5, _), (14, _)] ⟨rfl, rfl, rfl, rfl, trivial⟩ ?_
  refine XC.cond_d rfl (fun hc2 => ?_) (fun hc2 => ?_)
  ·exfalso; omega
  ·refine XC.exit rfl ?_
   refine hK4 _ _ ?_
   refine XC.keep [] trivial ?_
   refine XC.seq fun K8 hK8 => ?_
   refine XC.region ?_
   refine x_v (r_as rfl) rfl ?_
   refine XL.nil ?_
   refine hK8 _ _ ?_
   refine XC.keep [(4, _)] ⟨rfl, trivial⟩ ?_
   refine XC.ret ?_
   exact fin1 rfl (⟨rfl, rfl⟩) gS
theorem samee_tr {W0 : World} {Fr : List HP} : Tr W0 Try.prog 58 [.slice none 0 0, .slice none 0 0] Fr (fun v Rs' => v = .bool true ∧ Rs' = Fr) := by
 refine Entry.tr (N := 26) (rs := [.tmp 4]) ⟨_, Try.func58, rfl, by kernel_rfl, rfl, rfl⟩ rfl ?_
 refine XC.seq fun K1 hK1 => ?_
 refine XC.region ?_
 refine x_v (r_as rfl) rfl ?_
 refine XL.nil ?_
 refine hK1 _ _ ?_
 refine XC.keep [(0, _), (1, _)] ⟨rfl, rfl, trivial⟩ ?_
 refine XC.seq fun K2 hK2 => ?_
 refine XC.seq fun K3 hK3 => ?_
 refine XC.region ?_
 refine x_v (r_mv rfl) rfl ?_
 refine x_v (r_lensl Try.underlying28 rfl) rfl ?_
 refine x_v (r_mv rfl) rfl ?_
 refine x_v (r_lensl Try.underlying28 rfl) rfl ?_
 refine x_v (r_ne rfl rfl) rfl ?_
 refine XL.nil ?_
 refine hK3 _ _ ?_
 refine XC.keep [(0, _), (1, _), (10, _)] ⟨rfl, rfl, rfl, trivial⟩ ?_
 refine XC.cond_d rfl (fun hc1 => ?_) (fun hc1 => ?_)
 ·exfalso; omega
 ·refine XC.skip ?_
  refine hK2 _ _ ?_
  refine XC.keep [(0, _), (1, _)] ⟨rfl, rfl, trivial⟩ ?_
  refine XC.seq fun K4 hK4 => ?_
  refine XC.seq fun K5 hK5 => ?_
  refine XC.region ?_
  refine x_v (r_as rfl) rfl ?_
  refine XL.nil ?_
  refine hK5 _ _ ?_
  refine XC.keep [(0, _), (1, _), (5, _)] ⟨rfl, rfl, rfl, trivial⟩ ?_
  refine XC.block ?_
  refine XC.loop (σ := Unit) (fun s => [(0, .slice none 0 0), (1, .slice none 0 0), (5, .int .i64 0)]) (fun s => Fr) (fun s => True) (fun s => 0) () ?_ ⟨rfl, rfl, rfl, trivial⟩ gS ?_
  ·trivial
  rintro _ _
  refine XC.seq fun K6 hK6 => ?_
  refine XC.seq fun K7 hK7 => ?_
  refine XC.region ?_
  refine x_v (r_mv rfl) rfl ?_
  refine x_v (r_mv rfl) rfl ?_
  refine x_v (r_lensl Try.underlying28 rfl) rfl ?_
  refine x_v (r_lt rfl rfl) rfl ?_
  refine XL.nil ?_
  refine hK7 _ _ ?_
  refine XC.keep [(0, _), (1, _), (5, _), (14, _)] ⟨rfl, rfl, rfl, rfl, trivial⟩ ?_
  refine XC.cond_d rfl (fun hc2 => ?_) (fun hc2 => ?_)
  ·exfalso; omega
  ·refine XC.exit rfl ?_
   refine hK4 _ _ ?_
   refine XC.keep [] trivial ?_
   refine XC.seq fun K8 hK8 => ?_
   refine XC.region ?_
   refine x_v (r_as rfl) rfl ?_
   refine XL.nil ?_
   refine hK8 _ _ ?_
   refine XC.keep [(4, _)] ⟨rfl, trivial⟩ ?_
   refine XC.ret ?_
   exact fin1 rfl (⟨rfl, rfl⟩) gS
theorem sameo_tr {W0 : World} {Fr : List HP} : Tr W0 Try.prog 54 [.slice none 0 0, .slice none 0 0] Fr (fun v Rs' => v = .bool true ∧ Rs' = Fr) := by
 refine Entry.tr (N := 27) (rs := [.tmp 4]) ⟨_, Try.func54, rfl, by kernel_rfl, rfl, rfl⟩ rfl ?_
 refine XC.seq fun K1 hK1 => ?_
 refine XC.region ?_
 refine x_v (r_as rfl) rfl ?_
 refine XL.nil ?_
 refine hK1 _ _ ?_
 refine XC.keep [(0, _), (1, _)] ⟨rfl, rfl, trivial⟩ ?_
 refine XC.seq fun K2 hK2 => ?_
 refine XC.seq fun K3 hK3 => ?_
 refine XC.region ?_
 refine x_v (r_mv rfl) rfl ?_
 refine x_v (r_lensl Try.underlying33 rfl) rfl ?_
 refine x_v (r_mv rfl) rfl ?_
 refine x_v (r_lensl Try.underlying33 rfl) rfl ?_
 refine x_v (r_ne rfl rfl) rfl ?_
 refine XL.nil ?_
 refine hK3 _ _ ?_
 refine XC.keep [(0, _), (1, _), (10, _)] ⟨rfl, rfl, rfl, trivial⟩ ?_
 refine XC.cond_d rfl (fun hc1 => ?_) (fun hc1 => ?_)
 ·exfalso; omega
 ·refine XC.skip ?_
  refine hK2 _ _ ?_
  refine XC.keep [(0, _), (1, _)] ⟨rfl, rfl, trivial⟩ ?_
  refine XC.seq fun K4 hK4 => ?_
  refine XC.seq fun K5 hK5 => ?_
  refine XC.region ?_
  refine x_v (r_as rfl) rfl ?_
  refine XL.nil ?_
  refine hK5 _ _ ?_
  refine XC.keep [(0, _), (1, _), (5, _)] ⟨rfl, rfl, rfl, trivial⟩ ?_
  refine XC.block ?_
  refine XC.loop (σ := Unit) (fun s => [(0, .slice none 0 0), (1, .slice none 0 0), (5, .int .i64 0)]) (fun s => Fr) (fun s => True) (fun s => 0) () ?_ ⟨rfl, rfl, rfl, trivial⟩ gS ?_
  ·trivial
  rintro _ _
  refine XC.seq fun K6 hK6 => ?_
  refine XC.seq fun K7 hK7 => ?_
  refine XC.region ?_
  refine x_v (r_mv rfl) rfl ?_
  refine x_v (r_mv rfl) rfl ?_
  refine x_v (r_lensl Try.underlying33 rfl) rfl ?_
  refine x_v (r_lt rfl rfl) rfl ?_
  refine XL.nil ?_
  refine hK7 _ _ ?_
  refine XC.keep [(0, _), (1, _), (5, _), (14, _)] ⟨rfl, rfl, rfl, rfl, trivial⟩ ?_
  refine XC.cond_d rfl (fun hc2 => ?_) (fun hc2 => ?_)
  ·exfalso; omega
  ·refine XC.exit rfl ?_
   refine hK4 _ _ ?_
   refine XC.keep [] trivial ?_
   refine XC.seq fun K8 hK8 => ?_
   refine XC.region ?_
   refine x_v (r_as rfl) rfl ?_
   refine XL.nil ?_
   refine hK8 _ _ ?_
   refine XC.keep [(4, _)] ⟨rfl, trivial⟩ ?_
   refine XC.ret ?_
   exact fin1 rfl (⟨rfl, rfl⟩) gS
theorem sames_tr {W0 : World} {Fr : List HP} : Tr W0 Try.prog 91 [.slice none 0 0, .slice none 0 0] Fr (fun v Rs' => v = .bool true ∧ Rs' = Fr) := by
 refine Entry.tr (N := 26) (rs := [.tmp 4]) ⟨_, Try.func91, rfl, by kernel_rfl, rfl, rfl⟩ rfl ?_
 refine XC.seq fun K1 hK1 => ?_
 refine XC.region ?_
 refine x_v (r_as rfl) rfl ?_
 refine XL.nil ?_
 refine hK1 _ _ ?_
 refine XC.keep [(0, _), (1, _)] ⟨rfl, rfl, trivial⟩ ?_
 refine XC.seq fun K2 hK2 => ?_
 refine XC.seq fun K3 hK3 => ?_
 refine XC.region ?_
 refine x_v (r_mv rfl) rfl ?_
 refine x_v (r_lensl Try.underlying29 rfl) rfl ?_
 refine x_v (r_mv rfl) rfl ?_
 refine x_v (r_lensl Try.underlying29 rfl) rfl ?_
 refine x_v (r_ne rfl rfl) rfl ?_
 refine XL.nil ?_
 refine hK3 _ _ ?_
 refine XC.keep [(0, _), (1, _), (10, _)] ⟨rfl, rfl, rfl, trivial⟩ ?_
 refine XC.cond_d rfl (fun hc1 => ?_) (fun hc1 => ?_)
 ·exfalso; omega
 ·refine XC.skip ?_
  refine hK2 _ _ ?_
  refine XC.keep [(0, _), (1, _)] ⟨rfl, rfl, trivial⟩ ?_
  refine XC.seq fun K4 hK4 => ?_
  refine XC.seq fun K5 hK5 => ?_
  refine XC.region ?_
  refine x_v (r_as rfl) rfl ?_
  refine XL.nil ?_
  refine hK5 _ _ ?_
  refine XC.keep [(0, _), (1, _), (5, _)] ⟨rfl, rfl, rfl, trivial⟩ ?_
  refine XC.block ?_
  refine XC.loop (σ := Unit) (fun s => [(0, .slice none 0 0), (1, .slice none 0 0), (5, .int .i64 0)]) (fun s => Fr) (fun s => True) (fun s => 0) () ?_ ⟨rfl, rfl, rfl, trivial⟩ gS ?_
  ·trivial
  rintro _ _
  refine XC.seq fun K6 hK6 => ?_
  refine XC.seq fun K7 hK7 => ?_
  refine XC.region ?_
  refine x_v (r_mv rfl) rfl ?_
  refine x_v (r_mv rfl) rfl ?_
  refine x_v (r_lensl Try.underlying29 rfl) rfl ?_
  refine x_v (r_lt rfl rfl) rfl ?_
  refine XL.nil ?_
  refine hK7 _ _ ?_
  refine XC.keep [(0, _), (1, _), (5, _), (14, _)] ⟨rfl, rfl, rfl, rfl, trivial⟩ ?_
  refine XC.cond_d rfl (fun hc2 => ?_) (fun hc2 => ?_)
  ·exfalso; omega
  ·refine XC.exit rfl ?_
   refine hK4 _ _ ?_
   refine XC.keep [] trivial ?_
   refine XC.seq fun K8 hK8 => ?_
   refine XC.region ?_
   refine x_v (r_as rfl) rfl ?_
   refine XL.nil ?_
   refine hK8 _ _ ?_
   refine XC.keep [(4, _)] ⟨rfl, trivial⟩ ?_
   refine XC.ret ?_
   exact fin1 rfl (⟨rfl, rfl⟩) gS

theorem samez_tr {W0 : World} {Fr : List HP} : Tr W0 Try.prog 81 [.agg #[.int .i64 0, .slice none 0 0], .agg #[.int .i64 0, .slice none 0 0]] Fr (fun v Rs' => v = .bool true ∧ Rs' = Fr) := by
 refine Entry.tr (N := 17) (rs := [.tmp 4]) ⟨_, Try.func81, rfl, by kernel_rfl, rfl, rfl⟩ rfl ?_
 refine XC.seq fun K1 hK1 => ?_
 refine XC.region ?_
 refine x_a (r_bx rfl rfl) rfl fun b2 => ?_
 refine x_a (r_bx rfl rfl) rfl fun b3 => ?_
 refine x_v (r_as rfl) rfl ?_
 refine XL.nil ?_
 refine hK1 _ _ ?_
 refine XC.keep [(2, _), (3, _)] ⟨rfl, rfl, trivial⟩ ?_
 refine XC.seq fun K2 hK2 => ?_
 refine XC.region ?_
 refine x_v (r_fa fo37_0 rfl) rfl ?_
 refine x_v (r_ld ty3 rfl pK (by rfl)) rfl ?_
 refine x_v (r_fa fo37_0 rfl) rfl ?_
 refine x_v (r_ld ty3 rfl pK (by rfl)) rfl ?_
 refine x_v (r_eq rfl rfl) rfl ?_
 refine x_v (r_mv rfl) rfl ?_
 refine XL.splitd 10 rfl (fun hg10 => ?_) (fun hg10 => ?_)
 ·refine x_want rfl rfl rfl ?_
  refine x_v (r_fa fo37_1 rfl) rfl ?_
  refine x_want rfl rfl rfl ?_
  refine x_v (r_ld ty29 rfl pK (by rfl)) rfl ?_
  refine x_want rfl rfl rfl ?_
  refine x_v (r_fa fo37_1 rfl) rfl ?_
  refine x_want rfl rfl rfl ?_
  refine x_v (r_ld ty29 rfl pK (by rfl)) rfl ?_
  refine x_want rfl rfl rfl ?_
  refine x_c (r_call0 (args := [_, _]) ⟨rfl, rfl, rfl⟩ (sames_tr) gS) rfl ?_
  rintro _ _ ⟨rfl, rfl⟩
  refine x_v (r_pk_t rfl rfl) rfl ?_
  refine x_v (r_as rfl) rfl ?_
  refine XL.nil ?_
  refine hK2 _ _ ?_
  refine XC.keep [(4, _)] ⟨rfl, trivial⟩ ?_
  refine XC.ret ?_
  exact fin1 rfl (⟨rfl, rfl⟩) gS
 ·exfalso; first | omega | exact hg10 rfl | exact hg10 ⟨rfl, rfl⟩ | simp at hg10
theorem sameop_tr {W0 : World} {Fr : List HP} : Tr W0 Try.prog 53 [.agg (odc zop).toArray, .agg (odc zop).toArray] Fr (fun v Rs' => v = .bool true ∧ Rs' = Fr) := by
 refine Entry.tr (N := 59) (rs := [.tmp 4]) ⟨_, Try.func53, rfl, by kernel_rfl, rfl, rfl⟩ rfl ?_
 refine XC.seq fun K1 hK1 => ?_
 refine XC.region ?_
 refine x_a (r_bx rfl rfl) rfl fun b2 => ?_
 rw [odc_def zop]
 dsimp only [zop]
 refine x_a (r_bx rfl rfl) rfl fun b3 => ?_
 refine x_v (r_as rfl) rfl ?_
 refine XL.nil ?_
 refine hK1 _ _ ?_
 refine XC.keep [(2, _), (3, _)] ⟨rfl, rfl, trivial⟩ ?_
 refine XC.seq fun K2 hK2 => ?_
 refine XC.region ?_
 refine x_v (r_fa fo39_0 rfl) rfl ?_
 refine x_v (r_ld ty3 rfl pK (by rfl)) rfl ?_
 refine x_v (r_fa fo39_0 rfl) rfl ?_
 refine x_v (r_ld ty3 rfl pK (by rfl)) rfl ?_
 refine x_v (r_eq rfl rfl) rfl ?_
 refine x_v (r_mv rfl) rfl ?_
 refine XL.splitd 10 rfl (fun hg10 => ?_) (fun hg10 => ?_)
 ·refine x_want rfl rfl rfl ?_
  refine x_v (r_fa fo39_1 rfl) rfl ?_
  refine x_want rfl rfl rfl ?_
  refine x_v (r_ld ty3 rfl pK (by rfl)) rfl ?_
  refine x_want rfl rfl rfl ?_
  refine x_v (r_fa fo39_1 rfl) rfl ?_
  refine x_want rfl rfl rfl ?_
  refine x_v (r_ld ty3 rfl pK (by rfl)) rfl ?_
  refine x_want rfl rfl rfl ?_
  refine x_v (r_eq rfl rfl) rfl ?_
  refine x_v (r_pk_t rfl rfl) rfl ?_
  refine x_v (r_mv rfl) rfl ?_
  refine XL.splitd 17 rfl (fun hg17 => ?_) (fun hg17 => ?_)
  ·refine x_want rfl rfl rfl ?_
   refine x_v (r_fa fo39_2 rfl) rfl ?_
   refine x_want rfl rfl rfl ?_
   refine x_v (r_ld ty3 rfl pK (by rfl)) rfl ?_
   refine x_want rfl rfl rfl ?_
   refine x_v (r_fa fo39_2 rfl) rfl ?_
   refine x_want rfl rfl rfl ?_
   refine x_v (r_ld ty3 rfl pK (by rfl)) rfl ?_
   refine x_want rfl rfl rfl ?_
   refine x_v (r_eq rfl rfl) rfl ?_
   refine x_v (r_pk_t rfl rfl) rfl ?_
   refine x_v (r_mv rfl) rfl ?_
   refine XL.keep [(2, _), (3, _), (24, _)] ⟨rfl, rfl, rfl, trivial⟩ ?_
   refine XL.splitd 24 rfl (fun hg24 => ?_) (fun hg24 => ?_)
   ·refine XL.keep [(2, _), (3, _), (24, _)] ⟨rfl, rfl, rfl, trivial⟩ ?_
    refine x_want rfl rfl rfl ?_
    refine x_v (r_fa fo39_3 rfl) rfl ?_
    refine x_want rfl rfl rfl ?_
    refine x_v (r_ld ty3 rfl pK (by rfl)) rfl ?_
    refine x_want rfl rfl rfl ?_
    refine x_v (r_fa fo39_3 rfl) rfl ?_
    refine x_want rfl rfl rfl ?_
    refine x_v (r_ld ty3 rfl pK (by rfl)) rfl ?_
    refine x_want rfl rfl rfl ?_
    refine x_v (r_eq rfl rfl) rfl ?_
    refine x_v (r_pk_t rfl rfl) rfl ?_
    refine x_v (r_mv rfl) rfl ?_
    refine XL.splitd 31 rfl (fun hg31 => ?_) (fun hg31 => ?_)
    ·refine x_want rfl rfl rfl ?_
     refine x_v (r_fa fo39_4 rfl) rfl ?_
     refine x_want rfl rfl rfl ?_
     refine x_v (r_ld ty3 rfl pK (by rfl)) rfl ?_
     refine x_want rfl rfl rfl ?_
     refine x_v (r_fa fo39_4 rfl) rfl ?_
     refine x_want rfl rfl rfl ?_
     refine x_v (r_ld ty3 rfl pK (by rfl)) rfl ?_
     refine x_want rfl rfl rfl ?_
     refine x_v (r_eq rfl rfl) rfl ?_
     refine x_v (r_pk_t rfl rfl) rfl ?_
     refine x_v (r_mv rfl) rfl ?_
     refine XL.splitd 38 rfl (fun hg38 => ?_) (fun hg38 => ?_)
     ·refine x_want rfl rfl rfl ?_
      refine x_v (r_fa fo39_5 rfl) rfl ?_
      refine x_want rfl rfl rfl ?_
      refine x_v (r_ld ty3 rfl pK (by rfl)) rfl ?_
      refine x_want rfl rfl rfl ?_
      refine x_v (r_fa fo39_5 rfl) rfl ?_
      refine x_want rfl rfl rfl ?_
      refine x_v (r_ld ty3 rfl pK (by rfl)) rfl ?_
      refine x_want rfl rfl rfl ?_
      refine x_v (r_eq rfl rfl) rfl ?_
      refine x_v (r_pk_t rfl rfl) rfl ?_
      refine XL.keep [(2, _), (3, _), (44, _)] ⟨rfl, rfl, rfl, trivial⟩ ?_
      refine x_v (r_mv rfl) rfl ?_
      refine XL.splitd 45 rfl (fun hg45 => ?_) (fun hg45 => ?_)
      ·refine x_want rfl rfl rfl ?_
       refine x_v (r_fa fo39_6 rfl) rfl ?_
       refine x_want rfl rfl rfl ?_
       refine x_v (r_ld ty9 rfl pK (by rfl)) rfl ?_
       refine x_want rfl rfl rfl ?_
       refine x_v (r_fa fo39_6 rfl) rfl ?_
       refine x_want rfl rfl rfl ?_
       refine x_v (r_ld ty9 rfl pK (by rfl)) rfl ?_
       refine x_want rfl rfl rfl ?_
       refine x_v (r_seq rfl rfl) rfl ?_
       refine x_v (r_pk_t rfl rfl) rfl ?_
       refine x_v (r_mv rfl) rfl ?_
       refine XL.splitd 52 rfl (fun hg52 => ?_) (fun hg52 => ?_)
       ·refine x_want rfl rfl rfl ?_
        refine x_v (r_fa fo39_7 rfl) rfl ?_
        refine x_want rfl rfl rfl ?_
        refine x_v (r_lda (l' := [_, _]) ty37 rfl pK rfl (Sub.get sU)) rfl ?_
        refine x_want rfl rfl rfl ?_
        refine x_v (r_fa fo39_7 rfl) rfl ?_
        refine x_want rfl rfl rfl ?_
        refine x_v (r_lda (l' := [_, _]) ty37 rfl pK rfl (Sub.get sU)) rfl ?_
        refine x_want rfl rfl rfl ?_
        refine x_c (r_call0 (args := [_, _]) ⟨rfl, rfl, rfl⟩ (samez_tr) gS) rfl ?_
        rintro _ _ ⟨rfl, rfl⟩
        refine x_v (r_pk_t rfl rfl) rfl ?_
        refine x_v (r_as rfl) rfl ?_
        refine XL.nil ?_
        refine hK2 _ _ ?_
        refine XC.keep [(4, _)] ⟨rfl, trivial⟩ ?_
        refine XC.ret ?_
        exact fin1 rfl (⟨rfl, rfl⟩) gS
       ·exfalso; first | omega | exact hg52 rfl | exact hg52 ⟨rfl, rfl⟩ | simp at hg52
      ·exfalso; first | omega | exact hg45 rfl | exact hg45 ⟨rfl, rfl⟩ | simp at hg45
     ·exfalso; first | omega | exact hg38 rfl | exact hg38 ⟨rfl, rfl⟩ | simp at hg38
    ·exfalso; first | omega | exact hg31 rfl | exact hg31 ⟨rfl, rfl⟩ | simp at hg31
   ·exfalso; first | omega | exact hg24 rfl | exact hg24 ⟨rfl, rfl⟩ | simp at hg24
  ·exfalso; first | omega | exact hg17 rfl | exact hg17 ⟨rfl, rfl⟩ | simp at hg17
 ·exfalso; first | omega | exact hg10 rfl | exact hg10 ⟨rfl, rfl⟩ | simp at hg10
theorem same11_tr {W0 : World} {Fr : List HP} (k e s : Int) : Tr W0 Try.prog 28 [.agg (cmz k e s).toArray, .agg (cmz k e s).toArray] Fr (fun v Rs' => v = .bool true ∧ Rs' = Fr) := by
 refine Entry.tr (N := 59) (rs := [.tmp 4]) ⟨_, Try.func28, rfl, by kernel_rfl, rfl, rfl⟩ rfl ?_
 refine XC.seq fun K1 hK1 => ?_
 refine XC.region ?_
 refine x_a (r_bx rfl rfl) rfl fun b2 => ?_
 refine x_a (r_bx rfl rfl) rfl fun b3 => ?_
 unfold cmz
 refine x_v (r_as rfl) rfl ?_
 refine XL.nil ?_
 refine hK1 _ _ ?_
 refine XC.keep [(2, _), (3, _)] ⟨rfl, rfl, trivial⟩ ?_
 refine XC.seq fun K2 hK2 => ?_
 refine XC.region ?_
 refine x_v (r_fa fo41_0 rfl) rfl ?_
 refine x_v (r_ld ty3 rfl pK (by rfl)) rfl ?_
 refine x_v (r_fa fo41_0 rfl) rfl ?_
 refine x_v (r_ld ty3 rfl pK (by rfl)) rfl ?_
 refine x_v (r_eq rfl rfl) rfl ?_
 refine x_v (r_mv rfl) rfl ?_
 refine XL.splitd 10 rfl (fun hg10 => ?_) (fun hg10 => ?_)
 ·refine x_want rfl rfl rfl ?_
  refine x_v (r_fa fo41_1 rfl) rfl ?_
  refine x_want rfl rfl rfl ?_
  refine x_v (r_ld ty3 rfl pK (by rfl)) rfl ?_
  refine x_want rfl rfl rfl ?_
  refine x_v (r_fa fo41_1 rfl) rfl ?_
  refine x_want rfl rfl rfl ?_
  refine x_v (r_ld ty3 rfl pK (by rfl)) rfl ?_
  refine x_want rfl rfl rfl ?_
  refine x_v (r_eq rfl rfl) rfl ?_
  refine x_v (r_pk_t rfl rfl) rfl ?_
  refine x_v (r_mv rfl) rfl ?_
  refine XL.splitd 17 rfl (fun hg17 => ?_) (fun hg17 => ?_)
  ·refine x_want rfl rfl rfl ?_
   refine x_v (r_fa fo41_2 rfl) rfl ?_
   refine x_want rfl rfl rfl ?_
   refine x_v (r_ld ty3 rfl pK (by rfl)) rfl ?_
   refine x_want rfl rfl rfl ?_
   refine x_v (r_fa fo41_2 rfl) rfl ?_
   refine x_want rfl rfl rfl ?_
   refine x_v (r_ld ty3 rfl pK (by rfl)) rfl ?_
   refine x_want rfl rfl rfl ?_
   refine x_v (r_eq rfl rfl) rfl ?_
   refine x_v (r_pk_t rfl rfl) rfl ?_
   refine x_v (r_mv rfl) rfl ?_
   refine XL.keep [(2, _), (3, _), (24, _)] ⟨rfl, rfl, rfl, trivial⟩ ?_
   refine XL.splitd 24 rfl (fun hg24 => ?_) (fun hg24 => ?_)
   ·refine XL.keep [(2, _), (3, _), (24, _)] ⟨rfl, rfl, rfl, trivial⟩ ?_
    refine x_want rfl rfl rfl ?_
    refine x_v (r_fa fo41_4 rfl) rfl ?_
    refine x_want rfl rfl rfl ?_
    refine x_v (r_ld ty3 rfl pK (by rfl)) rfl ?_
    refine x_want rfl rfl rfl ?_
    refine x_v (r_fa fo41_4 rfl) rfl ?_
    refine x_want rfl rfl rfl ?_
    refine x_v (r_ld ty3 rfl pK (by rfl)) rfl ?_
    refine x_want rfl rfl rfl ?_
    refine x_v (r_eq rfl rfl) rfl ?_
    refine x_v (r_pk_t rfl rfl) rfl ?_
    refine x_v (r_mv rfl) rfl ?_
    refine XL.splitd 31 rfl (fun hg31 => ?_) (fun hg31 => ?_)
    ·refine x_want rfl rfl rfl ?_
     refine x_v (r_fa fo41_5 rfl) rfl ?_
     refine x_want rfl rfl rfl ?_
     refine x_v (r_ld ty3 rfl pK (by rfl)) rfl ?_
     refine x_want rfl rfl rfl ?_
     refine x_v (r_fa fo41_5 rfl) rfl ?_
     refine x_want rfl rfl rfl ?_
     refine x_v (r_ld ty3 rfl pK (by rfl)) rfl ?_
     refine x_want rfl rfl rfl ?_
     refine x_v (r_eq rfl rfl) rfl ?_
     refine x_v (r_pk_t rfl rfl) rfl ?_
     refine x_v (r_mv rfl) rfl ?_
     refine XL.splitd 38 rfl (fun hg38 => ?_) (fun hg38 => ?_)
     ·refine x_want rfl rfl rfl ?_
      refine x_v (r_fa fo41_7 rfl) rfl ?_
      refine x_want rfl rfl rfl ?_
      refine x_v (r_ld ty3 rfl pK (by rfl)) rfl ?_
      refine x_want rfl rfl rfl ?_
      refine x_v (r_fa fo41_7 rfl) rfl ?_
      refine x_want rfl rfl rfl ?_
      refine x_v (r_ld ty3 rfl pK (by rfl)) rfl ?_
      refine x_want rfl rfl rfl ?_
      refine x_v (r_eq rfl rfl) rfl ?_
      refine x_v (r_pk_t rfl rfl) rfl ?_
      refine XL.keep [(2, _), (3, _), (44, _)] ⟨rfl, rfl, rfl, trivial⟩ ?_
      refine x_v (r_mv rfl) rfl ?_
      refine XL.splitd 45 rfl (fun hg45 => ?_) (fun hg45 => ?_)
      ·refine x_want rfl rfl rfl ?_
       refine x_v (r_fa fo41_3 rfl) rfl ?_
       refine x_want rfl rfl rfl ?_
       refine x_v (r_lda (l' := [_, _, _, _, _, _, _, _, _]) ty39 rfl pK rfl (Sub.get sU)) rfl ?_
       refine x_want rfl rfl rfl ?_
       refine x_v (r_fa fo41_3 rfl) rfl ?_
       refine x_want rfl rfl rfl ?_
       refine x_v (r_lda (l' := [_, _, _, _, _, _, _, _, _]) ty39 rfl pK rfl (Sub.get sU)) rfl ?_
       refine x_want rfl rfl rfl ?_
       refine x_c (r_call0 (args := [_, _]) ⟨rfl, rfl, rfl⟩ (sameop_tr) gS) rfl ?_
       rintro _ _ ⟨rfl, rfl⟩
       refine x_v (r_pk_t rfl rfl) rfl ?_
       refine x_v (r_mv rfl) rfl ?_
       refine x_want rfl rfl rfl ?_
       refine x_v (r_fa fo41_6 rfl) rfl ?_
       refine x_want rfl rfl rfl ?_
       refine x_v (r_ld ty33 rfl pK (by rfl)) rfl ?_
       refine x_want rfl rfl rfl ?_
       refine x_v (r_fa fo41_6 rfl) rfl ?_
       refine x_want rfl rfl rfl ?_
       refine x_v (r_ld ty33 rfl pK (by rfl)) rfl ?_
       refine x_want rfl rfl rfl ?_
       refine x_c (r_call0 (args := [_, _]) ⟨rfl, rfl, rfl⟩ (sameo_tr) gS) rfl ?_
       rintro _ _ ⟨rfl, rfl⟩
       refine x_v (r_pk_t rfl rfl) rfl ?_
       refine x_v (r_as rfl) rfl ?_
       refine XL.nil ?_
       refine hK2 _ _ ?_
       refine XC.keep [(4, _)] ⟨rfl, trivial⟩ ?_
       refine XC.ret ?_
       exact fin1 rfl (⟨rfl, rfl⟩) gS
      ·exfalso; first | omega | exact hg45 rfl | exact hg45 ⟨rfl, rfl⟩ | simp at hg45
     ·exfalso; first | omega | exact hg38 rfl | exact hg38 ⟨rfl, rfl⟩ | simp at hg38
    ·exfalso; first | omega | exact hg31 rfl | exact hg31 ⟨rfl, rfl⟩ | simp at hg31
   ·exfalso; first | omega | exact hg24 rfl | exact hg24 ⟨rfl, rfl⟩ | simp at hg24
  ·exfalso; first | omega | exact hg17 rfl | exact hg17 ⟨rfl, rfl⟩ | simp at hg17
 ·exfalso; first | omega | exact hg10 rfl | exact hg10 ⟨rfl, rfl⟩ | simp at hg10
/-- A mail that has no more than these. -/
def maz (k e s : Int) : Mal := ⟨k, 0, 0, 0, 0, false, [], none, 0, [], [], none, 0, e, s, 0, 0, 0, 0, [], none, 0, [], none, 0⟩
theorem same15_tr {W0 : World} {Fr : List HP} (k e s : Int) : Tr W0 Try.prog 31 [.agg (mac (maz k e s)).toArray, .agg (mac (maz k e s)).toArray] Fr (fun v Rs' => v = .bool true ∧ Rs' = Fr) := by
 refine Entry.tr (N := 130) (rs := [.tmp 4]) ⟨_, Try.func31, rfl, by kernel_rfl, rfl, rfl⟩ rfl ?_
 refine XC.seq fun K1 hK1 => ?_
 refine XC.region ?_
 refine x_a (r_bx rfl rfl) rfl fun b2 => ?_
 refine x_a (r_bx rfl rfl) rfl fun b3 => ?_
 unfold mac maz
 dsimp only [List.length_nil]
 refine x_v (r_as rfl) rfl ?_
 refine XL.nil ?_
 refine hK1 _ _ ?_
 refine XC.keep [(2, _), (3, _)] ⟨rfl, rfl, trivial⟩ ?_
 refine XC.seq fun K2 hK2 => ?_
 refine XC.seq fun K3 hK3 => ?_
 refine XC.region ?_
 refine x_v (r_fa fo35_8 rfl) rfl ?_
 refine x_v (r_ld ty29 rfl pK (by rfl)) rfl ?_
 refine x_v (r_lensl Try.underlying29 rfl) rfl ?_
 refine x_v (r_fa fo35_8 rfl) rfl ?_
 refine x_v (r_ld ty29 rfl pK (by rfl)) rfl ?_
 refine x_v (r_lensl Try.underlying29 rfl) rfl ?_
 refine x_v (r_ne rfl rfl) rfl ?_
 refine x_v (r_mv rfl) rfl ?_
 refine XL.splitd 13 rfl (fun hg13 => ?_) (fun hg13 => ?_)
 ·exfalso; omega
 ·refine x_want rfl rfl rfl ?_
  refine x_v (r_fa fo35_13 rfl) rfl ?_
  refine x_want rfl rfl rfl ?_
  refine x_v (r_ld ty32 rfl pK (by rfl)) rfl ?_
  refine x_want rfl rfl rfl ?_
  refine x_v (r_fa fo35_13 rfl) rfl ?_
  refine x_want rfl rfl rfl ?_
  refine x_v (r_ld ty32 rfl pK (by rfl)) rfl ?_
  refine x_want rfl rfl rfl ?_
  refine x_c (r_call0 (args := [_, _]) ⟨rfl, rfl, rfl⟩ (sameh_tr) gS) rfl ?_
  rintro _ _ ⟨rfl, rfl⟩
  refine x_want rfl rfl rfl ?_
  refine x_v (r_not rfl) rfl ?_
  refine x_v (r_pk_f rfl rfl) rfl ?_
  refine x_v (r_mv rfl) rfl ?_
  refine x_want rfl rfl rfl ?_
  refine x_v (r_fa fo35_6 rfl) rfl ?_
  refine x_want rfl rfl rfl ?_
  refine x_v (r_ld ty28 rfl pK (by rfl)) rfl ?_
  refine x_want rfl rfl rfl ?_
  refine x_v (r_fa fo35_6 rfl) rfl ?_
  refine x_want rfl rfl rfl ?_
  refine x_v (r_ld ty28 rfl pK (by rfl)) rfl ?_
  refine x_want rfl rfl rfl ?_
  refine x_c (r_call0 (args := [_, _]) ⟨rfl, rfl, rfl⟩ (samee_tr) gS) rfl ?_
  rintro _ _ ⟨rfl, rfl⟩
  refine x_want rfl rfl rfl ?_
  refine x_v (r_not rfl) rfl ?_
  refine x_v (r_pk_f rfl rfl) rfl ?_
  refine x_v (r_mv rfl) rfl ?_
  refine x_want rfl rfl rfl ?_
  refine x_v (r_fa fo35_14 rfl) rfl ?_
  refine x_want rfl rfl rfl ?_
  refine x_v (r_ld ty33 rfl pK (by rfl)) rfl ?_
  refine x_want rfl rfl rfl ?_
  refine x_v (r_fa fo35_14 rfl) rfl ?_
  refine x_want rfl rfl rfl ?_
  refine x_v (r_ld ty33 rfl pK (by rfl)) rfl ?_
  refine x_want rfl rfl rfl ?_
  refine x_c (r_call0 (args := [_, _]) ⟨rfl, rfl, rfl⟩ (sameo_tr) gS) rfl ?_
  rintro _ _ ⟨rfl, rfl⟩
  refine x_want rfl rfl rfl ?_
  refine x_v (r_not rfl) rfl ?_
  refine x_v (r_pk_f rfl rfl) rfl ?_
  refine XL.nil ?_
  refine hK3 _ _ ?_
  refine XC.keep [(2, _), (3, _), (36, _)] ⟨rfl, rfl, rfl, trivial⟩ ?_
  refine XC.cond_f rfl ?_
  refine XC.skip ?_
  refine hK2 _ _ ?_
  refine XC.keep [(2, _), (3, _)] ⟨rfl, rfl, trivial⟩ ?_
  refine XC.seq fun K4 hK4 => ?_
  refine XC.seq fun K5 hK5 => ?_
  refine XC.region ?_
  refine x_v (r_as rfl) rfl ?_
  refine XL.nil ?_
  refine hK5 _ _ ?_
  refine XC.keep [(2, _), (3, _), (5, _)] ⟨rfl, rfl, rfl, trivial⟩ ?_
  refine XC.block ?_
  refine XC.loop (σ := Unit) (fun z => [(2, .pointer (some ⟨b2, 0, none⟩)), (3, .pointer (some ⟨b3, 0, none⟩)), (5, .int .i64 0)]) (fun z => blk b2 35 [.int .i64 k, .int .i64 0, .int .i64 0, .int .i64 0, .int .i64 0, .bool false, .slice none 0 0, str [], .slice none 0 0, .int .i64 e, .int .i64 s, .int .i64 0, .int .i64 0, .int .i64 0, .int .i64 0, .slice none 0 0, .slice none 0 0] :: blk b3 35 [.int .i64 k, .int .i64 0, .int .i64 0, .int .i64 0, .int .i64 0, .bool false, .slice none 0 0, str [], .slice none 0 0, .int .i64 e, .int .i64 s, .int .i64 0, .int .i64 0, .int .i64 0, .int .i64 0, .slice none 0 0, .slice none 0 0] :: Fr) (fun z => True) (fun z => 0) () ?_ ⟨rfl, rfl, rfl, trivial⟩ gS ?_
  ·trivial
  rintro _ _
  refine XC.seq fun K6 hK6 => ?_
  refine XC.seq fun K7 hK7 => ?_
  refine XC.region ?_
  refine x_v (r_mv rfl) rfl ?_
  refine x_v (r_fa fo35_8 rfl) rfl ?_
  refine x_v (r_ld ty29 rfl pK (by rfl)) rfl ?_
  refine x_v (r_lensl Try.underlying29 rfl) rfl ?_
  refine x_v (r_lt rfl rfl) rfl ?_
  refine XL.nil ?_
  refine hK7 _ _ ?_
  refine XC.keep [(2, _), (3, _), (5, _), (41, _)] ⟨rfl, rfl, rfl, rfl, trivial⟩ ?_
  refine XC.cond_d rfl (fun hc2 => ?_) (fun hc2 => ?_)
  ·exfalso; omega
  ·refine XC.exit rfl ?_
   refine hK4 _ _ ?_
   refine XC.keep [(2, _), (3, _)] ⟨rfl, rfl, trivial⟩ ?_
   refine XC.seq fun K8 hK8 => ?_
   refine XC.region ?_
   refine x_v (r_fa fo35_0 rfl) rfl ?_
   refine x_v (r_ld ty3 rfl pK (by rfl)) rfl ?_
   refine x_v (r_fa fo35_0 rfl) rfl ?_
   refine x_v (r_ld ty3 rfl pK (by rfl)) rfl ?_
   refine x_v (r_eq rfl rfl) rfl ?_
   refine x_v (r_mv rfl) rfl ?_
   refine XL.splitd 60 rfl (fun hg60 => ?_) (fun hg60 => ?_)
   ·refine x_want rfl rfl rfl ?_
    refine x_v (r_fa fo35_1 rfl) rfl ?_
    refine x_want rfl rfl rfl ?_
    refine x_v (r_ld ty3 rfl pK (by rfl)) rfl ?_
    refine x_want rfl rfl rfl ?_
    refine x_v (r_fa fo35_1 rfl) rfl ?_
    refine x_want rfl rfl rfl ?_
    refine x_v (r_ld ty3 rfl pK (by rfl)) rfl ?_
    refine x_want rfl rfl rfl ?_
    refine x_v (r_eq rfl rfl) rfl ?_
    refine x_v (r_pk_t rfl rfl) rfl ?_
    refine x_v (r_mv rfl) rfl ?_
    refine XL.splitd 67 rfl (fun hg67 => ?_) (fun hg67 => ?_)
    ·refine x_want rfl rfl rfl ?_
     refine x_v (r_fa fo35_2 rfl) rfl ?_
     refine x_want rfl rfl rfl ?_
     refine x_v (r_ld ty3 rfl pK (by rfl)) rfl ?_
     refine x_want rfl rfl rfl ?_
     refine x_v (r_fa fo35_2 rfl) rfl ?_
     refine x_want rfl rfl rfl ?_
     refine x_v (r_ld ty3 rfl pK (by rfl)) rfl ?_
     refine x_want rfl rfl rfl ?_
     refine x_v (r_eq rfl rfl) rfl ?_
     refine x_v (r_pk_t rfl rfl) rfl ?_
     refine x_v (r_mv rfl) rfl ?_
     refine XL.keep [(2, _), (3, _), (74, _)] ⟨rfl, rfl, rfl, trivial⟩ ?_
     refine XL.splitd 74 rfl (fun hg74 => ?_) (fun hg74 => ?_)
     ·refine XL.keep [(2, _), (3, _), (74, _)] ⟨rfl, rfl, rfl, trivial⟩ ?_
      refine x_want rfl rfl rfl ?_
      refine x_v (r_fa fo35_3 rfl) rfl ?_
      refine x_want rfl rfl rfl ?_
      refine x_v (r_ld ty3 rfl pK (by rfl)) rfl ?_
      refine x_want rfl rfl rfl ?_
      refine x_v (r_fa fo35_3 rfl) rfl ?_
      refine x_want rfl rfl rfl ?_
      refine x_v (r_ld ty3 rfl pK (by rfl)) rfl ?_
      refine x_want rfl rfl rfl ?_
      refine x_v (r_eq rfl rfl) rfl ?_
      refine x_v (r_pk_t rfl rfl) rfl ?_
      refine x_v (r_mv rfl) rfl ?_
      refine XL.splitd 81 rfl (fun hg81 => ?_) (fun hg81 => ?_)
      ·refine x_want rfl rfl rfl ?_
       refine x_v (r_fa fo35_4 rfl) rfl ?_
       refine x_want rfl rfl rfl ?_
       refine x_v (r_ld ty3 rfl pK (by rfl)) rfl ?_
       refine x_want rfl rfl rfl ?_
       refine x_v (r_fa fo35_4 rfl) rfl ?_
       refine x_want rfl rfl rfl ?_
       refine x_v (r_ld ty3 rfl pK (by rfl)) rfl ?_
       refine x_want rfl rfl rfl ?_
       refine x_v (r_eq rfl rfl) rfl ?_
       refine x_v (r_pk_t rfl rfl) rfl ?_
       refine x_v (r_mv rfl) rfl ?_
       refine XL.splitd 88 rfl (fun hg88 => ?_) (fun hg88 => ?_)
       ·refine x_want rfl rfl rfl ?_
        refine x_v (r_fa fo35_5 rfl) rfl ?_
        refine x_want rfl rfl rfl ?_
        refine x_v (r_ld ty4 rfl pK (by rfl)) rfl ?_
        refine x_want rfl rfl rfl ?_
        refine x_v (r_fa fo35_5 rfl) rfl ?_
        refine x_want rfl rfl rfl ?_
        refine x_v (r_ld ty4 rfl pK (by rfl)) rfl ?_
        refine x_want rfl rfl rfl ?_
        refine x_v (r_beq Try.underlying4 rfl rfl) rfl ?_
        refine x_v (r_pk_t rfl rfl) rfl ?_
        refine XL.keep [(2, _), (3, _), (94, _)] ⟨rfl, rfl, rfl, trivial⟩ ?_
        refine x_v (r_mv rfl) rfl ?_
        refine XL.split 95 rfl (fun hg95 => ?_) (fun hg95 => ?_)
        ·refine x_want rfl rfl rfl ?_
         refine x_v (r_fa fo35_7 rfl) rfl ?_
         refine x_want rfl rfl rfl ?_
         refine x_v (r_ld ty9 rfl pK (by rfl)) rfl ?_
         refine x_want rfl rfl rfl ?_
         refine x_v (r_fa fo35_7 rfl) rfl ?_
         refine x_want rfl rfl rfl ?_
         refine x_v (r_ld ty9 rfl pK (by rfl)) rfl ?_
         refine x_want rfl rfl rfl ?_
         refine x_v (r_seq rfl rfl) rfl ?_
         refine x_v (r_pk_t rfl rfl) rfl ?_
         refine x_v (r_mv rfl) rfl ?_
         refine XL.splitd 102 rfl (fun hg102 => ?_) (fun hg102 => ?_)
         ·refine x_want rfl rfl rfl ?_
          refine x_v (r_fa fo35_9 rfl) rfl ?_
          refine x_want rfl rfl rfl ?_
          refine x_v (r_ld ty3 rfl pK (by rfl)) rfl ?_
          refine x_want rfl rfl rfl ?_
          refine x_v (r_fa fo35_9 rfl) rfl ?_
          refine x_want rfl rfl rfl ?_
          refine x_v (r_ld ty3 rfl pK (by rfl)) rfl ?_
          refine x_want rfl rfl rfl ?_
          refine x_v (r_eq rfl rfl) rfl ?_
          refine x_v (r_pk_t rfl rfl) rfl ?_
          refine x_v (r_mv rfl) rfl ?_
          refine XL.splitd 109 rfl (fun hg109 => ?_) (fun hg109 => ?_)
          ·refine x_want rfl rfl rfl ?_
           refine x_v (r_fa fo35_10 rfl) rfl ?_
           refine x_want rfl rfl rfl ?_
           refine x_v (r_ld ty3 rfl pK (by rfl)) rfl ?_
           refine x_want rfl rfl rfl ?_
           refine x_v (r_fa fo35_10 rfl) rfl ?_
           refine x_want rfl rfl rfl ?_
           refine x_v (r_ld ty3 rfl pK (by rfl)) rfl ?_
           refine x_want rfl rfl rfl ?_
           refine x_v (r_eq rfl rfl) rfl ?_
           refine XL.keep [(2, _), (3, _), (109, _), (114, _)] ⟨rfl, rfl, rfl, rfl, trivial⟩ ?_
           refine x_v (r_pk_t rfl rfl) rfl ?_
           refine x_v (r_mv rfl) rfl ?_
           refine XL.splitd 116 rfl (fun hg116 => ?_) (fun hg116 => ?_)
           ·refine x_want rfl rfl rfl ?_
            refine x_v (r_fa fo35_11 rfl) rfl ?_
            refine x_want rfl rfl rfl ?_
            refine x_v (r_lda (l' := [_, _]) ty31 rfl pK rfl (Sub.get sU)) rfl ?_
            refine x_want rfl rfl rfl ?_
            refine x_v (r_fa fo35_11 rfl) rfl ?_
            refine x_want rfl rfl rfl ?_
            refine x_v (r_lda (l' := [_, _]) ty31 rfl pK rfl (Sub.get sU)) rfl ?_
            refine x_want rfl rfl rfl ?_
            refine x_v (r_steq (by kernel_rfl) (fun w => eq31 _ _ _ _ w) rfl rfl) rfl ?_
            refine x_v (r_pk_t rfl rfl) rfl ?_
            refine x_v (r_mv rfl) rfl ?_
            refine XL.splitd 123 rfl (fun hg123 => ?_) (fun hg123 => ?_)
            ·refine x_want rfl rfl rfl ?_
             refine x_v (r_fa fo35_12 rfl) rfl ?_
             refine x_want rfl rfl rfl ?_
             refine x_v (r_lda (l' := [_, _]) ty31 rfl pK rfl (Sub.get sU)) rfl ?_
             refine x_want rfl rfl rfl ?_
             refine x_v (r_fa fo35_12 rfl) rfl ?_
             refine x_want rfl rfl rfl ?_
             refine x_v (r_lda (l' := [_, _]) ty31 rfl pK rfl (Sub.get sU)) rfl ?_
             refine x_want rfl rfl rfl ?_
             refine x_v (r_steq (by kernel_rfl) (fun w => eq31 _ _ _ _ w) rfl rfl) rfl ?_
             refine x_v (r_pk_t rfl rfl) rfl ?_
             refine x_v (r_as rfl) rfl ?_
             refine XL.nil ?_
             refine hK8 _ _ ?_
             refine XC.keep [(4, _)] ⟨rfl, trivial⟩ ?_
             refine XC.ret ?_
             exact fin1 rfl (⟨congrArg Value.bool (decide_eq_true ⟨rfl, rfl⟩), rfl⟩) gS
            ·exfalso; first | omega | exact hg123 rfl | exact hg123 ⟨rfl, rfl⟩ | simp at hg123
           ·exfalso; first | omega | exact hg116 rfl | exact hg116 ⟨rfl, rfl⟩ | simp at hg116
          ·exfalso; first | omega | exact hg109 rfl | exact hg109 ⟨rfl, rfl⟩ | simp at hg109
         ·exfalso; first | omega | exact hg102 rfl | exact hg102 ⟨rfl, rfl⟩ | simp at hg102
        ·exfalso; first | omega | exact hg95 rfl | exact hg95 ⟨rfl, rfl⟩ | simp at hg95
       ·exfalso; first | omega | exact hg88 rfl | exact hg88 ⟨rfl, rfl⟩ | simp at hg88
      ·exfalso; first | omega | exact hg81 rfl | exact hg81 ⟨rfl, rfl⟩ | simp at hg81
     ·exfalso; first | omega | exact hg74 rfl | exact hg74 ⟨rfl, rfl⟩ | simp at hg74
    ·exfalso; first | omega | exact hg67 rfl | exact hg67 ⟨rfl, rfl⟩ | simp at hg67
   ·exfalso; first | omega | exact hg60 rfl | exact hg60 ⟨rfl, rfl⟩ | simp at hg60

end Go.Proofs.Ytheilpcbilnadaa

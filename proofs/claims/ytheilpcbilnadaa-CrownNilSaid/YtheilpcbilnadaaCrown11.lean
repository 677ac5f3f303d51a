/- Crowns: a crown that is none; commands and mails that are the same. -/
import Derived.Test.YtheilpcbilnadaaCrown9
namespace Go.Proofs.Ytheilpcbilnadaa
open Go.Sx
set_option linter.unusedVariables false

theorem sameh_tr {W0 : World} {Fr : List HP} : Tr W0 Try.prog 57 [.slice none 0 0, .slice none 0 0] Fr (fun v Rs' => v = .bool true ∧ Rs' = Fr) := by
  refine Entry.tr (N := 26) (rs := [.tmp 4]) ⟨_, Try.func57, rfl, by kernel_rfl, rfl, rfl⟩ rfl ?_
  refine XC.seq fun K1 hK1 => ?_
  refine XC.region ?_
  refine x_v (r_as rfl) rfl ?_
  refine XL.nil ?_
  refine hK1 _ _ ?_
  refine XC.keep [(0, _), (1, _)] ⟨rfl, rfl, trivial⟩ ?_
  refine XC.seq fun K2 hK2 => ?_
  refine XC.seq fun K3 hK3 => ?_
  refine XC.region ?_
  refine x_v (r_mv rfl) rfl ?_
  refine x_v (r_lensl Try.underlying32 rfl) rfl ?_
  refine x_v (r_mv rfl) rfl ?_
  refine x_v (r_lensl Try.underlying32 rfl) rfl ?_
  refine x_v (r_ne rfl rfl) rfl ?_
  refine XL.nil ?_
  refine hK3 _ _ ?_
  refine XC.keep [(0, _), (1, _), (10, _)] ⟨rfl, rfl, rfl, trivial⟩ ?_
  refine XC.cond_d rfl (fun hc1 => ?_) (fun hc1 => ?_)
  · exfalso; omega
  · refine XC.skip ?_
    refine hK2 _ _ ?_
    refine XC.keep [(0, _), (1, _)] ⟨rfl, rfl, trivial⟩ ?_
    refine XC.seq fun K4 hK4 => ?_
    refine XC.seq fun K5 hK5 => ?_
    refine XC.region ?_
    refine x_v (r_as rfl) rfl ?_
    refine XL.nil ?_
    refine hK5 _ _ ?_
    refine XC.keep [(0, _), (1, _), (5, _)] ⟨rfl, rfl, rfl, trivial⟩ ?_
    refine XC.block ?_
    refine XC.loop (σ := Unit) (fun s => [(0, .slice none 0 0), (1, .slice none 0 0), (5, .int .i64 0)]) (fun s => Fr) (fun s => True) (fun s => 0) () ?_ ⟨rfl, rfl, rfl, trivial⟩ (by repeat (first | exact Gets.done _ | exact Gets.all _ | (apply Gets.step; focus ((repeat (first | exact Pick.head _ _ | apply Pick.tail)); done)) | apply Gets.drop)) ?_
    · trivial
    rintro _ _
    refine XC.seq fun K6 hK6 => ?_
    refine XC.seq fun K7 hK7 => ?_
    refine XC.region ?_
    refine x_v (r_mv rfl) rfl ?_
    refine x_v (r_mv rfl) rfl ?_
    refine x_v (r_lensl Try.underlying32 rfl) rfl ?_
    refine x_v (r_lt rfl rfl) rfl ?_
    refine XL.nil ?_
    refine hK7 _ _ ?_
    refine XC.keep [(0, _), (1, _), (5, _), (14, _)] ⟨rfl, rfl, rfl, rfl, trivial⟩ ?_
    refine XC.cond_d rfl (fun hc2 => ?_) (fun hc2 => ?_)
    · exfalso; omega
    · refine XC.exit rfl ?_
      refine hK4 _ _ ?_
      refine XC.keep [] trivial ?_
      refine XC.seq fun K8 hK8 => ?_
      refine XC.region ?_
      refine x_v (r_as rfl) rfl ?_
      refine XL.nil ?_
      refine hK8 _ _ ?_
      refine XC.keep [(4, _)] ⟨rfl, trivial⟩ ?_
      refine XC.ret ?_
      exact fin1 rfl (⟨rfl, rfl⟩) (by repeat (first | exact Gets.done _ | exact Gets.all _ | (apply Gets.step; focus ((repeat (first | exact Pick.head _ _ | apply Pick.tail)); done)) | apply Gets.drop))
theorem samee_tr {W0 : World} {Fr : List HP} : Tr W0 Try.prog 58 [.slice none 0 0, .slice none 0 0] Fr (fun v Rs' => v = .bool true ∧ Rs' = Fr) := by
  refine Entry.tr (N := 26) (rs := [.tmp 4]) ⟨_, Try.func58, rfl, by kernel_rfl, rfl, rfl⟩ rfl ?_
  refine XC.seq fun K1 hK1 => ?_
  refine XC.region ?_
  refine x_v (r_as rfl) rfl ?_
  refine XL.nil ?_
  refine hK1 _ _ ?_
  refine XC.keep [(0, _), (1, _)] ⟨rfl, rfl, trivial⟩ ?_
  refine XC.seq fun K2 hK2 => ?_
  refine XC.seq fun K3 hK3 => ?_
  refine XC.region ?_
  refine x_v (r_mv rfl) rfl ?_
  refine x_v (r_lensl Try.underlying28 rfl) rfl ?_
  refine x_v (r_mv rfl) rfl ?_
  refine x_v (r_lensl Try.underlying28 rfl) rfl ?_
  refine x_v (r_ne rfl rfl) rfl ?_
  refine XL.nil ?_
  refine hK3 _ _ ?_
  refine XC.keep [(0, _), (1, _), (10, _)] ⟨rfl, rfl, rfl, trivial⟩ ?_
  refine XC.cond_d rfl (fun hc1 => ?_) (fun hc1 => ?_)
  · exfalso; omega
  · refine XC.skip ?_
    refine hK2 _ _ ?_
    refine XC.keep [(0, _), (1, _)] ⟨rfl, rfl, trivial⟩ ?_
    refine XC.seq fun K4 hK4 => ?_
    refine XC.seq fun K5 hK5 => ?_
    refine XC.region ?_
    refine x_v (r_as rfl) rfl ?_
    refine XL.nil ?_
    refine hK5 _ _ ?_
    refine XC.keep [(0, _), (1, _), (5, _)] ⟨rfl, rfl, rfl, trivial⟩ ?_
    refine XC.block ?_
    refine XC.loop (σ := Unit) (fun s => [(0, .slice none 0 0), (1, .slice none 0 0), (5, .int .i64 0)]) (fun s => Fr) (fun s => True) (fun s => 0) () ?_ ⟨rfl, rfl, rfl, trivial⟩ (by repeat (first | exact Gets.done _ | exact Gets.all _ | (apply Gets.step; focus ((repeat (first | exact Pick.head _ _ | apply Pick.tail)); done)) | apply Gets.drop)) ?_
    · trivial
    rintro _ _
    refine XC.seq fun K6 hK6 => ?_
    refine XC.seq fun K7 hK7 => ?_
    refine XC.region ?_
    refine x_v (r_mv rfl) rfl ?_
    refine x_v (r_mv rfl) rfl ?_
    refine x_v (r_lensl Try.underlying28 rfl) rfl ?_
    refine x_v (r_lt rfl rfl) rfl ?_
    refine XL.nil ?_
    refine hK7 _ _ ?_
    refine XC.keep [(0, _), (1, _), (5, _), (14, _)] ⟨rfl, rfl, rfl, rfl, trivial⟩ ?_
    refine XC.cond_d rfl (fun hc2 => ?_) (fun hc2 => ?_)
    · exfalso; omega
    · refine XC.exit rfl ?_
      refine hK4 _ _ ?_
      refine XC.keep [] trivial ?_
      refine XC.seq fun K8 hK8 => ?_
      refine XC.region ?_
      refine x_v (r_as rfl) rfl ?_
      refine XL.nil ?_
      refine hK8 _ _ ?_
      refine XC.keep [(4, _)] ⟨rfl, trivial⟩ ?_
      refine XC.ret ?_
      exact fin1 rfl (⟨rfl, rfl⟩) (by repeat (first | exact Gets.done _ | exact Gets.all _ | (apply Gets.step; focus ((repeat (first | exact Pick.head _ _ | apply Pick.tail)); done)) | apply Gets.drop))
theorem sameo_tr {W0 : World} {Fr : List HP} : Tr W0 Try.prog 54 [.slice none 0 0, .slice none 0 0] Fr (fun v Rs' => v = .bool true ∧ Rs' = Fr) := by
  refine Entry.tr (N := 27) (rs := [.tmp 4]) ⟨_, Try.func54, rfl, by kernel_rfl, rfl, rfl⟩ rfl ?_
  refine XC.seq fun K1 hK1 => ?_
  refine XC.region ?_
  refine x_v (r_as rfl) rfl ?_
  refine XL.nil ?_
  refine hK1 _ _ ?_
  refine XC.keep [(0, _), (1, _)] ⟨rfl, rfl, trivial⟩ ?_
  refine XC.seq fun K2 hK2 => ?_
  refine XC.seq fun K3 hK3 => ?_
  refine XC.region ?_
  refine x_v (r_mv rfl) rfl ?_
  refine x_v (r_lensl Try.underlying33 rfl) rfl ?_
  refine x_v (r_mv rfl) rfl ?_
  refine x_v (r_lensl Try.underlying33 rfl) rfl ?_
  refine x_v (r_ne rfl rfl) rfl ?_
  refine XL.nil ?_
  refine hK3 _ _ ?_
  refine XC.keep [(0, _), (1, _), (10, _)] ⟨rfl, rfl, rfl, trivial⟩ ?_
  refine XC.cond_d rfl (fun hc1 => ?_) (fun hc1 => ?_)
  · exfalso; omega
  · refine XC.skip ?_
    refine hK2 _ _ ?_
    refine XC.keep [(0, _), (1, _)] ⟨rfl, rfl, trivial⟩ ?_
    refine XC.seq fun K4 hK4 => ?_
    refine XC.seq fun K5 hK5 => ?_
    refine XC.region ?_
    refine x_v (r_as rfl) rfl ?_
    refine XL.nil ?_
    refine hK5 _ _ ?_
    refine XC.keep [(0, _), (1, _), (5, _)] ⟨rfl, rfl, rfl, trivial⟩ ?_
    refine XC.block ?_
    refine XC.loop (σ := Unit) (fun s => [(0, .slice none 0 0), (1, .slice none 0 0), (5, .int .i64 0)]) (fun s => Fr) (fun s => True) (fun s => 0) () ?_ ⟨rfl, rfl, rfl, trivial⟩ (by repeat (first | exact Gets.done _ | exact Gets.all _ | (apply Gets.step; focus ((repeat (first | exact Pick.head _ _ | apply Pick.tail)); done)) | apply Gets.drop)) ?_
    · trivial
    rintro _ _
    refine XC.seq fun K6 hK6 => ?_
    refine XC.seq fun K7 hK7 => ?_
    refine XC.region ?_
    refine x_v (r_mv rfl) rfl ?_
    refine x_v (r_mv rfl) rfl ?_
    refine x_v (r_lensl Try.underlying33 rfl) rfl ?_
    refine x_v (r_lt rfl rfl) rfl ?_
    refine XL.nil ?_
    refine hK7 _ _ ?_
    refine XC.keep [(0, _), (1, _), (5, _), (14, _)] ⟨rfl, rfl, rfl, rfl, trivial⟩ ?_
    refine XC.cond_d rfl (fun hc2 => ?_) (fun hc2 => ?_)
    · exfalso; omega
    · refine XC.exit rfl ?_
      refine hK4 _ _ ?_
      refine XC.keep [] trivial ?_
      refine XC.seq fun K8 hK8 => ?_
      refine XC.region ?_
      refine x_v (r_as rfl) rfl ?_
      refine XL.nil ?_
      refine hK8 _ _ ?_
      refine XC.keep [(4, _)] ⟨rfl, trivial⟩ ?_
      refine XC.ret ?_
      exact fin1 rfl (⟨rfl, rfl⟩) (by repeat (first | exact Gets.done _ | exact Gets.all _ | (apply Gets.step; focus ((repeat (first | exact Pick.head _ _ | apply Pick.tail)); done)) | apply Gets.drop))
theorem sames_tr {W0 : World} {Fr : List HP} : Tr W0 Try.prog 91 [.slice none 0 0, .slice none 0 0] Fr (fun v Rs' => v = .bool true ∧ Rs' = Fr) := by
  refine Entry.tr (N := 26) (rs := [.tmp 4]) ⟨_, Try.func91, rfl, by kernel_rfl, rfl, rfl⟩ rfl ?_
  refine XC.seq fun K1 hK1 => ?_
  refine XC.region ?_
  refine x_v (r_as rfl) rfl ?_
  refine XL.nil ?_
  refine hK1 _ _ ?_
  refine XC.keep [(0, _), (1, _)] ⟨rfl, rfl, trivial⟩ ?_
  refine XC.seq fun K2 hK2 => ?_
  refine XC.seq fun K3 hK3 => ?_
  refine XC.region ?_
  refine x_v (r_mv rfl) rfl ?_
  refine x_v (r_lensl Try.underlying29 rfl) rfl ?_
  refine x_v (r_mv rfl) rfl ?_
  refine x_v (r_lensl Try.underlying29 rfl) rfl ?_
  refine x_v (r_ne rfl rfl) rfl ?_
  refine XL.nil ?_
  refine hK3 _ _ ?_
  refine XC.keep [(0, _), (1, _), (10, _)] ⟨rfl, rfl, rfl, trivial⟩ ?_
  refine XC.cond_d rfl (fun hc1 => ?_) (fun hc1 => ?_)
  · exfalso; omega
  · refine XC.skip ?_
    refine hK2 _ _ ?_
    refine XC.keep [(0, _), (1, _)] ⟨rfl, rfl, trivial⟩ ?_
    refine XC.seq fun K4 hK4 => ?_
    refine XC.seq fun K5 hK5 => ?_
    refine XC.region ?_
    refine x_v (r_as rfl) rfl ?_
    refine XL.nil ?_
    refine hK5 _ _ ?_
    refine XC.keep [(0, _), (1, _), (5, _)] ⟨rfl, rfl, rfl, trivial⟩ ?_
    refine XC.block ?_
    refine XC.loop (σ := Unit) (fun s => [(0, .slice none 0 0), (1, .slice none 0 0), (5, .int .i64 0)]) (fun s => Fr) (fun s => True) (fun s => 0) () ?_ ⟨rfl, rfl, rfl, trivial⟩ (by repeat (first | exact Gets.done _ | exact Gets.all _ | (apply Gets.step; focus ((repeat (first | exact Pick.head _ _ | apply Pick.tail)); done)) | apply Gets.drop)) ?_
    · trivial
    rintro _ _
    refine XC.seq fun K6 hK6 => ?_
    refine XC.seq fun K7 hK7 => ?_
    refine XC.region ?_
    refine x_v (r_mv rfl) rfl ?_
    refine x_v (r_mv rfl) rfl ?_
    refine x_v (r_lensl Try.underlying29 rfl) rfl ?_
    refine x_v (r_lt rfl rfl) rfl ?_
    refine XL.nil ?_
    refine hK7 _ _ ?_
    refine XC.keep [(0, _), (1, _), (5, _), (14, _)] ⟨rfl, rfl, rfl, rfl, trivial⟩ ?_
    refine XC.cond_d rfl (fun hc2 => ?_) (fun hc2 => ?_)
    · exfalso; omega
    · refine XC.exit rfl ?_
      refine hK4 _ _ ?_
      refine XC.keep [] trivial ?_
      refine XC.seq fun K8 hK8 => ?_
      refine XC.region ?_
      refine x_v (r_as rfl) rfl ?_
      refine XL.nil ?_
      refine hK8 _ _ ?_
      refine XC.keep [(4, _)] ⟨rfl, trivial⟩ ?_
      refine XC.ret ?_
      exact fin1 rfl (⟨rfl, rfl⟩) (by repeat (first | exact Gets.done _ | exact Gets.all _ | (apply Gets.step; focus ((repeat (first | exact Pick.head _ _ | apply Pick.tail)); done)) | apply Gets.drop))

theorem samez_tr {W0 : World} {Fr : List HP} : Tr W0 Try.prog 81 [.agg #[.int .i64 0, .slice none 0 0], .agg #[.int .i64 0, .slice none 0 0]] Fr (fun v Rs' => v = .bool true ∧ Rs' = Fr) := by
  refine Entry.tr (N := 17) (rs := [.tmp 4]) ⟨_, Try.func81, rfl, by kernel_rfl, rfl, rfl⟩ rfl ?_
  refine XC.seq fun K1 hK1 => ?_
  refine XC.region ?_
  refine x_a (r_bx rfl rfl) rfl fun b2 => ?_
  refine x_a (r_bx rfl rfl) rfl fun b3 => ?_
  refine x_v (r_as rfl) rfl ?_
  refine XL.nil ?_
  refine hK1 _ _ ?_
  refine XC.keep [(2, _), (3, _)] ⟨rfl, rfl, trivial⟩ ?_
  refine XC.seq fun K2 hK2 => ?_
  refine XC.region ?_
  refine x_v (r_fa fo37_0 rfl) rfl ?_
  refine x_v (r_ld ty3 rfl (by repeat (first | exact Pick.head _ _ | apply Pick.tail)) (by rfl)) rfl ?_
  refine x_v (r_fa fo37_0 rfl) rfl ?_
  refine x_v (r_ld ty3 rfl (by repeat (first | exact Pick.head _ _ | apply Pick.tail)) (by rfl)) rfl ?_
  refine x_v (r_eq rfl rfl) rfl ?_
  refine x_v (r_mv rfl) rfl ?_
  refine XL.splitd 10 rfl (fun hg10 => ?_) (fun hg10 => ?_)
  · refine x_want rfl rfl rfl ?_
    refine x_v (r_fa fo37_1 rfl) rfl ?_
    refine x_want rfl rfl rfl ?_
    refine x_v (r_ld ty29 rfl (by repeat (first | exact Pick.head _ _ | apply Pick.tail)) (by rfl)) rfl ?_
    refine x_want rfl rfl rfl ?_
    refine x_v (r_fa fo37_1 rfl) rfl ?_
    refine x_want rfl rfl rfl ?_
    refine x_v (r_ld ty29 rfl (by repeat (first | exact Pick.head _ _ | apply Pick.tail)) (by rfl)) rfl ?_
    refine x_want rfl rfl rfl ?_
    refine x_c (r_call0 (args := [_, _]) ⟨rfl, rfl, rfl⟩ (sames_tr) (by repeat (first | exact Gets.done _ | exact Gets.all _ | (apply Gets.step; focus ((repeat (first | exact Pick.head _ _ | apply Pick.tail)); done)) | apply Gets.drop))) rfl ?_
    rintro _ _ ⟨rfl, rfl⟩
    refine x_v (r_pk_t rfl rfl) rfl ?_
    refine x_v (r_as rfl) rfl ?_
    refine XL.nil ?_
    refine hK2 _ _ ?_
    refine XC.keep [(4, _)] ⟨rfl, trivial⟩ ?_
    refine XC.ret ?_
    exact fin1 rfl (⟨rfl, rfl⟩) (by repeat (first | exact Gets.done _ | exact Gets.all _ | (apply Gets.step; focus ((repeat (first | exact Pick.head _ _ | apply Pick.tail)); done)) | apply Gets.drop))
  · exfalso; first | omega | exact hg10 rfl | exact hg10 ⟨rfl, rfl⟩ | simp at hg10
theorem sameop_tr {W0 : World} {Fr : List HP} : Tr W0 Try.prog 53 [.agg (odc zop).toArray, .agg (odc zop).toArray] Fr (fun v Rs' => v = .bool true ∧ Rs' = Fr) := by
  refine Entry.tr (N := 59) (rs := [.tmp 4]) ⟨_, Try.func53, rfl, by kernel_rfl, rfl, rfl⟩ rfl ?_
  refine XC.seq fun K1 hK1 => ?_
  refine XC.region ?_
  refine x_a (r_bx rfl rfl) rfl fun b2 => ?_
  rw [odc_def zop]
  dsimp only [zop]
  refine x_a (r_bx rfl rfl) rfl fun b3 => ?_
  refine x_v (r_as rfl) rfl ?_
  refine XL.nil ?_
  refine hK1 _ _ ?_
  refine XC.keep [(2, _), (3, _)] ⟨rfl, rfl, trivial⟩ ?_
  refine XC.seq fun K2 hK2 => ?_
  refine XC.region ?_
  refine x_v (r_fa fo39_0 rfl) rfl ?_
  refine x_v (r_ld ty3 rfl (by repeat (first | exact Pick.head _ _ | apply Pick.tail)) (by rfl)) rfl ?_
  refine x_v (r_fa fo39_0 rfl) rfl ?_
  refine x_v (r_ld ty3 rfl (by repeat (first | exact Pick.head _ _ | apply Pick.tail)) (by rfl)) rfl ?_
  refine x_v (r_eq rfl rfl) rfl ?_
  refine x_v (r_mv rfl) rfl ?_
  refine XL.splitd 10 rfl (fun hg10 => ?_) (fun hg10 => ?_)
  · refine x_want rfl rfl rfl ?_
    refine x_v (r_fa fo39_1 rfl) rfl ?_
    refine x_want rfl rfl rfl ?_
    refine x_v (r_ld ty3 rfl (by repeat (first | exact Pick.head _ _ | apply Pick.tail)) (by rfl)) rfl ?_
    refine x_want rfl rfl rfl ?_
    refine x_v (r_fa fo39_1 rfl) rfl ?_
    refine x_want rfl rfl rfl ?_
    refine x_v (r_ld ty3 rfl (by repeat (first | exact Pick.head _ _ | apply Pick.tail)) (by rfl)) rfl ?_
    refine x_want rfl rfl rfl ?_
    refine x_v (r_eq rfl rfl) rfl ?_
    refine x_v (r_pk_t rfl rfl) rfl ?_
    refine x_v (r_mv rfl) rfl ?_
    refine XL.splitd 17 rfl (fun hg17 => ?_) (fun hg17 => ?_)
    · refine x_want rfl rfl rfl ?_
      refine x_v (r_fa fo39_2 rfl) rfl ?_
      refine x_want rfl rfl rfl ?_
      refine x_v (r_ld ty3 rfl (by repeat (first | exact Pick.head _ _ | apply Pick.tail)) (by rfl)) rfl ?_
      refine x_want rfl rfl rfl ?_
      refine x_v (r_fa fo39_2 rfl) rfl ?_
      refine x_want rfl rfl rfl ?_
      refine x_v (r_ld ty3 rfl (by repeat (first | exact Pick.head _ _ | apply Pick.tail)) (by rfl)) rfl ?_
      refine x_want rfl rfl rfl ?_
      refine x_v (r_eq rfl rfl) rfl ?_
      refine x_v (r_pk_t rfl rfl) rfl ?_
      refine x_v (r_mv rfl) rfl ?_
      refine XL.splitd 24 rfl (fun hg24 => ?_) (fun hg24 => ?_)
      · refine x_want rfl rfl rfl ?_
        refine x_v (r_fa fo39_3 rfl) rfl ?_
        refine x_want rfl rfl rfl ?_
        refine x_v (r_ld ty3 rfl (by repeat (first | exact Pick.head _ _ | apply Pick.tail)) (by rfl)) rfl ?_
        refine x_want rfl rfl rfl ?_
        refine x_v (r_fa fo39_3 rfl) rfl ?_
        refine x_want rfl rfl rfl ?_
        refine x_v (r_ld ty3 rfl (by repeat (first | exact Pick.head _ _ | apply Pick.tail)) (by rfl)) rfl ?_
        refine x_want rfl rfl rfl ?_
        refine x_v (r_eq rfl rfl) rfl ?_
        refine x_v (r_pk_t rfl rfl) rfl ?_
        refine x_v (r_mv rfl) rfl ?_
        refine XL.splitd 31 rfl (fun hg31 => ?_) (fun hg31 => ?_)
        · refine x_want rfl rfl rfl ?_
          refine x_v (r_fa fo39_4 rfl) rfl ?_
          refine x_want rfl rfl rfl ?_
          refine x_v (r_ld ty3 rfl (by repeat (first | exact Pick.head _ _ | apply Pick.tail)) (by rfl)) rfl ?_
          refine x_want rfl rfl rfl ?_
          refine x_v (r_fa fo39_4 rfl) rfl ?_
          refine x_want rfl rfl rfl ?_
          refine x_v (r_ld ty3 rfl (by repeat (first | exact Pick.head _ _ | apply Pick.tail)) (by rfl)) rfl ?_
          refine x_want rfl rfl rfl ?_
          refine x_v (r_eq rfl rfl) rfl ?_
          refine x_v (r_pk_t rfl rfl) rfl ?_
          refine x_v (r_mv rfl) rfl ?_
          refine XL.splitd 38 rfl (fun hg38 => ?_) (fun hg38 => ?_)
          · refine x_want rfl rfl rfl ?_
            refine x_v (r_fa fo39_5 rfl) rfl ?_
            refine x_want rfl rfl rfl ?_
            refine x_v (r_ld ty3 rfl (by repeat (first | exact Pick.head _ _ | apply Pick.tail)) (by rfl)) rfl ?_
            refine x_want rfl rfl rfl ?_
            refine x_v (r_fa fo39_5 rfl) rfl ?_
            refine x_want rfl rfl rfl ?_
            refine x_v (r_ld ty3 rfl (by repeat (first | exact Pick.head _ _ | apply Pick.tail)) (by rfl)) rfl ?_
            refine x_want rfl rfl rfl ?_
            refine x_v (r_eq rfl rfl) rfl ?_
            refine x_v (r_pk_t rfl rfl) rfl ?_
            refine x_v (r_mv rfl) rfl ?_
            refine XL.splitd 45 rfl (fun hg45 => ?_) (fun hg45 => ?_)
            · refine x_want rfl rfl rfl ?_
              refine x_v (r_fa fo39_6 rfl) rfl ?_
              refine x_want rfl rfl rfl ?_
              refine x_v (r_ld ty9 rfl (by repeat (first | exact Pick.head _ _ | apply Pick.tail)) (by rfl)) rfl ?_
              refine x_want rfl rfl rfl ?_
              refine x_v (r_fa fo39_6 rfl) rfl ?_
              refine x_want rfl rfl rfl ?_
              refine x_v (r_ld ty9 rfl (by repeat (first | exact Pick.head _ _ | apply Pick.tail)) (by rfl)) rfl ?_
              refine x_want rfl rfl rfl ?_
              refine x_v (r_seq rfl rfl) rfl ?_
              refine x_v (r_pk_t rfl rfl) rfl ?_
              refine x_v (r_mv rfl) rfl ?_
              refine XL.splitd 52 rfl (fun hg52 => ?_) (fun hg52 => ?_)
              · refine x_want rfl rfl rfl ?_
                refine x_v (r_fa fo39_7 rfl) rfl ?_
                refine x_want rfl rfl rfl ?_
                refine x_v (r_lda (l' := [_, _]) ty37 rfl (by repeat (first | exact Pick.head _ _ | apply Pick.tail)) rfl (Sub.get (by repeat (first | exact Sub.nil _ | apply Sub.take | apply Sub.skip)))) rfl ?_
                refine x_want rfl rfl rfl ?_
                refine x_v (r_fa fo39_7 rfl) rfl ?_
                refine x_want rfl rfl rfl ?_
                refine x_v (r_lda (l' := [_, _]) ty37 rfl (by repeat (first | exact Pick.head _ _ | apply Pick.tail)) rfl (Sub.get (by repeat (first | exact Sub.nil _ | apply Sub.take | apply Sub.skip)))) rfl ?_
                refine x_want rfl rfl rfl ?_
                refine x_c (r_call0 (args := [_, _]) ⟨rfl, rfl, rfl⟩ (samez_tr) (by repeat (first | exact Gets.done _ | exact Gets.all _ | (apply Gets.step; focus ((repeat (first | exact Pick.head _ _ | apply Pick.tail)); done)) | apply Gets.drop))) rfl ?_
                rintro _ _ ⟨rfl, rfl⟩
                refine x_v (r_pk_t rfl rfl) rfl ?_
                refine x_v (r_as rfl) rfl ?_
                refine XL.nil ?_
                refine hK2 _ _ ?_
                refine XC.keep [(4, _)] ⟨rfl, trivial⟩ ?_
                refine XC.ret ?_
                exact fin1 rfl (⟨rfl, rfl⟩) (by repeat (first | exact Gets.done _ | exact Gets.all _ | (apply Gets.step; focus ((repeat (first | exact Pick.head _ _ | apply Pick.tail)); done)) | apply Gets.drop))
              · exfalso; first | omega | exact hg52 rfl | exact hg52 ⟨rfl, rfl⟩ | simp at hg52
            · exfalso; first | omega | exact hg45 rfl | exact hg45 ⟨rfl, rfl⟩ | simp at hg45
          · exfalso; first | omega | exact hg38 rfl | exact hg38 ⟨rfl, rfl⟩ | simp at hg38
        · exfalso; first | omega | exact hg31 rfl | exact hg31 ⟨rfl, rfl⟩ | simp at hg31
      · exfalso; first | omega | exact hg24 rfl | exact hg24 ⟨rfl, rfl⟩ | simp at hg24
    · exfalso; first | omega | exact hg17 rfl | exact hg17 ⟨rfl, rfl⟩ | simp at hg17
  · exfalso; first | omega | exact hg10 rfl | exact hg10 ⟨rfl, rfl⟩ | simp at hg10
theorem same11_tr {W0 : World} {Fr : List HP} (k e s : Int) : Tr W0 Try.prog 28 [.agg (cmz k e s).toArray, .agg (cmz k e s).toArray] Fr (fun v Rs' => v = .bool true ∧ Rs' = Fr) := by
  refine Entry.tr (N := 59) (rs := [.tmp 4]) ⟨_, Try.func28, rfl, by kernel_rfl, rfl, rfl⟩ rfl ?_
  refine XC.seq fun K1 hK1 => ?_
  refine XC.region ?_
  refine x_a (r_bx rfl rfl) rfl fun b2 => ?_
  refine x_a (r_bx rfl rfl) rfl fun b3 => ?_
  unfold cmz
  refine x_v (r_as rfl) rfl ?_
  refine XL.nil ?_
  refine hK1 _ _ ?_
  refine XC.keep [(2, _), (3, _)] ⟨rfl, rfl, trivial⟩ ?_
  refine XC.seq fun K2 hK2 => ?_
  refine XC.region ?_
  refine x_v (r_fa fo41_0 rfl) rfl ?_
  refine x_v (r_ld ty3 rfl (by repeat (first | exact Pick.head _ _ | apply Pick.tail)) (by rfl)) rfl ?_
  refine x_v (r_fa fo41_0 rfl) rfl ?_
  refine x_v (r_ld ty3 rfl (by repeat (first | exact Pick.head _ _ | apply Pick.tail)) (by rfl)) rfl ?_
  refine x_v (r_eq rfl rfl) rfl ?_
  refine x_v (r_mv rfl) rfl ?_
  refine XL.splitd 10 rfl (fun hg10 => ?_) (fun hg10 => ?_)
  · refine x_want rfl rfl rfl ?_
    refine x_v (r_fa fo41_1 rfl) rfl ?_
    refine x_want rfl rfl rfl ?_
    refine x_v (r_ld ty3 rfl (by repeat (first | exact Pick.head _ _ | apply Pick.tail)) (by rfl)) rfl ?_
    refine x_want rfl rfl rfl ?_
    refine x_v (r_fa fo41_1 rfl) rfl ?_
    refine x_want rfl rfl rfl ?_
    refine x_v (r_ld ty3 rfl (by repeat (first | exact Pick.head _ _ | apply Pick.tail)) (by rfl)) rfl ?_
    refine x_want rfl rfl rfl ?_
    refine x_v (r_eq rfl rfl) rfl ?_
    refine x_v (r_pk_t rfl rfl) rfl ?_
    refine x_v (r_mv rfl) rfl ?_
    refine XL.splitd 17 rfl (fun hg17 => ?_) (fun hg17 => ?_)
    · refine x_want rfl rfl rfl ?_
      refine x_v (r_fa fo41_2 rfl) rfl ?_
      refine x_want rfl rfl rfl ?_
      refine x_v (r_ld ty3 rfl (by repeat (first | exact Pick.head _ _ | apply Pick.tail)) (by rfl)) rfl ?_
      refine x_want rfl rfl rfl ?_
      refine x_v (r_fa fo41_2 rfl) rfl ?_
      refine x_want rfl rfl rfl ?_
      refine x_v (r_ld ty3 rfl (by repeat (first | exact Pick.head _ _ | apply Pick.tail)) (by rfl)) rfl ?_
      refine x_want rfl rfl rfl ?_
      refine x_v (r_eq rfl rfl) rfl ?_
      refine x_v (r_pk_t rfl rfl) rfl ?_
      refine x_v (r_mv rfl) rfl ?_
      refine XL.splitd 24 rfl (fun hg24 => ?_) (fun hg24 => ?_)
      · refine x_want rfl rfl rfl ?_
        refine x_v (r_fa fo41_4 rfl) rfl ?_
        refine x_want rfl rfl rfl ?_
        refine x_v (r_ld ty3 rfl (by repeat (first | exact Pick.head _ _ | apply Pick.tail)) (by rfl)) rfl ?_
        refine x_want rfl rfl rfl ?_
        refine x_v (r_fa fo41_4 rfl) rfl ?_
        refine x_want rfl rfl rfl ?_
        refine x_v (r_ld ty3 rfl (by repeat (first | exact Pick.head _ _ | apply Pick.tail)) (by rfl)) rfl ?_
        refine x_want rfl rfl rfl ?_
        refine x_v (r_eq rfl rfl) rfl ?_
        refine x_v (r_pk_t rfl rfl) rfl ?_
        refine x_v (r_mv rfl) rfl ?_
        refine XL.splitd 31 rfl (fun hg31 => ?_) (fun hg31 => ?_)
        · refine x_want rfl rfl rfl ?_
          refine x_v (r_fa fo41_5 rfl) rfl ?_
          refine x_want rfl rfl rfl ?_
          refine x_v (r_ld ty3 rfl (by repeat (first | exact Pick.head _ _ | apply Pick.tail)) (by rfl)) rfl ?_
          refine x_want rfl rfl rfl ?_
          refine x_v (r_fa fo41_5 rfl) rfl ?_
          refine x_want rfl rfl rfl ?_
          refine x_v (r_ld ty3 rfl (by repeat (first | exact Pick.head _ _ | apply Pick.tail)) (by rfl)) rfl ?_
          refine x_want rfl rfl rfl ?_
          refine x_v (r_eq rfl rfl) rfl ?_
          refine x_v (r_pk_t rfl rfl) rfl ?_
          refine x_v (r_mv rfl) rfl ?_
          refine XL.splitd 38 rfl (fun hg38 => ?_) (fun hg38 => ?_)
          · refine x_want rfl rfl rfl ?_
            refine x_v (r_fa fo41_7 rfl) rfl ?_
            refine x_want rfl rfl rfl ?_
            refine x_v (r_ld ty3 rfl (by repeat (first | exact Pick.head _ _ | apply Pick.tail)) (by rfl)) rfl ?_
            refine x_want rfl rfl rfl ?_
            refine x_v (r_fa fo41_7 rfl) rfl ?_
            refine x_want rfl rfl rfl ?_
            refine x_v (r_ld ty3 rfl (by repeat (first | exact Pick.head _ _ | apply Pick.tail)) (by rfl)) rfl ?_
            refine x_want rfl rfl rfl ?_
            refine x_v (r_eq rfl rfl) rfl ?_
            refine x_v (r_pk_t rfl rfl) rfl ?_
            refine x_v (r_mv rfl) rfl ?_
            refine XL.splitd 45 rfl (fun hg45 => ?_) (fun hg45 => ?_)
            · refine x_want rfl rfl rfl ?_
              refine x_v (r_fa fo41_3 rfl) rfl ?_
              refine x_want rfl rfl rfl ?_
              refine x_v (r_lda (l' := [_, _, _, _, _, _, _, _, _]) ty39 rfl (by repeat (first | exact Pick.head _ _ | apply Pick.tail)) rfl (Sub.get (by repeat (first | exact Sub.nil _ | apply Sub.take | apply Sub.skip)))) rfl ?_
              refine x_want rfl rfl rfl ?_
              refine x_v (r_fa fo41_3 rfl) rfl ?_
              refine x_want rfl rfl rfl ?_
              refine x_v (r_lda (l' := [_, _, _, _, _, _, _, _, _]) ty39 rfl (by repeat (first | exact Pick.head _ _ | apply Pick.tail)) rfl (Sub.get (by repeat (first | exact Sub.nil _ | apply Sub.take | apply Sub.skip)))) rfl ?_
              refine x_want rfl rfl rfl ?_
              refine x_c (r_call0 (args := [_, _]) ⟨rfl, rfl, rfl⟩ (sameop_tr) (by repeat (first | exact Gets.done _ | exact Gets.all _ | (apply Gets.step; focus ((repeat (first | exact Pick.head _ _ | apply Pick.tail)); done)) | apply Gets.drop))) rfl ?_
              rintro _ _ ⟨rfl, rfl⟩
              refine x_v (r_pk_t rfl rfl) rfl ?_
              refine x_v (r_mv rfl) rfl ?_
              refine x_want rfl rfl rfl ?_
              refine x_v (r_fa fo41_6 rfl) rfl ?_
              refine x_want rfl rfl rfl ?_
              refine x_v (r_ld ty33 rfl (by repeat (first | exact Pick.head _ _ | apply Pick.tail)) (by rfl)) rfl ?_
              refine x_want rfl rfl rfl ?_
              refine x_v (r_fa fo41_6 rfl) rfl ?_
              refine x_want rfl rfl rfl ?_
              refine x_v (r_ld ty33 rfl (by repeat (first | exact Pick.head _ _ | apply Pick.tail)) (by rfl)) rfl ?_
              refine x_want rfl rfl rfl ?_
              refine x_c (r_call0 (args := [_, _]) ⟨rfl, rfl, rfl⟩ (sameo_tr) (by repeat (first | exact Gets.done _ | exact Gets.all _ | (apply Gets.step; focus ((repeat (first | exact Pick.head _ _ | apply Pick.tail)); done)) | apply Gets.drop))) rfl ?_
              rintro _ _ ⟨rfl, rfl⟩
              refine x_v (r_pk_t rfl rfl) rfl ?_
              refine x_v (r_as rfl) rfl ?_
              refine XL.nil ?_
              refine hK2 _ _ ?_
              refine XC.keep [(4, _)] ⟨rfl, trivial⟩ ?_
              refine XC.ret ?_
              exact fin1 rfl (⟨rfl, rfl⟩) (by repeat (first | exact Gets.done _ | exact Gets.all _ | (apply Gets.step; focus ((repeat (first | exact Pick.head _ _ | apply Pick.tail)); done)) | apply Gets.drop))
            · exfalso; first | omega | exact hg45 rfl | exact hg45 ⟨rfl, rfl⟩ | simp at hg45
          · exfalso; first | omega | exact hg38 rfl | exact hg38 ⟨rfl, rfl⟩ | simp at hg38
        · exfalso; first | omega | exact hg31 rfl | exact hg31 ⟨rfl, rfl⟩ | simp at hg31
      · exfalso; first | omega | exact hg24 rfl | exact hg24 ⟨rfl, rfl⟩ | simp at hg24
    · exfalso; first | omega | exact hg17 rfl | exact hg17 ⟨rfl, rfl⟩ | simp at hg17
  · exfalso; first | omega | exact hg10 rfl | exact hg10 ⟨rfl, rfl⟩ | simp at hg10
/-- A mail that has no more than these. -/
def maz (k e s : Int) : Mal := ⟨k, 0, 0, 0, 0, false, [], none, 0, [], [], none, 0, e, s, 0, 0, 0, 0, [], none, 0, [], none, 0⟩
theorem same15_tr {W0 : World} {Fr : List HP} (k e s : Int) : Tr W0 Try.prog 31 [.agg (mac (maz k e s)).toArray, .agg (mac (maz k e s)).toArray] Fr (fun v Rs' => v = .bool true ∧ Rs' = Fr) := by
  refine Entry.tr (N := 130) (rs := [.tmp 4]) ⟨_, Try.func31, rfl, by kernel_rfl, rfl, rfl⟩ rfl ?_
  refine XC.seq fun K1 hK1 => ?_
  refine XC.region ?_
  refine x_a (r_bx rfl rfl) rfl fun b2 => ?_
  refine x_a (r_bx rfl rfl) rfl fun b3 => ?_
  unfold mac maz
  dsimp only [List.length_nil]
  refine x_v (r_as rfl) rfl ?_
  refine XL.nil ?_
  refine hK1 _ _ ?_
  refine XC.keep [(2, _), (3, _)] ⟨rfl, rfl, trivial⟩ ?_
  refine XC.seq fun K2 hK2 => ?_
  refine XC.seq fun K3 hK3 => ?_
  refine XC.region ?_
  refine x_v (r_fa fo35_8 rfl) rfl ?_
  refine x_v (r_ld ty29 rfl (by repeat (first | exact Pick.head _ _ | apply Pick.tail)) (by rfl)) rfl ?_
  refine x_v (r_lensl Try.underlying29 rfl) rfl ?_
  refine x_v (r_fa fo35_8 rfl) rfl ?_
  refine x_v (r_ld ty29 rfl (by repeat (first | exact Pick.head _ _ | apply Pick.tail)) (by rfl)) rfl ?_
  refine x_v (r_lensl Try.underlying29 rfl) rfl ?_
  refine x_v (r_ne rfl rfl) rfl ?_
  refine x_v (r_mv rfl) rfl ?_
  refine XL.splitd 13 rfl (fun hg13 => ?_) (fun hg13 => ?_)
  · exfalso; omega
  · refine x_want rfl rfl rfl ?_
    refine x_v (r_fa fo35_13 rfl) rfl ?_
    refine x_want rfl rfl rfl ?_
    refine x_v (r_ld ty32 rfl (by repeat (first | exact Pick.head _ _ | apply Pick.tail)) (by rfl)) rfl ?_
    refine x_want rfl rfl rfl ?_
    refine x_v (r_fa fo35_13 rfl) rfl ?_
    refine x_want rfl rfl rfl ?_
    refine x_v (r_ld ty32 rfl (by repeat (first | exact Pick.head _ _ | apply Pick.tail)) (by rfl)) rfl ?_
    refine x_want rfl rfl rfl ?_
    refine x_c (r_call0 (args := [_, _]) ⟨rfl, rfl, rfl⟩ (sameh_tr) (by repeat (first | exact Gets.done _ | exact Gets.all _ | (apply Gets.step; focus ((repeat (first | exact Pick.head _ _ | apply Pick.tail)); done)) | apply Gets.drop))) rfl ?_
    rintro _ _ ⟨rfl, rfl⟩
    refine x_want rfl rfl rfl ?_
    refine x_v (r_not rfl) rfl ?_
    refine x_v (r_pk_f rfl rfl) rfl ?_
    refine x_v (r_mv rfl) rfl ?_
    refine x_want rfl rfl rfl ?_
    refine x_v (r_fa fo35_6 rfl) rfl ?_
    refine x_want rfl rfl rfl ?_
    refine x_v (r_ld ty28 rfl (by repeat (first | exact Pick.head _ _ | apply Pick.tail)) (by rfl)) rfl ?_
    refine x_want rfl rfl rfl ?_
    refine x_v (r_fa fo35_6 rfl) rfl ?_
    refine x_want rfl rfl rfl ?_
    refine x_v (r_ld ty28 rfl (by repeat (first | exact Pick.head _ _ | apply Pick.tail)) (by rfl)) rfl ?_
    refine x_want rfl rfl rfl ?_
    refine x_c (r_call0 (args := [_, _]) ⟨rfl, rfl, rfl⟩ (samee_tr) (by repeat (first | exact Gets.done _ | exact Gets.all _ | (apply Gets.step; focus ((repeat (first | exact Pick.head _ _ | apply Pick.tail)); done)) | apply Gets.drop))) rfl ?_
    rintro _ _ ⟨rfl, rfl⟩
    refine x_want rfl rfl rfl ?_
    refine x_v (r_not rfl) rfl ?_
    refine x_v (r_pk_f rfl rfl) rfl ?_
    refine x_v (r_mv rfl) rfl ?_
    refine x_want rfl rfl rfl ?_
    refine x_v (r_fa fo35_14 rfl) rfl ?_
    refine x_want rfl rfl rfl ?_
    refine x_v (r_ld ty33 rfl (by repeat (first | exact Pick.head _ _ | apply Pick.tail)) (by rfl)) rfl ?_
    refine x_want rfl rfl rfl ?_
    refine x_v (r_fa fo35_14 rfl) rfl ?_
    refine x_want rfl rfl rfl ?_
    refine x_v (r_ld ty33 rfl (by repeat (first | exact Pick.head _ _ | apply Pick.tail)) (by rfl)) rfl ?_
    refine x_want rfl rfl rfl ?_
    refine x_c (r_call0 (args := [_, _]) ⟨rfl, rfl, rfl⟩ (sameo_tr) (by repeat (first | exact Gets.done _ | exact Gets.all _ | (apply Gets.step; focus ((repeat (first | exact Pick.head _ _ | apply Pick.tail)); done)) | apply Gets.drop))) rfl ?_
    rintro _ _ ⟨rfl, rfl⟩
    refine x_want rfl rfl rfl ?_
    refine x_v (r_not rfl) rfl ?_
    refine x_v (r_pk_f rfl rfl) rfl ?_
    refine XL.nil ?_
    refine hK3 _ _ ?_
    refine XC.keep [(2, _), (3, _), (36, _)] ⟨rfl, rfl, rfl, trivial⟩ ?_
    refine XC.cond_f rfl ?_
    refine XC.skip ?_
    refine hK2 _ _ ?_
    refine XC.keep [(2, _), (3, _)] ⟨rfl, rfl, trivial⟩ ?_
    refine XC.seq fun K4 hK4 => ?_
    refine XC.seq fun K5 hK5 => ?_
    refine XC.region ?_
    refine x_v (r_as rfl) rfl ?_
    refine XL.nil ?_
    refine hK5 _ _ ?_
    refine XC.keep [(2, _), (3, _), (5, _)] ⟨rfl, rfl, rfl, trivial⟩ ?_
    refine XC.block ?_
    refine XC.loop (σ := Unit) (fun z => [(2, .pointer (some ⟨b2, 0, none⟩)), (3, .pointer (some ⟨b3, 0, none⟩)), (5, .int .i64 0)]) (fun z => blk b2 35 [.int .i64 k, .int .i64 0, .int .i64 0, .int .i64 0, .int .i64 0, .bool false, .slice none 0 0, str [], .slice none 0 0, .int .i64 e, .int .i64 s, .int .i64 0, .int .i64 0, .int .i64 0, .int .i64 0, .slice none 0 0, .slice none 0 0] :: blk b3 35 [.int .i64 k, .int .i64 0, .int .i64 0, .int .i64 0, .int .i64 0, .bool false, .slice none 0 0, str [], .slice none 0 0, .int .i64 e, .int .i64 s, .int .i64 0, .int .i64 0, .int .i64 0, .int .i64 0, .slice none 0 0, .slice none 0 0] :: Fr) (fun z => True) (fun z => 0) () ?_ ⟨rfl, rfl, rfl, trivial⟩ (by repeat (first | exact Gets.done _ | exact Gets.all _ | (apply Gets.step; focus ((repeat (first | exact Pick.head _ _ | apply Pick.tail)); done)) | apply Gets.drop)) ?_
    · trivial
    rintro _ _
    refine XC.seq fun K6 hK6 => ?_
    refine XC.seq fun K7 hK7 => ?_
    refine XC.region ?_
    refine x_v (r_mv rfl) rfl ?_
    refine x_v (r_fa fo35_8 rfl) rfl ?_
    refine x_v (r_ld ty29 rfl (by repeat (first | exact Pick.head _ _ | apply Pick.tail)) (by rfl)) rfl ?_
    refine x_v (r_lensl Try.underlying29 rfl) rfl ?_
    refine x_v (r_lt rfl rfl) rfl ?_
    refine XL.nil ?_
    refine hK7 _ _ ?_
    refine XC.keep [(2, _), (3, _), (5, _), (41, _)] ⟨rfl, rfl, rfl, rfl, trivial⟩ ?_
    refine XC.cond_d rfl (fun hc2 => ?_) (fun hc2 => ?_)
    · exfalso; omega
    · refine XC.exit rfl ?_
      refine hK4 _ _ ?_
      refine XC.keep [(2, _), (3, _)] ⟨rfl, rfl, trivial⟩ ?_
      refine XC.seq fun K8 hK8 => ?_
      refine XC.region ?_
      refine x_v (r_fa fo35_0 rfl) rfl ?_
      refine x_v (r_ld ty3 rfl (by repeat (first | exact Pick.head _ _ | apply Pick.tail)) (by rfl)) rfl ?_
      refine x_v (r_fa fo35_0 rfl) rfl ?_
      refine x_v (r_ld ty3 rfl (by repeat (first | exact Pick.head _ _ | apply Pick.tail)) (by rfl)) rfl ?_
      refine x_v (r_eq rfl rfl) rfl ?_
      refine x_v (r_mv rfl) rfl ?_
      refine XL.splitd 60 rfl (fun hg60 => ?_) (fun hg60 => ?_)
      · refine x_want rfl rfl rfl ?_
        refine x_v (r_fa fo35_1 rfl) rfl ?_
        refine x_want rfl rfl rfl ?_
        refine x_v (r_ld ty3 rfl (by repeat (first | exact Pick.head _ _ | apply Pick.tail)) (by rfl)) rfl ?_
        refine x_want rfl rfl rfl ?_
        refine x_v (r_fa fo35_1 rfl) rfl ?_
        refine x_want rfl rfl rfl ?_
        refine x_v (r_ld ty3 rfl (by repeat (first | exact Pick.head _ _ | apply Pick.tail)) (by rfl)) rfl ?_
        refine x_want rfl rfl rfl ?_
        refine x_v (r_eq rfl rfl) rfl ?_
        refine x_v (r_pk_t rfl rfl) rfl ?_
        refine x_v (r_mv rfl) rfl ?_
        refine XL.splitd 67 rfl (fun hg67 => ?_) (fun hg67 => ?_)
        · refine x_want rfl rfl rfl ?_
          refine x_v (r_fa fo35_2 rfl) rfl ?_
          refine x_want rfl rfl rfl ?_
          refine x_v (r_ld ty3 rfl (by repeat (first | exact Pick.head _ _ | apply Pick.tail)) (by rfl)) rfl ?_
          refine x_want rfl rfl rfl ?_
          refine x_v (r_fa fo35_2 rfl) rfl ?_
          refine x_want rfl rfl rfl ?_
          refine x_v (r_ld ty3 rfl (by repeat (first | exact Pick.head _ _ | apply Pick.tail)) (by rfl)) rfl ?_
          refine x_want rfl rfl rfl ?_
          refine x_v (r_eq rfl rfl) rfl ?_
          refine x_v (r_pk_t rfl rfl) rfl ?_
          refine x_v (r_mv rfl) rfl ?_
          refine XL.splitd 74 rfl (fun hg74 => ?_) (fun hg74 => ?_)
          · refine x_want rfl rfl rfl ?_
            refine x_v (r_fa fo35_3 rfl) rfl ?_
            refine x_want rfl rfl rfl ?_
            refine x_v (r_ld ty3 rfl (by repeat (first | exact Pick.head _ _ | apply Pick.tail)) (by rfl)) rfl ?_
            refine x_want rfl rfl rfl ?_
            refine x_v (r_fa fo35_3 rfl) rfl ?_
            refine x_want rfl rfl rfl ?_
            refine x_v (r_ld ty3 rfl (by repeat (first | exact Pick.head _ _ | apply Pick.tail)) (by rfl)) rfl ?_
            refine x_want rfl rfl rfl ?_
            refine x_v (r_eq rfl rfl) rfl ?_
            refine x_v (r_pk_t rfl rfl) rfl ?_
            refine x_v (r_mv rfl) rfl ?_
            refine XL.splitd 81 rfl (fun hg81 => ?_) (fun hg81 => ?_)
            · refine x_want rfl rfl rfl ?_
              refine x_v (r_fa fo35_4 rfl) rfl ?_
              refine x_want rfl rfl rfl ?_
              refine x_v (r_ld ty3 rfl (by repeat (first | exact Pick.head _ _ | apply Pick.tail)) (by rfl)) rfl ?_
              refine x_want rfl rfl rfl ?_
              refine x_v (r_fa fo35_4 rfl) rfl ?_
              refine x_want rfl rfl rfl ?_
              refine x_v (r_ld ty3 rfl (by repeat (first | exact Pick.head _ _ | apply Pick.tail)) (by rfl)) rfl ?_
              refine x_want rfl rfl rfl ?_
              refine x_v (r_eq rfl rfl) rfl ?_
              refine x_v (r_pk_t rfl rfl) rfl ?_
              refine x_v (r_mv rfl) rfl ?_
              refine XL.splitd 88 rfl (fun hg88 => ?_) (fun hg88 => ?_)
              · refine x_want rfl rfl rfl ?_
                refine x_v (r_fa fo35_5 rfl) rfl ?_
                refine x_want rfl rfl rfl ?_
                refine x_v (r_ld ty4 rfl (by repeat (first | exact Pick.head _ _ | apply Pick.tail)) (by rfl)) rfl ?_
                refine x_want rfl rfl rfl ?_
                refine x_v (r_fa fo35_5 rfl) rfl ?_
                refine x_want rfl rfl rfl ?_
                refine x_v (r_ld ty4 rfl (by repeat (first | exact Pick.head _ _ | apply Pick.tail)) (by rfl)) rfl ?_
                refine x_want rfl rfl rfl ?_
                refine x_v (r_beq Try.underlying4 rfl rfl) rfl ?_
                refine x_v (r_pk_t rfl rfl) rfl ?_
                refine x_v (r_mv rfl) rfl ?_
                refine XL.split 95 rfl (fun hg95 => ?_) (fun hg95 => ?_)
                · refine x_want rfl rfl rfl ?_
                  refine x_v (r_fa fo35_7 rfl) rfl ?_
                  refine x_want rfl rfl rfl ?_
                  refine x_v (r_ld ty9 rfl (by repeat (first | exact Pick.head _ _ | apply Pick.tail)) (by rfl)) rfl ?_
                  refine x_want rfl rfl rfl ?_
                  refine x_v (r_fa fo35_7 rfl) rfl ?_
                  refine x_want rfl rfl rfl ?_
                  refine x_v (r_ld ty9 rfl (by repeat (first | exact Pick.head _ _ | apply Pick.tail)) (by rfl)) rfl ?_
                  refine x_want rfl rfl rfl ?_
                  refine x_v (r_seq rfl rfl) rfl ?_
                  refine x_v (r_pk_t rfl rfl) rfl ?_
                  refine x_v (r_mv rfl) rfl ?_
                  refine XL.splitd 102 rfl (fun hg102 => ?_) (fun hg102 => ?_)
                  · refine x_want rfl rfl rfl ?_
                    refine x_v (r_fa fo35_9 rfl) rfl ?_
                    refine x_want rfl rfl rfl ?_
                    refine x_v (r_ld ty3 rfl (by repeat (first | exact Pick.head _ _ | apply Pick.tail)) (by rfl)) rfl ?_
                    refine x_want rfl rfl rfl ?_
                    refine x_v (r_fa fo35_9 rfl) rfl ?_
                    refine x_want rfl rfl rfl ?_
                    refine x_v (r_ld ty3 rfl (by repeat (first | exact Pick.head _ _ | apply Pick.tail)) (by rfl)) rfl ?_
                    refine x_want rfl rfl rfl ?_
                    refine x_v (r_eq rfl rfl) rfl ?_
                    refine x_v (r_pk_t rfl rfl) rfl ?_
                    refine x_v (r_mv rfl) rfl ?_
                    refine XL.splitd 109 rfl (fun hg109 => ?_) (fun hg109 => ?_)
                    · refine x_want rfl rfl rfl ?_
                      refine x_v (r_fa fo35_10 rfl) rfl ?_
                      refine x_want rfl rfl rfl ?_
                      refine x_v (r_ld ty3 rfl (by repeat (first | exact Pick.head _ _ | apply Pick.tail)) (by rfl)) rfl ?_
                      refine x_want rfl rfl rfl ?_
                      refine x_v (r_fa fo35_10 rfl) rfl ?_
                      refine x_want rfl rfl rfl ?_
                      refine x_v (r_ld ty3 rfl (by repeat (first | exact Pick.head _ _ | apply Pick.tail)) (by rfl)) rfl ?_
                      refine x_want rfl rfl rfl ?_
                      refine x_v (r_eq rfl rfl) rfl ?_
                      refine x_v (r_pk_t rfl rfl) rfl ?_
                      refine x_v (r_mv rfl) rfl ?_
                      refine XL.splitd 116 rfl (fun hg116 => ?_) (fun hg116 => ?_)
                      · refine x_want rfl rfl rfl ?_
                        refine x_v (r_fa fo35_11 rfl) rfl ?_
                        refine x_want rfl rfl rfl ?_
                        refine x_v (r_lda (l' := [_, _]) ty31 rfl (by repeat (first | exact Pick.head _ _ | apply Pick.tail)) rfl (Sub.get (by repeat (first | exact Sub.nil _ | apply Sub.take | apply Sub.skip)))) rfl ?_
                        refine x_want rfl rfl rfl ?_
                        refine x_v (r_fa fo35_11 rfl) rfl ?_
                        refine x_want rfl rfl rfl ?_
                        refine x_v (r_lda (l' := [_, _]) ty31 rfl (by repeat (first | exact Pick.head _ _ | apply Pick.tail)) rfl (Sub.get (by repeat (first | exact Sub.nil _ | apply Sub.take | apply Sub.skip)))) rfl ?_
                        refine x_want rfl rfl rfl ?_
                        refine x_v (r_steq (by kernel_rfl) (fun w => eq31 _ _ _ _ w) rfl rfl) rfl ?_
                        refine x_v (r_pk_t rfl rfl) rfl ?_
                        refine x_v (r_mv rfl) rfl ?_
                        refine XL.splitd 123 rfl (fun hg123 => ?_) (fun hg123 => ?_)
                        · refine x_want rfl rfl rfl ?_
                          refine x_v (r_fa fo35_12 rfl) rfl ?_
                          refine x_want rfl rfl rfl ?_
                          refine x_v (r_lda (l' := [_, _]) ty31 rfl (by repeat (first | exact Pick.head _ _ | apply Pick.tail)) rfl (Sub.get (by repeat (first | exact Sub.nil _ | apply Sub.take | apply Sub.skip)))) rfl ?_
                          refine x_want rfl rfl rfl ?_
                          refine x_v (r_fa fo35_12 rfl) rfl ?_
                          refine x_want rfl rfl rfl ?_
                          refine x_v (r_lda (l' := [_, _]) ty31 rfl (by repeat (first | exact Pick.head _ _ | apply Pick.tail)) rfl (Sub.get (by repeat (first | exact Sub.nil _ | apply Sub.take | apply Sub.skip)))) rfl ?_
                          refine x_want rfl rfl rfl ?_
                          refine x_v (r_steq (by kernel_rfl) (fun w => eq31 _ _ _ _ w) rfl rfl) rfl ?_
                          refine x_v (r_pk_t rfl rfl) rfl ?_
                          refine x_v (r_as rfl) rfl ?_
                          refine XL.nil ?_
                          refine hK8 _ _ ?_
                          refine XC.keep [(4, _)] ⟨rfl, trivial⟩ ?_
                          refine XC.ret ?_
                          exact fin1 rfl (⟨congrArg Value.bool (decide_eq_true ⟨rfl, rfl⟩), rfl⟩) (by repeat (first | exact Gets.done _ | exact Gets.all _ | (apply Gets.step; focus ((repeat (first | exact Pick.head _ _ | apply Pick.tail)); done)) | apply Gets.drop))
                        · exfalso; first | omega | exact hg123 rfl | exact hg123 ⟨rfl, rfl⟩ | simp at hg123
                      · exfalso; first | omega | exact hg116 rfl | exact hg116 ⟨rfl, rfl⟩ | simp at hg116
                    · exfalso; first | omega | exact hg109 rfl | exact hg109 ⟨rfl, rfl⟩ | simp at hg109
                  · exfalso; first | omega | exact hg102 rfl | exact hg102 ⟨rfl, rfl⟩ | simp at hg102
                · exfalso; first | omega | exact hg95 rfl | exact hg95 ⟨rfl, rfl⟩ | simp at hg95
              · exfalso; first | omega | exact hg88 rfl | exact hg88 ⟨rfl, rfl⟩ | simp at hg88
            · exfalso; first | omega | exact hg81 rfl | exact hg81 ⟨rfl, rfl⟩ | simp at hg81
          · exfalso; first | omega | exact hg74 rfl | exact hg74 ⟨rfl, rfl⟩ | simp at hg74
        · exfalso; first | omega | exact hg67 rfl | exact hg67 ⟨rfl, rfl⟩ | simp at hg67
      · exfalso; first | omega | exact hg60 rfl | exact hg60 ⟨rfl, rfl⟩ | simp at hg60

theorem nhear_tr {W0 : World} {Fr : List HP} (n : Int) : Tr W0 Try.prog 14 [.pointer none, .int .i64 n] Fr (fun v Rs' => v = .tuple #[] ∧ Rs' = Fr) := by
  refine Entry.tr (N := 24) (rs := []) ⟨_, Try.func14, rfl, by kernel_rfl, rfl, rfl⟩ rfl ?_
  refine XC.seq fun K1 hK1 => ?_
  refine XC.region ?_
  refine x_v (r_mv rfl) rfl ?_
  refine x_v (r_pne_nil Try.underlying23 rfl rfl) rfl ?_
  refine x_v (r_mv rfl) rfl ?_
  refine x_unwant rfl rfl rfl rfl rfl ?_
  refine x_unwant rfl rfl rfl rfl rfl ?_
  refine x_unwant rfl rfl rfl rfl rfl ?_
  refine x_unwant rfl rfl rfl rfl rfl ?_
  refine x_unwant rfl rfl rfl rfl rfl ?_
  refine x_unwant rfl rfl rfl rfl rfl ?_
  refine x_unwant rfl rfl rfl rfl rfl ?_
  refine x_v (r_pk_f rfl rfl) rfl ?_
  refine x_v (r_mv rfl) rfl ?_
  refine x_unwant rfl rfl rfl rfl rfl ?_
  refine x_unwant rfl rfl rfl rfl rfl ?_
  refine x_v (r_pk_f rfl rfl) rfl ?_
  refine XL.nil ?_
  refine hK1 _ _ ?_
  refine XC.keep [(0, _), (1, _), (18, _)] ⟨rfl, rfl, rfl, trivial⟩ ?_
  refine XC.cond_f rfl ?_
  refine XC.skip ?_
  exact fin0 (⟨rfl, rfl⟩) (by repeat (first | exact Gets.done _ | exact Gets.all _ | (apply Gets.step; focus ((repeat (first | exact Pick.head _ _ | apply Pick.tail)); done)) | apply Gets.drop))
theorem nrest_tr {W0 : World} {Fr : List HP} : Tr W0 Try.prog 26 [.pointer none] Fr (fun v Rs' => v = .tuple #[] ∧ Rs' = Fr) := by
  refine Entry.tr (N := 8) (rs := []) ⟨_, Try.func26, rfl, by kernel_rfl, rfl, rfl⟩ rfl ?_
  refine XC.seq fun K1 hK1 => ?_
  refine XC.region ?_
  refine x_v (r_mv rfl) rfl ?_
  refine x_v (r_pne_nil Try.underlying23 rfl rfl) rfl ?_
  refine XL.nil ?_
  refine hK1 _ _ ?_
  refine XC.keep [(0, _), (3, _)] ⟨rfl, rfl, trivial⟩ ?_
  refine XC.cond_f rfl ?_
  refine XC.skip ?_
  exact fin0 (⟨rfl, rfl⟩) (by repeat (first | exact Gets.done _ | exact Gets.all _ | (apply Gets.step; focus ((repeat (first | exact Pick.head _ _ | apply Pick.tail)); done)) | apply Gets.drop))
theorem nnext_tr {W0 : World} {Fr : List HP} : Tr W0 Try.prog 24 [.pointer none, .pointer none] Fr (fun v Rs' => v = .tuple #[.agg (cmz 0 0 0).toArray, .bool false] ∧ Rs' = Fr) := by
  refine Entry.tr (N := 44) (rs := [.cell 4 41, .tmp 5]) ⟨_, Try.func24, rfl, by kernel_rfl, rfl, rfl⟩ rfl ?_
  refine XC.seq fun K1 hK1 => ?_
  refine XC.region ?_
  refine x_a (r_al ty41 rfl) rfl fun b4 => ?_
  refine x_v (r_as rfl) rfl ?_
  refine XL.nil ?_
  refine hK1 _ _ ?_
  refine XC.keep [(0, _), (1, _), (4, _)] ⟨rfl, rfl, rfl, trivial⟩ ?_
  refine XC.seq fun K2 hK2 => ?_
  refine XC.seq fun K3 hK3 => ?_
  refine XC.draw [] false [(0, false), (1, false), (2, false), (3, false), (4, false), (5, false), (6, false), (7, false), (8, false), (9, false), (10, false), (11, false), (12, false), (13, false), (14, false), (15, false), (16, false), (17, false), (18, false), (19, false), (20, false), (21, false), (22, false), (23, true), (24, false), (25, false)] (by kernel_rfl) (by kernel_rfl) ?_
  refine y_v rfl (r_mv rfl) (fun _ h => Gets.own (by repeat (first | exact Gets.done _ | exact Gets.all _ | (apply Gets.step; focus ((repeat (first | exact Pick.head _ _ | apply Pick.tail)); done)) | apply Gets.drop)) h) rfl ?_
  refine y_v rfl (r_peq_nil Try.underlying23 rfl rfl) (fun _ h => Gets.own (by repeat (first | exact Gets.done _ | exact Gets.all _ | (apply Gets.step; focus ((repeat (first | exact Pick.head _ _ | apply Pick.tail)); done)) | apply Gets.drop)) h) rfl ?_
  refine y_v rfl (r_mv rfl) (fun _ h => Gets.own (by repeat (first | exact Gets.done _ | exact Gets.all _ | (apply Gets.step; focus ((repeat (first | exact Pick.head _ _ | apply Pick.tail)); done)) | apply Gets.drop)) h) rfl ?_
  refine y_un rfl rfl rfl (fun _ h => Gets.own (by repeat (first | exact Gets.done _ | exact Gets.all _ | (apply Gets.step; focus ((repeat (first | exact Pick.head _ _ | apply Pick.tail)); done)) | apply Gets.drop)) h) rfl ?_
  refine y_un rfl rfl rfl (fun _ h => Gets.own (by repeat (first | exact Gets.done _ | exact Gets.all _ | (apply Gets.step; focus ((repeat (first | exact Pick.head _ _ | apply Pick.tail)); done)) | apply Gets.drop)) h) rfl ?_
  refine y_un rfl rfl rfl (fun _ h => Gets.own (by repeat (first | exact Gets.done _ | exact Gets.all _ | (apply Gets.step; focus ((repeat (first | exact Pick.head _ _ | apply Pick.tail)); done)) | apply Gets.drop)) h) rfl ?_
  refine y_un rfl rfl rfl (fun _ h => Gets.own (by repeat (first | exact Gets.done _ | exact Gets.all _ | (apply Gets.step; focus ((repeat (first | exact Pick.head _ _ | apply Pick.tail)); done)) | apply Gets.drop)) h) rfl ?_
  refine y_un rfl rfl rfl (fun _ h => Gets.own (by repeat (first | exact Gets.done _ | exact Gets.all _ | (apply Gets.step; focus ((repeat (first | exact Pick.head _ _ | apply Pick.tail)); done)) | apply Gets.drop)) h) rfl ?_
  refine y_un rfl rfl rfl (fun _ h => Gets.own (by repeat (first | exact Gets.done _ | exact Gets.all _ | (apply Gets.step; focus ((repeat (first | exact Pick.head _ _ | apply Pick.tail)); done)) | apply Gets.drop)) h) rfl ?_
  refine y_un rfl rfl rfl (fun _ h => Gets.own (by repeat (first | exact Gets.done _ | exact Gets.all _ | (apply Gets.step; focus ((repeat (first | exact Pick.head _ _ | apply Pick.tail)); done)) | apply Gets.drop)) h) rfl ?_
  refine y_un rfl rfl rfl (fun _ h => Gets.own (by repeat (first | exact Gets.done _ | exact Gets.all _ | (apply Gets.step; focus ((repeat (first | exact Pick.head _ _ | apply Pick.tail)); done)) | apply Gets.drop)) h) rfl ?_
  refine y_un rfl rfl rfl (fun _ h => Gets.own (by repeat (first | exact Gets.done _ | exact Gets.all _ | (apply Gets.step; focus ((repeat (first | exact Pick.head _ _ | apply Pick.tail)); done)) | apply Gets.drop)) h) rfl ?_
  refine y_un rfl rfl rfl (fun _ h => Gets.own (by repeat (first | exact Gets.done _ | exact Gets.all _ | (apply Gets.step; focus ((repeat (first | exact Pick.head _ _ | apply Pick.tail)); done)) | apply Gets.drop)) h) rfl ?_
  refine y_un rfl rfl rfl (fun _ h => Gets.own (by repeat (first | exact Gets.done _ | exact Gets.all _ | (apply Gets.step; focus ((repeat (first | exact Pick.head _ _ | apply Pick.tail)); done)) | apply Gets.drop)) h) rfl ?_
  refine y_v rfl (r_pk_t rfl rfl) (fun _ h => Gets.own (by repeat (first | exact Gets.done _ | exact Gets.all _ | (apply Gets.step; focus ((repeat (first | exact Pick.head _ _ | apply Pick.tail)); done)) | apply Gets.drop)) h) rfl ?_
  refine y_v rfl (r_mv rfl) (fun _ h => Gets.own (by repeat (first | exact Gets.done _ | exact Gets.all _ | (apply Gets.step; focus ((repeat (first | exact Pick.head _ _ | apply Pick.tail)); done)) | apply Gets.drop)) h) rfl ?_
  refine y_un rfl rfl rfl (fun _ h => Gets.own (by repeat (first | exact Gets.done _ | exact Gets.all _ | (apply Gets.step; focus ((repeat (first | exact Pick.head _ _ | apply Pick.tail)); done)) | apply Gets.drop)) h) rfl ?_
  refine y_un rfl rfl rfl (fun _ h => Gets.own (by repeat (first | exact Gets.done _ | exact Gets.all _ | (apply Gets.step; focus ((repeat (first | exact Pick.head _ _ | apply Pick.tail)); done)) | apply Gets.drop)) h) rfl ?_
  refine y_un rfl rfl rfl (fun _ h => Gets.own (by repeat (first | exact Gets.done _ | exact Gets.all _ | (apply Gets.step; focus ((repeat (first | exact Pick.head _ _ | apply Pick.tail)); done)) | apply Gets.drop)) h) rfl ?_
  refine y_un rfl rfl rfl (fun _ h => Gets.own (by repeat (first | exact Gets.done _ | exact Gets.all _ | (apply Gets.step; focus ((repeat (first | exact Pick.head _ _ | apply Pick.tail)); done)) | apply Gets.drop)) h) rfl ?_
  refine y_un rfl rfl rfl (fun _ h => Gets.own (by repeat (first | exact Gets.done _ | exact Gets.all _ | (apply Gets.step; focus ((repeat (first | exact Pick.head _ _ | apply Pick.tail)); done)) | apply Gets.drop)) h) rfl ?_
  refine y_un rfl rfl rfl (fun _ h => Gets.own (by repeat (first | exact Gets.done _ | exact Gets.all _ | (apply Gets.step; focus ((repeat (first | exact Pick.head _ _ | apply Pick.tail)); done)) | apply Gets.drop)) h) rfl ?_
  refine y_un rfl rfl rfl (fun _ h => Gets.own (by repeat (first | exact Gets.done _ | exact Gets.all _ | (apply Gets.step; focus ((repeat (first | exact Pick.head _ _ | apply Pick.tail)); done)) | apply Gets.drop)) h) rfl ?_
  refine y_unl rfl rfl rfl (fun _ h => Gets.own (by repeat (first | exact Gets.done _ | exact Gets.all _ | (apply Gets.step; focus ((repeat (first | exact Pick.head _ _ | apply Pick.tail)); done)) | apply Gets.drop)) h) rfl ?_
  refine y_un rfl rfl rfl (fun _ h => Gets.own (by repeat (first | exact Gets.done _ | exact Gets.all _ | (apply Gets.step; focus ((repeat (first | exact Pick.head _ _ | apply Pick.tail)); done)) | apply Gets.drop)) h) rfl ?_
  refine y_v rfl (r_pk_t rfl rfl) (fun _ h => Gets.own (by repeat (first | exact Gets.done _ | exact Gets.all _ | (apply Gets.step; focus ((repeat (first | exact Pick.head _ _ | apply Pick.tail)); done)) | apply Gets.drop)) h) rfl ?_
  refine XH.nil ?_
  refine hK3 _ _ ?_
  refine XC.keep [(0, _), (4, _), (31, _)] ⟨rfl, rfl, rfl, trivial⟩ ?_
  refine XC.cond_t rfl ?_
  refine XC.seq fun K4 hK4 => ?_
  refine XC.region ?_
  refine x_v (r_bd (vs := []) rfl rfl bd41_z) rfl ?_
  refine x_e (r_st ty41 rfl rfl rfl rfl rfl (by repeat (first | exact Upd.head _ _ _ | apply Upd.tail)) (by repeat (first | exact Over.nil _ | apply Over.put | apply Over.skip))) ?_
  refine x_v (r_as rfl) rfl ?_
  refine XL.nil ?_
  refine hK4 _ _ ?_
  refine XC.keep [(4, _), (5, _)] ⟨rfl, rfl, trivial⟩ ?_
  refine XC.ret ?_
  exact finc2 ty41 rfl rfl (by repeat (first | exact Pick.head _ _ | apply Pick.tail)) (by rfl) (⟨rfl, rfl⟩) (by repeat (first | exact Gets.done _ | exact Gets.all _ | (apply Gets.step; focus ((repeat (first | exact Pick.head _ _ | apply Pick.tail)); done)) | apply Gets.drop))
theorem nwant_tr {W0 : World} {Fr : List HP} (n : Int) : Tr W0 Try.prog 11 [.pointer none, .int .i64 n] Fr (fun v Rs' => v = .int .i64 2 ∧ Rs' = Fr) := by
  refine Entry.tr (N := 40) (rs := [.tmp 4]) ⟨_, Try.func11, rfl, by kernel_rfl, rfl, rfl⟩ rfl ?_
  refine XC.seq fun K1 hK1 => ?_
  refine XC.region ?_
  refine x_v (r_as rfl) rfl ?_
  refine XL.nil ?_
  refine hK1 _ _ ?_
  refine XC.keep [(0, _), (1, _)] ⟨rfl, rfl, trivial⟩ ?_
  refine XC.seq fun K2 hK2 => ?_
  refine XC.block ?_
  refine XC.seq fun K3 hK3 => ?_
  refine XC.region ?_
  refine x_v (r_mv rfl) rfl ?_
  refine x_v (r_peq_nil Try.underlying23 rfl rfl) rfl ?_
  refine x_v (r_as rfl) rfl ?_
  refine XL.nil ?_
  refine hK3 _ _ ?_
  refine XC.keep [(0, _), (1, _), (5, _)] ⟨rfl, rfl, rfl, trivial⟩ ?_
  refine XC.cond_t rfl ?_
  refine XC.seq fun K4 hK4 => ?_
  refine XC.region ?_
  refine x_v (r_as rfl) rfl ?_
  refine XL.nil ?_
  refine hK4 _ _ ?_
  refine XC.keep [(4, _)] ⟨rfl, trivial⟩ ?_
  refine XC.ret ?_
  exact fin1 rfl (⟨rfl, rfl⟩) (by repeat (first | exact Gets.done _ | exact Gets.all _ | (apply Gets.step; focus ((repeat (first | exact Pick.head _ _ | apply Pick.tail)); done)) | apply Gets.drop))
theorem ntick_tr {W0 : World} {Fr : List HP} : Tr W0 Try.prog 32 [.pointer none] Fr (fun v Rs' => v = .agg (mac (maz 0 0 0)).toArray ∧ Rs' = Fr) := by
  refine Entry.tr (N := 16) (rs := [.cell 2 35]) ⟨_, Try.func32, rfl, by kernel_rfl, rfl, rfl⟩ rfl ?_
  refine XC.seq fun K1 hK1 => ?_
  refine XC.region ?_
  refine x_a (r_al ty35 rfl) rfl fun b2 => ?_
  refine XL.nil ?_
  refine hK1 _ _ ?_
  refine XC.keep [(0, _), (2, _)] ⟨rfl, rfl, trivial⟩ ?_
  refine XC.seq fun K2 hK2 => ?_
  refine XC.seq fun K3 hK3 => ?_
  refine XC.region ?_
  refine x_v (r_mv rfl) rfl ?_
  refine x_v (r_peq_nil Try.underlying23 rfl rfl) rfl ?_
  refine XL.nil ?_
  refine hK3 _ _ ?_
  refine XC.keep [(0, _), (2, _), (4, _)] ⟨rfl, rfl, rfl, trivial⟩ ?_
  refine XC.cond_t rfl ?_
  refine XC.seq fun K4 hK4 => ?_
  refine XC.region ?_
  refine x_v (r_bd (vs := []) rfl rfl bd35_z) rfl ?_
  refine x_e (r_st ty35 rfl rfl rfl rfl rfl (by repeat (first | exact Upd.head _ _ _ | apply Upd.tail)) (by repeat (first | exact Over.nil _ | apply Over.put | apply Over.skip))) ?_
  refine XL.nil ?_
  refine hK4 _ _ ?_
  refine XC.keep [(2, _)] ⟨rfl, trivial⟩ ?_
  refine XC.ret ?_
  exact finc1 ty35 rfl (by repeat (first | exact Pick.head _ _ | apply Pick.tail)) (by rfl) (⟨rfl, rfl⟩) (by repeat (first | exact Gets.done _ | exact Gets.all _ | (apply Gets.step; focus ((repeat (first | exact Pick.head _ _ | apply Pick.tail)); done)) | apply Gets.drop))
theorem ntake_tr {W0 : World} {Fr : List HP} (m : Mal) : Tr W0 Try.prog 12 [.pointer none, .agg (mac m).toArray] Fr (fun v Rs' => v = .bool false ∧ Rs' = Fr) := by
  refine Entry.tr (N := 53) (rs := [.tmp 4]) ⟨_, Try.func12, rfl, by kernel_rfl, rfl, rfl⟩ rfl ?_
  refine XC.seq fun K1 hK1 => ?_
  refine XC.region ?_
  refine x_a (r_bx rfl rfl) rfl fun b3 => ?_
  unfold mac
  refine x_v (r_as rfl) rfl ?_
  refine XL.nil ?_
  refine hK1 _ _ ?_
  refine XC.keep [(0, _), (3, _)] ⟨rfl, rfl, trivial⟩ ?_
  refine XC.seq fun K2 hK2 => ?_
  refine XC.seq fun K3 hK3 => ?_
  refine XC.draw [blk b3 35 [.int .i64 m.kind, .int .i64 m.term, .int .i64 m.index, .int .i64 m.prev, .int .i64 m.commit, .bool m.good, .slice m.eA m.es.length m.ec, str m.data, .slice m.hA m.hs.length m.hc, .int .i64 m.epoch, .int .i64 m.site, .int .i64 m.at1, .int .i64 m.at2, .int .i64 m.w1, .int .i64 m.w2, .slice m.oA m.ho.length m.oc, .slice m.pA m.ops.length m.pc]] false [(0, false), (1, false), (2, false), (3, false), (4, false), (5, false), (6, false), (7, false), (8, false), (9, true), (10, false), (11, false), (12, false), (13, false), (14, false), (15, false), (16, false), (17, false), (18, false), (19, false), (20, false), (21, false), (22, false)] (by kernel_rfl) (by kernel_rfl) ?_
  refine y_v rfl (r_mv rfl) (fun _ h => Gets.own (by repeat (first | exact Gets.done _ | exact Gets.all _ | (apply Gets.step; focus ((repeat (first | exact Pick.head _ _ | apply Pick.tail)); done)) | apply Gets.drop)) h) rfl ?_
  refine y_v rfl (r_peq_nil Try.underlying23 rfl rfl) (fun _ h => Gets.own (by repeat (first | exact Gets.done _ | exact Gets.all _ | (apply Gets.step; focus ((repeat (first | exact Pick.head _ _ | apply Pick.tail)); done)) | apply Gets.drop)) h) rfl ?_
  refine y_v rfl (r_mv rfl) (fun _ h => Gets.own (by repeat (first | exact Gets.done _ | exact Gets.all _ | (apply Gets.step; focus ((repeat (first | exact Pick.head _ _ | apply Pick.tail)); done)) | apply Gets.drop)) h) rfl ?_
  refine y_un rfl rfl rfl (fun _ h => Gets.own (by repeat (first | exact Gets.done _ | exact Gets.all _ | (apply Gets.step; focus ((repeat (first | exact Pick.head _ _ | apply Pick.tail)); done)) | apply Gets.drop)) h) rfl ?_
  refine y_un rfl rfl rfl (fun _ h => Gets.own (by repeat (first | exact Gets.done _ | exact Gets.all _ | (apply Gets.step; focus ((repeat (first | exact Pick.head _ _ | apply Pick.tail)); done)) | apply Gets.drop)) h) rfl ?_
  refine y_un rfl rfl rfl (fun _ h => Gets.own (by repeat (first | exact Gets.done _ | exact Gets.all _ | (apply Gets.step; focus ((repeat (first | exact Pick.head _ _ | apply Pick.tail)); done)) | apply Gets.drop)) h) rfl ?_
  refine y_v rfl (r_pk_t rfl rfl) (fun _ h => Gets.own (by repeat (first | exact Gets.done _ | exact Gets.all _ | (apply Gets.step; focus ((repeat (first | exact Pick.head _ _ | apply Pick.tail)); done)) | apply Gets.drop)) h) rfl ?_
  refine y_v rfl (r_mv rfl) (fun _ h => Gets.own (by repeat (first | exact Gets.done _ | exact Gets.all _ | (apply Gets.step; focus ((repeat (first | exact Pick.head _ _ | apply Pick.tail)); done)) | apply Gets.drop)) h) rfl ?_
  refine y_un rfl rfl rfl (fun _ h => Gets.own (by repeat (first | exact Gets.done _ | exact Gets.all _ | (apply Gets.step; focus ((repeat (first | exact Pick.head _ _ | apply Pick.tail)); done)) | apply Gets.drop)) h) rfl ?_
  refine y_unl rfl rfl rfl (fun _ h => Gets.own (by repeat (first | exact Gets.done _ | exact Gets.all _ | (apply Gets.step; focus ((repeat (first | exact Pick.head _ _ | apply Pick.tail)); done)) | apply Gets.drop)) h) rfl ?_
  refine y_un rfl rfl rfl (fun _ h => Gets.own (by repeat (first | exact Gets.done _ | exact Gets.all _ | (apply Gets.step; focus ((repeat (first | exact Pick.head _ _ | apply Pick.tail)); done)) | apply Gets.drop)) h) rfl ?_
  refine y_v rfl (r_pk_t rfl rfl) (fun _ h => Gets.own (by repeat (first | exact Gets.done _ | exact Gets.all _ | (apply Gets.step; focus ((repeat (first | exact Pick.head _ _ | apply Pick.tail)); done)) | apply Gets.drop)) h) rfl ?_
  refine y_v rfl (r_mv rfl) (fun _ h => Gets.own (by repeat (first | exact Gets.done _ | exact Gets.all _ | (apply Gets.step; focus ((repeat (first | exact Pick.head _ _ | apply Pick.tail)); done)) | apply Gets.drop)) h) rfl ?_
  refine y_un rfl rfl rfl (fun _ h => Gets.own (by repeat (first | exact Gets.done _ | exact Gets.all _ | (apply Gets.step; focus ((repeat (first | exact Pick.head _ _ | apply Pick.tail)); done)) | apply Gets.drop)) h) rfl ?_
  refine y_un rfl rfl rfl (fun _ h => Gets.own (by repeat (first | exact Gets.done _ | exact Gets.all _ | (apply Gets.step; focus ((repeat (first | exact Pick.head _ _ | apply Pick.tail)); done)) | apply Gets.drop)) h) rfl ?_
  refine y_un rfl rfl rfl (fun _ h => Gets.own (by repeat (first | exact Gets.done _ | exact Gets.all _ | (apply Gets.step; focus ((repeat (first | exact Pick.head _ _ | apply Pick.tail)); done)) | apply Gets.drop)) h) rfl ?_
  refine y_un rfl rfl rfl (fun _ h => Gets.own (by repeat (first | exact Gets.done _ | exact Gets.all _ | (apply Gets.step; focus ((repeat (first | exact Pick.head _ _ | apply Pick.tail)); done)) | apply Gets.drop)) h) rfl ?_
  refine y_un rfl rfl rfl (fun _ h => Gets.own (by repeat (first | exact Gets.done _ | exact Gets.all _ | (apply Gets.step; focus ((repeat (first | exact Pick.head _ _ | apply Pick.tail)); done)) | apply Gets.drop)) h) rfl ?_
  refine y_un rfl rfl rfl (fun _ h => Gets.own (by repeat (first | exact Gets.done _ | exact Gets.all _ | (apply Gets.step; focus ((repeat (first | exact Pick.head _ _ | apply Pick.tail)); done)) | apply Gets.drop)) h) rfl ?_
  refine y_un rfl rfl rfl (fun _ h => Gets.own (by repeat (first | exact Gets.done _ | exact Gets.all _ | (apply Gets.step; focus ((repeat (first | exact Pick.head _ _ | apply Pick.tail)); done)) | apply Gets.drop)) h) rfl ?_
  refine y_un rfl rfl rfl (fun _ h => Gets.own (by repeat (first | exact Gets.done _ | exact Gets.all _ | (apply Gets.step; focus ((repeat (first | exact Pick.head _ _ | apply Pick.tail)); done)) | apply Gets.drop)) h) rfl ?_
  refine y_un rfl rfl rfl (fun _ h => Gets.own (by repeat (first | exact Gets.done _ | exact Gets.all _ | (apply Gets.step; focus ((repeat (first | exact Pick.head _ _ | apply Pick.tail)); done)) | apply Gets.drop)) h) rfl ?_
  refine y_v rfl (r_pk_t rfl rfl) (fun _ h => Gets.own (by repeat (first | exact Gets.done _ | exact Gets.all _ | (apply Gets.step; focus ((repeat (first | exact Pick.head _ _ | apply Pick.tail)); done)) | apply Gets.drop)) h) rfl ?_
  refine XH.nil ?_
  refine hK3 _ _ ?_
  refine XC.keep [(0, _), (3, _), (27, _)] ⟨rfl, rfl, rfl, trivial⟩ ?_
  refine XC.cond_t rfl ?_
  refine XC.seq fun K4 hK4 => ?_
  refine XC.region ?_
  refine x_v (r_as rfl) rfl ?_
  refine XL.nil ?_
  refine hK4 _ _ ?_
  refine XC.keep [(4, _)] ⟨rfl, trivial⟩ ?_
  refine XC.ret ?_
  exact fin1 rfl (⟨rfl, rfl⟩) (by repeat (first | exact Gets.done _ | exact Gets.all _ | (apply Gets.step; focus ((repeat (first | exact Pick.head _ _ | apply Pick.tail)); done)) | apply Gets.drop))
theorem nholder_tr {W0 : World} {Fr : List HP} : Tr W0 Try.prog 55 [.pointer none] Fr (fun v Rs' => v = .agg #[.int .i64 0, .int .i64 0] ∧ Rs' = Fr) := by
  refine Entry.tr (N := 11) (rs := [.cell 2 69]) ⟨_, Try.func55, rfl, by kernel_rfl, rfl, rfl⟩ rfl ?_
  refine XC.seq fun K1 hK1 => ?_
  refine XC.region ?_
  refine x_a (r_al ty69 rfl) rfl fun b2 => ?_
  refine XL.nil ?_
  refine hK1 _ _ ?_
  refine XC.keep [(0, _), (2, _)] ⟨rfl, rfl, trivial⟩ ?_
  refine XC.seq fun K2 hK2 => ?_
  refine XC.seq fun K3 hK3 => ?_
  refine XC.region ?_
  refine x_v (r_mv rfl) rfl ?_
  refine x_v (r_peq_nil Try.underlying54 rfl rfl) rfl ?_
  refine XL.nil ?_
  refine hK3 _ _ ?_
  refine XC.keep [(0, _), (2, _), (4, _)] ⟨rfl, rfl, rfl, trivial⟩ ?_
  refine XC.cond_t rfl ?_
  refine XC.seq fun K4 hK4 => ?_
  refine XC.region ?_
  refine x_v (r_bd (vs := []) rfl rfl bd69_z) rfl ?_
  refine x_e (r_st ty69 rfl rfl rfl rfl rfl (by repeat (first | exact Upd.head _ _ _ | apply Upd.tail)) (by repeat (first | exact Over.nil _ | apply Over.put | apply Over.skip))) ?_
  refine XL.nil ?_
  refine hK4 _ _ ?_
  refine XC.keep [(2, _)] ⟨rfl, trivial⟩ ?_
  refine XC.ret ?_
  exact finc1 ty69 rfl (by repeat (first | exact Pick.head _ _ | apply Pick.tail)) (by rfl) (⟨rfl, rfl⟩) (by repeat (first | exact Gets.done _ | exact Gets.all _ | (apply Gets.step; focus ((repeat (first | exact Pick.head _ _ | apply Pick.tail)); done)) | apply Gets.drop))
theorem nfence_tr {W0 : World} {Fr : List HP} : Tr W0 Try.prog 52 [.pointer none] Fr (fun v Rs' => v = .int .i64 0 ∧ Rs' = Fr) := by
  refine Entry.tr (N := 9) (rs := [.tmp 2]) ⟨_, Try.func52, rfl, by kernel_rfl, rfl, rfl⟩ rfl ?_
  refine XC.seq fun K1 hK1 => ?_
  refine XC.region ?_
  refine x_v (r_as rfl) rfl ?_
  refine XL.nil ?_
  refine hK1 _ _ ?_
  refine XC.keep [(0, _)] ⟨rfl, trivial⟩ ?_
  refine XC.seq fun K2 hK2 => ?_
  refine XC.seq fun K3 hK3 => ?_
  refine XC.region ?_
  refine x_v (r_mv rfl) rfl ?_
  refine x_v (r_peq_nil Try.underlying54 rfl rfl) rfl ?_
  refine XL.nil ?_
  refine hK3 _ _ ?_
  refine XC.keep [(0, _), (4, _)] ⟨rfl, rfl, trivial⟩ ?_
  refine XC.cond_t rfl ?_
  refine XC.seq fun K4 hK4 => ?_
  refine XC.region ?_
  refine x_v (r_as rfl) rfl ?_
  refine XL.nil ?_
  refine hK4 _ _ ?_
  refine XC.keep [(2, _)] ⟨rfl, trivial⟩ ?_
  refine XC.ret ?_
  exact fin1 rfl (⟨rfl, rfl⟩) (by repeat (first | exact Gets.done _ | exact Gets.all _ | (apply Gets.step; focus ((repeat (first | exact Pick.head _ _ | apply Pick.tail)); done)) | apply Gets.drop))
theorem nprim_tr {W0 : World} {Fr : List HP} : Tr W0 Try.prog 29 [.pointer none, .pointer none] Fr (fun v Rs' => v = .int .i64 2 ∧ Rs' = Fr) := by
  refine Entry.tr (N := 40) (rs := [.tmp 4]) ⟨_, Try.func29, rfl, by kernel_rfl, rfl, rfl⟩ rfl ?_
  refine XC.seq fun K1 hK1 => ?_
  refine XC.region ?_
  refine x_v (r_as rfl) rfl ?_
  refine XL.nil ?_
  refine hK1 _ _ ?_
  refine XC.keep [(0, _), (1, _)] ⟨rfl, rfl, trivial⟩ ?_
  refine XC.seq fun K2 hK2 => ?_
  refine XC.region ?_
  refine x_v (r_mv rfl) rfl ?_
  refine x_c (r_call0 (args := [_]) ⟨rfl, rfl⟩ (nholder_tr) (by repeat (first | exact Gets.done _ | exact Gets.all _ | (apply Gets.step; focus ((repeat (first | exact Pick.head _ _ | apply Pick.tail)); done)) | apply Gets.drop))) rfl ?_
  rintro _ _ ⟨rfl, rfl⟩
  refine x_a (r_al ty69 rfl) rfl fun b5 => ?_
  refine x_e (r_st ty69 rfl rfl rfl rfl rfl (by repeat (first | exact Upd.head _ _ _ | apply Upd.tail)) (by repeat (first | exact Over.nil _ | apply Over.put | apply Over.skip))) ?_
  refine XL.nil ?_
  refine hK2 _ _ ?_
  refine XC.keep [(0, _), (1, _), (5, _)] ⟨rfl, rfl, rfl, trivial⟩ ?_
  refine XC.seq fun K3 hK3 => ?_
  refine XC.block ?_
  refine XC.seq fun K4 hK4 => ?_
  refine XC.region ?_
  refine x_v (r_mv rfl) rfl ?_
  refine x_v (r_peq_nil Try.underlying23 rfl rfl) rfl ?_
  refine x_v (r_as rfl) rfl ?_
  refine XL.nil ?_
  refine hK4 _ _ ?_
  refine XC.keep [(0, _), (1, _), (5, _), (8, _)] ⟨rfl, rfl, rfl, rfl, trivial⟩ ?_
  refine XC.cond_t rfl ?_
  refine XC.seq fun K5 hK5 => ?_
  refine XC.region ?_
  refine x_v (r_as rfl) rfl ?_
  refine XL.nil ?_
  refine hK5 _ _ ?_
  refine XC.keep [(4, _)] ⟨rfl, trivial⟩ ?_
  refine XC.ret ?_
  exact fin1 rfl (⟨rfl, rfl⟩) (by repeat (first | exact Gets.done _ | exact Gets.all _ | (apply Gets.step; focus ((repeat (first | exact Pick.head _ _ | apply Pick.tail)); done)) | apply Gets.drop))
theorem nwants_tr {W0 : World} {Fr : List HP} : Tr W0 Try.prog 10 [.pointer none] Fr (fun v Rs' => v = .int .i64 0 ∧ Rs' = Fr) := by
  refine Entry.tr (N := 10) (rs := [.tmp 2]) ⟨_, Try.func10, rfl, by kernel_rfl, rfl, rfl⟩ rfl ?_
  refine XC.seq fun K1 hK1 => ?_
  refine XC.region ?_
  refine x_v (r_as rfl) rfl ?_
  refine XL.nil ?_
  refine hK1 _ _ ?_
  refine XC.keep [(0, _)] ⟨rfl, trivial⟩ ?_
  refine XC.seq fun K2 hK2 => ?_
  refine XC.seq fun K3 hK3 => ?_
  refine XC.region ?_
  refine x_v (r_mv rfl) rfl ?_
  refine x_v (r_peq_nil Try.underlying23 rfl rfl) rfl ?_
  refine XL.nil ?_
  refine hK3 _ _ ?_
  refine XC.keep [(0, _), (4, _)] ⟨rfl, rfl, trivial⟩ ?_
  refine XC.cond_t rfl ?_
  refine XC.seq fun K4 hK4 => ?_
  refine XC.region ?_
  refine x_v (r_as rfl) rfl ?_
  refine XL.nil ?_
  refine hK4 _ _ ?_
  refine XC.keep [(2, _)] ⟨rfl, trivial⟩ ?_
  refine XC.ret ?_
  exact fin1 rfl (⟨rfl, rfl⟩) (by repeat (first | exact Gets.done _ | exact Gets.all _ | (apply Gets.step; focus ((repeat (first | exact Pick.head _ _ | apply Pick.tail)); done)) | apply Gets.drop))
theorem nheard_tr {W0 : World} {Fr : List HP} : Tr W0 Try.prog 9 [.pointer none] Fr (fun v Rs' => v = .int .i64 0 ∧ Rs' = Fr) := by
  refine Entry.tr (N := 10) (rs := [.tmp 2]) ⟨_, Try.func9, rfl, by kernel_rfl, rfl, rfl⟩ rfl ?_
  refine XC.seq fun K1 hK1 => ?_
  refine XC.region ?_
  refine x_v (r_as rfl) rfl ?_
  refine XL.nil ?_
  refine hK1 _ _ ?_
  refine XC.keep [(0, _)] ⟨rfl, trivial⟩ ?_
  refine XC.seq fun K2 hK2 => ?_
  refine XC.seq fun K3 hK3 => ?_
  refine XC.region ?_
  refine x_v (r_mv rfl) rfl ?_
  refine x_v (r_peq_nil Try.underlying23 rfl rfl) rfl ?_
  refine XL.nil ?_
  refine hK3 _ _ ?_
  refine XC.keep [(0, _), (4, _)] ⟨rfl, rfl, trivial⟩ ?_
  refine XC.cond_t rfl ?_
  refine XC.seq fun K4 hK4 => ?_
  refine XC.region ?_
  refine x_v (r_as rfl) rfl ?_
  refine XL.nil ?_
  refine hK4 _ _ ?_
  refine XC.keep [(2, _)] ⟨rfl, trivial⟩ ?_
  refine XC.ret ?_
  exact fin1 rfl (⟨rfl, rfl⟩) (by repeat (first | exact Gets.done _ | exact Gets.all _ | (apply Gets.step; focus ((repeat (first | exact Pick.head _ _ | apply Pick.tail)); done)) | apply Gets.drop))
theorem ncopy_tr {W0 : World} {Fr : List HP} : Tr W0 Try.prog 27 [.pointer none] Fr (fun v Rs' => v = .pointer none ∧ Rs' = Fr) := by
  refine Entry.tr (N := 9) (rs := [.tmp 2]) ⟨_, Try.func27, rfl, by kernel_rfl, rfl, rfl⟩ rfl ?_
  refine XC.seq fun K1 hK1 => ?_
  refine XC.region ?_
  refine x_v (r_as rfl) rfl ?_
  refine XL.nil ?_
  refine hK1 _ _ ?_
  refine XC.keep [(0, _)] ⟨rfl, trivial⟩ ?_
  refine XC.seq fun K2 hK2 => ?_
  refine XC.seq fun K3 hK3 => ?_
  refine XC.region ?_
  refine x_v (r_mv rfl) rfl ?_
  refine x_v (r_peq_nil Try.underlying23 rfl rfl) rfl ?_
  refine XL.nil ?_
  refine hK3 _ _ ?_
  refine XC.keep [(0, _), (5, _)] ⟨rfl, rfl, trivial⟩ ?_
  refine XC.cond_t rfl ?_
  refine XC.seq fun K4 hK4 => ?_
  refine XC.region ?_
  refine x_v (r_as rfl) rfl ?_
  refine XL.nil ?_
  refine hK4 _ _ ?_
  refine XC.keep [(2, _)] ⟨rfl, trivial⟩ ?_
  refine XC.ret ?_
  exact fin1 rfl (⟨rfl, rfl⟩) (by repeat (first | exact Gets.done _ | exact Gets.all _ | (apply Gets.step; focus ((repeat (first | exact Pick.head _ _ | apply Pick.tail)); done)) | apply Gets.drop))
theorem next0_tr {W0 : World} {Fr : List HP} (b : Nat) : Tr W0 Try.prog 24 [.pointer (some ⟨b, 0, none⟩), .pointer none] (blk b 81 (cc ⟨0, 0, 0, 0, 0, 1⟩) :: Fr) (fun v Rs' => v = .tuple #[.agg (cmz 0 0 0).toArray, .bool false] ∧ Rs' = blk b 81 (cc ⟨0, 0, 0, 0, 0, 1⟩) :: Fr) := by
  unfold cc
  dsimp only
  refine Entry.tr (N := 44) (rs := [.cell 4 41, .tmp 5]) ⟨_, Try.func24, rfl, by kernel_rfl, rfl, rfl⟩ rfl ?_
  refine XC.seq fun K1 hK1 => ?_
  refine XC.region ?_
  refine x_a (r_al ty41 rfl) rfl fun b4 => ?_
  refine x_v (r_as rfl) rfl ?_
  refine XL.nil ?_
  refine hK1 _ _ ?_
  refine XC.keep [(0, _), (1, _), (4, _)] ⟨rfl, rfl, rfl, trivial⟩ ?_
  refine XC.seq fun K2 hK2 => ?_
  refine XC.seq fun K3 hK3 => ?_
  refine XC.draw [blk b 81 [.int .i64 0, .int .i64 0, .int .i64 0, .int .i64 0, .int .i64 0, .int .i64 1]] false [(0, false), (1, false), (2, false), (3, false), (4, false), (5, false), (6, false), (7, false), (8, false), (9, false), (10, false), (11, false), (12, false), (13, false), (14, false), (15, false), (16, false), (17, false), (18, false), (19, false), (20, false), (21, false), (22, false), (23, true), (24, false), (25, false)] (by kernel_rfl) (by kernel_rfl) ?_
  refine y_v rfl (r_mv rfl) (fun _ h => Gets.own (by repeat (first | exact Gets.done _ | exact Gets.all _ | (apply Gets.step; focus ((repeat (first | exact Pick.head _ _ | apply Pick.tail)); done)) | apply Gets.drop)) h) rfl ?_
  refine y_v rfl (r_peq_some Try.underlying23 rfl rfl) (fun _ h => Gets.own (by repeat (first | exact Gets.done _ | exact Gets.all _ | (apply Gets.step; focus ((repeat (first | exact Pick.head _ _ | apply Pick.tail)); done)) | apply Gets.drop)) h) rfl ?_
  refine y_v rfl (r_mv rfl) (fun _ h => Gets.own (by repeat (first | exact Gets.done _ | exact Gets.all _ | (apply Gets.step; focus ((repeat (first | exact Pick.head _ _ | apply Pick.tail)); done)) | apply Gets.drop)) h) rfl ?_
  refine y_vg rfl rfl rfl (r_mv rfl) (fun _ h => Gets.own (by repeat (first | exact Gets.done _ | exact Gets.all _ | (apply Gets.step; focus ((repeat (first | exact Pick.head _ _ | apply Pick.tail)); done)) | apply Gets.drop)) h) rfl ?_
  refine y_vg rfl rfl rfl (r_nc rfl) (fun _ h => Gets.own (by repeat (first | exact Gets.done _ | exact Gets.all _ | (apply Gets.step; focus ((repeat (first | exact Pick.head _ _ | apply Pick.tail)); done)) | apply Gets.drop)) h) rfl ?_
  refine y_vg rfl rfl rfl (r_fa fo81_0 rfl) (fun _ h => Gets.own (by repeat (first | exact Gets.done _ | exact Gets.all _ | (apply Gets.step; focus ((repeat (first | exact Pick.head _ _ | apply Pick.tail)); done)) | apply Gets.drop)) h) rfl ?_
  refine y_vg rfl rfl rfl (r_fa fo79_0 rfl) (fun _ h => Gets.own (by repeat (first | exact Gets.done _ | exact Gets.all _ | (apply Gets.step; focus ((repeat (first | exact Pick.head _ _ | apply Pick.tail)); done)) | apply Gets.drop)) h) rfl ?_
  refine y_vg rfl rfl rfl (r_fa fo69_1 rfl) (fun _ h => Gets.own (by repeat (first | exact Gets.done _ | exact Gets.all _ | (apply Gets.step; focus ((repeat (first | exact Pick.head _ _ | apply Pick.tail)); done)) | apply Gets.drop)) h) rfl ?_
  refine y_vg rfl rfl rfl (r_ld ty3 rfl (by repeat (first | exact Pick.head _ _ | apply Pick.tail)) (by rfl)) (fun _ h => Gets.own (by repeat (first | exact Gets.done _ | exact Gets.all _ | (apply Gets.step; focus ((repeat (first | exact Pick.head _ _ | apply Pick.tail)); done)) | apply Gets.drop)) h) rfl ?_
  refine y_vg rfl rfl rfl (r_mv rfl) (fun _ h => Gets.own (by repeat (first | exact Gets.done _ | exact Gets.all _ | (apply Gets.step; focus ((repeat (first | exact Pick.head _ _ | apply Pick.tail)); done)) | apply Gets.drop)) h) rfl ?_
  refine y_vg rfl rfl rfl (r_nc rfl) (fun _ h => Gets.own (by repeat (first | exact Gets.done _ | exact Gets.all _ | (apply Gets.step; focus ((repeat (first | exact Pick.head _ _ | apply Pick.tail)); done)) | apply Gets.drop)) h) rfl ?_
  refine y_vg rfl rfl rfl (r_fa fo81_1 rfl) (fun _ h => Gets.own (by repeat (first | exact Gets.done _ | exact Gets.all _ | (apply Gets.step; focus ((repeat (first | exact Pick.head _ _ | apply Pick.tail)); done)) | apply Gets.drop)) h) rfl ?_
  refine y_vg rfl rfl rfl (r_ld ty3 rfl (by repeat (first | exact Pick.head _ _ | apply Pick.tail)) (by rfl)) (fun _ h => Gets.own (by repeat (first | exact Gets.done _ | exact Gets.all _ | (apply Gets.step; focus ((repeat (first | exact Pick.head _ _ | apply Pick.tail)); done)) | apply Gets.drop)) h) rfl ?_
  refine y_vg rfl rfl rfl (r_ne rfl rfl) (fun _ h => Gets.own (by repeat (first | exact Gets.done _ | exact Gets.all _ | (apply Gets.step; focus ((repeat (first | exact Pick.head _ _ | apply Pick.tail)); done)) | apply Gets.drop)) h) rfl ?_
  refine y_v rfl (r_pk_f rfl rfl) (fun _ h => Gets.own (by repeat (first | exact Gets.done _ | exact Gets.all _ | (apply Gets.step; focus ((repeat (first | exact Pick.head _ _ | apply Pick.tail)); done)) | apply Gets.drop)) h) rfl ?_
  refine y_v rfl (r_mv rfl) (fun _ h => Gets.own (by repeat (first | exact Gets.done _ | exact Gets.all _ | (apply Gets.step; focus ((repeat (first | exact Pick.head _ _ | apply Pick.tail)); done)) | apply Gets.drop)) h) rfl ?_
  refine XH.splitd 21 rfl (fun hg21 => ?_) (fun hg21 => ?_)
  · exfalso; exact hg21 rfl
  · refine y_vg rfl rfl rfl (r_mv rfl) (fun _ h => Gets.own (by repeat (first | exact Gets.done _ | exact Gets.all _ | (apply Gets.step; focus ((repeat (first | exact Pick.head _ _ | apply Pick.tail)); done)) | apply Gets.drop)) h) rfl ?_
    refine y_vg rfl rfl rfl (r_nc rfl) (fun _ h => Gets.own (by repeat (first | exact Gets.done _ | exact Gets.all _ | (apply Gets.step; focus ((repeat (first | exact Pick.head _ _ | apply Pick.tail)); done)) | apply Gets.drop)) h) rfl ?_
    refine y_vg rfl rfl rfl (r_fa fo81_0 rfl) (fun _ h => Gets.own (by repeat (first | exact Gets.done _ | exact Gets.all _ | (apply Gets.step; focus ((repeat (first | exact Pick.head _ _ | apply Pick.tail)); done)) | apply Gets.drop)) h) rfl ?_
    refine y_vg rfl rfl rfl (r_fa fo79_0 rfl) (fun _ h => Gets.own (by repeat (first | exact Gets.done _ | exact Gets.all _ | (apply Gets.step; focus ((repeat (first | exact Pick.head _ _ | apply Pick.tail)); done)) | apply Gets.drop)) h) rfl ?_
    refine y_vg rfl rfl rfl (r_fa fo69_0 rfl) (fun _ h => Gets.own (by repeat (first | exact Gets.done _ | exact Gets.all _ | (apply Gets.step; focus ((repeat (first | exact Pick.head _ _ | apply Pick.tail)); done)) | apply Gets.drop)) h) rfl ?_
    refine y_vg rfl rfl rfl (r_ld ty3 rfl (by repeat (first | exact Pick.head _ _ | apply Pick.tail)) (by rfl)) (fun _ h => Gets.own (by repeat (first | exact Gets.done _ | exact Gets.all _ | (apply Gets.step; focus ((repeat (first | exact Pick.head _ _ | apply Pick.tail)); done)) | apply Gets.drop)) h) rfl ?_
    refine y_vg rfl rfl rfl (r_mv rfl) (fun _ h => Gets.own (by repeat (first | exact Gets.done _ | exact Gets.all _ | (apply Gets.step; focus ((repeat (first | exact Pick.head _ _ | apply Pick.tail)); done)) | apply Gets.drop)) h) rfl ?_
    refine y_cg rfl rfl rfl (r_call0 (args := [_]) ⟨rfl, rfl⟩ (nfence_tr) (by repeat (first | exact Gets.done _ | exact Gets.all _ | (apply Gets.step; focus ((repeat (first | exact Pick.head _ _ | apply Pick.tail)); done)) | apply Gets.drop))) (by rintro _ _ _ _ ⟨rfl, rfl⟩ h; exact Gets.own (by repeat (first | exact Gets.done _ | exact Gets.all _ | (apply Gets.step; focus ((repeat (first | exact Pick.head _ _ | apply Pick.tail)); done)) | apply Gets.drop)) h) rfl ?_
    rintro _ _ ⟨rfl, rfl⟩
    refine y_vg rfl rfl rfl (r_le rfl rfl) (fun _ h => Gets.own (by repeat (first | exact Gets.done _ | exact Gets.all _ | (apply Gets.step; focus ((repeat (first | exact Pick.head _ _ | apply Pick.tail)); done)) | apply Gets.drop)) h) rfl ?_
    refine y_v rfl (r_pk_f rfl rfl) (fun _ h => Gets.own (by repeat (first | exact Gets.done _ | exact Gets.all _ | (apply Gets.step; focus ((repeat (first | exact Pick.head _ _ | apply Pick.tail)); done)) | apply Gets.drop)) h) rfl ?_
    refine XH.nil ?_
    refine hK3 _ _ ?_
    refine XC.keep [(0, _), (4, _), (31, _)] ⟨rfl, rfl, rfl, trivial⟩ ?_
    refine XC.cond_d rfl (fun hc1 => ?_) (fun hc1 => ?_)
    · refine XC.seq fun K4 hK4 => ?_
      refine XC.region ?_
      refine x_v (r_bd (vs := []) rfl rfl bd41_z) rfl ?_
      refine x_e (r_st ty41 rfl rfl rfl rfl rfl (by repeat (first | exact Upd.head _ _ _ | apply Upd.tail)) (by repeat (first | exact Over.nil _ | apply Over.put | apply Over.skip))) ?_
      refine x_v (r_as rfl) rfl ?_
      refine XL.nil ?_
      refine hK4 _ _ ?_
      refine XC.keep [(4, _), (5, _)] ⟨rfl, rfl, trivial⟩ ?_
      refine XC.ret ?_
      exact finc2 ty41 rfl rfl (by repeat (first | exact Pick.head _ _ | apply Pick.tail)) (by rfl) (⟨rfl, rfl⟩) (by repeat (first | exact Gets.done _ | exact Gets.all _ | (apply Gets.step; focus ((repeat (first | exact Pick.head _ _ | apply Pick.tail)); done)) | apply Gets.drop))
    · exfalso; omega
theorem prim0_tr {W0 : World} {Fr : List HP} (b : Nat) : Tr W0 Try.prog 29 [.pointer (some ⟨b, 0, none⟩), .pointer none] (blk b 81 (cc ⟨0, 0, 0, 0, 0, 1⟩) :: Fr) (fun v Rs' => v = .int .i64 220 ∧ Rs' = blk b 81 (cc ⟨0, 0, 0, 0, 0, 1⟩) :: Fr) := by
  unfold cc
  dsimp only
  refine Entry.tr (N := 40) (rs := [.tmp 4]) ⟨_, Try.func29, rfl, by kernel_rfl, rfl, rfl⟩ rfl ?_
  refine XC.seq fun K1 hK1 => ?_
  refine XC.region ?_
  refine x_v (r_as rfl) rfl ?_
  refine XL.nil ?_
  refine hK1 _ _ ?_
  refine XC.keep [(0, _), (1, _)] ⟨rfl, rfl, trivial⟩ ?_
  refine XC.seq fun K2 hK2 => ?_
  refine XC.region ?_
  refine x_v (r_mv rfl) rfl ?_
  refine x_c (r_call0 (args := [_]) ⟨rfl, rfl⟩ (nholder_tr) (by repeat (first | exact Gets.done _ | exact Gets.all _ | (apply Gets.step; focus ((repeat (first | exact Pick.head _ _ | apply Pick.tail)); done)) | apply Gets.drop))) rfl ?_
  rintro _ _ ⟨rfl, rfl⟩
  refine x_a (r_al ty69 rfl) rfl fun b5 => ?_
  refine x_e (r_st ty69 rfl rfl rfl rfl rfl (by repeat (first | exact Upd.head _ _ _ | apply Upd.tail)) (by repeat (first | exact Over.nil _ | apply Over.put | apply Over.skip))) ?_
  refine XL.nil ?_
  refine hK2 _ _ ?_
  refine XC.keep [(0, _), (1, _), (5, _)] ⟨rfl, rfl, rfl, trivial⟩ ?_
  refine XC.seq fun K3 hK3 => ?_
  refine XC.block ?_
  refine XC.seq fun K4 hK4 => ?_
  refine XC.region ?_
  refine x_v (r_mv rfl) rfl ?_
  refine x_v (r_peq_some Try.underlying23 rfl rfl) rfl ?_
  refine x_v (r_as rfl) rfl ?_
  refine XL.nil ?_
  refine hK4 _ _ ?_
  refine XC.keep [(0, _), (1, _), (5, _), (8, _)] ⟨rfl, rfl, rfl, rfl, trivial⟩ ?_
  refine XC.cond_f rfl ?_
  refine XC.seq fun K5 hK5 => ?_
  refine XC.draw [blk b5 69 [.int .i64 0, .int .i64 0], blk b 81 [.int .i64 0, .int .i64 0, .int .i64 0, .int .i64 0, .int .i64 0, .int .i64 1]] false [(0, false), (1, false), (2, false), (3, false), (4, false), (5, false), (6, false), (7, false), (8, false), (9, false), (10, false), (11, false), (12, false), (13, false), (14, false), (15, false), (16, true), (17, false), (18, false), (19, false)] (by kernel_rfl) (by kernel_rfl) ?_
  refine y_v rfl (r_fa fo69_0 rfl) (fun _ h => Gets.own (by repeat (first | exact Gets.done _ | exact Gets.all _ | (apply Gets.step; focus ((repeat (first | exact Pick.head _ _ | apply Pick.tail)); done)) | apply Gets.drop)) h) rfl ?_
  refine y_v rfl (r_ld ty3 rfl (by repeat (first | exact Pick.head _ _ | apply Pick.tail)) (by rfl)) (fun _ h => Gets.own (by repeat (first | exact Gets.done _ | exact Gets.all _ | (apply Gets.step; focus ((repeat (first | exact Pick.head _ _ | apply Pick.tail)); done)) | apply Gets.drop)) h) rfl ?_
  refine y_v rfl (r_eq rfl rfl) (fun _ h => Gets.own (by repeat (first | exact Gets.done _ | exact Gets.all _ | (apply Gets.step; focus ((repeat (first | exact Pick.head _ _ | apply Pick.tail)); done)) | apply Gets.drop)) h) rfl ?_
  refine y_v rfl (r_mv rfl) (fun _ h => Gets.own (by repeat (first | exact Gets.done _ | exact Gets.all _ | (apply Gets.step; focus ((repeat (first | exact Pick.head _ _ | apply Pick.tail)); done)) | apply Gets.drop)) h) rfl ?_
  refine XH.splitd 15 rfl (fun hg15 => ?_) (fun hg15 => ?_)
  · refine y_un rfl rfl rfl (fun _ h => Gets.own (by repeat (first | exact Gets.done _ | exact Gets.all _ | (apply Gets.step; focus ((repeat (first | exact Pick.head _ _ | apply Pick.tail)); done)) | apply Gets.drop)) h) rfl ?_
    refine y_un rfl rfl rfl (fun _ h => Gets.own (by repeat (first | exact Gets.done _ | exact Gets.all _ | (apply Gets.step; focus ((repeat (first | exact Pick.head _ _ | apply Pick.tail)); done)) | apply Gets.drop)) h) rfl ?_
    refine y_un rfl rfl rfl (fun _ h => Gets.own (by repeat (first | exact Gets.done _ | exact Gets.all _ | (apply Gets.step; focus ((repeat (first | exact Pick.head _ _ | apply Pick.tail)); done)) | apply Gets.drop)) h) rfl ?_
    refine y_un rfl rfl rfl (fun _ h => Gets.own (by repeat (first | exact Gets.done _ | exact Gets.all _ | (apply Gets.step; focus ((repeat (first | exact Pick.head _ _ | apply Pick.tail)); done)) | apply Gets.drop)) h) rfl ?_
    refine y_un rfl rfl rfl (fun _ h => Gets.own (by repeat (first | exact Gets.done _ | exact Gets.all _ | (apply Gets.step; focus ((repeat (first | exact Pick.head _ _ | apply Pick.tail)); done)) | apply Gets.drop)) h) rfl ?_
    refine y_un rfl rfl rfl (fun _ h => Gets.own (by repeat (first | exact Gets.done _ | exact Gets.all _ | (apply Gets.step; focus ((repeat (first | exact Pick.head _ _ | apply Pick.tail)); done)) | apply Gets.drop)) h) rfl ?_
    refine y_un rfl rfl rfl (fun _ h => Gets.own (by repeat (first | exact Gets.done _ | exact Gets.all _ | (apply Gets.step; focus ((repeat (first | exact Pick.head _ _ | apply Pick.tail)); done)) | apply Gets.drop)) h) rfl ?_
    refine y_v rfl (r_pk_t rfl rfl) (fun _ h => Gets.own (by repeat (first | exact Gets.done _ | exact Gets.all _ | (apply Gets.step; focus ((repeat (first | exact Pick.head _ _ | apply Pick.tail)); done)) | apply Gets.drop)) h) rfl ?_
    refine y_v rfl (r_mv rfl) (fun _ h => Gets.own (by repeat (first | exact Gets.done _ | exact Gets.all _ | (apply Gets.step; focus ((repeat (first | exact Pick.head _ _ | apply Pick.tail)); done)) | apply Gets.drop)) h) rfl ?_
    refine y_un rfl rfl rfl (fun _ h => Gets.own (by repeat (first | exact Gets.done _ | exact Gets.all _ | (apply Gets.step; focus ((repeat (first | exact Pick.head _ _ | apply Pick.tail)); done)) | apply Gets.drop)) h) rfl ?_
    refine y_un rfl rfl rfl (fun _ h => Gets.own (by repeat (first | exact Gets.done _ | exact Gets.all _ | (apply Gets.step; focus ((repeat (first | exact Pick.head _ _ | apply Pick.tail)); done)) | apply Gets.drop)) h) rfl ?_
    refine y_un rfl rfl rfl (fun _ h => Gets.own (by repeat (first | exact Gets.done _ | exact Gets.all _ | (apply Gets.step; focus ((repeat (first | exact Pick.head _ _ | apply Pick.tail)); done)) | apply Gets.drop)) h) rfl ?_
    refine y_unl rfl rfl rfl (fun _ h => Gets.own (by repeat (first | exact Gets.done _ | exact Gets.all _ | (apply Gets.step; focus ((repeat (first | exact Pick.head _ _ | apply Pick.tail)); done)) | apply Gets.drop)) h) rfl ?_
    refine y_un rfl rfl rfl (fun _ h => Gets.own (by repeat (first | exact Gets.done _ | exact Gets.all _ | (apply Gets.step; focus ((repeat (first | exact Pick.head _ _ | apply Pick.tail)); done)) | apply Gets.drop)) h) rfl ?_
    refine y_v rfl (r_pk_t rfl rfl) (fun _ h => Gets.own (by repeat (first | exact Gets.done _ | exact Gets.all _ | (apply Gets.step; focus ((repeat (first | exact Pick.head _ _ | apply Pick.tail)); done)) | apply Gets.drop)) h) rfl ?_
    refine y_v rfl (r_as rfl) (fun _ h => Gets.own (by repeat (first | exact Gets.done _ | exact Gets.all _ | (apply Gets.step; focus ((repeat (first | exact Pick.head _ _ | apply Pick.tail)); done)) | apply Gets.drop)) h) rfl ?_
    refine XH.nil ?_
    refine hK5 _ _ ?_
    refine XC.keep [(0, _), (5, _), (11, _)] ⟨rfl, rfl, rfl, trivial⟩ ?_
    refine XC.cond_t rfl ?_
    refine XC.seq fun K6 hK6 => ?_
    refine XC.region ?_
    refine x_v (r_as rfl) rfl ?_
    refine XL.nil ?_
    refine hK6 _ _ ?_
    refine XC.keep [(4, _)] ⟨rfl, trivial⟩ ?_
    refine XC.ret ?_
    exact fin1 rfl (⟨rfl, rfl⟩) (by repeat (first | exact Gets.done _ | exact Gets.all _ | (apply Gets.step; focus ((repeat (first | exact Pick.head _ _ | apply Pick.tail)); done)) | apply Gets.drop))
  · exfalso; omega

theorem crownnil_tr {W0 : World} {Fr : List HP} (t : Tp) (hm : OkM W0 t.m) (hc : OkC W0 t.c) : Tr W0 Try.prog 5 [.agg (tpc t).toArray] Fr (fun v Rs' => v = .bool true) := by
  refine Entry.tr (N := 99) (rs := [.tmp 2]) ⟨_, Try.func5, rfl, by kernel_rfl, rfl, rfl⟩ rfl ?_
  refine XC.seq fun K1 hK1 => ?_
  refine XC.region ?_
  refine x_a (r_bx rfl rfl) rfl fun b1 => ?_
  refine x_v (r_as rfl) rfl ?_
  refine XL.nil ?_
  refine hK1 _ _ ?_
  refine XC.keep [(1, _)] ⟨rfl, trivial⟩ ?_
  refine XC.seq fun K2 hK2 => ?_
  refine XC.seq fun K3 hK3 => ?_
  refine XC.region ?_
  refine x_c (r_call0 (args := []) rfl (awake_tr) (by repeat (first | exact Gets.done _ | exact Gets.all _ | (apply Gets.step; focus ((repeat (first | exact Pick.head _ _ | apply Pick.tail)); done)) | apply Gets.drop))) rfl ?_
  rintro _ _ ⟨rfl, hRs⟩
  rw [hRs]
  refine x_v (r_not rfl) rfl ?_
  refine x_v (r_mv rfl) rfl ?_
  refine x_want rfl rfl rfl ?_
  refine x_v (r_lda (l' := tpc t) ty43 rfl (by repeat (first | exact Pick.head _ _ | apply Pick.tail)) rfl (fun j u hu => by rw [Nat.zero_add]; exact hu)) rfl ?_
  refine x_want rfl rfl rfl ?_
  refine x_c (r_call0 (args := [_]) ⟨rfl, rfl⟩ (heavy_tr t hm hc) (by repeat (first | exact Gets.done _ | exact Gets.all _ | (apply Gets.step; focus ((repeat (first | exact Pick.head _ _ | apply Pick.tail)); done)) | apply Gets.drop))) rfl ?_
  rintro _ _ ⟨⟨g14, rfl⟩, hRs14⟩
  rw [hRs14]
  refine x_v (r_pk_f rfl rfl) rfl ?_
  refine XL.nil ?_
  refine hK3 _ _ ?_
  refine XC.keep [(1, _), (15, _)] ⟨rfl, rfl, trivial⟩ ?_
  refine XC.cond rfl (fun hc1 => ?_) (fun hc1 => ?_)
  · refine XC.seq fun K4 hK4 => ?_
    refine XC.region ?_
    refine x_c (r_call0 (args := []) rfl (awake_tr) (by repeat (first | exact Gets.done _ | exact Gets.all _ | (apply Gets.step; focus ((repeat (first | exact Pick.head _ _ | apply Pick.tail)); done)) | apply Gets.drop))) rfl ?_
    rintro _ _ ⟨rfl, hRs2⟩
    rw [hRs2]
    refine x_v (r_as rfl) rfl ?_
    refine XL.nil ?_
    refine hK4 _ _ ?_
    refine XC.keep [(2, _)] ⟨rfl, trivial⟩ ?_
    refine XC.ret ?_
    exact fin1 rfl (rfl) (by repeat (first | exact Gets.done _ | exact Gets.all _ | (apply Gets.step; focus ((repeat (first | exact Pick.head _ _ | apply Pick.tail)); done)) | apply Gets.drop))
  · refine XC.skip ?_
    refine hK2 _ _ ?_
    refine XC.keep [(1, _)] ⟨rfl, trivial⟩ ?_
    refine XC.seq fun K5 hK5 => ?_
    unfold tpc
    refine XC.region ?_
    refine x_v (r_as rfl) rfl ?_
    refine XL.nil ?_
    refine hK5 _ _ ?_
    refine XC.keep [(1, _), (3, _)] ⟨rfl, rfl, trivial⟩ ?_
    refine XC.seq fun K6 hK6 => ?_
    refine XC.region ?_
    refine x_v (r_mv rfl) rfl ?_
    refine x_v (r_fa fo43_1 rfl) rfl ?_
    refine x_v (r_ld ty3 rfl (by repeat (first | exact Pick.head _ _ | apply Pick.tail)) (by rfl)) rfl ?_
    refine x_c (r_call0 (args := [_, _]) ⟨rfl, rfl, rfl⟩ (nhear_tr t.n) (by repeat (first | exact Gets.done _ | exact Gets.all _ | (apply Gets.step; focus ((repeat (first | exact Pick.head _ _ | apply Pick.tail)); done)) | apply Gets.drop))) rfl ?_
    rintro _ _ ⟨rfl, hRs20⟩
    rw [hRs20]
    refine XL.nil ?_
    refine hK6 _ _ ?_
    refine XC.keep [(1, _), (3, _)] ⟨rfl, rfl, trivial⟩ ?_
    refine XC.seq fun K7 hK7 => ?_
    refine XC.region ?_
    refine x_v (r_mv rfl) rfl ?_
    refine x_c (r_call0 (args := [_]) ⟨rfl, rfl⟩ (nrest_tr) (by repeat (first | exact Gets.done _ | exact Gets.all _ | (apply Gets.step; focus ((repeat (first | exact Pick.head _ _ | apply Pick.tail)); done)) | apply Gets.drop))) rfl ?_
    rintro _ _ ⟨rfl, hRs22⟩
    rw [hRs22]
    refine XL.nil ?_
    refine hK7 _ _ ?_
    refine XC.keep [(1, _), (3, _)] ⟨rfl, rfl, trivial⟩ ?_
    refine XC.seq fun K8 hK8 => ?_
    refine XC.region ?_
    refine x_v (r_mv rfl) rfl ?_
    refine x_c (r_call0 (args := [_, _]) ⟨rfl, rfl, rfl⟩ (nnext_tr) (by repeat (first | exact Gets.done _ | exact Gets.all _ | (apply Gets.step; focus ((repeat (first | exact Pick.head _ _ | apply Pick.tail)); done)) | apply Gets.drop))) rfl ?_
    rintro _ _ ⟨rfl, hRs25⟩
    rw [hRs25]
    unfold cmz
    refine x_v (r_mv rfl) rfl ?_
    refine x_v (r_ex rfl rfl) rfl ?_
    refine x_v (r_ex rfl rfl) rfl ?_
    refine x_a (r_al ty41 rfl) rfl fun b4 => ?_
    refine x_e (r_st ty41 rfl rfl rfl rfl rfl (by repeat (first | exact Upd.head _ _ _ | apply Upd.tail)) (by repeat (first | exact Over.nil _ | apply Over.put | apply Over.skip))) ?_
    refine x_v (r_as rfl) rfl ?_
    refine XL.nil ?_
    refine hK8 _ _ ?_
    refine XC.keep [(1, _), (3, _), (4, _), (5, _)] ⟨rfl, rfl, rfl, rfl, trivial⟩ ?_
    refine XC.seq fun K9 hK9 => ?_
    refine XC.region ?_
    refine x_c (r_call0 (args := [_, _]) ⟨rfl, rfl, rfl⟩ (cnew_tr 0 1 (by decide)) (by repeat (first | exact Gets.done _ | exact Gets.all _ | (apply Gets.step; focus ((repeat (first | exact Pick.head _ _ | apply Pick.tail)); done)) | apply Gets.drop))) rfl ?_
    rintro _ _ ⟨cb, rfl, rfl⟩
    refine x_v (r_mv rfl) rfl ?_
    refine x_v (r_ex rfl rfl) rfl ?_
    refine x_v (r_ex rfl rfl) rfl ?_
    refine x_v (r_as rfl) rfl ?_
    refine x_v (r_as rfl) rfl ?_
    refine XL.nil ?_
    refine hK9 _ _ ?_
    refine XC.keep [(1, _), (3, _), (4, _), (5, _), (6, _)] ⟨rfl, rfl, rfl, rfl, rfl, trivial⟩ ?_
    refine XC.seq fun K10 hK10 => ?_
    refine XC.region ?_
    refine x_v (r_mv rfl) rfl ?_
    refine x_c (r_call0 (args := [_, _]) ⟨rfl, rfl, rfl⟩ (next0_tr cb) (by repeat (first | exact Gets.done _ | exact Gets.all _ | (apply Gets.step; focus ((repeat (first | exact Pick.head _ _ | apply Pick.tail)); done)) | apply Gets.drop))) rfl ?_
    rintro _ _ ⟨rfl, rfl⟩
    unfold cmz
    refine x_v (r_mv rfl) rfl ?_
    refine x_v (r_ex rfl rfl) rfl ?_
    refine x_v (r_ex rfl rfl) rfl ?_
    refine x_a (r_al ty41 rfl) rfl fun b8 => ?_
    refine x_e (r_st ty41 rfl rfl rfl rfl rfl (by repeat (first | exact Upd.head _ _ _ | apply Upd.tail)) (by repeat (first | exact Over.nil _ | apply Over.put | apply Over.skip))) ?_
    refine x_v (r_as rfl) rfl ?_
    refine XL.nil ?_
    refine hK10 _ _ ?_
    refine XC.keep [(1, _), (3, _), (4, _), (5, _), (6, _), (8, _), (9, _)] ⟨rfl, rfl, rfl, rfl, rfl, rfl, rfl, trivial⟩ ?_
    refine XC.seq fun K11 hK11 => ?_
    refine XC.region ?_
    refine x_v (r_mv rfl) rfl ?_
    refine x_v (r_fa fo43_1 rfl) rfl ?_
    refine x_v (r_ld ty3 rfl (by repeat (first | exact Pick.head _ _ | apply Pick.tail)) (by rfl)) rfl ?_
    refine x_c (r_call0 (args := [_, _]) ⟨rfl, rfl, rfl⟩ (nwant_tr t.n) (by repeat (first | exact Gets.done _ | exact Gets.all _ | (apply Gets.step; focus ((repeat (first | exact Pick.head _ _ | apply Pick.tail)); done)) | apply Gets.drop))) rfl ?_
    rintro _ _ ⟨rfl, hRs40⟩
    rw [hRs40]
    refine x_v (r_eq rfl rfl) rfl ?_
    refine x_v (r_mv rfl) rfl ?_
    refine XL.splitd 42 rfl (fun hg42 => ?_) (fun hg42 => ?_)
    · refine x_want rfl rfl rfl ?_
      refine x_v (r_mv rfl) rfl ?_
      refine x_want rfl rfl rfl ?_
      refine x_c (r_call0 (args := [_]) ⟨rfl, rfl⟩ (ntick_tr) (by repeat (first | exact Gets.done _ | exact Gets.all _ | (apply Gets.step; focus ((repeat (first | exact Pick.head _ _ | apply Pick.tail)); done)) | apply Gets.drop))) rfl ?_
      rintro _ _ ⟨rfl, hRs44⟩
      rw [hRs44]
      refine x_want rfl rfl rfl ?_
      refine x_v (r_bd (vs := []) rfl rfl bd35_z) rfl ?_
      refine x_want rfl rfl rfl ?_
      refine x_c (r_call0 (args := [_, _]) ⟨rfl, rfl, rfl⟩ (same15_tr 0 0 0) (by repeat (first | exact Gets.done _ | exact Gets.all _ | (apply Gets.step; focus ((repeat (first | exact Pick.head _ _ | apply Pick.tail)); done)) | apply Gets.drop))) rfl ?_
      rintro _ _ ⟨rfl, hRs46⟩
      rw [hRs46]
      refine x_v (r_pk_t rfl rfl) rfl ?_
      refine x_v (r_mv rfl) rfl ?_
      refine x_want rfl rfl rfl ?_
      refine x_v (r_mv rfl) rfl ?_
      refine x_want rfl rfl rfl ?_
      refine x_v (r_fa fo43_2 rfl) rfl ?_
      refine x_want rfl rfl rfl ?_
      refine x_v (r_lda (l' := [_, _, _, _, _, _, _, _, _, _, _, _, _, _, _, _, _]) ty35 rfl (by repeat (first | exact Pick.head _ _ | apply Pick.tail)) rfl (Sub.get (by repeat (first | exact Sub.nil _ | apply Sub.take | apply Sub.skip)))) rfl ?_
      refine x_want rfl rfl rfl ?_
      refine x_c (r_call0 (args := [_]) ⟨rfl, rfl⟩ (own15_tr t.m hm) (by repeat (first | exact Gets.done _ | exact Gets.all _ | (apply Gets.step; focus ((repeat (first | exact Pick.head _ _ | apply Pick.tail)); done)) | apply Gets.drop))) rfl ?_
      rintro _ _ ⟨⟨a80, b80, c80, d80, e80, f80, L80, g80, i80, hf80, rfl⟩, hRs52⟩
      rw [hRs52]
      refine x_want rfl rfl rfl ?_
      refine x_c (r_call0 (args := [_, _]) ⟨rfl, rfl, rfl⟩ (ntake_tr _) (by repeat (first | exact Gets.done _ | exact Gets.all _ | (apply Gets.step; focus ((repeat (first | exact Pick.head _ _ | apply Pick.tail)); done)) | apply Gets.drop))) rfl ?_
      rintro _ _ ⟨rfl, hRs53⟩
      rw [hRs53]
      refine x_want rfl rfl rfl ?_
      refine x_v (r_not rfl) rfl ?_
      refine x_v (r_pk_t rfl rfl) rfl ?_
      refine x_v (r_mv rfl) rfl ?_
      refine x_want rfl rfl rfl ?_
      refine x_v (r_lda (l' := [_, _, _, _, _, _, _, _, _, _, _, _, _, _, _, _]) ty41 rfl (by repeat (first | exact Pick.head _ _ | apply Pick.tail)) rfl (Sub.get (by repeat (first | exact Sub.nil _ | apply Sub.take | apply Sub.skip)))) rfl ?_
      refine x_want rfl rfl rfl ?_
      refine x_v (r_bd (vs := []) rfl rfl bd41_z) rfl ?_
      refine x_want rfl rfl rfl ?_
      refine x_c (r_call0 (args := [_, _]) ⟨rfl, rfl, rfl⟩ (same11_tr 0 0 0) (by repeat (first | exact Gets.done _ | exact Gets.all _ | (apply Gets.step; focus ((repeat (first | exact Pick.head _ _ | apply Pick.tail)); done)) | apply Gets.drop))) rfl ?_
      rintro _ _ ⟨rfl, hRs59⟩
      rw [hRs59]
      refine x_v (r_pk_t rfl rfl) rfl ?_
      refine x_v (r_mv rfl) rfl ?_
      refine x_want rfl rfl rfl ?_
      refine x_v (r_mv rfl) rfl ?_
      refine x_want rfl rfl rfl ?_
      refine x_v (r_not rfl) rfl ?_
      refine x_v (r_pk_t rfl rfl) rfl ?_
      refine x_v (r_mv rfl) rfl ?_
      refine x_want rfl rfl rfl ?_
      refine x_v (r_mv rfl) rfl ?_
      refine x_want rfl rfl rfl ?_
      refine x_c (r_call0 (args := [_, _]) ⟨rfl, rfl, rfl⟩ (nprim_tr) (by repeat (first | exact Gets.done _ | exact Gets.all _ | (apply Gets.step; focus ((repeat (first | exact Pick.head _ _ | apply Pick.tail)); done)) | apply Gets.drop))) rfl ?_
      rintro _ _ ⟨rfl, hRs67⟩
      rw [hRs67]
      refine x_want rfl rfl rfl ?_
      refine x_v (r_eq rfl rfl) rfl ?_
      refine x_v (r_pk_t rfl rfl) rfl ?_
      refine x_v (r_mv rfl) rfl ?_
      refine XL.splitd 70 rfl (fun hg70 => ?_) (fun hg70 => ?_)
      · refine x_want rfl rfl rfl ?_
        refine x_v (r_mv rfl) rfl ?_
        refine x_want rfl rfl rfl ?_
        refine x_c (r_call0 (args := [_]) ⟨rfl, rfl⟩ (nwants_tr) (by repeat (first | exact Gets.done _ | exact Gets.all _ | (apply Gets.step; focus ((repeat (first | exact Pick.head _ _ | apply Pick.tail)); done)) | apply Gets.drop))) rfl ?_
        rintro _ _ ⟨rfl, hRs72⟩
        rw [hRs72]
        refine x_want rfl rfl rfl ?_
        refine x_v (r_eq rfl rfl) rfl ?_
        refine x_v (r_pk_t rfl rfl) rfl ?_
        refine x_v (r_mv rfl) rfl ?_
        refine XL.splitd 75 rfl (fun hg75 => ?_) (fun hg75 => ?_)
        · refine x_want rfl rfl rfl ?_
          refine x_v (r_mv rfl) rfl ?_
          refine x_want rfl rfl rfl ?_
          refine x_c (r_call0 (args := [_]) ⟨rfl, rfl⟩ (nheard_tr) (by repeat (first | exact Gets.done _ | exact Gets.all _ | (apply Gets.step; focus ((repeat (first | exact Pick.head _ _ | apply Pick.tail)); done)) | apply Gets.drop))) rfl ?_
          rintro _ _ ⟨rfl, hRs77⟩
          rw [hRs77]
          refine x_want rfl rfl rfl ?_
          refine x_v (r_eq rfl rfl) rfl ?_
          refine x_v (r_pk_t rfl rfl) rfl ?_
          refine x_v (r_mv rfl) rfl ?_
          refine XL.splitd 80 rfl (fun hg80 => ?_) (fun hg80 => ?_)
          · refine x_want rfl rfl rfl ?_
            refine x_v (r_mv rfl) rfl ?_
            refine x_want rfl rfl rfl ?_
            refine x_c (r_call0 (args := [_]) ⟨rfl, rfl⟩ (ncopy_tr) (by repeat (first | exact Gets.done _ | exact Gets.all _ | (apply Gets.step; focus ((repeat (first | exact Pick.head _ _ | apply Pick.tail)); done)) | apply Gets.drop))) rfl ?_
            rintro _ _ ⟨rfl, hRs82⟩
            rw [hRs82]
            refine x_want rfl rfl rfl ?_
            refine x_v (r_peq_nil Try.underlying23 rfl rfl) rfl ?_
            refine x_v (r_pk_t rfl rfl) rfl ?_
            refine x_v (r_mv rfl) rfl ?_
            refine x_want rfl rfl rfl ?_
            refine x_v (r_lda (l' := [_, _, _, _, _, _, _, _, _, _, _, _, _, _, _, _]) ty41 rfl (by repeat (first | exact Pick.head _ _ | apply Pick.tail)) rfl (Sub.get (by repeat (first | exact Sub.nil _ | apply Sub.take | apply Sub.skip)))) rfl ?_
            refine x_want rfl rfl rfl ?_
            refine x_v (r_bd (vs := []) rfl rfl bd41_z) rfl ?_
            refine x_want rfl rfl rfl ?_
            refine x_c (r_call0 (args := [_, _]) ⟨rfl, rfl, rfl⟩ (same11_tr 0 0 0) (by repeat (first | exact Gets.done _ | exact Gets.all _ | (apply Gets.step; focus ((repeat (first | exact Pick.head _ _ | apply Pick.tail)); done)) | apply Gets.drop))) rfl ?_
            rintro _ _ ⟨rfl, hRs88⟩
            rw [hRs88]
            refine x_v (r_pk_t rfl rfl) rfl ?_
            refine x_v (r_mv rfl) rfl ?_
            refine x_want rfl rfl rfl ?_
            refine x_v (r_mv rfl) rfl ?_
            refine x_want rfl rfl rfl ?_
            refine x_v (r_not rfl) rfl ?_
            refine x_v (r_pk_t rfl rfl) rfl ?_
            refine x_v (r_mv rfl) rfl ?_
            refine x_want rfl rfl rfl ?_
            refine x_v (r_mv rfl) rfl ?_
            refine x_want rfl rfl rfl ?_
            refine x_c (r_call0 (args := [_, _]) ⟨rfl, rfl, rfl⟩ (prim0_tr cb) (by repeat (first | exact Gets.done _ | exact Gets.all _ | (apply Gets.step; focus ((repeat (first | exact Pick.head _ _ | apply Pick.tail)); done)) | apply Gets.drop))) rfl ?_
            rintro _ _ ⟨rfl, rfl⟩
            refine x_want rfl rfl rfl ?_
            refine x_v (r_eq rfl rfl) rfl ?_
            refine x_v (r_pk_t rfl rfl) rfl ?_
            refine x_v (r_as rfl) rfl ?_
            refine XL.nil ?_
            refine hK11 _ _ ?_
            refine XC.keep [(2, _)] ⟨rfl, trivial⟩ ?_
            refine XC.ret ?_
            exact fin1 rfl (congrArg Value.bool (decide_eq_true rfl)) (by repeat (first | exact Gets.done _ | exact Gets.all _ | (apply Gets.step; focus ((repeat (first | exact Pick.head _ _ | apply Pick.tail)); done)) | apply Gets.drop))
          · exfalso; first | omega | exact hg80 rfl | exact hg80 ⟨rfl, rfl⟩ | simp at hg80
        · exfalso; first | omega | exact hg75 rfl | exact hg75 ⟨rfl, rfl⟩ | simp at hg75
      · exfalso; first | omega | exact hg70 rfl | exact hg70 ⟨rfl, rfl⟩ | simp at hg70
    · exfalso; first | omega | exact hg42 rfl | exact hg42 ⟨rfl, rfl⟩ | simp at hg42
end Go.Proofs.Ytheilpcbilnadaa

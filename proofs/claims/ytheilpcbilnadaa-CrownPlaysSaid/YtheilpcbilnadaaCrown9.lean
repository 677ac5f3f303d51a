/- Crowns: answers that the document fixes. -/
import Derived.Test.YtheilpcbilnadaaCrown8
namespace Go.Proofs.Ytheilpcbilnadaa
open Go.Sx
set_option linter.unusedVariables false

def lh0 (mL mO : Nat) (q r : Int) : Lh := ⟨mL, 0, mO, 0, 0, none, 0, 0, none, 0, 0, 0, 0, q, r⟩
theorem fresh_tr {W0 : World} {Fr : List HP} : Tr W0 Try.prog 37 [] Fr (fun v Rs' => ∃ mL mO, v = .agg #[.map (some mL), .int .i64 0, .map (some mO), .int .i64 0, .int .i64 0] ∧ Rs' = mpf mL .string (fun _ => none) :: mpf mO (.int .i64) (fun _ => none) :: Fr) := by
 refine Entry.tr (N := 4) (rs := [.cell 0 88]) ⟨_, Try.func37, rfl, by kernel_rfl, rfl, rfl⟩ rfl ?_
 refine XC.seq fun K1 hK1 => ?_
 refine XC.region ?_
 refine x_a (r_al ty88 rfl) rfl fun b0 => ?_
 refine XL.nil ?_
 refine hK1 _ _ ?_
 refine XC.keep [(0, _)] ⟨rfl, trivial⟩ ?_
 refine XC.seq fun K2 hK2 => ?_
 refine XC.region ?_
 refine x_a (r_mm (.string)) rfl fun b1 => ?_
 refine x_a (r_mm (.int .i64)) rfl fun b2 => ?_
 refine x_v (r_bd (vs := [_, _]) rfl ⟨rfl, rfl, rfl⟩ (bd88_0_2 _ _)) rfl ?_
 refine x_e (r_st ty88 rfl rfl rfl rfl rfl uD oV) ?_
 refine XL.nil ?_
 refine hK2 _ _ ?_
 refine XC.keep [(0, _)] ⟨rfl, trivial⟩ ?_
 refine XC.ret ?_
 exact finc1 ty88 rfl pK (by rfl) (⟨_, _, rfl, rfl⟩) gS
theorem lnew_tr {W0 : World} {Fr : List HP} (q r : Int) (h : 1 ≤ q ∧ q ≤ 65536 ∧ 1 ≤ r ∧ r ≤ 64) : Tr W0 Try.prog 16 [.int .i64 q, .int .i64 r] Fr (fun v Rs' => ∃ b mL mO, v = .tuple #[.pointer (some ⟨b, 0, none⟩), .int .i64 0] ∧ Rs' = blk b 91 (ldc (lh0 mL mO q r)) :: mpf mL .string (fun _ => none) :: mpf mO (.int .i64) (fun _ => none) :: Fr) := by
 refine Entry.tr (N := 25) (rs := [.tmp 4, .tmp 5]) ⟨_, Try.func16, rfl, by kernel_rfl, rfl, rfl⟩ rfl ?_
 refine XC.seq fun K1 hK1 => ?_
 refine XC.region ?_
 refine x_v (r_as rfl) rfl ?_
 refine x_v (r_as rfl) rfl ?_
 refine XL.nil ?_
 refine hK1 _ _ ?_
 refine XC.keep [(0, _), (1, _)] ⟨rfl, rfl, trivial⟩ ?_
 refine XC.seq fun K2 hK2 => ?_
 refine XC.seq fun K3 hK3 => ?_
 refine XC.region ?_
 refine x_v (r_mv rfl) rfl ?_
 refine x_v (r_lt rfl rfl) rfl ?_
 refine x_v (r_mv rfl) rfl ?_
 refine XL.splitd 8 rfl (fun hg8 => ?_) (fun hg8 => ?_)
 ·exfalso; omega
 ·refine x_want rfl rfl rfl ?_
  refine x_v (r_mv rfl) rfl ?_
  refine x_want rfl rfl rfl ?_
  refine x_v (r_gt rfl rfl) rfl ?_
  refine x_v (r_pk_f rfl rfl) rfl ?_
  refine x_v (r_mv rfl) rfl ?_
  refine XL.splitd 12 rfl (fun hg12 => ?_) (fun hg12 => ?_)
  ·exfalso; omega
  ·refine x_want rfl rfl rfl ?_
   refine x_v (r_mv rfl) rfl ?_
   refine x_want rfl rfl rfl ?_
   refine x_v (r_lt rfl rfl) rfl ?_
   refine x_v (r_pk_f rfl rfl) rfl ?_
   refine x_v (r_mv rfl) rfl ?_
   refine XL.splitd 16 rfl (fun hg16 => ?_) (fun hg16 => ?_)
   ·exfalso; omega
   ·refine x_want rfl rfl rfl ?_
    refine x_v (r_mv rfl) rfl ?_
    refine x_want rfl rfl rfl ?_
    refine x_v (r_gt rfl rfl) rfl ?_
    refine x_v (r_pk_f rfl rfl) rfl ?_
    refine XL.nil ?_
    refine hK3 _ _ ?_
    refine XC.keep [(0, _), (1, _), (19, _)] ⟨rfl, rfl, rfl, trivial⟩ ?_
    refine XC.cond_d rfl (fun hc1 => ?_) (fun hc1 => ?_)
    ·exfalso; omega
    ·refine XC.skip ?_
     refine hK2 _ _ ?_
     refine XC.keep [(0, _), (1, _)] ⟨rfl, rfl, trivial⟩ ?_
     refine XC.seq fun K4 hK4 => ?_
     refine XC.region ?_
     refine x_c (r_call0 (args := []) rfl (fresh_tr) gS) rfl ?_
     rintro _ _ ⟨mL, mO, rfl, rfl⟩
     refine x_v (r_mv rfl) rfl ?_
     refine x_v (r_mv rfl) rfl ?_
     refine x_v (r_bd (vs := [_, _, _]) rfl ⟨rfl, rfl, rfl, rfl⟩ (bd91_0_5_6 _ _ _ _ _ _ _)) rfl ?_
     refine x_a (r_bx rfl rfl) rfl fun b24 => ?_
     refine x_v (r_as rfl) rfl ?_
     refine x_v (r_as rfl) rfl ?_
     refine XL.nil ?_
     refine hK4 _ _ ?_
     refine XC.keep [(4, _), (5, _)] ⟨rfl, rfl, trivial⟩ ?_
     refine XC.ret ?_
     exact fin2 rfl rfl (⟨_, mL, mO, rfl, rfl⟩) gS
def gm : Mal := ⟨12, 0, 0, 0, 0, false, [], none, 0, [], [], none, 0, 1, 1, 0, 0, 0, 0, [], none, 0, [], none, 0⟩
theorem aw1 : wantOf ⟨0, 0, 0, 0, 1, 3⟩ 0 = (⟨0, 0, 0, 1, 1, 3⟩, 0) := rfl
theorem aw2 : takeOk ⟨0, 0, 0, 1, 1, 3⟩ gm := ⟨rfl, ⟨rfl, rfl, rfl, rfl, rfl, rfl, by decide, by decide, by decide, by decide, rfl, rfl, rfl, rfl, rfl, rfl, rfl, rfl, .inl (by decide)⟩, by decide⟩
theorem aw3 : takeOf ⟨0, 0, 0, 1, 1, 3⟩ gm = ⟨1, 1, 1, 0, 1, 3⟩ := by unfold takeOf; rw [if_pos aw2]; rfl
theorem aw4 : nextOk ⟨1, 1, 1, 0, 1, 3⟩ 0 := ⟨rfl, by decide⟩
theorem aw5 : nextOf ⟨1, 1, 1, 0, 1, 3⟩ 0 = cmz 4 1 1 := by unfold nextOf; rw [if_pos aw4]
theorem lens0 : Lens gm := ⟨by decide, by decide, by decide, by decide, by decide⟩
theorem awake_tr {W0 : World} {Fr : List HP} : Tr W0 Try.prog 7 [] Fr (fun v Rs' => v = .bool true ∧ Rs' = Fr) := by
 refine Entry.tr (N := 101) (rs := [.tmp 0]) ⟨_, Try.func7, rfl, by kernel_rfl, rfl, rfl⟩ rfl ?_
 refine XC.seq fun K1 hK1 => ?_
 refine XC.region ?_
 refine x_v (r_as rfl) rfl ?_
 refine XL.nil ?_
 refine hK1 _ _ ?_
 refine XC.keep [] trivial ?_
 refine XC.seq fun K2 hK2 => ?_
 refine XC.region ?_
 refine x_c (r_call0 (args := [_, _]) ⟨rfl, rfl, rfl⟩ (cnew_tr 1 3 (by decide)) gS) rfl ?_
 rintro _ _ ⟨cb, rfl, rfl⟩
 refine x_v (r_mv rfl) rfl ?_
 refine x_v (r_ex rfl rfl) rfl ?_
 refine x_v (r_ex rfl rfl) rfl ?_
 refine x_v (r_as rfl) rfl ?_
 refine x_v (r_as rfl) rfl ?_
 refine XL.nil ?_
 refine hK2 _ _ ?_
 refine XC.keep [(1, _), (2, _)] ⟨rfl, rfl, trivial⟩ ?_
 refine XC.seq fun K3 hK3 => ?_
 refine XC.region ?_
 refine x_c (r_call0 (args := [_, _]) ⟨rfl, rfl, rfl⟩ (lnew_tr 100 9 (by decide)) gS) rfl ?_
 rintro _ _ ⟨lb, mL, mO, rfl, rfl⟩
 refine x_v (r_mv rfl) rfl ?_
 refine x_v (r_ex rfl rfl) rfl ?_
 refine x_v (r_ex rfl rfl) rfl ?_
 refine x_v (r_as rfl) rfl ?_
 refine x_v (r_as rfl) rfl ?_
 refine XL.nil ?_
 refine hK3 _ _ ?_
 refine XC.keep [(1, _), (2, _), (3, _)] ⟨rfl, rfl, rfl, trivial⟩ ?_
 refine XC.seq fun K4 hK4 => ?_
 refine XC.seq fun K5 hK5 => ?_
 refine XC.region ?_
 refine x_v (r_mv rfl) rfl ?_
 refine x_v (r_ne rfl rfl) rfl ?_
 refine x_v (r_mv rfl) rfl ?_
 refine XL.splitd 22 rfl (fun hg22 => ?_) (fun hg22 => ?_)
 ·exfalso; omega
 ·refine x_want rfl rfl rfl ?_
  refine x_v (r_mv rfl) rfl ?_
  refine x_want rfl rfl rfl ?_
  refine x_v (r_peq_some Try.underlying23 rfl rfl) rfl ?_
  refine x_v (r_pk_f rfl rfl) rfl ?_
  refine x_v (r_mv rfl) rfl ?_
  refine x_want rfl rfl rfl ?_
  refine x_v (r_mv rfl) rfl ?_
  refine x_want rfl rfl rfl ?_
  refine x_v (r_peq_some Try.underlying54 rfl rfl) rfl ?_
  refine x_v (r_pk_f rfl rfl) rfl ?_
  refine XL.nil ?_
  refine hK5 _ _ ?_
  refine XC.keep [(1, _), (3, _), (29, _)] ⟨rfl, rfl, rfl, trivial⟩ ?_
  refine XC.cond_f rfl ?_
  refine XC.skip ?_
  refine hK4 _ _ ?_
  refine XC.keep [(1, _), (3, _)] ⟨rfl, rfl, trivial⟩ ?_
  refine XC.seq fun K6 hK6 => ?_
  refine XC.region ?_
  refine x_v (r_mv rfl) rfl ?_
  refine x_c (r_call0 (args := [_, _]) ⟨rfl, rfl, rfl⟩ (want_tr (c := ⟨0, 0, 0, 0, 1, 3⟩) cb 0 (by decide)) gS) rfl ?_
  rintro _ _ ⟨rfl, rfl⟩
  rw [aw1]
  dsimp only
  refine x_v (r_as rfl) rfl ?_
  refine XL.nil ?_
  refine hK6 _ _ ?_
  refine XC.keep [(1, _), (3, _), (5, _)] ⟨rfl, rfl, rfl, trivial⟩ ?_
  refine XC.seq fun K7 hK7 => ?_
  refine XC.region ?_
  refine x_v (r_mv rfl) rfl ?_
  refine x_c (r_call0 (args := [_]) ⟨rfl, rfl⟩ (tick_tr (c := ⟨0, 0, 0, 1, 1, 3⟩) cb) gS) rfl ?_
  rintro _ _ ⟨rfl, rfl⟩
  unfold mac
  dsimp only
  refine x_a (r_al ty35 rfl) rfl fun b6 => ?_
  refine x_e (r_st ty35 rfl rfl rfl rfl rfl uD oV) ?_
  refine XL.nil ?_
  refine hK7 _ _ ?_
  refine XC.keep [(1, _), (3, _), (5, _), (6, _)] ⟨rfl, rfl, rfl, rfl, trivial⟩ ?_
  refine XC.seq fun K8 hK8 => ?_
  refine XC.region ?_
  refine x_v (r_mv rfl) rfl ?_
  refine x_v (r_bd (vs := [_, _, _]) rfl ⟨rfl, rfl, rfl, rfl⟩ (bd35_0_9_10 _ _ _)) rfl ?_
  refine x_c (r_call0 (args := [_, _]) ⟨rfl, rfl, rfl⟩ (take_tr (c := ⟨0, 0, 0, 1, 1, 3⟩) cb gm lens0) gS) rfl ?_
  rintro _ _ ⟨rfl, rfl⟩
  rw [aw3, decide_eq_true aw2]
  refine x_v (r_as rfl) rfl ?_
  refine XL.nil ?_
  refine hK8 _ _ ?_
  refine XC.keep [(1, _), (3, _), (5, _), (6, _), (7, _)] ⟨rfl, rfl, rfl, rfl, rfl, trivial⟩ ?_
  refine XC.seq fun K9 hK9 => ?_
  refine XC.region ?_
  refine x_v (r_mv rfl) rfl ?_
  refine x_v (r_mv rfl) rfl ?_
  refine x_c (r_call0 (args := [_, _]) ⟨rfl, rfl, rfl⟩ (next_tr (c := ⟨1, 1, 1, 0, 1, 3⟩) (h := lh0 mL mO 100 9) cb lb) gS) rfl ?_
  rintro _ _ ⟨rfl, rfl⟩
  rw [show (lh0 mL mO 100 9).fence = 0 from rfl, aw5, decide_eq_true aw4]
  unfold cmz
  refine x_v (r_mv rfl) rfl ?_
  refine x_v (r_ex rfl rfl) rfl ?_
  refine x_v (r_ex rfl rfl) rfl ?_
  refine x_a (r_al ty41 rfl) rfl fun b8 => ?_
  refine x_e (r_st ty41 rfl rfl rfl rfl rfl uD oV) ?_
  refine x_v (r_as rfl) rfl ?_
  refine XL.nil ?_
  refine hK9 _ _ ?_
  refine XC.keep [(1, _), (3, _), (5, _), (6, _), (7, _), (8, _), (9, _)] ⟨rfl, rfl, rfl, rfl, rfl, rfl, rfl, trivial⟩ ?_
  refine XC.seq fun K10 hK10 => ?_
  refine XC.region ?_
  refine x_v (r_mv rfl) rfl ?_
  refine x_v (r_mv rfl) rfl ?_
  refine x_c (r_call0 (args := [_, _]) ⟨rfl, rfl, rfl⟩ (prim_tr (c := ⟨1, 1, 1, 0, 1, 3⟩) (h := lh0 mL mO 100 9) cb lb) gS) rfl ?_
  rintro _ _ ⟨rfl, rfl⟩
  rw [show primOf ⟨1, 1, 1, 0, 1, 3⟩ (lh0 mL mO 100 9).hE (lh0 mL mO 100 9).hS (lh0 mL mO 100 9).fence = 220 from rfl]
  refine x_v (r_as rfl) rfl ?_
  refine XL.nil ?_
  refine hK10 _ _ ?_
  refine XC.keep [(1, _), (3, _), (5, _), (6, _), (7, _), (8, _), (9, _), (10, _)] ⟨rfl, rfl, rfl, rfl, rfl, rfl, rfl, rfl, trivial⟩ ?_
  refine XC.seq fun K11 hK11 => ?_
  refine XC.nil_ 39 9 ?_
  refine XC.nil_ 9 1 ?_
  refine XC.region ?_
  refine x_v (r_mv rfl) rfl ?_
  refine x_v (r_lda (l' := [_, _, _, _, _, _, _, _, _, _, _, _, _, _, _, _]) ty41 rfl pK rfl (Sub.get sU)) rfl ?_
  refine x_c (r_call0 (args := [_, _]) ⟨rfl, rfl, rfl⟩ (applyr_tr (k := sl none 0 0 9 1 []) (h := lh0 mL mO 100 9) lb 1 1 [] rfl (by decide) (by show (0:Int) < 1; decide) (by show 0 < 80; decide)) gS) rfl ?_
  rintro _ _ ⟨A2, c2, k2, o3, rfl, rfl, hx2, ho3, hr3⟩
  refine XL.nil ?_
  refine hK11 _ _ ?_
  refine XC.keep [(1, _), (3, _), (5, _), (6, _), (7, _), (9, _), (10, _)] ⟨rfl, rfl, rfl, rfl, rfl, rfl, rfl, trivial⟩ ?_
  refine XC.seq fun K12 hK12 => ?_
  refine XC.region ?_
  refine x_v (r_mv rfl) rfl ?_
  refine x_v (r_mv rfl) rfl ?_
  refine x_c (r_call0 (args := [_, _]) ⟨rfl, rfl, rfl⟩ (prim_tr (c := ⟨1, 1, 1, 0, 1, 3⟩) (h := { lh0 mL mO 100 9 with A := A2, n := (lh0 mL mO 100 9).n + 1, c := c2, hE := 1, hS := 1, fence := 1 }) cb lb) gS) rfl ?_
  rintro _ _ ⟨rfl, rfl⟩
  rw [show primOf ⟨1, 1, 1, 0, 1, 3⟩ _ _ _ = 0 from rfl]
  refine x_v (r_as rfl) rfl ?_
  refine XL.nil ?_
  refine hK12 _ _ ?_
  refine XC.keep [(1, _), (3, _), (5, _), (6, _), (7, _), (9, _), (10, _), (11, _)] ⟨rfl, rfl, rfl, rfl, rfl, rfl, rfl, rfl, trivial⟩ ?_
  refine XC.seq fun K13 hK13 => ?_
  refine XC.region ?_
  refine x_v (r_mv rfl) rfl ?_
  refine x_c (r_call0 (args := [_, _]) ⟨rfl, rfl, rfl⟩ (hear_tr (c := ⟨1, 1, 1, 0, 1, 3⟩) cb 2) gS) rfl ?_
  rintro _ _ ⟨rfl, rfl⟩
  rw [show hearOf ⟨1, 1, 1, 0, 1, 3⟩ 2 = ⟨1, 1, 2, 0, 1, 3⟩ from rfl]
  refine XL.nil ?_
  refine hK13 _ _ ?_
  refine XC.keep [(1, _), (3, _), (5, _), (6, _), (7, _), (9, _), (10, _), (11, _)] ⟨rfl, rfl, rfl, rfl, rfl, rfl, rfl, rfl, trivial⟩ ?_
  refine XC.seq fun K14 hK14 => ?_
  refine XC.region ?_
  refine x_v (r_mv rfl) rfl ?_
  refine x_v (r_eq rfl rfl) rfl ?_
  refine x_v (r_mv rfl) rfl ?_
  refine XL.splitd 56 rfl (fun hg56 => ?_) (fun hg56 => ?_)
  ·refine x_want rfl rfl rfl ?_
   refine x_v (r_fa fo35_0 rfl) rfl ?_
   refine x_want rfl rfl rfl ?_
   refine x_v (r_ld ty3 rfl pK (by rfl)) rfl ?_
   refine x_want rfl rfl rfl ?_
   refine x_v (r_eq rfl rfl) rfl ?_
   refine x_v (r_pk_t rfl rfl) rfl ?_
   refine x_v (r_mv rfl) rfl ?_
   refine XL.splitd 61 rfl (fun hg61 => ?_) (fun hg61 => ?_)
   ·refine x_want rfl rfl rfl ?_
    refine x_v (r_fa fo35_9 rfl) rfl ?_
    refine x_want rfl rfl rfl ?_
    refine x_v (r_ld ty3 rfl pK (by rfl)) rfl ?_
    refine x_want rfl rfl rfl ?_
    refine x_v (r_eq rfl rfl) rfl ?_
    refine x_v (r_pk_t rfl rfl) rfl ?_
    refine x_v (r_mv rfl) rfl ?_
    refine XL.splitd 66 rfl (fun hg66 => ?_) (fun hg66 => ?_)
    ·refine x_want rfl rfl rfl ?_
     refine x_v (r_fa fo35_10 rfl) rfl ?_
     refine x_want rfl rfl rfl ?_
     refine x_v (r_ld ty3 rfl pK (by rfl)) rfl ?_
     refine x_want rfl rfl rfl ?_
     refine x_v (r_eq rfl rfl) rfl ?_
     refine x_v (r_pk_t rfl rfl) rfl ?_
     refine x_v (r_mv rfl) rfl ?_
     refine XL.splitd 71 rfl (fun hg71 => ?_) (fun hg71 => ?_)
     ·refine x_want rfl rfl rfl ?_
      refine x_v (r_mv rfl) rfl ?_
      refine x_v (r_pk_t rfl rfl) rfl ?_
      refine x_v (r_mv rfl) rfl ?_
      refine x_want rfl rfl rfl ?_
      refine x_v (r_mv rfl) rfl ?_
      refine x_v (r_pk_t rfl rfl) rfl ?_
      refine x_v (r_mv rfl) rfl ?_
      refine x_want rfl rfl rfl ?_
      refine x_v (r_mv rfl) rfl ?_
      refine x_want rfl rfl rfl ?_
      refine x_v (r_eq rfl rfl) rfl ?_
      refine x_v (r_pk_t rfl rfl) rfl ?_
      refine x_v (r_mv rfl) rfl ?_
      refine XL.splitd 81 rfl (fun hg81 => ?_) (fun hg81 => ?_)
      ·refine x_want rfl rfl rfl ?_
       refine x_v (r_mv rfl) rfl ?_
       refine x_want rfl rfl rfl ?_
       refine x_v (r_eq rfl rfl) rfl ?_
       refine x_v (r_pk_t rfl rfl) rfl ?_
       refine x_v (r_mv rfl) rfl ?_
       refine XL.splitd 85 rfl (fun hg85 => ?_) (fun hg85 => ?_)
       ·refine x_want rfl rfl rfl ?_
        refine x_v (r_mv rfl) rfl ?_
        refine x_want rfl rfl rfl ?_
        refine x_v (r_mv rfl) rfl ?_
        refine x_want rfl rfl rfl ?_
        refine x_c (r_call0 (args := [_, _]) ⟨rfl, rfl, rfl⟩ (prim_tr (c := ⟨1, 1, 2, 0, 1, 3⟩) (h := { lh0 mL mO 100 9 with A := A2, n := (lh0 mL mO 100 9).n + 1, c := c2, hE := 1, hS := 1, fence := 1 }) cb lb) gS) rfl ?_
        rintro _ _ ⟨rfl, rfl⟩
        rw [show primOf ⟨1, 1, 2, 0, 1, 3⟩ _ _ _ = 120 from rfl]
        refine x_want rfl rfl rfl ?_
        refine x_v (r_eq rfl rfl) rfl ?_
        refine x_v (r_pk_t rfl rfl) rfl ?_
        refine x_v (r_mv rfl) rfl ?_
        refine XL.splitd 91 rfl (fun hg91 => ?_) (fun hg91 => ?_)
        ·refine x_want rfl rfl rfl ?_
         refine x_v (r_mv rfl) rfl ?_
         refine x_want rfl rfl rfl ?_
         refine x_c (r_call0 (args := [_]) ⟨rfl, rfl⟩ (wants_tr (c := ⟨1, 1, 2, 0, 1, 3⟩) cb) gS) rfl ?_
         rintro _ _ ⟨rfl, rfl⟩
         refine x_want rfl rfl rfl ?_
         refine x_v (r_eq rfl rfl) rfl ?_
         refine x_v (r_pk_t rfl rfl) rfl ?_
         refine x_v (r_mv rfl) rfl ?_
         refine XL.splitd 96 rfl (fun hg96 => ?_) (fun hg96 => ?_)
         ·refine x_want rfl rfl rfl ?_
          refine x_v (r_mv rfl) rfl ?_
          refine x_want rfl rfl rfl ?_
          refine x_c (r_call0 (args := [_]) ⟨rfl, rfl⟩ (heard_tr (c := ⟨1, 1, 2, 0, 1, 3⟩) cb) gS) rfl ?_
          rintro _ _ ⟨rfl, rfl⟩
          refine x_want rfl rfl rfl ?_
          refine x_v (r_eq rfl rfl) rfl ?_
          refine x_v (r_pk_t rfl rfl) rfl ?_
          refine x_v (r_as rfl) rfl ?_
          refine XL.nil ?_
          refine hK14 _ _ ?_
          refine XC.keep [(0, _)] ⟨rfl, trivial⟩ ?_
          refine XC.ret ?_
          exact fin1 rfl (⟨congrArg Value.bool (decide_eq_true (by first | omega | rfl)), rfl⟩) gS
         ·exfalso; first | omega | exact hg96 rfl | simp at hg96
        ·exfalso; first | omega | exact hg91 rfl | simp at hg91
       ·exfalso; first | omega | exact hg85 rfl | simp at hg85
      ·exfalso; first | omega | exact hg81 rfl | simp at hg81
     ·exfalso; first | omega | exact hg71 rfl | simp at hg71
    ·exfalso; first | omega | exact hg66 rfl | simp at hg66
   ·exfalso; first | omega | exact hg61 rfl | simp at hg61
  ·exfalso; first | omega | exact hg56 rfl | simp at hg56
end Go.Proofs.Ytheilpcbilnadaa

/- Crowns: ledgers: a command is done. -/
import Derived.Test.YtheilpcbilnadaaCrown26
namespace Go.Proofs.Ytheilpcbilnadaa
open Go.Sx
set_option linter.unusedVariables false

noncomputable def applyL (l : Ls) (c : Cm) : Ls := if cmdOk c = false then l else if c.kind = 1 then doL l c else if c.kind = 3 then shipL l c else if c.kind = 4 then reignL l c else l
theorem ap_no {l : Ls} {c : Cm} (h : cmdOk c = false) : applyL l c = l := by unfold applyL; rw [if_pos h]
theorem ap1 {l : Ls} {c : Cm} (h : cmdOk c = true) (hk : c.kind = 1) : applyL l c = doL l c := by unfold applyL; rw [if_neg (by rw [h]; decide), if_pos hk]
theorem ap3 {l : Ls} {c : Cm} (h : cmdOk c = true) (hk : c.kind = 3) : applyL l c = shipL l c := by unfold applyL; rw [if_neg (by rw [h]; decide), if_neg (by omega), if_pos hk]
theorem ap4 {l : Ls} {c : Cm} (h : cmdOk c = true) (hk : c.kind = 4) : applyL l c = reignL l c := by unfold applyL; rw [if_neg (by rw [h]; decide), if_neg (by omega), if_neg (by omega), if_pos hk]
theorem apn {l : Ls} {c : Cm} (h : cmdOk c = true) (h1 : ¬ c.kind = 1) (h3 : ¬ c.kind = 3) (h4 : ¬ c.kind = 4) : applyL l c = l := by unfold applyL; rw [if_neg (by rw [h]; decide), if_neg h1, if_neg h3, if_neg h4]
/-- A command that can be read in what is laid by. -/
structure RdC (W0 : World) (k : HP) (c : Cm) : Prop where
 op : RdO W0 k c.op
 rd : Rdb W0 [k] c.pA c.ops.length 9 (cells odc c.ops)
 el : ∀ o ∈ c.ops, RdO W0 k o
 ln : c.ops.length ≤ 1466015503701
 cap : c.ops.length ≤ c.pc
theorem apply_tr {W0 : World} {Fr : List HP} {k : HP} {l : Ls} {h : Lh} {gL gO : Value → Option Value} {L G : List Od} (b : Nat) (c : Cm) (hl : LI W0 k l h gL gO L G) (hc : RdC W0 k c) (hroom : l.room ≤ 64) (hln : h.ln ≤ 400000) :
  Tr W0 Try.prog 21 [.pointer (some ⟨b, 0, none⟩), .agg (cmc c).toArray] (blk b 91 (ldc h) :: mpf h.mL .string gL :: mpf h.mO (.int .i64) gO :: sl h.A h.n h.c 39 9 (cells odc L) :: sl h.lA h.ln h.lc 39 9 (cells odc G) :: k :: Fr) (LPost W0 k Fr b h.ln (applyL l c)) := by
 have hlen := hl.len
 have hpl := hl.p.len
 refine Entry.tr (N := 40) (rs := [.cell 4 62]) ⟨_, Try.func21, rfl, by kernel_rfl, rfl, rfl⟩ rfl ?_
 refine XC.seq fun K1 hK1 => ?_
 refine XC.region ?_
 refine x_a (r_bx rfl rfl) rfl fun b3 => ?_
 unfold cmc
 refine x_a (r_al ty62 rfl) rfl fun b4 => ?_
 refine XL.nil ?_
 refine hK1 _ _ ?_
 refine XC.keep [(0, _), (3, _), (4, _)] ⟨rfl, rfl, rfl, trivial⟩ ?_
 refine XC.seq fun K2 hK2 => ?_
 refine XC.seq fun K3 hK3 => ?_
 refine XC.region ?_
 refine x_v (r_mv rfl) rfl ?_
 refine x_v (r_peq_some Try.underlying54 rfl rfl) rfl ?_
 refine XL.nil ?_
 refine hK3 _ _ ?_
 refine XC.keep [(0, _), (3, _), (4, _), (7, _)] ⟨rfl, rfl, rfl, rfl, trivial⟩ ?_
 refine XC.cond_f rfl ?_
 refine XC.skip ?_
 refine hK2 _ _ ?_
 refine XC.keep [(0, _), (3, _), (4, _)] ⟨rfl, rfl, rfl, trivial⟩ ?_
 refine XC.seq fun K4 hK4 => ?_
 refine XC.seq fun K5 hK5 => ?_
 refine XC.region ?_
 refine x_v (r_lda (l' := [_, _, _, _, _, _, _, _, _, _, _, _, _, _, _, _]) ty41 rfl pK rfl (Sub.get sU)) rfl ?_
 refine x_c (r_call0 (args := [_]) ⟨rfl, rfl⟩ (check_tr (k := k) c hc.op hc.rd hc.el hc.ln) gS) rfl ?_
 rintro _ _ ⟨rfl, rfl⟩
 refine x_v (r_as rfl) rfl ?_
 refine XL.nil ?_
 refine hK5 _ _ ?_
 refine XC.keep [(0, _), (3, _), (4, _), (5, _)] ⟨rfl, rfl, rfl, rfl, trivial⟩ ?_
 refine XC.seq fun K6 hK6 => ?_
 refine XC.region ?_
 refine x_v (r_mv rfl) rfl ?_
 refine x_v (r_ne rfl rfl) rfl ?_
 refine XL.nil ?_
 refine hK6 _ _ ?_
 refine XC.keep [(0, _), (3, _), (4, _), (5, _), (12, _)] ⟨rfl, rfl, rfl, rfl, rfl, trivial⟩ ?_
 refine XC.cond_d rfl (fun hc2 => ?_) (fun hc2 => ?_)
 ·refine XC.seq fun K7 hK7 => ?_
  refine XC.region ?_
  refine x_v (r_mv rfl) rfl ?_
  refine x_c (r_call0 (args := [_]) ⟨rfl, rfl⟩ (failed_tr _) gS) rfl ?_
  rintro _ _ ⟨rfl, rfl⟩
  refine x_e (r_st ty62 rfl rfl rfl rfl rfl uD oV) ?_
  refine XL.nil ?_
  refine hK7 _ _ ?_
  refine XC.keep [(4, _)] ⟨rfl, trivial⟩ ?_
  refine XC.ret ?_
  rw [ap_no (if03n hc2)]
  exact finc1 ty62 rfl pK (by rfl) (⟨h, gL, gO, L, G, k, ⟨_, _, _, rfl⟩, rfl, Ex.refl W0 k, hl, by omega⟩) gS
 ·refine XC.skip ?_
  refine hK4 _ _ ?_
  refine XC.keep [(0, _), (3, _), (4, _)] ⟨rfl, rfl, rfl, trivial⟩ ?_
  refine XC.seq fun K8 hK8 => ?_
  refine XC.seq fun K9 hK9 => ?_
  have hok : cmdOk c = true := if03y hc2
  refine XC.region ?_
  refine x_v (r_fa fo41_0 rfl) rfl ?_
  refine x_v (r_ld ty3 rfl pK (by rfl)) rfl ?_
  refine XL.nil ?_
  refine hK9 _ _ ?_
  refine XC.keep [(0, _), (3, _), (4, _), (16, _)] ⟨rfl, rfl, rfl, rfl, trivial⟩ ?_
  refine XC.block ?_
  refine XC.seq fun K10 hK10 => ?_
  refine XC.region ?_
  refine x_v (r_eq rfl rfl) rfl ?_
  refine x_v (r_as rfl) rfl ?_
  refine XL.nil ?_
  refine hK10 _ _ ?_
  refine XC.keep [(0, _), (3, _), (4, _), (16, _), (17, _)] ⟨rfl, rfl, rfl, rfl, rfl, trivial⟩ ?_
  refine XC.cond_d rfl (fun hc3 => ?_) (fun hc3 => ?_)
  ·refine XC.seq fun K11 hK11 => ?_
   refine XC.region ?_
   refine x_v (r_mv rfl) rfl ?_
   refine x_v (r_lda (l' := [_, _, _, _, _, _, _, _, _, _, _, _, _, _, _, _]) ty41 rfl pK rfl (Sub.get sU)) rfl ?_
   refine x_c (r_call0 (args := [_, _]) ⟨rfl, rfl, rfl⟩ (do_tr (k := k) b c hl hc.op (by (have := ck1 hc3; rw [hok] at this; cases hq : opOk (opIn c) with | true => rfl | false => (rw [hq, Bool.and_false] at this; cases this))) hroom) gS) rfl ?_
   rintro _ _ ⟨h2, gL2, gO2, L2, G2, k2, ⟨a2, d2, f2, rfl⟩, rfl, hx2, hl2, hln2⟩
   refine x_e (r_st ty62 rfl rfl rfl rfl rfl uD oV) ?_
   refine XL.nil ?_
   refine hK11 _ _ ?_
   refine XC.keep [(4, _)] ⟨rfl, trivial⟩ ?_
   refine XC.ret ?_
   rw [ap1 hok hc3]
   exact finc1 ty62 rfl pK (by rfl) (⟨h2, gL2, gO2, L2, G2, k2, ⟨_, _, _, rfl⟩, rfl, hx2, hl2, hln2⟩) gS
  ·refine XC.seq fun K12 hK12 => ?_
   refine XC.region ?_
   refine x_v (r_eq rfl rfl) rfl ?_
   refine x_v (r_as rfl) rfl ?_
   refine XL.nil ?_
   refine hK12 _ _ ?_
   refine XC.keep [(0, _), (3, _), (4, _), (16, _), (22, _)] ⟨rfl, rfl, rfl, rfl, rfl, trivial⟩ ?_
   refine XC.cond_d rfl (fun hc4 => ?_) (fun hc4 => ?_)
   ·refine XC.seq fun K13 hK13 => ?_
    refine XC.region ?_
    refine x_v (r_mv rfl) rfl ?_
    refine x_v (r_lda (l' := [_, _, _, _, _, _, _, _, _, _, _, _, _, _, _, _]) ty41 rfl pK rfl (Sub.get sU)) rfl ?_
    refine x_c (r_call0 (args := [_, _]) ⟨rfl, rfl, rfl⟩ (ship_tr (k := k) b c hl hc.rd hc.el hc.cap (by (have := ck3 hc4; rw [hok] at this; exact of_decide_eq_true (Bool.and_eq_true_iff.1 this.symm).1)) (by (have := ck3 hc4; rw [hok] at this; exact (Bool.and_eq_true_iff.1 (Bool.and_eq_true_iff.1 this.symm).2).1)) hln) gS) rfl ?_
    rintro _ _ ⟨h2, gL2, gO2, L2, G2, k2, ⟨a2, d2, f2, rfl⟩, rfl, hx2, hl2, hln2⟩
    refine x_e (r_st ty62 rfl rfl rfl rfl rfl uD oV) ?_
    refine XL.nil ?_
    refine hK13 _ _ ?_
    refine XC.keep [(4, _)] ⟨rfl, trivial⟩ ?_
    refine XC.ret ?_
    rw [ap3 hok hc4]
    exact finc1 ty62 rfl pK (by rfl) (⟨h2, gL2, gO2, L2, G2, k2, ⟨_, _, _, rfl⟩, rfl, hx2, hl2, hln2⟩) gS
   ·refine XC.seq fun K14 hK14 => ?_
    refine XC.region ?_
    refine x_v (r_eq rfl rfl) rfl ?_
    refine x_v (r_as rfl) rfl ?_
    refine XL.nil ?_
    refine hK14 _ _ ?_
    refine XC.keep [(0, _), (3, _), (4, _), (16, _), (27, _)] ⟨rfl, rfl, rfl, rfl, rfl, trivial⟩ ?_
    refine XC.cond_d rfl (fun hc5 => ?_) (fun hc5 => ?_)
    ·refine XC.seq fun K15 hK15 => ?_
     refine XC.region ?_
     refine x_v (r_mv rfl) rfl ?_
     refine x_v (r_lda (l' := [_, _, _, _, _, _, _, _, _, _, _, _, _, _, _, _]) ty41 rfl pK rfl (Sub.get sU)) rfl ?_
     refine x_c (r_call0 (args := [_, _]) ⟨rfl, rfl, rfl⟩ (lreign_tr (k := k) b c hl (by (have := ck4 hc5; rw [hok] at this; exact (of_decide_eq_true this.symm).2.2.2))) gS) rfl ?_
     rintro _ _ ⟨h2, gL2, gO2, L2, G2, k2, ⟨a2, d2, f2, rfl⟩, rfl, hx2, hl2, hln2⟩
     refine x_e (r_st ty62 rfl rfl rfl rfl rfl uD oV) ?_
     refine XL.nil ?_
     refine hK15 _ _ ?_
     refine XC.keep [(4, _)] ⟨rfl, trivial⟩ ?_
     refine XC.ret ?_
     rw [ap4 hok hc5]
     exact finc1 ty62 rfl pK (by rfl) (⟨h2, gL2, gO2, L2, G2, k2, ⟨_, _, _, rfl⟩, rfl, hx2, hl2, hln2⟩) gS
    ·refine XC.seq fun K16 hK16 => ?_
     refine XC.region ?_
     refine x_v (r_eq rfl rfl) rfl ?_
     refine x_v (r_as rfl) rfl ?_
     refine XL.nil ?_
     refine hK16 _ _ ?_
     refine XC.keep [(0, _), (3, _), (4, _), (32, _)] ⟨rfl, rfl, rfl, rfl, trivial⟩ ?_
     refine XC.cond_d rfl (fun hc6 => ?_) (fun hc6 => ?_)
     ·refine XC.seq fun K17 hK17 => ?_
      refine XC.region ?_
      refine x_v (r_mv rfl) rfl ?_
      refine x_v (r_lda (l' := [_, _, _, _, _, _, _, _, _, _, _, _, _, _, _, _]) ty41 rfl pK rfl (Sub.get sU)) rfl ?_
      refine x_c (r_call0 (args := [_, _]) ⟨rfl, rfl, rfl⟩ (mark_tr (k := k) b c hl (by (have := ck5 hc6; rw [hok] at this; exact of_decide_eq_true this.symm))) gS) rfl ?_
      rintro _ _ ⟨h2, gL2, gO2, L2, G2, k2, ⟨a2, d2, f2, rfl⟩, rfl, hx2, hl2, hln2⟩
      refine x_e (r_st ty62 rfl rfl rfl rfl rfl uD oV) ?_
      refine XL.nil ?_
      refine hK17 _ _ ?_
      refine XC.keep [(4, _)] ⟨rfl, trivial⟩ ?_
      refine XC.ret ?_
      rw [apn hok hc3 hc4 hc5]
      exact finc1 ty62 rfl pK (by rfl) (⟨h2, gL2, gO2, L2, G2, k2, ⟨_, _, _, rfl⟩, rfl, hx2, hl2, hln2⟩) gS
     ·refine XC.skip ?_
      refine hK8 _ _ ?_
      refine XC.keep [(0, _), (4, _)] ⟨rfl, rfl, trivial⟩ ?_
      refine XC.seq fun K18 hK18 => ?_
      refine XC.region ?_
      refine x_v (r_mv rfl) rfl ?_
      refine x_c (r_call0 (args := [_]) ⟨rfl, rfl⟩ (last_tr (h := h) b hl.n (by omega)) gS) rfl ?_
      rintro _ _ ⟨⟨n38, e38, rfl⟩, rfl⟩
      refine x_v (r_bd (vs := [_]) rfl ⟨rfl, rfl⟩ (bd62_1 _ _)) rfl ?_
      refine x_e (r_st ty62 rfl rfl rfl rfl rfl uD oV) ?_
      refine XL.nil ?_
      refine hK18 _ _ ?_
      refine XC.keep [(4, _)] ⟨rfl, trivial⟩ ?_
      refine XC.ret ?_
      rw [apn hok hc3 hc4 hc5]
      exact finc1 ty62 rfl pK (by rfl) (⟨h, gL, gO, L, G, k, ⟨_, _, _, rfl⟩, rfl, Ex.refl W0 k, hl, by omega⟩) gS
end Go.Proofs.Ytheilpcbilnadaa

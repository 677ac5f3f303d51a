/- Crowns: the program's answers are the reference's (function 4). -/
import Derived.Test.YtheilpcbilnadaaCrown35
namespace Go.Proofs.Ytheilpcbilnadaa
open Go.Sx
set_option linter.unusedVariables false

theorem same11c_tr {W0 : World} {Fr : List HP} (c : Cw) (f : Int) : Tr W0 Try.prog 28 [.agg (cmc (nextC c f)).toArray, .agg (cmc (nextC c f)).toArray] Fr (fun v Rs' => v = .bool true ∧ Rs' = Fr) := by
 rw [← next_c]; exact same11n_tr c f
theorem plays_bad {W0 : World} {Fr : List HP} (st ep : Int) (XA : Option Addr) (xc n : Nat) (hne : ¬ newOk st ep) : Tr W0 Try.prog 4 [.int .i64 st, .int .i64 ep, .slice XA n xc] Fr (fun v Rs' => v = .bool true) := by
 refine Entry.tr (N := 210) (rs := [.tmp 6]) ⟨_, Try.func4, rfl, by kernel_rfl, rfl, rfl⟩ rfl ?_
 refine XC.seq fun K1 hK1 => ?_
 refine XC.region ?_
 refine x_v (r_as rfl) rfl ?_
 refine XL.nil ?_
 refine hK1 _ _ ?_
 refine XC.keep [(0, _), (1, _), (2, _)] ⟨rfl, rfl, rfl, trivial⟩ ?_
 refine XC.seq fun K2 hK2 => ?_
 refine XC.region ?_
 refine x_v (r_mv rfl) rfl ?_
 refine x_v (r_mv rfl) rfl ?_
 refine x_c (r_call0 (args := [_, _]) ⟨rfl, rfl, rfl⟩ (cnewbad_tr st ep hne) gS) rfl ?_
 rintro _ _ ⟨rfl, hRs29⟩
 rw [hRs29]
 refine x_v (r_mv rfl) rfl ?_
 refine x_v (r_ex rfl rfl) rfl ?_
 refine x_v (r_ex rfl rfl) rfl ?_
 refine x_v (r_as rfl) rfl ?_
 refine x_v (r_as rfl) rfl ?_
 refine XL.nil ?_
 refine hK2 _ _ ?_
 refine XC.keep [(0, _), (1, _), (2, _), (7, _), (8, _)] ⟨rfl, rfl, rfl, rfl, rfl, trivial⟩ ?_
 refine XC.seq fun K3 hK3 => ?_
 refine XC.region ?_
 refine x_v (r_mv rfl) rfl ?_
 refine x_v (r_mv rfl) rfl ?_
 refine x_c (r_call0 (args := [_, _]) ⟨rfl, rfl, rfl⟩ (wnewbad_tr st ep hne) gS) rfl ?_
 rintro _ _ ⟨rfl, hRs35⟩
 rw [hRs35]
 refine x_v (r_mv rfl) rfl ?_
 refine x_v (r_ex rfl rfl) rfl ?_
 refine x_v (r_ex rfl rfl) rfl ?_
 refine x_v (r_as rfl) rfl ?_
 refine x_v (r_as rfl) rfl ?_
 refine XL.nil ?_
 refine hK3 _ _ ?_
 refine XC.keep [(2, _), (7, _), (8, _), (9, _), (10, _)] ⟨rfl, rfl, rfl, rfl, rfl, trivial⟩ ?_
 refine XC.seq fun K4 hK4 => ?_
 refine XC.seq fun K5 hK5 => ?_
 refine XC.region ?_
 refine x_c (r_call0 (args := []) rfl (awake_tr) gS) rfl ?_
 rintro _ _ ⟨rfl, hRs⟩
 rw [hRs]
 refine x_v (r_not rfl) rfl ?_
 refine x_v (r_mv rfl) rfl ?_
 refine x_want rfl rfl rfl ?_
 refine x_v (r_mv rfl) rfl ?_
 refine x_want rfl rfl rfl ?_
 refine x_v (r_mv rfl) rfl ?_
 refine x_want rfl rfl rfl ?_
 refine x_v (r_ne rfl rfl) rfl ?_
 refine x_v (r_pk_f rfl rfl) rfl ?_
 refine x_v (r_mv rfl) rfl ?_
 refine XL.splitd 45 rfl (fun hg45 => ?_) (fun hg45 => ?_)
 ·exfalso; exact hg45 rfl
 ·refine x_want rfl rfl rfl ?_
  refine x_v (r_mv rfl) rfl ?_
  refine x_want rfl rfl rfl ?_
  refine x_v (r_peq_nil Try.underlying23 rfl rfl) rfl ?_
  refine x_want rfl rfl rfl ?_
  refine x_v (r_mv rfl) rfl ?_
  refine x_want rfl rfl rfl ?_
  refine x_v (r_ne rfl rfl) rfl ?_
  refine x_want rfl rfl rfl ?_
  refine x_v (r_bne Try.underlying4 rfl rfl) rfl ?_
  refine x_v (r_pk_f rfl rfl) rfl ?_
  refine XL.nil ?_
  refine hK5 _ _ ?_
  refine XC.keep [(2, _), (7, _), (9, _), (51, _)] ⟨rfl, rfl, rfl, rfl, trivial⟩ ?_
  refine XC.cond rfl (fun hc1 => ?_) (fun hc1 => ?_)
  ·exfalso; simp at hc1
  ·refine XC.skip ?_
   refine hK4 _ _ ?_
   refine XC.keep [(2, _), (7, _), (9, _)] ⟨rfl, rfl, rfl, trivial⟩ ?_
   refine XC.seq fun K6 hK6 => ?_
   refine XC.seq fun K7 hK7 => ?_
   refine XC.region ?_
   refine x_v (r_mv rfl) rfl ?_
   refine x_v (r_peq_nil Try.underlying23 rfl rfl) rfl ?_
   refine x_v (r_mv rfl) rfl ?_
   refine x_unwant rfl rfl rfl rfl rfl ?_
   refine x_unwant rfl rfl rfl rfl rfl ?_
   refine x_unwant rfl rfl rfl rfl rfl ?_
   refine x_v (r_pk_t rfl rfl) rfl ?_
   refine XL.nil ?_
   refine hK7 _ _ ?_
   refine XC.keep [(2, _), (7, _), (9, _), (58, _)] ⟨rfl, rfl, rfl, rfl, trivial⟩ ?_
   refine XC.cond_t rfl ?_
   refine XC.seq fun K8 hK8 => ?_
   refine XC.region ?_
   refine x_v (r_as rfl) rfl ?_
   refine XL.nil ?_
   refine hK8 _ _ ?_
   refine XC.keep [(6, _)] ⟨rfl, trivial⟩ ?_
   refine XC.ret ?_
   exact fin1 rfl (rfl) gS
set_option maxHeartbeats 4000000 in
theorem plays_tr {W0 : World} {Fr : List HP} (st ep : Int) (XA : Option Addr) (xc : Nat) (T : List Tp) (hr : ∀ Fr, Rdb W0 Fr XA T.length 35 (cells tpc T)) (hok : ∀ t ∈ T, OkM W0 t.m ∧ OkC W0 t.c) (hcap : ∀ t ∈ T, t.c.ops.length ≤ t.c.pc) (hne : newOk st ep) : Tr W0 Try.prog 4 [.int .i64 st, .int .i64 ep, .slice XA T.length xc] Fr (fun v Rs' => v = .bool true) := by
 have hne' : 0 ≤ st ∧ st < 2 ∧ 1 ≤ ep ∧ ep ≤ 16 := hne
 refine Entry.tr (N := 210) (rs := [.tmp 6]) ⟨_, Try.func4, rfl, by kernel_rfl, rfl, rfl⟩ rfl ?_
 refine XC.seq fun K1 hK1 => ?_
 refine XC.region ?_
 refine x_v (r_as rfl) rfl ?_
 refine XL.nil ?_
 refine hK1 _ _ ?_
 refine XC.keep [(0, _), (1, _), (2, _)] ⟨rfl, rfl, rfl, trivial⟩ ?_
 refine XC.seq fun K2 hK2 => ?_
 refine XC.region ?_
 refine x_v (r_mv rfl) rfl ?_
 refine x_v (r_mv rfl) rfl ?_
 refine x_c (r_call0 (args := [_, _]) ⟨rfl, rfl, rfl⟩ (cnew_tr st ep hne) gS) rfl ?_
 rintro _ _ ⟨cb0, rfl, rfl⟩
 refine x_v (r_mv rfl) rfl ?_
 refine x_v (r_ex rfl rfl) rfl ?_
 refine x_v (r_ex rfl rfl) rfl ?_
 refine x_v (r_as rfl) rfl ?_
 refine x_v (r_as rfl) rfl ?_
 refine XL.nil ?_
 refine hK2 _ _ ?_
 refine XC.keep [(0, _), (1, _), (2, _), (7, _), (8, _)] ⟨rfl, rfl, rfl, rfl, rfl, trivial⟩ ?_
 refine XC.seq fun K3 hK3 => ?_
 refine XC.region ?_
 refine x_v (r_mv rfl) rfl ?_
 refine x_v (r_mv rfl) rfl ?_
 refine x_c (r_call0 (args := [_, _]) ⟨rfl, rfl, rfl⟩ (wnew_tr st ep hne) gS) rfl ?_
 rintro _ _ ⟨wb, rfl, rfl⟩
 refine x_v (r_mv rfl) rfl ?_
 refine x_v (r_ex rfl rfl) rfl ?_
 refine x_v (r_ex rfl rfl) rfl ?_
 refine x_v (r_as rfl) rfl ?_
 refine x_v (r_as rfl) rfl ?_
 refine XL.nil ?_
 refine hK3 _ _ ?_
 refine XC.keep [(2, _), (7, _), (8, _), (9, _), (10, _)] ⟨rfl, rfl, rfl, rfl, rfl, trivial⟩ ?_
 refine XC.seq fun K4 hK4 => ?_
 refine XC.seq fun K5 hK5 => ?_
 refine XC.region ?_
 refine x_c (r_call0 (args := []) rfl (awake_tr) gS) rfl ?_
 rintro _ _ ⟨rfl, rfl⟩
 refine x_v (r_not rfl) rfl ?_
 refine x_v (r_mv rfl) rfl ?_
 refine x_want rfl rfl rfl ?_
 refine x_v (r_mv rfl) rfl ?_
 refine x_want rfl rfl rfl ?_
 refine x_v (r_mv rfl) rfl ?_
 refine x_want rfl rfl rfl ?_
 refine x_v (r_ne rfl rfl) rfl ?_
 refine x_v (r_pk_f rfl rfl) rfl ?_
 refine x_v (r_mv rfl) rfl ?_
 refine XL.splitd 45 rfl (fun hg45 => ?_) (fun hg45 => ?_)
 ·exfalso; exact hg45 rfl
 ·refine x_want rfl rfl rfl ?_
  refine x_v (r_mv rfl) rfl ?_
  refine x_want rfl rfl rfl ?_
  refine x_v (r_peq_some Try.underlying23 rfl rfl) rfl ?_
  refine x_want rfl rfl rfl ?_
  refine x_v (r_mv rfl) rfl ?_
  refine x_want rfl rfl rfl ?_
  refine x_v (r_ne rfl rfl) rfl ?_
  refine x_want rfl rfl rfl ?_
  refine x_v (r_bne Try.underlying4 rfl rfl) rfl ?_
  refine x_v (r_pk_f rfl rfl) rfl ?_
  refine XL.nil ?_
  refine hK5 _ _ ?_
  refine XC.keep [(2, _), (7, _), (9, _), (51, _)] ⟨rfl, rfl, rfl, rfl, trivial⟩ ?_
  refine XC.cond rfl (fun hc1 => ?_) (fun hc1 => ?_)
  ·exfalso; simp at hc1
  ·refine XC.skip ?_
   refine hK4 _ _ ?_
   refine XC.keep [(2, _), (7, _), (9, _)] ⟨rfl, rfl, rfl, trivial⟩ ?_
   refine XC.seq fun K6 hK6 => ?_
   refine XC.seq fun K7 hK7 => ?_
   refine XC.region ?_
   refine x_v (r_mv rfl) rfl ?_
   refine x_v (r_peq_some Try.underlying23 rfl rfl) rfl ?_
   refine x_v (r_mv rfl) rfl ?_
   refine x_want rfl rfl rfl ?_
   refine x_v (r_mv rfl) rfl ?_
   refine x_want rfl rfl rfl ?_
   refine x_v (r_lensl Try.underlying22 rfl) rfl ?_
   refine x_want rfl rfl rfl ?_
   refine x_v (r_gt rfl rfl) rfl ?_
   refine x_v (r_pk_f rfl rfl) rfl ?_
   refine XL.nil ?_
   refine hK7 _ _ ?_
   refine XC.keep [(2, _), (7, _), (9, _), (58, _)] ⟨rfl, rfl, rfl, rfl, trivial⟩ ?_
   refine XC.cond_d rfl (fun hc2 => ?_) (fun hc2 => ?_)
   ·refine XC.seq fun K8 hK8 => ?_
    refine XC.region ?_
    refine x_v (r_as rfl) rfl ?_
    refine XL.nil ?_
    refine hK8 _ _ ?_
    refine XC.keep [(6, _)] ⟨rfl, trivial⟩ ?_
    refine XC.ret ?_
    exact fin1 rfl (rfl) gS
   ·refine XC.skip ?_
    refine hK6 _ _ ?_
    refine XC.keep [(2, _), (7, _), (9, _)] ⟨rfl, rfl, rfl, trivial⟩ ?_
    refine XC.seq fun K9 hK9 => ?_
    refine XC.region ?_
    refine x_c (r_call0 (args := [_, _]) ⟨rfl, rfl, rfl⟩ (lnew_tr 1000 64 (by decide)) gS) rfl ?_
    rintro _ _ ⟨lb, mL, mO, rfl, rfl⟩
    refine x_v (r_mv rfl) rfl ?_
    refine x_v (r_ex rfl rfl) rfl ?_
    refine x_v (r_ex rfl rfl) rfl ?_
    refine x_v (r_as rfl) rfl ?_
    refine x_v (r_as rfl) rfl ?_
    refine XL.nil ?_
    refine hK9 _ _ ?_
    refine XC.keep [(2, _), (7, _), (9, _), (11, _)] ⟨rfl, rfl, rfl, rfl, trivial⟩ ?_
    refine XC.seq fun K10 hK10 => ?_
    refine XC.region ?_
    refine x_c (r_call0 (args := [_, _]) ⟨rfl, rfl, rfl⟩ (rnew_tr 1000 64 (by decide)) gS) rfl ?_
    rintro _ _ ⟨rb, rfl, rfl⟩
    refine x_v (r_mv rfl) rfl ?_
    refine x_v (r_ex rfl rfl) rfl ?_
    refine x_v (r_ex rfl rfl) rfl ?_
    refine x_v (r_as rfl) rfl ?_
    refine x_v (r_as rfl) rfl ?_
    refine XL.nil ?_
    refine hK10 _ _ ?_
    refine XC.keep [(2, _), (7, _), (9, _), (11, _), (13, _)] ⟨rfl, rfl, rfl, rfl, rfl, trivial⟩ ?_
    refine XC.seq fun K11 hK11 => ?_
    refine XC.seq fun K12 hK12 => ?_
    refine XC.nil_ 39 9 ?_
    refine XC.nil_ 39 9 ?_
    refine XC.nil_ 39 9 ?_
    refine XC.nil_ 39 9 ?_
    refine XC.nil_ 39 9 ?_
    refine XC.region ?_
    refine x_v (r_mv rfl) rfl ?_
    refine x_v (r_lensl Try.underlying22 rfl) rfl ?_
    refine x_v (r_mv rfl) rfl ?_
    refine XL.nil ?_
    refine hK12 _ _ ?_
    refine XC.keep [(7, _), (9, _), (11, _), (13, _), (67, _), (68, _), (69, _)] ⟨rfl, rfl, rfl, rfl, rfl, rfl, rfl, trivial⟩ ?_
    refine XC.block ?_
    refine XC.loop (σ := Nat × St) (fun s => [(7, .pointer (some ⟨s.2.cb, 0, none⟩)), (9, .pointer (some ⟨wb, 0, none⟩)), (11, .pointer (some ⟨lb, 0, none⟩)), (13, .pointer (some ⟨rb, 0, none⟩)), (67, .slice XA T.length xc), (68, .int .i64 (T.length : Int)), (69, .int .i64 (s.1 : Int))]) (fun s => blk s.2.cb 81 (cc s.2.c) :: blk wb 71 (wc s.2.c) :: blk lb 91 (ldc s.2.h) :: mpf s.2.h.mL .string s.2.gL :: mpf s.2.h.mO (.int .i64) s.2.gO :: sl s.2.h.A s.2.h.n s.2.h.c 39 9 (cells odc s.2.L) :: sl s.2.h.lA s.2.h.ln s.2.h.lc 39 9 (cells odc s.2.G) :: blk rb 93 (rdc s.2.r) :: sl s.2.r.A s.2.r.n s.2.r.c 39 9 (cells odc s.2.M) :: sl s.2.r.gA s.2.r.gn s.2.r.gc 39 9 (cells odc s.2.N) :: s.2.k :: Fr) (fun s => s.1 ≤ T.length ∧ SI W0 s.1 s.2) (fun s => T.length - s.1) (0, ⟨cb0, ⟨0, 0, 0, 0, st, ep⟩, l0, lh0 mL mO 1000 64, fun _ => none, fun _ => none, [], [], ⟨none, 0, 0, none, 0, 0, 0, 0, 1000, 64⟩, [], [], sl none 0 0 39 9 []⟩) ?_ ⟨rfl, rfl, rfl, rfl, rfl, rfl, rfl, trivial⟩ gS ?_
    ·exact ⟨Nat.zero_le _, ⟨li0 W0 _ mL mO, ri0 W0 _, hne'.2.2.2, rfl, Nat.le_refl _, Nat.le_refl _⟩⟩
    rintro ⟨i, ⟨cb, c, l, h, gL, gO, L, G, r, M, N, k⟩⟩ ⟨hi, ⟨hli, hri, hep, hrm, hb1, hb2⟩⟩
    dsimp only at hi hli hri hep hrm hb1 hb2 ⊢
    refine XC.seq fun K13 hK13 => ?_
    refine XC.region ?_
    refine x_v (r_lt rfl rfl) rfl ?_
    refine XL.nil ?_
    refine hK13 _ _ ?_
    refine XC.keep [(7, _), (9, _), (11, _), (13, _), (67, _), (68, _), (69, _), (70, _)] ⟨rfl, rfl, rfl, rfl, rfl, rfl, rfl, rfl, trivial⟩ ?_
    refine XC.seq fun K14 hK14 => ?_
    refine XC.cond_d rfl (fun hc3 => ?_) (fun hc3 => ?_)
    ·refine XC.skip ?_
     refine hK14 _ _ ?_
     refine XC.keep [(7, _), (9, _), (11, _), (13, _), (67, _), (68, _), (69, _)] ⟨rfl, rfl, rfl, rfl, rfl, rfl, rfl, trivial⟩ ?_
     refine XC.seq fun K15 hK15 => ?_
     refine XC.block ?_
     refine XC.seq fun K16 hK16 => ?_
     obtain ⟨t, ht⟩ : ∃ t, T[i]? = some t := ⟨_, List.getElem?_eq_getElem (by omega)⟩
     obtain ⟨ob, oo, hXA, hat⟩ := (hr []).at_ (by omega)
     have hto := hok t (List.mem_of_getElem? ht)
     have htc := hcap t (List.mem_of_getElem? ht)
     refine XC.region ?_
     refine x_v (r_ia (k := i) Try.underlying22 ty43 (by rw [hXA]; rfl) rfl (by omega) (by omega)) rfl ?_
     refine x_v (r_ldar (l' := tpc t) ty43 rfl rfl (fun w hw j u hu => by rw [Nat.add_assoc]; exact hat w (Gets.own gS hw) _ u (cells_get tpc_len T _ _ ht j u hu))) rfl ?_
     unfold tpc
     refine x_a (r_al ty43 rfl) rfl fun b16 => ?_
     refine x_e (r_st ty43 rfl rfl rfl rfl rfl uD oV) ?_
     refine XL.nil ?_
     refine hK16 _ _ ?_
     refine XC.keep [(7, _), (9, _), (11, _), (13, _), (16, _), (67, _), (68, _), (69, _)] ⟨rfl, rfl, rfl, rfl, rfl, rfl, rfl, rfl, trivial⟩ ?_
     refine XC.seq fun K17 hK17 => ?_
     refine XC.seq fun K18 hK18 => ?_
     refine XC.region ?_
     refine x_v (r_lda (l' := [_, _, _, _, _, _, _, _, _, _, _, _, _, _, _, _, _, _, _, _, _, _, _, _, _, _, _, _, _, _, _, _, _, _, _]) ty43 rfl pK rfl (Sub.get sU)) rfl ?_
     refine x_c (r_call0 (args := [_]) ⟨rfl, rfl⟩ (heavy_tr t hto.1 hto.2) gS) rfl ?_
     rintro _ _ ⟨⟨g74, rfl⟩, rfl⟩
     refine XL.nil ?_
     refine hK18 _ _ ?_
     refine XC.keep [(7, _), (9, _), (11, _), (13, _), (16, _), (67, _), (68, _), (69, _), (74, _)] ⟨rfl, rfl, rfl, rfl, rfl, rfl, rfl, rfl, rfl, trivial⟩ ?_
     refine XC.cond rfl (fun hc4 => ?_) (fun hc4 => ?_)
     ·refine XC.seq fun K19 hK19 => ?_
      refine XC.region ?_
      refine x_v (r_as rfl) rfl ?_
      refine XL.nil ?_
      refine hK19 _ _ ?_
      refine XC.keep [(6, _)] ⟨rfl, trivial⟩ ?_
      refine XC.ret ?_
      exact fin1 rfl (rfl) gS
     ·refine XC.skip ?_
      refine hK17 _ _ ?_
      refine XC.keep [(7, _), (9, _), (11, _), (13, _), (16, _), (67, _), (68, _), (69, _)] ⟨rfl, rfl, rfl, rfl, rfl, rfl, rfl, rfl, trivial⟩ ?_
      refine XC.seqcut (σ := St) (fun s => [(7, .pointer (some ⟨s.cb, 0, none⟩)), (9, .pointer (some ⟨wb, 0, none⟩)), (11, .pointer (some ⟨lb, 0, none⟩)), (13, .pointer (some ⟨rb, 0, none⟩)), (67, .slice XA T.length xc), (68, .int .i64 (T.length : Int)), (69, .int .i64 (i : Int))]) (fun s => blk s.cb 81 (cc s.c) :: blk wb 71 (wc s.c) :: blk lb 91 (ldc s.h) :: mpf s.h.mL .string s.gL :: mpf s.h.mO (.int .i64) s.gO :: sl s.h.A s.h.n s.h.c 39 9 (cells odc s.L) :: sl s.h.lA s.h.ln s.h.lc 39 9 (cells odc s.G) :: blk rb 93 (rdc s.r) :: sl s.r.A s.r.n s.r.c 39 9 (cells odc s.M) :: sl s.r.gA s.r.gn s.r.gc 39 9 (cells odc s.N) :: s.k :: Fr) (fun s => SI W0 (i + 1) s) ?_ ?_
      ·refine XC.seq fun K21 hK21 => ?_
       refine XC.region ?_
       refine x_v (r_fa fo43_0 rfl) rfl ?_
       refine x_v (r_ld ty3 rfl pK (by rfl)) rfl ?_
       refine XL.nil ?_
       refine hK21 _ _ ?_
       refine XC.keep [(7, _), (9, _), (11, _), (13, _), (16, _), (67, _), (68, _), (69, _), (76, _)] ⟨rfl, rfl, rfl, rfl, rfl, rfl, rfl, rfl, rfl, trivial⟩ ?_
       refine XC.block ?_
       refine XC.seq fun K22 hK22 => ?_
       refine XC.region ?_
       refine x_v (r_eq rfl rfl) rfl ?_
       refine x_v (r_as rfl) rfl ?_
       refine XL.nil ?_
       refine hK22 _ _ ?_
       refine XC.keep [(7, _), (9, _), (11, _), (13, _), (16, _), (67, _), (68, _), (69, _), (76, _), (82, _)] ⟨rfl, rfl, rfl, rfl, rfl, rfl, rfl, rfl, rfl, rfl, trivial⟩ ?_
       refine XC.cond_d rfl (fun hc5 => ?_) (fun hc5 => ?_)
       ·refine XC.seq fun K23 hK23 => ?_
        refine XC.draw [blk b16 43 [.int .i64 t.kind, .int .i64 t.n, .int .i64 t.m.kind, .int .i64 t.m.term, .int .i64 t.m.index, .int .i64 t.m.prev, .int .i64 t.m.commit, .bool t.m.good, .slice t.m.eA t.m.es.length t.m.ec, str t.m.data, .slice t.m.hA t.m.hs.length t.m.hc, .int .i64 t.m.epoch, .int .i64 t.m.site, .int .i64 t.m.at1, .int .i64 t.m.at2, .int .i64 t.m.w1, .int .i64 t.m.w2, .slice t.m.oA t.m.ho.length t.m.oc, .slice t.m.pA t.m.ops.length t.m.pc,   .int .i64 t.c.kind, .int .i64 t.c.epoch, .int .i64 t.c.site, .int .i64 t.c.op.1.n, .int .i64 t.c.op.1.epoch, .int .i64 t.c.op.1.kind, .int .i64 t.c.op.1.site, .int .i64 t.c.op.1.client, .int .i64 t.c.op.1.seq, str t.c.op.1.name, .int .i64 t.c.op.1.size, .slice t.c.op.2.1 t.c.op.1.hs.length t.c.op.2.2, .int .i64 t.c.after, .int .i64 t.c.since, .slice t.c.pA t.c.ops.length t.c.pc, .int .i64 t.c.tag]] false [(0, false), (1, false), (2, false), (4, false), (5, false), (6, false), (3, true), (7, true), (8, false)] (by kernel_rfl) (by kernel_rfl) ?_
        refine y_v rfl (r_mv rfl) gT rfl ?_
        refine y_v rfl (r_fa fo43_1 rfl) gT rfl ?_
        refine y_v rfl (r_ld ty3 rfl pK (by rfl)) gT rfl ?_
        refine y_v rfl (r_mv rfl) gT rfl ?_
        refine y_v rfl (r_fa fo43_1 rfl) gT rfl ?_
        refine y_v rfl (r_ld ty3 rfl pK (by rfl)) gT rfl ?_
        refine y_c rfl (r_call0 (args := [_, _]) ⟨rfl, rfl, rfl⟩ (want_tr (c := c) cb t.n hep) gS) (by rintro _ _ _ _ ⟨rfl, rfl⟩ h; exact Gets.own gS h) rfl ?_
        rintro _ _ ⟨rfl, rfl⟩
        refine y_c rfl (r_call0 (args := [_, _]) ⟨rfl, rfl, rfl⟩ (wwant_tr (c := c) wb t.n hep) gS) (by rintro _ _ _ _ ⟨rfl, rfl⟩ h; exact Gets.own gS h) rfl ?_
        rintro _ _ ⟨rfl, rfl⟩
        refine y_v rfl (r_ne rfl rfl) gT rfl ?_
        refine XH.nil ?_
        refine hK23 _ _ ?_
        refine XC.keep [(7, _), (9, _), (11, _), (13, _), (67, _), (68, _), (69, _), (92, _)] ⟨rfl, rfl, rfl, rfl, rfl, rfl, rfl, rfl, trivial⟩ ?_
        refine XC.cond_d rfl (fun hc6 => ?_) (fun hc6 => ?_)
        ·exfalso; exact hc6 rfl
        ·refine XC.skip ?_
         exact ⟨⟨cb, (wantOf c t.n).1, l, h, gL, gO, L, G, r, M, N, k⟩, ⟨hli, hri, by dsimp only; rw [want_ep]; exact hep, hrm, by dsimp only; omega, by dsimp only; omega⟩, ⟨rfl, rfl, rfl, rfl, rfl, rfl, rfl, trivial⟩, gS⟩
       ·refine XC.seq fun K24 hK24 => ?_
        refine XC.region ?_
        refine x_v (r_eq rfl rfl) rfl ?_
        refine x_v (r_as rfl) rfl ?_
        refine XL.nil ?_
        refine hK24 _ _ ?_
        refine XC.keep [(7, _), (9, _), (11, _), (13, _), (16, _), (67, _), (68, _), (69, _), (76, _), (93, _)] ⟨rfl, rfl, rfl, rfl, rfl, rfl, rfl, rfl, rfl, rfl, trivial⟩ ?_
        refine XC.cond_d rfl (fun hc7 => ?_) (fun hc7 => ?_)
        ·refine XC.seq fun K25 hK25 => ?_
         refine XC.draw [blk b16 43 [.int .i64 t.kind, .int .i64 t.n, .int .i64 t.m.kind, .int .i64 t.m.term, .int .i64 t.m.index, .int .i64 t.m.prev, .int .i64 t.m.commit, .bool t.m.good, .slice t.m.eA t.m.es.length t.m.ec, str t.m.data, .slice t.m.hA t.m.hs.length t.m.hc, .int .i64 t.m.epoch, .int .i64 t.m.site, .int .i64 t.m.at1, .int .i64 t.m.at2, .int .i64 t.m.w1, .int .i64 t.m.w2, .slice t.m.oA t.m.ho.length t.m.oc, .slice t.m.pA t.m.ops.length t.m.pc,   .int .i64 t.c.kind, .int .i64 t.c.epoch, .int .i64 t.c.site, .int .i64 t.c.op.1.n, .int .i64 t.c.op.1.epoch, .int .i64 t.c.op.1.kind, .int .i64 t.c.op.1.site, .int .i64 t.c.op.1.client, .int .i64 t.c.op.1.seq, str t.c.op.1.name, .int .i64 t.c.op.1.size, .slice t.c.op.2.1 t.c.op.1.hs.length t.c.op.2.2, .int .i64 t.c.after, .int .i64 t.c.since, .slice t.c.pA t.c.ops.length t.c.pc, .int .i64 t.c.tag]] false [(0, false), (1, false), (2, false), (5, false), (6, false), (7, false), (3, true), (4, true), (8, true), (9, false)] (by kernel_rfl) (by kernel_rfl) ?_
         refine y_v rfl (r_mv rfl) gT rfl ?_
         refine y_v rfl (r_fa fo43_2 rfl) gT rfl ?_
         refine y_v rfl (r_lda (l' := [_, _, _, _, _, _, _, _, _, _, _, _, _, _, _, _, _]) ty35 rfl pK rfl (Sub.get sU)) gT rfl ?_
         refine y_v rfl (r_mv rfl) gT rfl ?_
         refine y_v rfl (r_fa fo43_2 rfl) gT rfl ?_
         refine y_v rfl (r_lda (l' := [_, _, _, _, _, _, _, _, _, _, _, _, _, _, _, _, _]) ty35 rfl pK rfl (Sub.get sU)) gT rfl ?_
         refine y_c rfl (r_call0 (args := [_]) ⟨rfl, rfl⟩ (own15_tr t.m hto.1) gS) (by rintro _ _ _ _ ⟨⟨a80, b80, c80, d80, e80, f80, L80, g80, i80, hf80, rfl⟩, rfl⟩ h; exact Gets.own gS h) rfl ?_
         rintro _ _ ⟨⟨a80, b80, c80, d80, e80, f80, L80, g80, i80, hf80, rfl⟩, rfl⟩
         have hm80 : Lens { t.m with eA := a80, ec := b80, hA := c80, hc := d80, oA := e80, oc := f80, ops := L80, pA := g80, pc := i80 } := (by have q := hto.1.lens; have := fst_len hf80; obtain ⟨q1, q2, q3, q4, q5⟩ := q; exact ⟨q1, q2, q3, by dsimp only; omega, q5⟩)
         obtain ⟨m2, hm2⟩ : ∃ m2 : Mal, m2 = { t.m with eA := a80, ec := b80, hA := c80, hc := d80, oA := e80, oc := f80, ops := L80, pA := g80, pc := i80 } := ⟨_, rfl⟩
         have hts : (takeOk c m2 ↔ takeOk c t.m) ∧ takeOf c m2 = takeOf c t.m := take_same (by rw [hm2]) (by rw [hm2]; exact fst_len hf80)
         rw [← hm2] at hm80 ⊢
         refine y_c rfl (r_call0 (args := [_, _]) ⟨rfl, rfl, rfl⟩ (take_tr (c := c) cb m2 hm80) gS) (by rintro _ _ _ _ ⟨rfl, rfl⟩ h; exact Gets.own gS h) rfl ?_
         rintro _ _ ⟨rfl, rfl⟩
         rw [show decide (takeOk c m2) = decide (takeOk c t.m) from decide_eq_decide.2 hts.1, hts.2]
         refine y_c rfl (r_call0 (args := [_, _]) ⟨rfl, rfl, rfl⟩ (wtake_tr (c := c) wb t.m hto.1.lens) gS) (by rintro _ _ _ _ ⟨rfl, rfl⟩ h; exact Gets.own gS h) rfl ?_
         rintro _ _ ⟨rfl, rfl⟩
         refine y_v rfl (r_bne Try.underlying4 rfl rfl) gT rfl ?_
         refine XH.nil ?_
         refine hK25 _ _ ?_
         refine XC.keep [(7, _), (9, _), (11, _), (13, _), (67, _), (68, _), (69, _), (104, _)] ⟨rfl, rfl, rfl, rfl, rfl, rfl, rfl, rfl, trivial⟩ ?_
         refine XC.cond rfl (fun hc8 => ?_) (fun hc8 => ?_)
         ·exfalso; simp at hc8
         ·refine XC.skip ?_
          exact ⟨⟨cb, takeOf c t.m, l, h, gL, gO, L, G, r, M, N, k⟩, ⟨hli, hri, by dsimp only; rw [take_ep]; exact hep, hrm, by dsimp only; omega, by dsimp only; omega⟩, ⟨rfl, rfl, rfl, rfl, rfl, rfl, rfl, trivial⟩, gS⟩
        ·refine XC.seq fun K26 hK26 => ?_
         refine XC.region ?_
         refine x_v (r_eq rfl rfl) rfl ?_
         refine x_v (r_as rfl) rfl ?_
         refine XL.nil ?_
         refine hK26 _ _ ?_
         refine XC.keep [(7, _), (9, _), (11, _), (13, _), (16, _), (67, _), (68, _), (69, _), (76, _), (105, _)] ⟨rfl, rfl, rfl, rfl, rfl, rfl, rfl, rfl, rfl, rfl, trivial⟩ ?_
         refine XC.cond_d rfl (fun hc9 => ?_) (fun hc9 => ?_)
         ·refine XC.seq fun K27 hK27 => ?_
          refine XC.region ?_
          refine x_v (r_mv rfl) rfl ?_
          refine x_v (r_fa fo43_1 rfl) rfl ?_
          refine x_v (r_ld ty3 rfl pK (by rfl)) rfl ?_
          refine x_c (r_call0 (args := [_, _]) ⟨rfl, rfl, rfl⟩ (hear_tr (c := c) cb t.n) gS) rfl ?_
          rintro _ _ ⟨rfl, rfl⟩
          refine XL.nil ?_
          refine hK27 _ _ ?_
          refine XC.keep [(7, _), (9, _), (11, _), (13, _), (16, _), (67, _), (68, _), (69, _)] ⟨rfl, rfl, rfl, rfl, rfl, rfl, rfl, rfl, trivial⟩ ?_
          refine XC.region ?_
          refine x_v (r_mv rfl) rfl ?_
          refine x_v (r_fa fo43_1 rfl) rfl ?_
          refine x_v (r_ld ty3 rfl pK (by rfl)) rfl ?_
          refine x_c (r_call0 (args := [_, _]) ⟨rfl, rfl, rfl⟩ (whear_tr (c := c) wb t.n) gS) rfl ?_
          rintro _ _ ⟨rfl, rfl⟩
          refine XL.nil ?_
          exact ⟨⟨cb, hearOf c t.n, l, h, gL, gO, L, G, r, M, N, k⟩, ⟨hli, hri, by dsimp only; rw [hear_ep]; exact hep, hrm, by dsimp only; omega, by dsimp only; omega⟩, ⟨rfl, rfl, rfl, rfl, rfl, rfl, rfl, trivial⟩, gS⟩
         ·refine XC.seq fun K28 hK28 => ?_
          refine XC.region ?_
          refine x_v (r_eq rfl rfl) rfl ?_
          refine x_v (r_as rfl) rfl ?_
          refine XL.nil ?_
          refine hK28 _ _ ?_
          refine XC.keep [(7, _), (9, _), (11, _), (13, _), (16, _), (67, _), (68, _), (69, _), (76, _), (115, _)] ⟨rfl, rfl, rfl, rfl, rfl, rfl, rfl, rfl, rfl, rfl, trivial⟩ ?_
          refine XC.cond_d rfl (fun hc10 => ?_) (fun hc10 => ?_)
          ·refine XC.seq fun K29 hK29 => ?_
           refine XC.region ?_
           refine x_v (r_mv rfl) rfl ?_
           refine x_v (r_fa fo43_3 rfl) rfl ?_
           refine x_v (r_lda (l' := [_, _, _, _, _, _, _, _, _, _, _, _, _, _, _, _]) ty41 rfl pK rfl (Sub.get sU)) rfl ?_
           refine x_c (r_call0 (args := [_]) ⟨rfl, rfl⟩ (ownc_tr (k := k) (Fr := blk b16 43 (tpc t) :: blk cb 81 (cc c) :: blk wb 71 (wc c) :: blk lb 91 (ldc h) :: mpf h.mL .string gL :: mpf h.mO (.int .i64) gO :: sl h.A h.n h.c 39 9 (cells odc L) :: sl h.lA h.ln h.lc 39 9 (cells odc G) :: blk rb 93 (rdc r) :: sl r.A r.n r.c 39 9 (cells odc M) :: sl r.gA r.gn r.gc 39 9 (cells odc N) :: Fr) t.c (hto.2.op.rd k) (hto.2.ops.rd [k]) (fun o ho => (hto.2.ops.el o ho).rd k) (by have := hto.2.ops.len; omega)) gS) rfl ?_
           rintro _ _ ⟨d, k3, rfl, rfl, hx3, hd3, hsd⟩
           refine x_c (r_call0 (args := [_, _]) ⟨rfl, rfl, rfl⟩ (apply_tr (k := k3) (Fr := blk b16 43 (tpc t) :: blk cb 81 (cc c) :: blk wb 71 (wc c) :: blk rb 93 (rdc r) :: sl r.A r.n r.c 39 9 (cells odc M) :: sl r.gA r.gn r.gc 39 9 (cells odc N) :: Fr) lb d (hli.ex hx3) hd3 (by omega) (by omega)) gS) rfl ?_
           rintro _ _ ⟨h2, gL2, gO2, L2, G2, k4, ⟨a4, d4, f4, rfl⟩, rfl, hx4, hl4, hln4⟩
           rw [hsd.apply l] at hl4
           unfold tpc
           refine XL.nil ?_
           refine hK29 _ _ ?_
           refine XC.keep [(7, _), (9, _), (11, _), (13, _), (16, _), (67, _), (68, _), (69, _)] ⟨rfl, rfl, rfl, rfl, rfl, rfl, rfl, rfl, trivial⟩ ?_
           refine XC.region ?_
           refine x_v (r_mv rfl) rfl ?_
           refine x_v (r_fa fo43_3 rfl) rfl ?_
           refine x_v (r_lda (l' := [_, _, _, _, _, _, _, _, _, _, _, _, _, _, _, _]) ty41 rfl pK rfl (Sub.get sU)) rfl ?_
           refine x_c (r_call0 (args := [_, _]) ⟨rfl, rfl, rfl⟩ (rapply_tr (k := k4) (Fr := blk cb 81 (cc c) :: blk wb 71 (wc c) :: blk lb 91 (ldc h2) :: mpf h2.mL .string gL2 :: mpf h2.mO (.int .i64) gO2 :: sl h2.A h2.n h2.c 39 9 (cells odc L2) :: sl h2.lA h2.ln h2.lc 39 9 (cells odc G2) :: Fr) rb t.c (hri.ex (hx3.trans hx4)) (hto.2.rdc htc k4) (by omega) (by omega)) gS) rfl ?_
           rintro _ _ ⟨r2, M2, N2, k5, ⟨a5, d5, f5, rfl⟩, rfl, hx5, hl5, hln5⟩
           refine XL.nil ?_
           exact ⟨⟨cb, c, applyL l t.c, h2, gL2, gO2, L2, G2, r2, M2, N2, k5⟩, ⟨hl4.ex hx5, hl5, hep, (apply_room l t.c).trans hrm, by dsimp only; omega, by dsimp only; omega⟩, ⟨rfl, rfl, rfl, rfl, rfl, rfl, rfl, trivial⟩, gS⟩
          ·refine XC.seq fun K30 hK30 => ?_
           refine XC.region ?_
           refine x_v (r_eq rfl rfl) rfl ?_
           refine x_v (r_as rfl) rfl ?_
           refine XL.nil ?_
           refine hK30 _ _ ?_
           refine XC.keep [(7, _), (9, _), (11, _), (13, _), (67, _), (68, _), (69, _), (76, _), (126, _)] ⟨rfl, rfl, rfl, rfl, rfl, rfl, rfl, rfl, rfl, trivial⟩ ?_
           refine XC.cond_d rfl (fun hc11 => ?_) (fun hc11 => ?_)
           ·refine XC.seq fun K31 hK31 => ?_
            refine XC.region ?_
            refine x_v (r_mv rfl) rfl ?_
            refine x_v (r_mv rfl) rfl ?_
            refine x_c (r_call0 (args := [_, _]) ⟨rfl, rfl, rfl⟩ (next_tr (c := c) (h := h) cb lb) gS) rfl ?_
            rintro _ _ ⟨rfl, rfl⟩
            rw [hli.f, next_c]
            unfold cmc
            refine x_v (r_mv rfl) rfl ?_
            refine x_v (r_ex rfl rfl) rfl ?_
            refine x_v (r_ex rfl rfl) rfl ?_
            refine x_a (r_al ty41 rfl) rfl fun b17 => ?_
            refine x_e (r_st ty41 rfl rfl rfl rfl rfl uD oV) ?_
            refine x_v (r_as rfl) rfl ?_
            refine XL.nil ?_
            refine hK31 _ _ ?_
            refine XC.keep [(7, _), (9, _), (11, _), (13, _), (17, _), (67, _), (68, _), (69, _)] ⟨rfl, rfl, rfl, rfl, rfl, rfl, rfl, rfl, trivial⟩ ?_
            refine XC.seq fun K32 hK32 => ?_
            refine XC.region ?_
            refine x_v (r_mv rfl) rfl ?_
            refine x_v (r_mv rfl) rfl ?_
            refine x_c (r_call0 (args := [_, _]) ⟨rfl, rfl, rfl⟩ (wnext_tr (c := c) (r := r) wb rb) gS) rfl ?_
            rintro _ _ ⟨rfl, rfl⟩
            rw [hri.f, next_c]
            unfold cmc
            refine x_v (r_mv rfl) rfl ?_
            refine x_v (r_ex rfl rfl) rfl ?_
            refine x_v (r_ex rfl rfl) rfl ?_
            refine x_a (r_al ty41 rfl) rfl fun b19 => ?_
            refine x_e (r_st ty41 rfl rfl rfl rfl rfl uD oV) ?_
            refine x_v (r_as rfl) rfl ?_
            refine XL.nil ?_
            refine hK32 _ _ ?_
            refine XC.keep [(7, _), (9, _), (11, _), (13, _), (17, _), (19, _), (67, _), (68, _), (69, _)] ⟨rfl, rfl, rfl, rfl, rfl, rfl, rfl, rfl, rfl, trivial⟩ ?_
            refine XC.seq fun K33 hK33 => ?_
            refine XC.region ?_
            refine x_v (r_mv rfl) rfl ?_
            refine x_v (r_lda (l' := [_, _, _, _, _, _, _, _, _, _, _, _, _, _, _, _]) ty41 rfl pK rfl (Sub.get sU)) rfl ?_
            refine x_c (r_call0 (args := [_, _]) ⟨rfl, rfl, rfl⟩ (apply_tr (k := k) (Fr := blk b19 41 (cmc (nextC c l.fence)) :: blk cb 81 (cc c) :: blk wb 71 (wc c) :: blk rb 93 (rdc r) :: sl r.A r.n r.c 39 9 (cells odc M) :: sl r.gA r.gn r.gc 39 9 (cells odc N) :: Fr) lb (nextC c l.fence) hli (next_rd W0 k c l.fence) (by omega) (by omega)) gS) rfl ?_
            rintro _ _ ⟨h2, gL2, gO2, L2, G2, k4, ⟨a4, d4, f4, rfl⟩, rfl, hx4, hl4, hln4⟩
            unfold cmc
            refine XL.nil ?_
            refine hK33 _ _ ?_
            refine XC.keep [(7, _), (9, _), (11, _), (13, _), (19, _), (67, _), (68, _), (69, _)] ⟨rfl, rfl, rfl, rfl, rfl, rfl, rfl, rfl, trivial⟩ ?_
            refine XC.region ?_
            refine x_v (r_mv rfl) rfl ?_
            refine x_v (r_lda (l' := [_, _, _, _, _, _, _, _, _, _, _, _, _, _, _, _]) ty41 rfl pK rfl (Sub.get sU)) rfl ?_
            refine x_c (r_call0 (args := [_, _]) ⟨rfl, rfl, rfl⟩ (rapply_tr (k := k4) (Fr := blk cb 81 (cc c) :: blk wb 71 (wc c) :: blk lb 91 (ldc h2) :: mpf h2.mL .string gL2 :: mpf h2.mO (.int .i64) gO2 :: sl h2.A h2.n h2.c 39 9 (cells odc L2) :: sl h2.lA h2.ln h2.lc 39 9 (cells odc G2) :: Fr) rb (nextC c l.fence) (hri.ex hx4) (next_rd W0 k4 c l.fence) (by omega) (by omega)) gS) rfl ?_
            rintro _ _ ⟨r2, M2, N2, k5, ⟨a5, d5, f5, rfl⟩, rfl, hx5, hl5, hln5⟩
            refine XL.nil ?_
            exact ⟨⟨cb, c, applyL l (nextC c l.fence), h2, gL2, gO2, L2, G2, r2, M2, N2, k5⟩, ⟨hl4.ex hx5, hl5, hep, (apply_room l _).trans hrm, by dsimp only; omega, by dsimp only; omega⟩, ⟨rfl, rfl, rfl, rfl, rfl, rfl, rfl, trivial⟩, gS⟩
           ·refine XC.seq fun K34 hK34 => ?_
            refine XC.region ?_
            refine x_v (r_eq rfl rfl) rfl ?_
            refine x_v (r_as rfl) rfl ?_
            refine XL.nil ?_
            refine hK34 _ _ ?_
            refine XC.keep [(7, _), (9, _), (11, _), (13, _), (67, _), (68, _), (69, _), (146, _)] ⟨rfl, rfl, rfl, rfl, rfl, rfl, rfl, rfl, trivial⟩ ?_
            refine XC.cond_d rfl (fun hc12 => ?_) (fun hc12 => ?_)
            ·refine XC.seq fun K35 hK35 => ?_
             refine XC.region ?_
             refine x_v (r_mv rfl) rfl ?_
             refine x_c (r_call0 (args := [_]) ⟨rfl, rfl⟩ (rest_tr (c := c) cb) gS) rfl ?_
             rintro _ _ ⟨rfl, rfl⟩
             refine XL.nil ?_
             refine hK35 _ _ ?_
             refine XC.keep [(7, _), (9, _), (11, _), (13, _), (67, _), (68, _), (69, _)] ⟨rfl, rfl, rfl, rfl, rfl, rfl, rfl, trivial⟩ ?_
             unfold wc
             refine XC.region ?_
             refine x_v (r_mv rfl) rfl ?_
             refine x_v (r_nc rfl) rfl ?_
             refine x_v (r_fa fo71_4 rfl) rfl ?_
             refine x_e (r_st ty3 rfl rfl rfl rfl rfl uD oV) ?_
             refine XL.nil ?_
             exact ⟨⟨cb, { c with wants := 0 }, l, h, gL, gO, L, G, r, M, N, k⟩, ⟨hli, hri, hep, hrm, by dsimp only; omega, by dsimp only; omega⟩, ⟨rfl, rfl, rfl, rfl, rfl, rfl, rfl, trivial⟩, gS⟩
            ·refine XC.seq fun K36 hK36 => ?_
             refine XC.region ?_
             refine x_v (r_mv rfl) rfl ?_
             refine x_c (r_call0 (args := [_]) ⟨rfl, rfl⟩ (ccopy_tr (c := c) cb) gS) rfl ?_
             rintro _ _ ⟨b78, rfl, rfl⟩
             refine x_v (r_as rfl) rfl ?_
             refine XL.nil ?_
             refine hK36 _ _ ?_
             refine XC.keep [(7, _), (9, _), (11, _), (13, _), (21, _), (67, _), (68, _), (69, _)] ⟨rfl, rfl, rfl, rfl, rfl, rfl, rfl, rfl, trivial⟩ ?_
             refine XC.seq fun K37 hK37 => ?_
             refine XC.region ?_
             refine x_v (r_mv rfl) rfl ?_
             refine x_c (r_call0 (args := [_, _]) ⟨rfl, rfl, rfl⟩ (hear_tr (c := c) cb 16) gS) rfl ?_
             rintro _ _ ⟨rfl, rfl⟩
             refine XL.nil ?_
             refine hK37 _ _ ?_
             refine XC.keep [(9, _), (11, _), (13, _), (21, _), (67, _), (68, _), (69, _)] ⟨rfl, rfl, rfl, rfl, rfl, rfl, rfl, trivial⟩ ?_
             refine XC.region ?_
             refine x_v (r_mv rfl) rfl ?_
             refine x_v (r_as rfl) rfl ?_
             refine XL.nil ?_
             exact ⟨⟨b78, c, l, h, gL, gO, L, G, r, M, N, k⟩, ⟨hli, hri, hep, hrm, by dsimp only; omega, by dsimp only; omega⟩, ⟨rfl, rfl, rfl, rfl, rfl, rfl, rfl, trivial⟩, gS⟩
      ·rintro ⟨cb2, c2, l2, h2, gL2, gO2, L2, G2, r2, M2, N2, k2⟩ ⟨hli2, hri2, hep2, hrm2, hb12, hb22⟩
       dsimp only at hli2 hri2 hep2 hrm2 hb12 hb22 ⊢
       have hE1 : h2.hE = (foldOf l2.ops).hold.1 := by rw [← hli2.hd]
       have hE2 : h2.hS = (foldOf l2.ops).hold.2 := by rw [← hli2.hd]
       refine XC.seq fun K38 hK38 => ?_
       refine XC.region ?_
       refine x_v (r_mv rfl) rfl ?_
       refine x_v (r_mv rfl) rfl ?_
       refine x_c (r_call0 (args := [_, _]) ⟨rfl, rfl, rfl⟩ (next_tr (c := c2) (h := h2) cb2 lb) gS) rfl ?_
       rintro _ _ ⟨rfl, rfl⟩
       rw [hli2.f, next_c]
       unfold cmc
       refine x_v (r_mv rfl) rfl ?_
       refine x_v (r_ex rfl rfl) rfl ?_
       refine x_v (r_ex rfl rfl) rfl ?_
       refine x_a (r_al ty41 rfl) rfl fun b22 => ?_
       refine x_e (r_st ty41 rfl rfl rfl rfl rfl uD oV) ?_
       refine x_v (r_as rfl) rfl ?_
       refine XL.nil ?_
       refine hK38 _ _ ?_
       refine XC.keep [(7, _), (9, _), (11, _), (13, _), (22, _), (23, _), (67, _), (68, _), (69, _)] ⟨rfl, rfl, rfl, rfl, rfl, rfl, rfl, rfl, rfl, trivial⟩ ?_
       refine XC.seq fun K39 hK39 => ?_
       refine XC.region ?_
       refine x_v (r_mv rfl) rfl ?_
       refine x_v (r_mv rfl) rfl ?_
       refine x_c (r_call0 (args := [_, _]) ⟨rfl, rfl, rfl⟩ (wnext_tr (c := c2) (r := r2) wb rb) gS) rfl ?_
       rintro _ _ ⟨rfl, rfl⟩
       rw [hri2.f, next_c]
       unfold cmc
       refine x_v (r_mv rfl) rfl ?_
       refine x_v (r_ex rfl rfl) rfl ?_
       refine x_v (r_ex rfl rfl) rfl ?_
       refine x_a (r_al ty41 rfl) rfl fun b24 => ?_
       refine x_e (r_st ty41 rfl rfl rfl rfl rfl uD oV) ?_
       refine x_v (r_as rfl) rfl ?_
       refine XL.nil ?_
       refine hK39 _ _ ?_
       refine XC.keep [(7, _), (9, _), (11, _), (13, _), (22, _), (23, _), (24, _), (25, _), (67, _), (68, _), (69, _)] ⟨rfl, rfl, rfl, rfl, rfl, rfl, rfl, rfl, rfl, rfl, rfl, trivial⟩ ?_
       refine XC.seq fun K40 hK40 => ?_
       refine XC.draw [blk b22 41 [.int .i64 (nextC c2 l2.fence).kind, .int .i64 (nextC c2 l2.fence).epoch, .int .i64 (nextC c2 l2.fence).site, .int .i64 (nextC c2 l2.fence).op.1.n, .int .i64 (nextC c2 l2.fence).op.1.epoch, .int .i64 (nextC c2 l2.fence).op.1.kind, .int .i64 (nextC c2 l2.fence).op.1.site, .int .i64 (nextC c2 l2.fence).op.1.client, .int .i64 (nextC c2 l2.fence).op.1.seq, str (nextC c2 l2.fence).op.1.name, .int .i64 (nextC c2 l2.fence).op.1.size, .slice (nextC c2 l2.fence).op.2.1 (nextC c2 l2.fence).op.1.hs.length (nextC c2 l2.fence).op.2.2, .int .i64 (nextC c2 l2.fence).after, .int .i64 (nextC c2 l2.fence).since, .slice (nextC c2 l2.fence).pA (nextC c2 l2.fence).ops.length (nextC c2 l2.fence).pc, .int .i64 (nextC c2 l2.fence).tag], blk b24 41 [.int .i64 (nextC c2 l2.fence).kind, .int .i64 (nextC c2 l2.fence).epoch, .int .i64 (nextC c2 l2.fence).site, .int .i64 (nextC c2 l2.fence).op.1.n, .int .i64 (nextC c2 l2.fence).op.1.epoch, .int .i64 (nextC c2 l2.fence).op.1.kind, .int .i64 (nextC c2 l2.fence).op.1.site, .int .i64 (nextC c2 l2.fence).op.1.client, .int .i64 (nextC c2 l2.fence).op.1.seq, str (nextC c2 l2.fence).op.1.name, .int .i64 (nextC c2 l2.fence).op.1.size, .slice (nextC c2 l2.fence).op.2.1 (nextC c2 l2.fence).op.1.hs.length (nextC c2 l2.fence).op.2.2, .int .i64 (nextC c2 l2.fence).after, .int .i64 (nextC c2 l2.fence).since, .slice (nextC c2 l2.fence).pA (nextC c2 l2.fence).ops.length (nextC c2 l2.fence).pc, .int .i64 (nextC c2 l2.fence).tag], blk wb 71 (wc c2)] false [(0, false), (1, false), (2, false), (3, false), (4, false), (5, false), (6, true), (7, false), (8, false), (9, false), (10, false), (11, false), (13, false), (14, false), (12, true), (15, true), (16, false), (17, false), (18, false), (19, false), (21, false), (22, false), (23, false), (24, false), (20, true), (25, false), (26, false), (27, false), (28, false), (30, false), (31, false), (32, false), (33, false), (29, true), (34, false), (35, false), (36, false), (37, false), (39, false), (38, true), (40, true), (41, true), (42, false), (43, false)] (by kernel_rfl) (by kernel_rfl) ?_
       refine y_v rfl (r_mv rfl) gT rfl ?_
       refine y_v rfl (r_mv rfl) gT rfl ?_
       refine y_v rfl (r_bne Try.underlying4 rfl rfl) gT rfl ?_
       refine y_v rfl (r_mv rfl) gT rfl ?_
       refine XH.split 168 rfl (fun hg168 => ?_) (fun hg168 => ?_)
       ·exfalso; simp at hg168
       ·refine y_vg rfl rfl rfl (r_lda (l' := [_, _, _, _, _, _, _, _, _, _, _, _, _, _, _, _]) ty41 rfl pK rfl (Sub.get sU)) gT rfl ?_
        refine y_vg rfl rfl rfl (r_lda (l' := [_, _, _, _, _, _, _, _, _, _, _, _, _, _, _, _]) ty41 rfl pK rfl (Sub.get sU)) gT rfl ?_
        refine y_cg rfl rfl rfl (r_call0 (args := [_, _]) ⟨rfl, rfl, rfl⟩ (same11c_tr c2 l2.fence) gS) (by rintro _ _ _ _ ⟨rfl, rfl⟩ h; exact Gets.own gS h) rfl ?_
        rintro _ _ ⟨rfl, rfl⟩
        refine y_vg rfl rfl rfl (r_not rfl) gT rfl ?_
        refine y_v rfl (r_pk_f rfl rfl) gT rfl ?_
        refine y_v rfl (r_mv rfl) gT rfl ?_
        refine y_vg rfl rfl rfl (r_mv rfl) gT rfl ?_
        refine y_vg rfl rfl rfl (r_mv rfl) gT rfl ?_
        refine y_vg rfl rfl rfl (r_mv rfl) gT rfl ?_
        refine y_vg rfl rfl rfl (r_mv rfl) gT rfl ?_
        refine y_cg rfl rfl rfl (r_call0 (args := [_, _]) ⟨rfl, rfl, rfl⟩ (prim_tr (c := c2) (h := h2) cb2 lb) gS) (by rintro _ _ _ _ ⟨rfl, rfl⟩ h; exact Gets.own gS h) rfl ?_
        rintro _ _ ⟨rfl, rfl⟩
        rw [hE1, hE2, hli2.f]
        refine y_cg rfl rfl rfl (r_call0 (args := [_, _]) ⟨rfl, rfl, rfl⟩ (wprim_tr (c := c2) (r := r2) wb rb M2 hri2.n (by have := hri2.len; have := hri2.p.len; omega)) gS) (by rintro _ _ _ _ ⟨rfl, rfl⟩ h; exact Gets.own gS h) rfl ?_
        rintro _ _ ⟨rfl, rfl⟩
        rw [hri2.o, ← hold_eq, hri2.f]
        refine y_vg rfl rfl rfl (r_ne rfl rfl) gT rfl ?_
        refine y_v rfl (r_pk_f rfl rfl) gT rfl ?_
        refine y_v rfl (r_mv rfl) gT rfl ?_
        refine XH.splitd 183 rfl (fun hg183 => ?_) (fun hg183 => ?_)
        ·exfalso; exact hg183 rfl
        ·refine y_vg rfl rfl rfl (r_mv rfl) gT rfl ?_
         refine y_vg rfl rfl rfl (r_mv rfl) gT rfl ?_
         refine y_vg rfl rfl rfl (r_nc rfl) gT rfl ?_
         refine y_vg rfl rfl rfl (r_fa fo71_4 rfl) gT rfl ?_
         refine y_vg rfl rfl rfl (r_ld ty3 rfl pK (by rfl)) gT rfl ?_
         refine y_cg rfl rfl rfl (r_call0 (args := [_]) ⟨rfl, rfl⟩ (wants_tr (c := c2) cb2) gS) (by rintro _ _ _ _ ⟨rfl, rfl⟩ h; exact Gets.own gS h) rfl ?_
         rintro _ _ ⟨rfl, rfl⟩
         refine y_vg rfl rfl rfl (r_ne rfl rfl) gT rfl ?_
         refine y_v rfl (r_pk_f rfl rfl) gT rfl ?_
         refine y_v rfl (r_mv rfl) gT rfl ?_
         refine XH.splitd 192 rfl (fun hg192 => ?_) (fun hg192 => ?_)
         ·exfalso; exact hg192 rfl
         ·refine y_vg rfl rfl rfl (r_mv rfl) gT rfl ?_
          refine y_vg rfl rfl rfl (r_mv rfl) gT rfl ?_
          refine y_vg rfl rfl rfl (r_nc rfl) gT rfl ?_
          refine y_vg rfl rfl rfl (r_fa fo71_3 rfl) gT rfl ?_
          refine y_vg rfl rfl rfl (r_ld ty3 rfl pK (by rfl)) gT rfl ?_
          refine y_cg rfl rfl rfl (r_call0 (args := [_]) ⟨rfl, rfl⟩ (heard_tr (c := c2) cb2) gS) (by rintro _ _ _ _ ⟨rfl, rfl⟩ h; exact Gets.own gS h) rfl ?_
          rintro _ _ ⟨rfl, rfl⟩
          refine y_vg rfl rfl rfl (r_ne rfl rfl) gT rfl ?_
          refine y_v rfl (r_pk_f rfl rfl) gT rfl ?_
          refine y_v rfl (r_mv rfl) gT rfl ?_
          refine XH.splitd 201 rfl (fun hg201 => ?_) (fun hg201 => ?_)
          ·exfalso; exact hg201 rfl
          ·refine y_vg rfl rfl rfl (r_mv rfl) gT rfl ?_
           refine y_vg rfl rfl rfl (r_mv rfl) gT rfl ?_
           refine y_cg rfl rfl rfl (r_call0 (args := [_]) ⟨rfl, rfl⟩ (tick_tr (c := c2) cb2) gS) (by rintro _ _ _ _ ⟨rfl, rfl⟩ h; exact Gets.own gS h) rfl ?_
           rintro _ _ ⟨rfl, rfl⟩
           refine y_cg rfl rfl rfl (r_call0 (args := [_]) ⟨rfl, rfl⟩ (wtick_tr (c := c2) wb) gS) (by rintro _ _ _ _ ⟨rfl, rfl⟩ h; exact Gets.own gS h) rfl ?_
           rintro _ _ ⟨rfl, rfl⟩
           refine y_cg rfl rfl rfl (r_call0 (args := [_, _]) ⟨rfl, rfl, rfl⟩ (same15_tr 11 c2.wants c2.site) gS) (by rintro _ _ _ _ ⟨rfl, rfl⟩ h; exact Gets.own gS h) rfl ?_
           rintro _ _ ⟨rfl, rfl⟩
           refine y_vg rfl rfl rfl (r_not rfl) gT rfl ?_
           refine y_v rfl (r_pk_f rfl rfl) gT rfl ?_
           refine XH.nil ?_
           refine hK40 _ _ ?_
           refine XC.keep [(7, _), (9, _), (11, _), (13, _), (67, _), (68, _), (69, _), (208, _)] ⟨rfl, rfl, rfl, rfl, rfl, rfl, rfl, rfl, trivial⟩ ?_
           refine XC.cond_f rfl ?_
           refine XC.skip ?_
           refine hK15 _ _ ?_
           refine XC.keep [(7, _), (9, _), (11, _), (13, _), (67, _), (68, _), (69, _)] ⟨rfl, rfl, rfl, rfl, rfl, rfl, rfl, trivial⟩ ?_
           refine XC.region ?_
           refine x_v (r_add rfl rfl (by omega)) rfl ?_
           refine x_v (r_mv rfl) rfl ?_
           refine XL.nil ?_
           refine ⟨(i + 1, ⟨cb2, c2, l2, h2, gL2, gO2, L2, G2, r2, M2, N2, k2⟩), ?_, ?_, ⟨rfl, rfl, rfl, rfl, rfl, rfl, rfl, trivial⟩, gS⟩
           ·exact ⟨by dsimp only; omega, ⟨hli2, hri2, hep2, hrm2, hb12, hb22⟩⟩
           ·dsimp only; omega
    ·refine XC.exit rfl ?_
     refine hK11 _ _ ?_
     refine XC.keep [] trivial ?_
     refine XC.seq fun K41 hK41 => ?_
     refine XC.region ?_
     refine x_v (r_as rfl) rfl ?_
     refine XL.nil ?_
     refine hK41 _ _ ?_
     refine XC.keep [(6, _)] ⟨rfl, trivial⟩ ?_
     refine XC.ret ?_
     exact fin1 rfl (rfl) gS
end Go.Proofs.Ytheilpcbilnadaa

/- Crowns: the reference's ledger: a command is done; a command of one's own. -/
import Derived.Test.YtheilpcbilnadaaCrown33
namespace Go.Proofs.Ytheilpcbilnadaa
open Go.Sx
set_option linter.unusedVariables false

theorem rapply_tr {W0 : World} {Fr : List HP} {k : HP} {l : Ls} {r : Rh} {L G : List Od} (b : Nat) (c : Cm) (hl : RI W0 k l r L G) (hc : RdC W0 k c) (hroom : l.room ≤ 64) (hgn : r.gn ≤ 400000) :
  Tr W0 Try.prog 23 [.pointer (some ⟨b, 0, none⟩), .agg (cmc c).toArray] (blk b 93 (rdc r) :: sl r.A r.n r.c 39 9 (cells odc L) :: sl r.gA r.gn r.gc 39 9 (cells odc G) :: k :: Fr) (RPost W0 k Fr b r.gn (applyL l c)) := by
 have hlen := hl.len
 have hpl := hl.p.len
 have hf := hl.f
 have no : (c.epoch ≤ l.fence ∨ 80 ≤ l.ops.length) → reignL l c = l := fun q => by unfold reignL; rw [if_pos q]
 refine Entry.tr (N := 58) (rs := [.cell 4 62]) ⟨_, Try.func23, rfl, by kernel_rfl, rfl, rfl⟩ rfl ?_
 refine XC.seq fun K1 hK1 => ?_
 refine XC.region ?_
 refine x_a (r_bx rfl rfl) rfl fun b3 => ?_
 unfold cmc
 refine x_a (r_al ty62 rfl) rfl fun b4 => ?_
 refine XL.nil ?_
 refine hK1 _ _ ?_
 refine XC.keep [(0, _), (3, _), (4, _)] ⟨rfl, rfl, rfl, trivial⟩ ?_
 refine XC.seq fun K2 hK2 => ?_
 refine XC.seq fun K3 hK3 => ?_
 refine XC.region ?_
 refine x_v (r_lda (l' := [_, _, _, _, _, _, _, _, _, _, _, _, _, _, _, _]) ty41 rfl pK rfl (Sub.get sU)) rfl ?_
 refine x_c (r_call0 (args := [_]) ⟨rfl, rfl⟩ (right_tr (k := k) c hc.op hc.rd hc.el hc.ln) gS) rfl ?_
 rintro _ _ ⟨rfl, rfl⟩
 refine x_v (r_not rfl) rfl ?_
 refine XL.nil ?_
 refine hK3 _ _ ?_
 refine XC.keep [(0, _), (3, _), (4, _), (7, _)] ⟨rfl, rfl, rfl, rfl, trivial⟩ ?_
 refine XC.cond rfl (fun hc1 => ?_) (fun hc1 => ?_)
 ·refine XC.seq fun K4 hK4 => ?_
  refine XC.region ?_
  refine x_v (r_bd (vs := [_]) rfl ⟨rfl, rfl⟩ (bd62_0 _)) rfl ?_
  refine x_e (r_st ty62 rfl rfl rfl rfl rfl uD oV) ?_
  refine XL.nil ?_
  refine hK4 _ _ ?_
  refine XC.keep [(4, _)] ⟨rfl, trivial⟩ ?_
  refine XC.ret ?_
  rw [ap_no (by cases hq : cmdOk c with | false => rfl | true => (rw [hq] at hc1; cases hc1))]
  exact finc1 ty62 rfl pK (by rfl) (⟨r, L, G, k, ⟨_, _, _, rfl⟩, rfl, Ex.refl W0 k, hl, by omega⟩) gS
 ·refine XC.skip ?_
  refine hK2 _ _ ?_
  refine XC.keep [(0, _), (3, _), (4, _)] ⟨rfl, rfl, rfl, trivial⟩ ?_
  refine XC.seq fun K5 hK5 => ?_
  refine XC.seq fun K6 hK6 => ?_
  have hok : cmdOk c = true := by (cases hq : cmdOk c with | true => rfl | false => (rw [hq] at hc1; cases hc1))
  refine XC.region ?_
  refine x_v (r_fa fo41_0 rfl) rfl ?_
  refine x_v (r_ld ty3 rfl pK (by rfl)) rfl ?_
  refine XL.nil ?_
  refine hK6 _ _ ?_
  refine XC.keep [(0, _), (3, _), (4, _), (10, _)] ⟨rfl, rfl, rfl, rfl, trivial⟩ ?_
  refine XC.block ?_
  refine XC.seq fun K7 hK7 => ?_
  refine XC.region ?_
  refine x_v (r_eq rfl rfl) rfl ?_
  refine x_v (r_as rfl) rfl ?_
  refine XL.nil ?_
  refine hK7 _ _ ?_
  refine XC.keep [(0, _), (3, _), (4, _), (10, _), (11, _)] ⟨rfl, rfl, rfl, rfl, rfl, trivial⟩ ?_
  refine XC.cond_d rfl (fun hc2 => ?_) (fun hc2 => ?_)
  ·refine XC.seq fun K8 hK8 => ?_
   refine XC.region ?_
   refine x_v (r_mv rfl) rfl ?_
   refine x_v (r_lda (l' := [_, _, _, _, _, _, _, _, _, _, _, _, _, _, _, _]) ty41 rfl pK rfl (Sub.get sU)) rfl ?_
   refine x_c (r_call0 (args := [_, _]) ⟨rfl, rfl, rfl⟩ (rdo_tr (k := k) b c hl hc.op (by (have := ck1 hc2; rw [hok] at this; cases hq : opOk (opIn c) with | true => rfl | false => (rw [hq, Bool.and_false] at this; cases this))) hroom) gS) rfl ?_
   rintro _ _ ⟨r2, L2, G2, k2, ⟨a2, d2, f2, rfl⟩, rfl, hx2, hl2, hln2⟩
   refine x_e (r_st ty62 rfl rfl rfl rfl rfl uD oV) ?_
   refine XL.nil ?_
   refine hK8 _ _ ?_
   refine XC.keep [(4, _)] ⟨rfl, trivial⟩ ?_
   refine XC.ret ?_
   rw [ap1 hok hc2]
   exact finc1 ty62 rfl pK (by rfl) (⟨r2, L2, G2, k2, ⟨_, _, _, rfl⟩, rfl, hx2, hl2, hln2⟩) gS
  ·refine XC.seq fun K9 hK9 => ?_
   refine XC.region ?_
   refine x_v (r_eq rfl rfl) rfl ?_
   refine x_v (r_as rfl) rfl ?_
   refine XL.nil ?_
   refine hK9 _ _ ?_
   refine XC.keep [(0, _), (3, _), (4, _), (10, _), (16, _)] ⟨rfl, rfl, rfl, rfl, rfl, trivial⟩ ?_
   refine XC.cond_d rfl (fun hc3 => ?_) (fun hc3 => ?_)
   ·refine XC.seq fun K10 hK10 => ?_
    refine XC.region ?_
    refine x_v (r_mv rfl) rfl ?_
    refine x_v (r_lda (l' := [_, _, _, _, _, _, _, _, _, _, _, _, _, _, _, _]) ty41 rfl pK rfl (Sub.get sU)) rfl ?_
    refine x_c (r_call0 (args := [_, _]) ⟨rfl, rfl, rfl⟩ (rship_tr (k := k) b c hl hc.rd hc.el hc.cap (by (have := ck3 hc3; rw [hok] at this; exact of_decide_eq_true (Bool.and_eq_true_iff.1 this.symm).1)) (by (have := ck3 hc3; rw [hok] at this; exact (Bool.and_eq_true_iff.1 (Bool.and_eq_true_iff.1 this.symm).2).1)) hgn) gS) rfl ?_
    rintro _ _ ⟨r2, L2, G2, k2, ⟨a2, d2, f2, rfl⟩, rfl, hx2, hl2, hln2⟩
    refine x_e (r_st ty62 rfl rfl rfl rfl rfl uD oV) ?_
    refine XL.nil ?_
    refine hK10 _ _ ?_
    refine XC.keep [(4, _)] ⟨rfl, trivial⟩ ?_
    refine XC.ret ?_
    rw [ap3 hok hc3]
    exact finc1 ty62 rfl pK (by rfl) (⟨r2, L2, G2, k2, ⟨_, _, _, rfl⟩, rfl, hx2, hl2, hln2⟩) gS
   ·refine XC.seq fun K11 hK11 => ?_
    refine XC.region ?_
    refine x_v (r_eq rfl rfl) rfl ?_
    refine x_v (r_as rfl) rfl ?_
    refine XL.nil ?_
    refine hK11 _ _ ?_
    refine XC.keep [(0, _), (3, _), (4, _), (10, _), (21, _)] ⟨rfl, rfl, rfl, rfl, rfl, trivial⟩ ?_
    refine XC.cond_d rfl (fun hc4 => ?_) (fun hc4 => ?_)
    ·refine XC.seq fun K12 hK12 => ?_
     refine XC.region ?_
     refine x_v (r_mv rfl) rfl ?_
     refine x_v (r_lda (l' := [_, _, _, _, _, _, _, _, _, _, _, _, _, _, _, _]) ty41 rfl pK rfl (Sub.get sU)) rfl ?_
     refine x_c (r_call0 (args := [_, _]) ⟨rfl, rfl, rfl⟩ (rmark_tr (k := k) b c hl (by (have := ck5 hc4; rw [hok] at this; exact of_decide_eq_true this.symm))) gS) rfl ?_
     rintro _ _ ⟨r2, L2, G2, k2, ⟨a2, d2, f2, rfl⟩, rfl, hx2, hl2, hln2⟩
     refine x_e (r_st ty62 rfl rfl rfl rfl rfl uD oV) ?_
     refine XL.nil ?_
     refine hK12 _ _ ?_
     refine XC.keep [(4, _)] ⟨rfl, trivial⟩ ?_
     refine XC.ret ?_
     rw [apn hok (by omega) (by omega) (by omega)]
     exact finc1 ty62 rfl pK (by rfl) (⟨r2, L2, G2, k2, ⟨_, _, _, rfl⟩, rfl, hx2, hl2, hln2⟩) gS
    ·refine XC.seq fun K13 hK13 => ?_
     refine XC.region ?_
     refine x_v (r_eq rfl rfl) rfl ?_
     refine x_v (r_as rfl) rfl ?_
     refine XL.nil ?_
     refine hK13 _ _ ?_
     refine XC.keep [(0, _), (3, _), (4, _), (26, _)] ⟨rfl, rfl, rfl, rfl, trivial⟩ ?_
     refine XC.cond_d rfl (fun hc5 => ?_) (fun hc5 => ?_)
     ·refine XC.seq fun K14 hK14 => ?_
      refine XC.seq fun K15 hK15 => ?_
      unfold rdc
      have hrg : Reigned c.epoch c.site := by (have := ck4 hc5; rw [hok] at this; exact (of_decide_eq_true this.symm).2.2.2)
      refine XC.draw [blk b3 41 [.int .i64 c.kind, .int .i64 c.epoch, .int .i64 c.site, .int .i64 c.op.1.n, .int .i64 c.op.1.epoch, .int .i64 c.op.1.kind, .int .i64 c.op.1.site, .int .i64 c.op.1.client, .int .i64 c.op.1.seq, str c.op.1.name, .int .i64 c.op.1.size, .slice c.op.2.1 c.op.1.hs.length c.op.2.2, .int .i64 c.after, .int .i64 c.since, .slice c.pA c.ops.length c.pc, .int .i64 c.tag], blk b 93 [.slice r.A r.n r.c, .slice r.gA r.gn r.gc, .int .i64 r.fence, .int .i64 r.set, .int .i64 r.quota, .int .i64 r.room]] false [(0, false), (1, false), (2, false), (3, false), (4, false), (5, false), (6, false)] (by kernel_rfl) (by kernel_rfl) ?_
      refine y_v rfl (r_fa fo41_1 rfl) gT rfl ?_
      refine y_v rfl (r_ld ty3 rfl pK (by rfl)) gT rfl ?_
      refine y_v rfl (r_mv rfl) gT rfl ?_
      refine y_v rfl (r_nc rfl) gT rfl ?_
      refine y_v rfl (r_fa fo93_2 rfl) gT rfl ?_
      refine y_v rfl (r_ld ty3 rfl pK (by rfl)) gT rfl ?_
      refine y_v rfl (r_le rfl rfl) gT rfl ?_
      refine XH.nil ?_
      refine hK15 _ _ ?_
      refine XC.keep [(0, _), (3, _), (4, _), (34, _)] ⟨rfl, rfl, rfl, rfl, trivial⟩ ?_
      refine XC.cond_d rfl (fun hc6 => ?_) (fun hc6 => ?_)
      ·refine XC.seq fun K16 hK16 => ?_
       refine XC.region ?_
       refine x_v (r_bd (vs := [_]) rfl ⟨rfl, rfl⟩ (bd62_0 _)) rfl ?_
       refine x_e (r_st ty62 rfl rfl rfl rfl rfl uD oV) ?_
       refine XL.nil ?_
       refine hK16 _ _ ?_
       refine XC.keep [(4, _)] ⟨rfl, trivial⟩ ?_
       refine XC.ret ?_
       rw [ap4 hok hc5, no (by omega)]
       exact finc1 ty62 rfl pK (by rfl) (⟨r, L, G, k, ⟨_, _, _, rfl⟩, rfl, Ex.refl W0 k, hl, by omega⟩) gS
      ·refine XC.skip ?_
       refine hK14 _ _ ?_
       refine XC.keep [(0, _), (3, _), (4, _)] ⟨rfl, rfl, rfl, trivial⟩ ?_
       refine XC.seq fun K17 hK17 => ?_
       refine XC.seq fun K18 hK18 => ?_
       refine XC.region ?_
       refine x_v (r_mv rfl) rfl ?_
       refine x_v (r_nc rfl) rfl ?_
       refine x_v (r_fa fo93_0 rfl) rfl ?_
       refine x_v (r_ld ty33 rfl pK (by rfl)) rfl ?_
       refine x_v (r_lensl Try.underlying33 rfl) rfl ?_
       refine x_v (r_ge rfl rfl) rfl ?_
       refine XL.nil ?_
       refine hK18 _ _ ?_
       refine XC.keep [(0, _), (3, _), (4, _), (41, _)] ⟨rfl, rfl, rfl, rfl, trivial⟩ ?_
       refine XC.cond_d rfl (fun hc7 => ?_) (fun hc7 => ?_)
       ·refine XC.seq fun K19 hK19 => ?_
        refine XC.region ?_
        refine x_v (r_bd (vs := [_]) rfl ⟨rfl, rfl⟩ (bd62_0 _)) rfl ?_
        refine x_e (r_st ty62 rfl rfl rfl rfl rfl uD oV) ?_
        refine XL.nil ?_
        refine hK19 _ _ ?_
        refine XC.keep [(4, _)] ⟨rfl, trivial⟩ ?_
        refine XC.ret ?_
        rw [ap4 hok hc5, no (by omega)]
        exact finc1 ty62 rfl pK (by rfl) (⟨r, L, G, k, ⟨_, _, _, rfl⟩, rfl, Ex.refl W0 k, hl, by omega⟩) gS
       ·refine XC.skip ?_
        refine hK17 _ _ ?_
        refine XC.keep [(0, _), (3, _), (4, _)] ⟨rfl, rfl, rfl, trivial⟩ ?_
        refine XC.seq fun K20 hK20 => ?_
        refine XC.region ?_
        refine x_v (r_mv rfl) rfl ?_
        refine x_v (r_fa fo41_1 rfl) rfl ?_
        refine x_v (r_ld ty3 rfl pK (by rfl)) rfl ?_
        refine x_v (r_nc rfl) rfl ?_
        refine x_v (r_fa fo93_2 rfl) rfl ?_
        refine x_e (r_st ty3 rfl rfl rfl rfl rfl uD oV) ?_
        refine XL.nil ?_
        refine hK20 _ _ ?_
        refine XC.keep [(0, _), (3, _), (4, _)] ⟨rfl, rfl, rfl, trivial⟩ ?_
        refine XC.seq fun K21 hK21 => ?_
        refine XC.region ?_
        refine x_v (r_mv rfl) rfl ?_
        refine x_v (r_bd (vs := [_]) rfl ⟨rfl, rfl⟩ (bd39_2 _)) rfl ?_
        refine x_v (r_fa fo41_1 rfl) rfl ?_
        refine x_v (r_ld ty3 rfl pK (by rfl)) rfl ?_
        refine x_v (r_fa fo41_2 rfl) rfl ?_
        refine x_v (r_ld ty3 rfl pK (by rfl)) rfl ?_
        refine x_c (r_call0 (args := [_, _, _, _]) ⟨rfl, rfl, rfl, rfl, rfl⟩ (rput_tr (k := k) (r := { r with fence := c.epoch }) b (reignOp, none, 0) c.epoch c.site (hl.fence c.epoch) ⟨Rdb.nil _ _ _, by decide⟩ (by dsimp only; omega) (reign_ok hrg (by dsimp only; omega))) gS) rfl ?_
        rintro _ _ ⟨r2, L2, G2, k2, ⟨a33, d33, f33, rfl⟩, rfl, hx2, hl2, hln2⟩
        refine x_e (r_st ty62 rfl rfl rfl rfl rfl uD oV) ?_
        refine XL.nil ?_
        refine hK21 _ _ ?_
        refine XC.keep [(4, _)] ⟨rfl, trivial⟩ ?_
        refine XC.ret ?_
        have e : reignL l c = putL { l with fence := c.epoch } reignOp c.epoch c.site := by unfold reignL; rw [if_neg (by omega)]
        rw [ap4 hok hc5, e]
        exact finc1 ty62 rfl pK (by rfl) (⟨r2, L2, G2, k2, ⟨_, _, _, rfl⟩, rfl, hx2, hl2, hln2⟩) gS
     ·refine XC.skip ?_
      refine hK5 _ _ ?_
      refine XC.keep [(0, _), (4, _)] ⟨rfl, rfl, trivial⟩ ?_
      refine XC.seq fun K22 hK22 => ?_
      refine XC.region ?_
      refine x_v (r_mv rfl) rfl ?_
      refine x_c (r_call0 (args := [_]) ⟨rfl, rfl⟩ (rlast_tr (r := r) b hl.n (by omega)) gS) rfl ?_
      rintro _ _ ⟨⟨n38, e38, rfl⟩, rfl⟩
      refine x_v (r_bd (vs := [_]) rfl ⟨rfl, rfl⟩ (bd62_1 _ _)) rfl ?_
      refine x_e (r_st ty62 rfl rfl rfl rfl rfl uD oV) ?_
      refine XL.nil ?_
      refine hK22 _ _ ?_
      refine XC.keep [(4, _)] ⟨rfl, trivial⟩ ?_
      refine XC.ret ?_
      rw [apn hok hc2 hc3 hc5]
      exact finc1 ty62 rfl pK (by rfl) (⟨r, L, G, k, ⟨_, _, _, rfl⟩, rfl, Ex.refl W0 k, hl, by omega⟩) gS
/-- Commands that say the same. -/
structure SameC (c d : Cm) : Prop where
 k : d.kind = c.kind
 e : d.epoch = c.epoch
 s : d.site = c.site
 o : d.op.1 = c.op.1
 a : d.after = c.after
 i : d.since = c.since
 l : fst1 d.ops = fst1 c.ops
 t : d.tag = c.tag
theorem SameC.len {c d : Cm} (h : SameC c d) : d.ops.length = c.ops.length := by
 have := congrArg List.length h.l
 rwa [fst_ln, fst_ln] at this
theorem SameC.ok {c d : Cm} (h : SameC c d) : cmdOk d = cmdOk c := by
 have hN : NoneP d ↔ NoneP c := by unfold NoneP; rw [h.o]
 have hS : ShortP d ↔ ShortP c := by unfold ShortP; rw [h.a, h.i, h.len]
 have hB : NobodyP d ↔ NobodyP c := by unfold NobodyP; rw [h.e, h.s]
 have hT : TagP d ↔ TagP c := by unfold TagP; rw [h.t]
 have e0 : decide (NoneP d ∧ ShortP d ∧ NobodyP d ∧ d.tag = 0) = decide (NoneP c ∧ ShortP c ∧ NobodyP c ∧ c.tag = 0) := decide_eq_decide.2 (by rw [hN, hS, hB, h.t])
 have e1 : decide (DoP d) = decide (DoP c) := decide_eq_decide.2 (by unfold DoP; rw [h.o, hS, hT])
 have e2 : decide (NoneP d ∧ ShortP d ∧ NobodyP d ∧ TagP d) = decide (NoneP c ∧ ShortP c ∧ NobodyP c ∧ TagP c) := decide_eq_decide.2 (by rw [hN, hS, hB, hT])
 have e3 : decide (ShipP d) = decide (ShipP c) := decide_eq_decide.2 (by unfold ShipP; rw [hN, h.t, h.e, h.s, h.len, h.i])
 have e4 : decide (ReignP d) = decide (ReignP c) := decide_eq_decide.2 (by unfold ReignP; rw [hN, hS, h.t, h.e, h.s])
 have e5 : decide (MarkP d) = decide (MarkP c) := decide_eq_decide.2 (by unfold MarkP; rw [hN, h.t, h.e, h.s, h.len, h.a, h.i])
 have eo : opIn d = opIn c := by unfold opIn; rw [h.o, h.e, h.s]
 unfold cmdOk
 rw [h.k, e0, e1, e2, e3, e4, e5, eo, h.a, h.i, h.l, h.e]
theorem SameC.apply {c d : Cm} (h : SameC c d) (l : Ls) : applyL l d = applyL l c := by
 have h1 : doL l d = doL l c := by
  have hd : DoOk l d ↔ DoOk l c := by unfold DoOk; rw [h.e, h.s, h.o]
  unfold doL
  by_cases hq : DoOk l c
  ·rw [if_pos hq, if_pos (hd.2 hq), h.o, h.e, h.s]
  ·rw [if_neg hq, if_neg (fun x => hq (hd.1 x))]
 have h2 : shipL l d = shipL l c := by unfold shipL; rw [h.e, h.s, h.a, h.i, h.l]
 have h3 : reignL l d = reignL l c := by unfold reignL; rw [h.e, h.s]
 unfold applyL
 rw [h.ok, h.k, h1, h2, h3]
theorem ownc_tr {W0 : World} {Fr : List HP} {k : HP} (c : Cm) (hop : RdO W0 k c.op) (hr : Rdb W0 [k] c.pA c.ops.length 9 (cells odc c.ops)) (hel : ∀ o ∈ c.ops, RdO W0 k o) (hl : c.ops.length ≤ 1466015503701) :
  Tr W0 Try.prog 22 [.agg (cmc c).toArray] (k :: Fr) (fun v Rs' => ∃ d k2, v = .agg (cmc d).toArray ∧ Rs' = k2 :: Fr ∧ Ex W0 k k2 ∧ RdC W0 k2 d ∧ SameC c d) := by
 refine Entry.tr (N := 15) (rs := [.cell 2 41]) ⟨_, Try.func22, rfl, by kernel_rfl, rfl, rfl⟩ rfl ?_
 refine XC.seq fun K1 hK1 => ?_
 refine XC.region ?_
 refine x_a (r_bx rfl rfl) rfl fun b1 => ?_
 unfold cmc
 refine x_a (r_al ty41 rfl) rfl fun b2 => ?_
 refine XL.nil ?_
 refine hK1 _ _ ?_
 refine XC.keep [(1, _), (2, _)] ⟨rfl, rfl, trivial⟩ ?_
 refine XC.seq fun K2 hK2 => ?_
 refine XC.region ?_
 refine x_v (r_fa fo41_3 rfl) rfl ?_
 refine x_v (r_lda (l' := [_, _, _, _, _, _, _, _, _]) ty39 rfl pK rfl (Sub.get sU)) rfl ?_
 refine x_a (r_bs (vs := [_]) rfl ⟨rfl, rfl⟩ (bs33_1_0 _ _ _ _ _ _ _ _ _ _ _)) rfl fun b5 => ?_
 rw [show ([.int .i64 c.op.1.n, .int .i64 c.op.1.epoch, .int .i64 c.op.1.kind, .int .i64 c.op.1.site, .int .i64 c.op.1.client, .int .i64 c.op.1.seq, str c.op.1.name, .int .i64 c.op.1.size, .slice c.op.2.1 c.op.1.hs.length c.op.2.2] : List Value) = odc c.op from rfl]
 refine x_c (r_call0 (args := [_]) ⟨rfl, rfl⟩ (ownops_tr (k := k) (Fr := blk b5 39 (odc c.op) :: blk b1 41 [.int .i64 c.kind, .int .i64 c.epoch, .int .i64 c.site, .int .i64 c.op.1.n, .int .i64 c.op.1.epoch, .int .i64 c.op.1.kind, .int .i64 c.op.1.site, .int .i64 c.op.1.client, .int .i64 c.op.1.seq, str c.op.1.name, .int .i64 c.op.1.size, .slice c.op.2.1 c.op.1.hs.length c.op.2.2, .int .i64 c.after, .int .i64 c.since, .slice c.pA c.ops.length c.pc, .int .i64 c.tag] :: blk b2 41 [.int .i64 0, .int .i64 0, .int .i64 0, .int .i64 0, .int .i64 0, .int .i64 0, .int .i64 0, .int .i64 0, .int .i64 0, .string ⟨#[]⟩, .int .i64 0, .slice none 0 0, .int .i64 0, .int .i64 0, .slice none 0 0, .int .i64 0] :: Fr) (some ⟨b5, 0, none⟩) 1 [c.op] (fun k2 _ => rd_one c.op pK) (fun q hq => by rw [List.mem_singleton.1 hq]; exact hop) (by simp only [List.length_singleton]; omega)) gS) rfl ?_
 rintro _ _ ⟨A6, c6, k6, L6, rfl, rfl, hx6, hf6, hk6⟩
 obtain ⟨o3, rfl, ho3⟩ := one_of hf6
 have hro3 := hk6 o3 (List.mem_singleton.2 rfl)
 refine XL.slnn (A := A6) pK fun hl6 hA6 => ?_
 have hrd3 : Rdb W0 [sl A6 1 c6 39 9 (cells odc [o3])] A6 1 9 (cells odc [o3]) := Rdb.of_sl (.head _ _) hl6 hA6
 obtain ⟨sb, so, hsa, hat⟩ := hrd3.at_ (by omega)
 have hidx : [o3][0]? = some o3 := rfl
 refine x_v (r_ia (k := 0) Try.underlying33 ty39 (by rw [hsa]; rfl) rfl rfl (by simp)) rfl ?_
 refine x_v (r_ldar (l' := odc o3) ty39 rfl rfl (fun w hw j u hu => by rw [Nat.add_assoc]; exact hat w (Gets.own gS hw) _ u (cells_get odc_len [o3] _ _ hidx j u hu))) rfl ?_
 rw [odc_def o3]
 refine x_v (r_fa fo41_3 rfl) rfl ?_
 refine x_e (r_st ty39 rfl rfl rfl rfl rfl uD oV) ?_
 refine XL.nil ?_
 refine hK2 _ _ ?_
 refine XC.keep [(1, _), (2, _)] ⟨rfl, rfl, trivial⟩ ?_
 refine XC.seq fun K3 hK3 => ?_
 refine XC.region ?_
 refine x_v (r_fa fo41_6 rfl) rfl ?_
 refine x_v (r_ld ty33 rfl pK (by rfl)) rfl ?_
 refine x_c (r_call0 (args := [_]) ⟨rfl, rfl⟩ (ownops_tr (k := k6) (Fr := blk b1 41 [.int .i64 c.kind, .int .i64 c.epoch, .int .i64 c.site, .int .i64 o3.1.n, .int .i64 o3.1.epoch, .int .i64 o3.1.kind, .int .i64 o3.1.site, .int .i64 o3.1.client, .int .i64 o3.1.seq, str o3.1.name, .int .i64 o3.1.size, .slice o3.2.1 o3.1.hs.length o3.2.2, .int .i64 c.after, .int .i64 c.since, .slice c.pA c.ops.length c.pc, .int .i64 c.tag] :: blk b2 41 [.int .i64 0, .int .i64 0, .int .i64 0, .int .i64 0, .int .i64 0, .int .i64 0, .int .i64 0, .int .i64 0, .int .i64 0, .string ⟨#[]⟩, .int .i64 0, .slice none 0 0, .int .i64 0, .int .i64 0, .slice none 0 0, .int .i64 0] :: Fr) c.pA c.pc c.ops (fun k2 hx2 => (hr.ex (hx6.trans hx2)).mono (fun w hw => Gets.own gS hw)) (fun q hq => (hel q hq).ex hx6) (by omega)) gS) rfl ?_
 rintro _ _ ⟨A12, c12, k12, M, rfl, rfl, hx12, hf12, hk12⟩
 refine x_v (r_fa fo41_6 rfl) rfl ?_
 refine x_e (r_st ty33 rfl rfl rfl rfl rfl uD oV) ?_
 refine XL.nil ?_
 refine hK3 _ _ ?_
 refine XC.keep [(1, _), (2, _)] ⟨rfl, rfl, trivial⟩ ?_
 refine XC.seq fun K4 hK4 => ?_
 refine XC.slnn (A := A12) pK fun hl12 hA12 => ?_
 refine XC.sllen (A := A12) pK fun _ hcap _ => ?_
 refine XC.stash (x := sl A12 M.length c12 39 9 (cells odc M)) (k := k12) pK pK ?_
 refine XC.region ?_
 refine x_v (r_lda (l' := [_, _, _, _, _, _, _, _, _, _, _, _, _, _, _, _]) ty41 rfl pK rfl (Sub.get sU)) rfl ?_
 refine x_e (r_st ty41 rfl rfl rfl rfl rfl uD oV) ?_
 refine XL.nil ?_
 refine hK4 _ _ ?_
 refine XC.keep [(2, _)] ⟨rfl, trivial⟩ ?_
 refine XC.ret ?_
 have hm := fst_len hf12
 exact finc1 ty41 rfl pK (by rfl) (⟨{ c with op := o3, pA := A12, ops := M, pc := c12 }, sep (sl A12 M.length c12 39 9 (cells odc M)) k12, rfl, rfl, (hx6.trans hx12).trans (Ex.on W0 _ _), ⟨hro3.ex (hx12.trans (Ex.on W0 _ _)), Rdb.laid k12 hl12 hA12, fun q hq => (hk12 q hq).ex (Ex.on W0 _ _), by dsimp only; omega, hcap⟩, ⟨rfl, rfl, rfl, ho3, rfl, rfl, hf12, rfl⟩⟩) gS
end Go.Proofs.Ytheilpcbilnadaa

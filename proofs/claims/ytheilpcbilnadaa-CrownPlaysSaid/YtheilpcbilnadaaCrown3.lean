/- Crowns: what a crown takes, asks, says of a ledger. -/
import Derived.Test.YtheilpcbilnadaaCrown2
namespace Go.Proofs.Ytheilpcbilnadaa
open Go.Sx
set_option linter.unusedVariables false

theorem check12_tr {W0 : World} {Fr : List HP} (m : Mal) (hk : m.kind = 12) (hl : Lens m) : Tr W0 Try.prog 35 [.agg (mac m).toArray] Fr (fun v Rs' => v = .int .i64 (if grantOk m then 0 else 3) ∧ Rs' = Fr) := by
 refine Entry.tr (N := 14) (rs := [.tmp 2]) ⟨_, Try.func35, rfl, by kernel_rfl, rfl, rfl⟩ rfl ?_
 refine XC.seq fun K1 hK1 => ?_
 refine XC.region ?_
 refine x_a (r_bx rfl rfl) rfl fun b1 => ?_
 unfold mac
 refine x_v (r_as rfl) rfl ?_
 refine XL.nil ?_
 refine hK1 _ _ ?_
 refine XC.keep [(1, _)] ⟨rfl, trivial⟩ ?_
 refine XC.seq fun K2 hK2 => ?_
 refine XC.region ?_
 refine x_v (r_as rfl) rfl ?_
 refine XL.nil ?_
 refine hK2 _ _ ?_
 refine XC.keep [(1, _)] ⟨rfl, trivial⟩ ?_
 refine XC.seq fun K3 hK3 => ?_
 refine XC.seq fun K4 hK4 => ?_
 refine XC.region ?_
 refine x_v (r_fa fo35_0 rfl) rfl ?_
 refine x_v (r_ld ty3 rfl pK (by rfl)) rfl ?_
 refine x_a (r_bs (vs := [_]) rfl ⟨rfl, rfl⟩ (bs32_1_0 _)) rfl fun b6 => ?_
 refine x_c (r_call0 (args := [_, _, _]) ⟨rfl, rfl, rfl, rfl⟩ (win1_tr m.kind 1 5 b6) gS) rfl ?_
 rintro _ _ ⟨rfl, rfl⟩
 refine XL.nil ?_
 refine hK4 _ _ ?_
 refine XC.keep [(1, _), (7, _)] ⟨rfl, rfl, trivial⟩ ?_
 refine XC.cond_d rfl (fun hc1 => ?_) (fun hc1 => ?_)
 ·exfalso; omega
 ·refine XC.region ?_
  refine x_v (r_lda (l' := [_, _, _, _, _, _, _, _, _, _, _, _, _, _, _, _, _]) ty35 rfl pK rfl (Sub.get sU)) rfl ?_
  refine x_c (r_call0 (args := [_]) ⟨rfl, rfl⟩ (other_tr m hk hl) gS) rfl ?_
  rintro _ _ ⟨rfl, rfl⟩
  refine x_v (r_as rfl) rfl ?_
  refine XL.nil ?_
  refine hK3 _ _ ?_
  refine XC.keep [(3, _)] ⟨rfl, trivial⟩ ?_
  refine XC.seq fun K5 hK5 => ?_
  refine XC.seq fun K6 hK6 => ?_
  refine XC.region ?_
  refine x_v (r_mv rfl) rfl ?_
  refine x_v (r_not_d rfl) rfl ?_
  refine XL.nil ?_
  refine hK6 _ _ ?_
  refine XC.keep [(13, _)] ⟨rfl, trivial⟩ ?_
  refine XC.cond_d rfl (fun hc2 => ?_) (fun hc2 => ?_)
  ·refine XC.seq fun K7 hK7 => ?_
   refine XC.region ?_
   refine x_v (r_as rfl) rfl ?_
   refine XL.nil ?_
   refine hK7 _ _ ?_
   refine XC.keep [(2, _)] ⟨rfl, trivial⟩ ?_
   refine XC.ret ?_
   exact fin1 rfl (⟨congrArg (Value.int .i64) (if_neg hc2).symm, rfl⟩) gS
  ·refine XC.skip ?_
   refine hK5 _ _ ?_
   refine XC.keep [] trivial ?_
   refine XC.seq fun K8 hK8 => ?_
   refine XC.region ?_
   refine x_v (r_as rfl) rfl ?_
   refine XL.nil ?_
   refine hK8 _ _ ?_
   refine XC.keep [(2, _)] ⟨rfl, trivial⟩ ?_
   refine XC.ret ?_
   exact fin1 rfl (⟨congrArg (Value.int .i64) (if_pos (Classical.not_not.1 hc2)).symm, rfl⟩) gS
def takeOk (c : Cw) (m : Mal) : Prop := m.kind = 12 ∧ grantOk m ∧ c.tE ≤ m.epoch
instance (c : Cw) (m : Mal) : Decidable (takeOk c m) := by unfold takeOk; infer_instance
def takeOf (c : Cw) (m : Mal) : Cw := if takeOk c m then { hearOf { c with tE := m.epoch, tS := m.site } m.epoch with wants := if c.wants ≤ m.epoch then 0 else c.wants } else c
theorem hear_wants (c : Cw) (e : Int) : (hearOf c e).wants = c.wants := by unfold hearOf; split <;> rfl
theorem take_tr {W0 : World} {Fr : List HP} {c : Cw} (b : Nat) (m : Mal) (hl : Lens m) : Tr W0 Try.prog 12 [.pointer (some ⟨b, 0, none⟩), .agg (mac m).toArray] (blk b 81 (cc c) :: Fr) (fun v Rs' => v = .bool (decide (takeOk c m)) ∧ Rs' = blk b 81 (cc (takeOf c m)) :: Fr) := by
 unfold cc
 have no : ¬ takeOk c m → takeOf c m = c := fun h => by unfold takeOf; rw [if_neg h]
 refine Entry.tr (N := 53) (rs := [.tmp 4]) ⟨_, Try.func12, rfl, by kernel_rfl, rfl, rfl⟩ rfl ?_
 refine XC.seq fun K1 hK1 => ?_
 refine XC.region ?_
 refine x_a (r_bx rfl rfl) rfl fun b3 => ?_
 unfold mac
 refine x_v (r_as rfl) rfl ?_
 refine XL.nil ?_
 refine hK1 _ _ ?_
 refine XC.keep [(0, _), (3, _)] ⟨rfl, rfl, trivial⟩ ?_
 refine XC.seq fun K2 hK2 => ?_
 refine XC.seq fun K3 hK3 => ?_
 refine XC.draw [blk b3 35 [.int .i64 m.kind, .int .i64 m.term, .int .i64 m.index, .int .i64 m.prev, .int .i64 m.commit, .bool m.good, .slice m.eA m.es.length m.ec, str m.data, .slice m.hA m.hs.length m.hc, .int .i64 m.epoch, .int .i64 m.site, .int .i64 m.at1, .int .i64 m.at2, .int .i64 m.w1, .int .i64 m.w2, .slice m.oA m.ho.length m.oc, .slice m.pA m.ops.length m.pc], blk b 81 [.int .i64 c.tE, .int .i64 c.tS, .int .i64 c.heard, .int .i64 c.wants, .int .i64 c.site, .int .i64 c.epochs]] false [(0, false), (1, false), (2, false), (3, false), (4, false), (5, false), (6, false), (7, false), (8, false), (9, true), (10, false), (11, false), (12, false), (13, false), (14, false), (15, false), (16, false), (17, false), (18, false), (19, false), (20, false), (21, false), (22, false)] (by kernel_rfl) (by kernel_rfl) ?_
 refine y_v rfl (r_mv rfl) gT rfl ?_
 refine y_v rfl (r_peq_some Try.underlying23 rfl rfl) gT rfl ?_
 refine y_v rfl (r_mv rfl) gT rfl ?_
 refine y_vg rfl rfl rfl (r_fa fo35_0 rfl) gT rfl ?_
 refine y_vg rfl rfl rfl (r_ld ty3 rfl pK (by rfl)) gT rfl ?_
 refine y_vg rfl rfl rfl (r_ne rfl rfl) gT rfl ?_
 refine y_v rfl (r_pk_f rfl rfl) gT rfl ?_
 refine y_v rfl (r_mv rfl) gT rfl ?_
 refine XH.splitd 12 rfl (fun hg12 => ?_) (fun hg12 => ?_)
 ·refine y_un rfl rfl rfl (fun _ h => Gets.own gS h) rfl ?_
  refine y_unl rfl rfl rfl (fun _ h => Gets.own gS h) rfl ?_
  refine y_un rfl rfl rfl (fun _ h => Gets.own gS h) rfl ?_
  refine y_v rfl (r_pk_t rfl rfl) gT rfl ?_
  refine y_v rfl (r_mv rfl) gT rfl ?_
  refine y_un rfl rfl rfl (fun _ h => Gets.own gS h) rfl ?_
  refine y_un rfl rfl rfl (fun _ h => Gets.own gS h) rfl ?_
  refine y_un rfl rfl rfl (fun _ h => Gets.own gS h) rfl ?_
  refine y_un rfl rfl rfl (fun _ h => Gets.own gS h) rfl ?_
  refine y_un rfl rfl rfl (fun _ h => Gets.own gS h) rfl ?_
  refine y_un rfl rfl rfl (fun _ h => Gets.own gS h) rfl ?_
  refine y_un rfl rfl rfl (fun _ h => Gets.own gS h) rfl ?_
  refine y_un rfl rfl rfl (fun _ h => Gets.own gS h) rfl ?_
  refine y_un rfl rfl rfl (fun _ h => Gets.own gS h) rfl ?_
  refine y_v rfl (r_pk_t rfl rfl) gT rfl ?_
  refine XH.nil ?_
  refine hK3 _ _ ?_
  refine XC.keep [(0, _), (3, _), (27, _)] ⟨rfl, rfl, rfl, trivial⟩ ?_
  refine XC.cond_t rfl ?_
  refine XC.seq fun K4 hK4 => ?_
  refine XC.region ?_
  refine x_v (r_as rfl) rfl ?_
  refine XL.nil ?_
  refine hK4 _ _ ?_
  refine XC.keep [(4, _)] ⟨rfl, trivial⟩ ?_
  refine XC.ret ?_
  have e : ¬ takeOk c m := fun h => by have := h.1; omega
  rw [no e, decide_eq_false e]
  exact fin1 rfl (⟨rfl, rfl⟩) gS
 ·refine y_vg rfl rfl rfl (r_lda (l' := [_, _, _, _, _, _, _, _, _, _, _, _, _, _, _, _, _]) ty35 rfl pK rfl (Sub.get sU)) gT rfl ?_
  refine y_cg rfl rfl rfl (r_call0 (args := [_]) ⟨rfl, rfl⟩ (check12_tr m (by omega) hl) gS) (by rintro _ _ _ _ ⟨rfl, rfl⟩ h; exact Gets.own gS h) rfl ?_
  rintro _ _ ⟨rfl, rfl⟩
  refine y_vg rfl rfl rfl (r_ne rfl rfl) gT rfl ?_
  refine y_v rfl (r_pk_f rfl rfl) gT rfl ?_
  refine y_v rfl (r_mv rfl) gT rfl ?_
  refine XH.splitd 17 rfl (fun hg17 => ?_) (fun hg17 => ?_)
  ·refine y_un rfl rfl rfl (fun _ h => Gets.own gS h) rfl ?_
   refine y_un rfl rfl rfl (fun _ h => Gets.own gS h) rfl ?_
   refine y_un rfl rfl rfl (fun _ h => Gets.own gS h) rfl ?_
   refine y_un rfl rfl rfl (fun _ h => Gets.own gS h) rfl ?_
   refine y_un rfl rfl rfl (fun _ h => Gets.own gS h) rfl ?_
   refine y_un rfl rfl rfl (fun _ h => Gets.own gS h) rfl ?_
   refine y_un rfl rfl rfl (fun _ h => Gets.own gS h) rfl ?_
   refine y_un rfl rfl rfl (fun _ h => Gets.own gS h) rfl ?_
   refine y_un rfl rfl rfl (fun _ h => Gets.own gS h) rfl ?_
   refine y_v rfl (r_pk_t rfl rfl) gT rfl ?_
   refine XH.nil ?_
   refine hK3 _ _ ?_
   refine XC.keep [(0, _), (3, _), (27, _)] ⟨rfl, rfl, rfl, trivial⟩ ?_
   refine XC.cond_t rfl ?_
   refine XC.seq fun K5 hK5 => ?_
   refine XC.region ?_
   refine x_v (r_as rfl) rfl ?_
   refine XL.nil ?_
   refine hK5 _ _ ?_
   refine XC.keep [(4, _)] ⟨rfl, trivial⟩ ?_
   refine XC.ret ?_
   have e : ¬ takeOk c m := fun h => by (have := h.2.1; rw [if_pos this] at hg17; omega)
   rw [no e, decide_eq_false e]
   exact fin1 rfl (⟨rfl, rfl⟩) gS
  ·refine y_vg rfl rfl rfl (r_fa fo35_9 rfl) gT rfl ?_
   refine y_vg rfl rfl rfl (r_ld ty3 rfl pK (by rfl)) gT rfl ?_
   refine y_vg rfl rfl rfl (r_mv rfl) gT rfl ?_
   refine y_vg rfl rfl rfl (r_nc rfl) gT rfl ?_
   refine y_vg rfl rfl rfl (r_fa fo81_0 rfl) gT rfl ?_
   refine y_vg rfl rfl rfl (r_fa fo79_0 rfl) gT rfl ?_
   refine y_vg rfl rfl rfl (r_fa fo69_0 rfl) gT rfl ?_
   refine y_vg rfl rfl rfl (r_ld ty3 rfl pK (by rfl)) gT rfl ?_
   refine y_vg rfl rfl rfl (r_lt rfl rfl) gT rfl ?_
   refine y_v rfl (r_pk_f rfl rfl) gT rfl ?_
   refine XH.nil ?_
   refine hK3 _ _ ?_
   refine XC.keep [(0, _), (3, _), (27, _)] ⟨rfl, rfl, rfl, trivial⟩ ?_
   refine XC.cond_d rfl (fun hc3 => ?_) (fun hc3 => ?_)
   ·refine XC.seq fun K6 hK6 => ?_
    refine XC.region ?_
    refine x_v (r_as rfl) rfl ?_
    refine XL.nil ?_
    refine hK6 _ _ ?_
    refine XC.keep [(4, _)] ⟨rfl, trivial⟩ ?_
    refine XC.ret ?_
    have e : ¬ takeOk c m := fun h => by have := h.2.2; omega
    rw [no e, decide_eq_false e]
    exact fin1 rfl (⟨rfl, rfl⟩) gS
   ·refine XC.skip ?_
    refine hK2 _ _ ?_
    refine XC.keep [(0, _), (3, _)] ⟨rfl, rfl, trivial⟩ ?_
    refine XC.seq fun K7 hK7 => ?_
    have hok : takeOk c m := ⟨by omega, by (by_cases h : grantOk m; exact h; rw [if_neg h] at hg17; omega), by omega⟩
    have hto : takeOf c m = { hearOf { c with tE := m.epoch, tS := m.site } m.epoch with wants := if c.wants ≤ m.epoch then 0 else c.wants } := by unfold takeOf; rw [if_pos hok]
    refine XC.region ?_
    refine x_v (r_mv rfl) rfl ?_
    refine x_v (r_fa fo35_9 rfl) rfl ?_
    refine x_v (r_ld ty3 rfl pK (by rfl)) rfl ?_
    refine x_v (r_fa fo35_10 rfl) rfl ?_
    refine x_v (r_ld ty3 rfl pK (by rfl)) rfl ?_
    refine x_v (r_bd (vs := [_, _]) rfl ⟨rfl, rfl, rfl⟩ (bd69_0_1 _ _)) rfl ?_
    refine x_v (r_nc rfl) rfl ?_
    refine x_v (r_fa fo81_0 rfl) rfl ?_
    refine x_v (r_fa fo79_0 rfl) rfl ?_
    refine x_e (r_st ty69 rfl rfl rfl rfl rfl uD oV) ?_
    refine XL.nil ?_
    refine hK7 _ _ ?_
    refine XC.keep [(0, _), (3, _)] ⟨rfl, rfl, trivial⟩ ?_
    refine XC.seq fun K8 hK8 => ?_
    refine XC.region ?_
    refine x_v (r_mv rfl) rfl ?_
    refine x_v (r_fa fo35_9 rfl) rfl ?_
    refine x_v (r_ld ty3 rfl pK (by rfl)) rfl ?_
    refine x_c (r_call0 (args := [_, _]) ⟨rfl, rfl, rfl⟩ (hear_tr (c := { c with tE := m.epoch, tS := m.site }) b m.epoch) gS) rfl ?_
    rintro _ _ ⟨rfl, rfl⟩
    have hw := hear_wants { c with tE := m.epoch, tS := m.site } m.epoch
    obtain ⟨c2, hc2d⟩ : ∃ c2, c2 = hearOf { c with tE := m.epoch, tS := m.site } m.epoch := ⟨_, rfl⟩
    rw [← hc2d] at hw hto ⊢
    dsimp only at hw
    unfold cc
    refine XL.nil ?_
    refine hK8 _ _ ?_
    refine XC.keep [(0, _), (3, _)] ⟨rfl, rfl, trivial⟩ ?_
    refine XC.seq fun K9 hK9 => ?_
    refine XC.seq fun K10 hK10 => ?_
    refine XC.draw [blk b3 35 [.int .i64 m.kind, .int .i64 m.term, .int .i64 m.index, .int .i64 m.prev, .int .i64 m.commit, .bool m.good, .slice m.eA m.es.length m.ec, str m.data, .slice m.hA m.hs.length m.hc, .int .i64 m.epoch, .int .i64 m.site, .int .i64 m.at1, .int .i64 m.at2, .int .i64 m.w1, .int .i64 m.w2, .slice m.oA m.ho.length m.oc, .slice m.pA m.ops.length m.pc], blk b 81 [.int .i64 c2.tE, .int .i64 c2.tS, .int .i64 c2.heard, .int .i64 c2.wants, .int .i64 c2.site, .int .i64 c2.epochs]] false [(0, false), (1, false), (2, false), (3, false), (4, false), (5, false), (6, false), (7, false)] (by kernel_rfl) (by kernel_rfl) ?_
    refine y_v rfl (r_mv rfl) gT rfl ?_
    refine y_v rfl (r_nc rfl) gT rfl ?_
    refine y_v rfl (r_fa fo81_0 rfl) gT rfl ?_
    refine y_v rfl (r_fa fo79_2 rfl) gT rfl ?_
    refine y_v rfl (r_ld ty3 rfl pK (by rfl)) gT rfl ?_
    refine y_v rfl (r_fa fo35_9 rfl) gT rfl ?_
    refine y_v rfl (r_ld ty3 rfl pK (by rfl)) gT rfl ?_
    refine y_v rfl (r_le rfl rfl) gT rfl ?_
    refine XH.nil ?_
    refine hK10 _ _ ?_
    refine XC.keep [(0, _), (48, _)] ⟨rfl, rfl, trivial⟩ ?_
    refine XC.cond_d rfl (fun hc4 => ?_) (fun hc4 => ?_)
    ·refine XC.region ?_
     refine x_v (r_mv rfl) rfl ?_
     refine x_v (r_nc rfl) rfl ?_
     refine x_v (r_fa fo81_0 rfl) rfl ?_
     refine x_v (r_fa fo79_2 rfl) rfl ?_
     refine x_e (r_st ty3 rfl rfl rfl rfl rfl uD oV) ?_
     refine XL.nil ?_
     refine hK9 _ _ ?_
     refine XC.keep [] trivial ?_
     refine XC.seq fun K11 hK11 => ?_
     refine XC.region ?_
     refine x_v (r_as rfl) rfl ?_
     refine XL.nil ?_
     refine hK11 _ _ ?_
     refine XC.keep [(4, _)] ⟨rfl, trivial⟩ ?_
     refine XC.ret ?_
     rw [decide_eq_true hok, hto, if_pos (by omega)]
     exact fin1 rfl (⟨rfl, rfl⟩) gS
    ·refine XC.skip ?_
     refine hK9 _ _ ?_
     refine XC.keep [] trivial ?_
     refine XC.seq fun K12 hK12 => ?_
     refine XC.region ?_
     refine x_v (r_as rfl) rfl ?_
     refine XL.nil ?_
     refine hK12 _ _ ?_
     refine XC.keep [(4, _)] ⟨rfl, trivial⟩ ?_
     refine XC.ret ?_
     rw [decide_eq_true hok, hto, if_neg (by omega), ← hw]
     exact fin1 rfl (⟨rfl, rfl⟩) gS
theorem tick_tr {W0 : World} {Fr : List HP} {c : Cw} (b : Nat) : Tr W0 Try.prog 32 [.pointer (some ⟨b, 0, none⟩)] (blk b 81 (cc c) :: Fr) (fun v Rs' => v = .agg (mac ⟨11, 0, 0, 0, 0, false, [], none, 0, [], [], none, 0, c.wants, c.site, 0, 0, 0, 0, [], none, 0, [], none, 0⟩).toArray ∧ Rs' = blk b 81 (cc c) :: Fr) := by
 unfold cc
 refine Entry.tr (N := 16) (rs := [.cell 2 35]) ⟨_, Try.func32, rfl, by kernel_rfl, rfl, rfl⟩ rfl ?_
 refine XC.seq fun K1 hK1 => ?_
 refine XC.region ?_
 refine x_a (r_al ty35 rfl) rfl fun b2 => ?_
 refine XL.nil ?_
 refine hK1 _ _ ?_
 refine XC.keep [(0, _), (2, _)] ⟨rfl, rfl, trivial⟩ ?_
 refine XC.seq fun K2 hK2 => ?_
 refine XC.seq fun K3 hK3 => ?_
 refine XC.region ?_
 refine x_v (r_mv rfl) rfl ?_
 refine x_v (r_peq_some Try.underlying23 rfl rfl) rfl ?_
 refine XL.nil ?_
 refine hK3 _ _ ?_
 refine XC.keep [(0, _), (2, _), (4, _)] ⟨rfl, rfl, rfl, trivial⟩ ?_
 refine XC.cond_f rfl ?_
 refine XC.skip ?_
 refine hK2 _ _ ?_
 refine XC.keep [(0, _), (2, _)] ⟨rfl, rfl, trivial⟩ ?_
 refine XC.seq fun K4 hK4 => ?_
 refine XC.draw [blk b 81 [.int .i64 c.tE, .int .i64 c.tS, .int .i64 c.heard, .int .i64 c.wants, .int .i64 c.site, .int .i64 c.epochs]] true [(0, false), (1, false), (2, false), (3, false), (4, false), (5, false), (6, false), (7, false), (8, false), (9, false), (10, true)] (by kernel_rfl) (by kernel_rfl) ?_
 refine y_v rfl (r_mv rfl) gT rfl ?_
 refine y_v rfl (r_nc rfl) gT rfl ?_
 refine y_v rfl (r_fa fo81_0 rfl) gT rfl ?_
 refine y_v rfl (r_fa fo79_2 rfl) gT rfl ?_
 refine y_v rfl (r_ld ty3 rfl pK (by rfl)) gT rfl ?_
 refine y_v rfl (r_mv rfl) gT rfl ?_
 refine y_v rfl (r_nc rfl) gT rfl ?_
 refine y_v rfl (r_fa fo81_1 rfl) gT rfl ?_
 refine y_v rfl (r_ld ty3 rfl pK (by rfl)) gT rfl ?_
 refine y_v rfl (r_bd (vs := [_, _, _]) rfl ⟨rfl, rfl, rfl, rfl⟩ (bd35_0_9_10 _ _ _)) gT rfl ?_
 refine y_e rfl (r_st ty35 rfl rfl rfl rfl rfl uD oV) (fun h => absurd h (by decide)) ?_
 refine XH.nil ?_
 refine hK4 _ _ ?_
 refine XC.keep [(2, _)] ⟨rfl, trivial⟩ ?_
 refine XC.ret ?_
 exact finc1 ty35 rfl pK (by rfl) (⟨rfl, rfl⟩) gS
/-- A ledger's own block. -/
structure Lh where
 mL : Nat
 used : Int
 mO : Nat
 hE : Int
 hS : Int
 A : Option Addr
 n : Nat
 c : Nat
 lA : Option Addr
 ln : Nat
 lc : Nat
 fence : Int
 settled : Int
 quota : Int
 room : Int
def ldc (h : Lh) : List Value := [.map (some h.mL), .int .i64 h.used, .map (some h.mO), .int .i64 h.hE, .int .i64 h.hS, .slice h.A h.n h.c, .slice h.lA h.ln h.lc, .int .i64 h.fence, .int .i64 h.settled, .int .i64 h.quota, .int .i64 h.room]
/-- A command in memory that has no more than these. -/
def cmz (k e s : Int) : List Value := [.int .i64 k, .int .i64 e, .int .i64 s, .int .i64 0, .int .i64 0, .int .i64 0, .int .i64 0, .int .i64 0, .int .i64 0, str [], .int .i64 0, .slice none 0 0, .int .i64 0, .int .i64 0, .slice none 0 0, .int .i64 0]
theorem fence_tr {W0 : World} {Fr : List HP} {h : Lh} (b : Nat) : Tr W0 Try.prog 52 [.pointer (some ⟨b, 0, none⟩)] (blk b 91 (ldc h) :: Fr) (fun v Rs' => v = .int .i64 h.fence ∧ Rs' = blk b 91 (ldc h) :: Fr) := by
 unfold ldc
 refine Entry.tr (N := 9) (rs := [.tmp 2]) ⟨_, Try.func52, rfl, by kernel_rfl, rfl, rfl⟩ rfl ?_
 refine XC.seq fun K1 hK1 => ?_
 refine XC.region ?_
 refine x_v (r_as rfl) rfl ?_
 refine XL.nil ?_
 refine hK1 _ _ ?_
 refine XC.keep [(0, _)] ⟨rfl, trivial⟩ ?_
 refine XC.seq fun K2 hK2 => ?_
 refine XC.seq fun K3 hK3 => ?_
 refine XC.region ?_
 refine x_v (r_mv rfl) rfl ?_
 refine x_v (r_peq_some Try.underlying54 rfl rfl) rfl ?_
 refine XL.nil ?_
 refine hK3 _ _ ?_
 refine XC.keep [(0, _), (4, _)] ⟨rfl, rfl, trivial⟩ ?_
 refine XC.cond_f rfl ?_
 refine XC.skip ?_
 refine hK2 _ _ ?_
 refine XC.keep [(0, _)] ⟨rfl, trivial⟩ ?_
 refine XC.seq fun K4 hK4 => ?_
 refine XC.region ?_
 refine x_v (r_mv rfl) rfl ?_
 refine x_v (r_nc rfl) rfl ?_
 refine x_v (r_fa fo91_3 rfl) rfl ?_
 refine x_v (r_ld ty3 rfl pK (by rfl)) rfl ?_
 refine x_v (r_as rfl) rfl ?_
 refine XL.nil ?_
 refine hK4 _ _ ?_
 refine XC.keep [(2, _)] ⟨rfl, trivial⟩ ?_
 refine XC.ret ?_
 exact fin1 rfl (⟨rfl, rfl⟩) gS
theorem holder_tr {W0 : World} {Fr : List HP} {h : Lh} (b : Nat) : Tr W0 Try.prog 55 [.pointer (some ⟨b, 0, none⟩)] (blk b 91 (ldc h) :: Fr) (fun v Rs' => v = .agg #[.int .i64 h.hE, .int .i64 h.hS] ∧ Rs' = blk b 91 (ldc h) :: Fr) := by
 unfold ldc
 refine Entry.tr (N := 11) (rs := [.cell 2 69]) ⟨_, Try.func55, rfl, by kernel_rfl, rfl, rfl⟩ rfl ?_
 refine XC.seq fun K1 hK1 => ?_
 refine XC.region ?_
 refine x_a (r_al ty69 rfl) rfl fun b2 => ?_
 refine XL.nil ?_
 refine hK1 _ _ ?_
 refine XC.keep [(0, _), (2, _)] ⟨rfl, rfl, trivial⟩ ?_
 refine XC.seq fun K2 hK2 => ?_
 refine XC.seq fun K3 hK3 => ?_
 refine XC.region ?_
 refine x_v (r_mv rfl) rfl ?_
 refine x_v (r_peq_some Try.underlying54 rfl rfl) rfl ?_
 refine XL.nil ?_
 refine hK3 _ _ ?_
 refine XC.keep [(0, _), (2, _), (4, _)] ⟨rfl, rfl, rfl, trivial⟩ ?_
 refine XC.cond_f rfl ?_
 refine XC.skip ?_
 refine hK2 _ _ ?_
 refine XC.keep [(0, _), (2, _)] ⟨rfl, rfl, trivial⟩ ?_
 refine XC.seq fun K4 hK4 => ?_
 refine XC.region ?_
 refine x_v (r_mv rfl) rfl ?_
 refine x_v (r_nc rfl) rfl ?_
 refine x_v (r_fa fo91_0 rfl) rfl ?_
 refine x_v (r_fa fo88_3 rfl) rfl ?_
 refine x_v (r_lda (l' := [_, _]) ty69 rfl pK rfl (Sub.get sU)) rfl ?_
 refine x_e (r_st ty69 rfl rfl rfl rfl rfl uD oV) ?_
 refine XL.nil ?_
 refine hK4 _ _ ?_
 refine XC.keep [(2, _)] ⟨rfl, trivial⟩ ?_
 refine XC.ret ?_
 exact finc1 ty69 rfl pK (by rfl) (⟨rfl, rfl⟩) gS
def nextOk (c : Cw) (f : Int) : Prop := c.tS = c.site ∧ f < c.tE
instance (c : Cw) (f : Int) : Decidable (nextOk c f) := by unfold nextOk; infer_instance
def nextOf (c : Cw) (f : Int) : List Value := if nextOk c f then cmz 4 c.tE c.site else cmz 0 0 0
theorem next_tr {W0 : World} {Fr : List HP} {c : Cw} {h : Lh} (b lb : Nat) : Tr W0 Try.prog 24 [.pointer (some ⟨b, 0, none⟩), .pointer (some ⟨lb, 0, none⟩)] (blk b 81 (cc c) :: blk lb 91 (ldc h) :: Fr) (fun v Rs' => v = .tuple #[.agg (nextOf c h.fence).toArray, .bool (decide (nextOk c h.fence))] ∧ Rs' = blk b 81 (cc c) :: blk lb 91 (ldc h) :: Fr) := by
 unfold cc
 have no : ¬ nextOk c h.fence → nextOf c h.fence = cmz 0 0 0 := fun q => by unfold nextOf; rw [if_neg q]
 have yes : nextOk c h.fence → nextOf c h.fence = cmz 4 c.tE c.site := fun q => by unfold nextOf; rw [if_pos q]
 refine Entry.tr (N := 44) (rs := [.cell 4 41, .tmp 5]) ⟨_, Try.func24, rfl, by kernel_rfl, rfl, rfl⟩ rfl ?_
 refine XC.seq fun K1 hK1 => ?_
 refine XC.region ?_
 refine x_a (r_al ty41 rfl) rfl fun b4 => ?_
 refine x_v (r_as rfl) rfl ?_
 refine XL.nil ?_
 refine hK1 _ _ ?_
 refine XC.keep [(0, _), (1, _), (4, _)] ⟨rfl, rfl, rfl, trivial⟩ ?_
 refine XC.seq fun K2 hK2 => ?_
 refine XC.seq fun K3 hK3 => ?_
 refine XC.draw [blk b 81 [.int .i64 c.tE, .int .i64 c.tS, .int .i64 c.heard, .int .i64 c.wants, .int .i64 c.site, .int .i64 c.epochs]] false [(0, false), (1, false), (2, false), (3, false), (4, false), (5, false), (6, false), (7, false), (8, false), (9, false), (10, false), (11, false), (12, false), (13, false), (14, false), (15, false), (16, false), (17, false), (18, false), (19, false), (20, false), (21, false), (22, false), (23, true), (24, false), (25, false)] (by kernel_rfl) (by kernel_rfl) ?_
 refine y_v rfl (r_mv rfl) gT rfl ?_
 refine y_v rfl (r_peq_some Try.underlying23 rfl rfl) gT rfl ?_
 refine y_v rfl (r_mv rfl) gT rfl ?_
 refine y_vg rfl rfl rfl (r_mv rfl) gT rfl ?_
 refine y_vg rfl rfl rfl (r_nc rfl) gT rfl ?_
 refine y_vg rfl rfl rfl (r_fa fo81_0 rfl) gT rfl ?_
 refine y_vg rfl rfl rfl (r_fa fo79_0 rfl) gT rfl ?_
 refine y_vg rfl rfl rfl (r_fa fo69_1 rfl) gT rfl ?_
 refine y_vg rfl rfl rfl (r_ld ty3 rfl pK (by rfl)) gT rfl ?_
 refine y_vg rfl rfl rfl (r_mv rfl) gT rfl ?_
 refine y_vg rfl rfl rfl (r_nc rfl) gT rfl ?_
 refine y_vg rfl rfl rfl (r_fa fo81_1 rfl) gT rfl ?_
 refine y_vg rfl rfl rfl (r_ld ty3 rfl pK (by rfl)) gT rfl ?_
 refine y_vg rfl rfl rfl (r_ne rfl rfl) gT rfl ?_
 refine y_v rfl (r_pk_f rfl rfl) gT rfl ?_
 refine y_v rfl (r_mv rfl) gT rfl ?_
 refine XH.splitd 21 rfl (fun hg21 => ?_) (fun hg21 => ?_)
 ·refine y_un rfl rfl rfl (fun _ h => Gets.own gS h) rfl ?_
  refine y_un rfl rfl rfl (fun _ h => Gets.own gS h) rfl ?_
  refine y_un rfl rfl rfl (fun _ h => Gets.own gS h) rfl ?_
  refine y_un rfl rfl rfl (fun _ h => Gets.own gS h) rfl ?_
  refine y_un rfl rfl rfl (fun _ h => Gets.own gS h) rfl ?_
  refine y_un rfl rfl rfl (fun _ h => Gets.own gS h) rfl ?_
  refine y_un rfl rfl rfl (fun _ h => Gets.own gS h) rfl ?_
  refine y_unl rfl rfl rfl (fun _ h => Gets.own gS h) rfl ?_
  refine y_un rfl rfl rfl (fun _ h => Gets.own gS h) rfl ?_
  refine y_v rfl (r_pk_t rfl rfl) gT rfl ?_
  refine XH.nil ?_
  refine hK3 _ _ ?_
  refine XC.keep [(0, _), (4, _), (31, _)] ⟨rfl, rfl, rfl, trivial⟩ ?_
  refine XC.cond_t rfl ?_
  refine XC.seq fun K4 hK4 => ?_
  refine XC.region ?_
  refine x_v (r_bd (vs := []) rfl rfl bd41_z) rfl ?_
  refine x_e (r_st ty41 rfl rfl rfl rfl rfl uD oV) ?_
  refine x_v (r_as rfl) rfl ?_
  refine XL.nil ?_
  refine hK4 _ _ ?_
  refine XC.keep [(4, _), (5, _)] ⟨rfl, rfl, trivial⟩ ?_
  refine XC.ret ?_
  have e : ¬ nextOk c h.fence := fun q => by (have := q.1; omega)
  rw [no e, decide_eq_false e]
  exact finc2 ty41 rfl rfl pK (by rfl) (⟨rfl, rfl⟩) gS
 ·refine y_vg rfl rfl rfl (r_mv rfl) gT rfl ?_
  refine y_vg rfl rfl rfl (r_nc rfl) gT rfl ?_
  refine y_vg rfl rfl rfl (r_fa fo81_0 rfl) gT rfl ?_
  refine y_vg rfl rfl rfl (r_fa fo79_0 rfl) gT rfl ?_
  refine y_vg rfl rfl rfl (r_fa fo69_0 rfl) gT rfl ?_
  refine y_vg rfl rfl rfl (r_ld ty3 rfl pK (by rfl)) gT rfl ?_
  refine y_vg rfl rfl rfl (r_mv rfl) gT rfl ?_
  refine y_cg rfl rfl rfl (r_call0 (args := [_]) ⟨rfl, rfl⟩ (fence_tr (h := h) lb) gS) (by rintro _ _ _ _ ⟨rfl, rfl⟩ h; exact Gets.own gS h) rfl ?_
  rintro _ _ ⟨rfl, rfl⟩
  refine y_vg rfl rfl rfl (r_le rfl rfl) gT rfl ?_
  refine y_v rfl (r_pk_f rfl rfl) gT rfl ?_
  refine XH.nil ?_
  refine hK3 _ _ ?_
  refine XC.keep [(0, _), (4, _), (31, _)] ⟨rfl, rfl, rfl, trivial⟩ ?_
  refine XC.cond_d rfl (fun hc2 => ?_) (fun hc2 => ?_)
  ·refine XC.seq fun K5 hK5 => ?_
   refine XC.region ?_
   refine x_v (r_bd (vs := []) rfl rfl bd41_z) rfl ?_
   refine x_e (r_st ty41 rfl rfl rfl rfl rfl uD oV) ?_
   refine x_v (r_as rfl) rfl ?_
   refine XL.nil ?_
   refine hK5 _ _ ?_
   refine XC.keep [(4, _), (5, _)] ⟨rfl, rfl, trivial⟩ ?_
   refine XC.ret ?_
   have e : ¬ nextOk c h.fence := fun q => by (have := q.2; omega)
   rw [no e, decide_eq_false e]
   exact finc2 ty41 rfl rfl pK (by rfl) (⟨rfl, rfl⟩) gS
  ·refine XC.skip ?_
   refine hK2 _ _ ?_
   refine XC.keep [(0, _), (4, _)] ⟨rfl, rfl, trivial⟩ ?_
   refine XC.seq fun K6 hK6 => ?_
   refine XC.draw [blk b 81 [.int .i64 c.tE, .int .i64 c.tS, .int .i64 c.heard, .int .i64 c.wants, .int .i64 c.site, .int .i64 c.epochs]] false [(0, false), (1, false), (2, false), (3, false), (4, false), (5, false), (6, false), (7, false), (8, false), (9, false), (10, false), (11, true), (12, false)] (by kernel_rfl) (by kernel_rfl) ?_
   refine y_v rfl (r_mv rfl) gT rfl ?_
   refine y_v rfl (r_nc rfl) gT rfl ?_
   refine y_v rfl (r_fa fo81_0 rfl) gT rfl ?_
   refine y_v rfl (r_fa fo79_0 rfl) gT rfl ?_
   refine y_v rfl (r_fa fo69_0 rfl) gT rfl ?_
   refine y_v rfl (r_ld ty3 rfl pK (by rfl)) gT rfl ?_
   refine y_v rfl (r_mv rfl) gT rfl ?_
   refine y_v rfl (r_nc rfl) gT rfl ?_
   refine y_v rfl (r_fa fo81_1 rfl) gT rfl ?_
   refine y_v rfl (r_ld ty3 rfl pK (by rfl)) gT rfl ?_
   refine y_v rfl (r_bd (vs := [_, _, _]) rfl ⟨rfl, rfl, rfl, rfl⟩ (bd41_0_1_2 _ _ _)) gT rfl ?_
   refine y_e rfl (r_st ty41 rfl rfl rfl rfl rfl uD oV) (fun _ _ h => Gets.own gS h) ?_
   refine y_v rfl (r_as rfl) gT rfl ?_
   refine XH.nil ?_
   refine hK6 _ _ ?_
   refine XC.keep [(4, _), (5, _)] ⟨rfl, rfl, trivial⟩ ?_
   refine XC.ret ?_
   have e : nextOk c h.fence := ⟨by omega, by omega⟩
   rw [yes e, decide_eq_true e]
   exact finc2 ty41 rfl rfl pK (by rfl) (⟨rfl, rfl⟩) gS
def primOf (c : Cw) (hE hS f : Int) : Int := if hE = 0 ∨ hS ≠ c.site ∨ hE ≠ f then 220 else if hE < c.heard then 120 else 0
theorem prim_tr {W0 : World} {Fr : List HP} {c : Cw} {h : Lh} (b lb : Nat) : Tr W0 Try.prog 29 [.pointer (some ⟨b, 0, none⟩), .pointer (some ⟨lb, 0, none⟩)] (blk b 81 (cc c) :: blk lb 91 (ldc h) :: Fr) (fun v Rs' => v = .int .i64 (primOf c h.hE h.hS h.fence) ∧ Rs' = blk b 81 (cc c) :: blk lb 91 (ldc h) :: Fr) := by
 unfold cc primOf
 refine Entry.tr (N := 40) (rs := [.tmp 4]) ⟨_, Try.func29, rfl, by kernel_rfl, rfl, rfl⟩ rfl ?_
 refine XC.seq fun K1 hK1 => ?_
 refine XC.region ?_
 refine x_v (r_as rfl) rfl ?_
 refine XL.nil ?_
 refine hK1 _ _ ?_
 refine XC.keep [(0, _), (1, _)] ⟨rfl, rfl, trivial⟩ ?_
 refine XC.seq fun K2 hK2 => ?_
 refine XC.region ?_
 refine x_v (r_mv rfl) rfl ?_
 refine x_c (r_call0 (args := [_]) ⟨rfl, rfl⟩ (holder_tr (h := h) lb) gS) rfl ?_
 rintro _ _ ⟨rfl, rfl⟩
 refine x_a (r_al ty69 rfl) rfl fun b5 => ?_
 refine x_e (r_st ty69 rfl rfl rfl rfl rfl uD oV) ?_
 refine XL.nil ?_
 refine hK2 _ _ ?_
 refine XC.keep [(0, _), (1, _), (5, _)] ⟨rfl, rfl, rfl, trivial⟩ ?_
 refine XC.seq fun K3 hK3 => ?_
 refine XC.block ?_
 refine XC.seq fun K4 hK4 => ?_
 refine XC.region ?_
 refine x_v (r_mv rfl) rfl ?_
 refine x_v (r_peq_some Try.underlying23 rfl rfl) rfl ?_
 refine x_v (r_as rfl) rfl ?_
 refine XL.nil ?_
 refine hK4 _ _ ?_
 refine XC.keep [(0, _), (1, _), (5, _), (8, _)] ⟨rfl, rfl, rfl, rfl, trivial⟩ ?_
 refine XC.cond_f rfl ?_
 refine XC.seq fun K5 hK5 => ?_
 refine XC.draw [blk b5 69 [.int .i64 h.hE, .int .i64 h.hS], blk b 81 [.int .i64 c.tE, .int .i64 c.tS, .int .i64 c.heard, .int .i64 c.wants, .int .i64 c.site, .int .i64 c.epochs]] false [(0, false), (1, false), (2, false), (3, false), (4, false), (5, false), (6, false), (7, false), (8, false), (9, false), (10, false), (11, false), (12, false), (13, false), (14, false), (15, false), (16, true), (17, false), (18, false), (19, false)] (by kernel_rfl) (by kernel_rfl) ?_
 refine y_v rfl (r_fa fo69_0 rfl) gT rfl ?_
 refine y_v rfl (r_ld ty3 rfl pK (by rfl)) gT rfl ?_
 refine y_v rfl (r_eq rfl rfl) gT rfl ?_
 refine y_v rfl (r_mv rfl) gT rfl ?_
 refine XH.splitd 15 rfl (fun hg15 => ?_) (fun hg15 => ?_)
 ·refine y_un rfl rfl rfl (fun _ h => Gets.own gS h) rfl ?_
  refine y_un rfl rfl rfl (fun _ h => Gets.own gS h) rfl ?_
  refine y_un rfl rfl rfl (fun _ h => Gets.own gS h) rfl ?_
  refine y_un rfl rfl rfl (fun _ h => Gets.own gS h) rfl ?_
  refine y_un rfl rfl rfl (fun _ h => Gets.own gS h) rfl ?_
  refine y_un rfl rfl rfl (fun _ h => Gets.own gS h) rfl ?_
  refine y_un rfl rfl rfl (fun _ h => Gets.own gS h) rfl ?_
  refine y_v rfl (r_pk_t rfl rfl) gT rfl ?_
  refine y_v rfl (r_mv rfl) gT rfl ?_
  refine y_un rfl rfl rfl (fun _ h => Gets.own gS h) rfl ?_
  refine y_un rfl rfl rfl (fun _ h => Gets.own gS h) rfl ?_
  refine y_un rfl rfl rfl (fun _ h => Gets.own gS h) rfl ?_
  refine y_unl rfl rfl rfl (fun _ h => Gets.own gS h) rfl ?_
  refine y_un rfl rfl rfl (fun _ h => Gets.own gS h) rfl ?_
  refine y_v rfl (r_pk_t rfl rfl) gT rfl ?_
  refine y_v rfl (r_as rfl) gT rfl ?_
  refine XH.nil ?_
  refine hK5 _ _ ?_
  refine XC.keep [(0, _), (5, _), (11, _)] ⟨rfl, rfl, rfl, trivial⟩ ?_
  refine XC.cond_t rfl ?_
  refine XC.seq fun K6 hK6 => ?_
  refine XC.region ?_
  refine x_v (r_as rfl) rfl ?_
  refine XL.nil ?_
  refine hK6 _ _ ?_
  refine XC.keep [(4, _)] ⟨rfl, trivial⟩ ?_
  refine XC.ret ?_
  rw [if_pos (by omega)]
  exact fin1 rfl (⟨rfl, rfl⟩) gS
 ·refine y_vg rfl rfl rfl (r_fa fo69_1 rfl) gT rfl ?_
  refine y_vg rfl rfl rfl (r_ld ty3 rfl pK (by rfl)) gT rfl ?_
  refine y_vg rfl rfl rfl (r_mv rfl) gT rfl ?_
  refine y_vg rfl rfl rfl (r_nc rfl) gT rfl ?_
  refine y_vg rfl rfl rfl (r_fa fo81_1 rfl) gT rfl ?_
  refine y_vg rfl rfl rfl (r_ld ty3 rfl pK (by rfl)) gT rfl ?_
  refine y_vg rfl rfl rfl (r_ne rfl rfl) gT rfl ?_
  refine y_v rfl (r_pk_f rfl rfl) gT rfl ?_
  refine y_v rfl (r_mv rfl) gT rfl ?_
  refine XH.splitd 24 rfl (fun hg24 => ?_) (fun hg24 => ?_)
  ·refine y_un rfl rfl rfl (fun _ h => Gets.own gS h) rfl ?_
   refine y_un rfl rfl rfl (fun _ h => Gets.own gS h) rfl ?_
   refine y_un rfl rfl rfl (fun _ h => Gets.own gS h) rfl ?_
   refine y_unl rfl rfl rfl (fun _ h => Gets.own gS h) rfl ?_
   refine y_un rfl rfl rfl (fun _ h => Gets.own gS h) rfl ?_
   refine y_v rfl (r_pk_t rfl rfl) gT rfl ?_
   refine y_v rfl (r_as rfl) gT rfl ?_
   refine XH.nil ?_
   refine hK5 _ _ ?_
   refine XC.keep [(0, _), (5, _), (11, _)] ⟨rfl, rfl, rfl, trivial⟩ ?_
   refine XC.cond_t rfl ?_
   refine XC.seq fun K7 hK7 => ?_
   refine XC.region ?_
   refine x_v (r_as rfl) rfl ?_
   refine XL.nil ?_
   refine hK7 _ _ ?_
   refine XC.keep [(4, _)] ⟨rfl, trivial⟩ ?_
   refine XC.ret ?_
   rw [if_pos (by omega)]
   exact fin1 rfl (⟨rfl, rfl⟩) gS
  ·refine y_vg rfl rfl rfl (r_fa fo69_0 rfl) gT rfl ?_
   refine y_vg rfl rfl rfl (r_ld ty3 rfl pK (by rfl)) gT rfl ?_
   refine y_vg rfl rfl rfl (r_mv rfl) gT rfl ?_
   refine y_cg rfl rfl rfl (r_call0 (args := [_]) ⟨rfl, rfl⟩ (fence_tr (h := h) lb) gS) (by rintro _ _ _ _ ⟨rfl, rfl⟩ h; exact Gets.own gS h) rfl ?_
   rintro _ _ ⟨rfl, rfl⟩
   refine y_vg rfl rfl rfl (r_ne rfl rfl) gT rfl ?_
   refine y_v rfl (r_pk_f rfl rfl) gT rfl ?_
   refine y_v rfl (r_as rfl) gT rfl ?_
   refine XH.nil ?_
   refine hK5 _ _ ?_
   refine XC.keep [(0, _), (5, _), (11, _)] ⟨rfl, rfl, rfl, trivial⟩ ?_
   refine XC.cond_d rfl (fun hc4 => ?_) (fun hc4 => ?_)
   ·refine XC.seq fun K8 hK8 => ?_
    refine XC.region ?_
    refine x_v (r_as rfl) rfl ?_
    refine XL.nil ?_
    refine hK8 _ _ ?_
    refine XC.keep [(4, _)] ⟨rfl, trivial⟩ ?_
    refine XC.ret ?_
    rw [if_pos (by omega)]
    exact fin1 rfl (⟨rfl, rfl⟩) gS
   ·refine XC.seq fun K9 hK9 => ?_
    refine XC.draw [blk b5 69 [.int .i64 h.hE, .int .i64 h.hS], blk b 81 [.int .i64 c.tE, .int .i64 c.tS, .int .i64 c.heard, .int .i64 c.wants, .int .i64 c.site, .int .i64 c.epochs]] false [(0, false), (1, false), (2, false), (3, false), (4, false), (5, false), (6, false), (7, false), (8, false)] (by kernel_rfl) (by kernel_rfl) ?_
    refine y_v rfl (r_mv rfl) gT rfl ?_
    refine y_v rfl (r_nc rfl) gT rfl ?_
    refine y_v rfl (r_fa fo81_0 rfl) gT rfl ?_
    refine y_v rfl (r_fa fo79_1 rfl) gT rfl ?_
    refine y_v rfl (r_ld ty3 rfl pK (by rfl)) gT rfl ?_
    refine y_v rfl (r_fa fo69_0 rfl) gT rfl ?_
    refine y_v rfl (r_ld ty3 rfl pK (by rfl)) gT rfl ?_
    refine y_v rfl (r_gt rfl rfl) gT rfl ?_
    refine y_v rfl (r_as rfl) gT rfl ?_
    refine XH.nil ?_
    refine hK9 _ _ ?_
    refine XC.keep [(31, _)] ⟨rfl, trivial⟩ ?_
    refine XC.cond_d rfl (fun hc5 => ?_) (fun hc5 => ?_)
    ·refine XC.seq fun K10 hK10 => ?_
     refine XC.region ?_
     refine x_v (r_as rfl) rfl ?_
     refine XL.nil ?_
     refine hK10 _ _ ?_
     refine XC.keep [(4, _)] ⟨rfl, trivial⟩ ?_
     refine XC.ret ?_
     rw [if_neg (by omega), if_pos (by omega)]
     exact fin1 rfl (⟨rfl, rfl⟩) gS
    ·refine XC.skip ?_
     refine hK3 _ _ ?_
     refine XC.keep [] trivial ?_
     refine XC.seq fun K11 hK11 => ?_
     refine XC.region ?_
     refine x_v (r_as rfl) rfl ?_
     refine XL.nil ?_
     refine hK11 _ _ ?_
     refine XC.keep [(4, _)] ⟨rfl, trivial⟩ ?_
     refine XC.ret ?_
     rw [if_neg (by omega), if_neg (by omega)]
     exact fin1 rfl (⟨rfl, rfl⟩) gS
end Go.Proofs.Ytheilpcbilnadaa

/- Crowns: commands that may be (the reference's). -/
import Derived.Test.YtheilpcbilnadaaCrown18
namespace Go.Proofs.Ytheilpcbilnadaa
open Go.Sx
set_option linter.unusedVariables false

theorem go_asc : ∀ (L : List Pop) (aN aE st : Int), rowGo aN aE st L = true → (∀ o ∈ L, aE ≤ o.epoch) ∧ ∀ z, L.getLast? = some z → ∀ o ∈ L, o.epoch ≤ z.epoch
 | [], _, _, _, _ => ⟨fun o h => (by cases h), fun z h => (by cases h)⟩
 | o :: l, aN, aE, st, h => by
  unfold rowGo at h
  rw [Bool.and_eq_true, decide_eq_true_eq] at h
  obtain ⟨⟨_, _, q3, q4⟩, hr⟩ := h
  obtain ⟨i1, i2⟩ := go_asc l _ _ _ hr
  have he : aE ≤ o.epoch := by
   by_cases hk : o.kind = 3
   ·have := q3 hk; omega
   ·have := (q4 hk).1; omega
  refine ⟨fun x hx => ?_, fun z hz x hx => ?_⟩
  ·rcases List.mem_cons.1 hx with rfl | hx
   ·exact he
   ·have := i1 x hx; omega
  ·cases l with
   | nil =>
    injection hz with hz; subst hz
    rcases List.mem_cons.1 hx with rfl | hx
    ·exact Int.le_refl _
    ·cases hx
   | cons y l =>
    have hz2 : (y :: l).getLast? = some z := by rw [List.getLast?_cons_cons] at hz; exact hz
    rcases List.mem_cons.1 hx with rfl | hx
    ·exact i1 z (List.mem_of_getLast? hz2)
    ·exact i2 z hz2 x hx
theorem le_last {L : List Od} {aN aE E : Int} (h : rowOk aN aE (fst1 L) = true) {z : Od} (hz : L[L.length - 1]? = some z) : allLe E (fst1 L) = decide (z.1.epoch ≤ E) := by
 have hg : rowGo aN aE (-1) (fst1 L) = true := by unfold rowOk at h; rw [Bool.and_eq_true] at h; exact h.2
 have hl : (fst1 L).getLast? = some z.1 := by unfold fst1; rw [List.getLast?_map, List.getLast?_eq_getElem?, hz]; rfl
 have hm : z.1 ∈ fst1 L := List.mem_of_getLast? hl
 have h2 := (go_asc _ _ _ _ hg).2 _ hl
 unfold allLe
 cases hd : decide (z.1.epoch ≤ E) with
 | true => exact List.all_eq_true.2 fun o ho => by have := h2 o ho; have := of_decide_eq_true hd; exact decide_eq_true (by omega)
 | false =>
  cases ha : (fst1 L).all fun o => decide (o.epoch ≤ E) with
  | false => rfl
  | true => have := List.all_eq_true.1 ha _ hm; rw [hd] at this; cases this

set_option maxHeartbeats 1000000 in
theorem right_tr {W0 : World} {Fr : List HP} {k : HP} (c : Cm) (hop : RdO W0 k c.op) (hr : Rdb W0 [k] c.pA c.ops.length 9 (cells odc c.ops)) (ho : ∀ o ∈ c.ops, RdO W0 k o) (hl : c.ops.length ≤ 1466015503701) :
  Tr W0 Try.prog 46 [.agg (cmc c).toArray] (k :: Fr) (fun v Rs' => v = .bool (cmdOk c) ∧ Rs' = k :: Fr) := by
 refine Entry.tr (N := 272) (rs := [.tmp 2]) ⟨_, Try.func46, rfl, by kernel_rfl, rfl, rfl⟩ rfl ?_
 refine XC.seq fun K1 hK1 => ?_
 refine XC.region ?_
 refine x_a (r_bx rfl rfl) rfl fun b1 => ?_
 unfold cmc
 refine x_v (r_as rfl) rfl ?_
 refine XL.nil ?_
 refine hK1 _ _ ?_
 refine XC.keep [(1, _)] ⟨rfl, trivial⟩ ?_
 refine XC.seqcut (σ := Bool) (fun s => [(1, .pointer (some ⟨b1, 0, none⟩)), (3, .bool s)]) (fun s => blk b1 41 [.int .i64 c.kind, .int .i64 c.epoch, .int .i64 c.site, .int .i64 c.op.1.n, .int .i64 c.op.1.epoch, .int .i64 c.op.1.kind, .int .i64 c.op.1.site, .int .i64 c.op.1.client, .int .i64 c.op.1.seq, str c.op.1.name, .int .i64 c.op.1.size, .slice c.op.2.1 c.op.1.hs.length c.op.2.2, .int .i64 c.after, .int .i64 c.since, .slice c.pA c.ops.length c.pc, .int .i64 c.tag] :: k :: Fr) (fun s => s = decide (NoneP c)) ?_ ?_
 ·refine XC.region ?_
  refine x_v (r_fa fo41_3 rfl) rfl ?_
  refine x_v (r_fa fo39_0 rfl) rfl ?_
  refine x_v (r_ld ty3 rfl pK (by rfl)) rfl ?_
  refine x_v (r_eq rfl rfl) rfl ?_
  refine x_v (r_mv rfl) rfl ?_
  refine XL.splitd 12 rfl (fun hg12 => ?_) (fun hg12 => ?_)
  ·refine x_want rfl rfl rfl ?_
   refine x_v (r_fa fo41_3 rfl) rfl ?_
   refine x_want rfl rfl rfl ?_
   refine x_v (r_fa fo39_1 rfl) rfl ?_
   refine x_want rfl rfl rfl ?_
   refine x_v (r_ld ty3 rfl pK (by rfl)) rfl ?_
   refine x_want rfl rfl rfl ?_
   refine x_v (r_eq rfl rfl) rfl ?_
   refine x_v (r_pk_t rfl rfl) rfl ?_
   refine x_v (r_mv rfl) rfl ?_
   refine XL.splitd 18 rfl (fun hg18 => ?_) (fun hg18 => ?_)
   ·refine x_want rfl rfl rfl ?_
    refine x_v (r_fa fo41_3 rfl) rfl ?_
    refine x_want rfl rfl rfl ?_
    refine x_v (r_fa fo39_2 rfl) rfl ?_
    refine x_want rfl rfl rfl ?_
    refine x_v (r_ld ty3 rfl pK (by rfl)) rfl ?_
    refine x_want rfl rfl rfl ?_
    refine x_v (r_eq rfl rfl) rfl ?_
    refine x_v (r_pk_t rfl rfl) rfl ?_
    refine x_v (r_mv rfl) rfl ?_
    refine XL.splitd 24 rfl (fun hg24 => ?_) (fun hg24 => ?_)
    ·refine x_want rfl rfl rfl ?_
     refine x_v (r_fa fo41_3 rfl) rfl ?_
     refine x_want rfl rfl rfl ?_
     refine x_v (r_fa fo39_3 rfl) rfl ?_
     refine x_want rfl rfl rfl ?_
     refine x_v (r_ld ty3 rfl pK (by rfl)) rfl ?_
     refine x_want rfl rfl rfl ?_
     refine x_v (r_eq rfl rfl) rfl ?_
     refine x_v (r_pk_t rfl rfl) rfl ?_
     refine x_v (r_mv rfl) rfl ?_
     refine XL.splitd 30 rfl (fun hg30 => ?_) (fun hg30 => ?_)
     ·refine x_want rfl rfl rfl ?_
      refine x_v (r_fa fo41_3 rfl) rfl ?_
      refine x_want rfl rfl rfl ?_
      refine x_v (r_lda (l' := [_, _, _, _, _, _, _, _, _]) ty39 rfl pK rfl (Sub.get sU)) rfl ?_
      refine x_want rfl rfl rfl ?_
      refine x_c (r_call0 (args := [_]) ⟨rfl, rfl⟩ (zero_tr c.op) gS) rfl ?_
      rintro _ _ ⟨rfl, rfl⟩
      refine x_v (r_pk_t rfl rfl) rfl ?_
      refine x_v (r_as rfl) rfl ?_
      refine XL.nil ?_
      exact ⟨_, decide_eq_decide.2 ⟨fun h => ⟨hg12, hg18, hg24, hg30, h⟩, fun h => h.2.2.2.2⟩, ⟨rfl, rfl, trivial⟩, gS⟩
     ·refine x_unwant rfl rfl rfl rfl rfl ?_
      refine x_unwant rfl rfl rfl rfl rfl ?_
      refine x_unwant rfl rfl rfl rfl rfl ?_
      refine x_v (r_pk_f rfl rfl) rfl ?_
      refine x_v (r_as rfl) rfl ?_
      refine XL.nil ?_
      exact ⟨false, (decide_eq_false (fun h => by obtain ⟨q1, q2, q3, q4, q5⟩ := h; omega)).symm, ⟨rfl, rfl, trivial⟩, gS⟩
    ·refine x_unwant rfl rfl rfl rfl rfl ?_
     refine x_unwant rfl rfl rfl rfl rfl ?_
     refine x_unwant rfl rfl rfl rfl rfl ?_
     refine x_unwant rfl rfl rfl rfl rfl ?_
     refine x_v (r_pk_f rfl rfl) rfl ?_
     refine x_v (r_mv rfl) rfl ?_
     refine x_unwant rfl rfl rfl rfl rfl ?_
     refine x_unwant rfl rfl rfl rfl rfl ?_
     refine x_unwant rfl rfl rfl rfl rfl ?_
     refine x_v (r_pk_f rfl rfl) rfl ?_
     refine x_v (r_as rfl) rfl ?_
     refine XL.nil ?_
     exact ⟨false, (decide_eq_false (fun h => by obtain ⟨q1, q2, q3, q4, q5⟩ := h; omega)).symm, ⟨rfl, rfl, trivial⟩, gS⟩
   ·refine x_unwant rfl rfl rfl rfl rfl ?_
    refine x_unwant rfl rfl rfl rfl rfl ?_
    refine x_unwant rfl rfl rfl rfl rfl ?_
    refine x_unwant rfl rfl rfl rfl rfl ?_
    refine x_v (r_pk_f rfl rfl) rfl ?_
    refine x_v (r_mv rfl) rfl ?_
    refine x_unwant rfl rfl rfl rfl rfl ?_
    refine x_unwant rfl rfl rfl rfl rfl ?_
    refine x_unwant rfl rfl rfl rfl rfl ?_
    refine x_unwant rfl rfl rfl rfl rfl ?_
    refine x_v (r_pk_f rfl rfl) rfl ?_
    refine x_v (r_mv rfl) rfl ?_
    refine x_unwant rfl rfl rfl rfl rfl ?_
    refine x_unwant rfl rfl rfl rfl rfl ?_
    refine x_unwant rfl rfl rfl rfl rfl ?_
    refine x_v (r_pk_f rfl rfl) rfl ?_
    refine x_v (r_as rfl) rfl ?_
    refine XL.nil ?_
    exact ⟨false, (decide_eq_false (fun h => by obtain ⟨q1, q2, q3, q4, q5⟩ := h; omega)).symm, ⟨rfl, rfl, trivial⟩, gS⟩
  ·refine x_unwant rfl rfl rfl rfl rfl ?_
   refine x_unwant rfl rfl rfl rfl rfl ?_
   refine x_unwant rfl rfl rfl rfl rfl ?_
   refine x_unwant rfl rfl rfl rfl rfl ?_
   refine x_v (r_pk_f rfl rfl) rfl ?_
   refine x_v (r_mv rfl) rfl ?_
   refine x_unwant rfl rfl rfl rfl rfl ?_
   refine x_unwant rfl rfl rfl rfl rfl ?_
   refine x_unwant rfl rfl rfl rfl rfl ?_
   refine x_unwant rfl rfl rfl rfl rfl ?_
   refine x_v (r_pk_f rfl rfl) rfl ?_
   refine x_v (r_mv rfl) rfl ?_
   refine x_unwant rfl rfl rfl rfl rfl ?_
   refine x_unwant rfl rfl rfl rfl rfl ?_
   refine x_unwant rfl rfl rfl rfl rfl ?_
   refine x_unwant rfl rfl rfl rfl rfl ?_
   refine x_v (r_pk_f rfl rfl) rfl ?_
   refine x_v (r_mv rfl) rfl ?_
   refine x_unwant rfl rfl rfl rfl rfl ?_
   refine x_unwant rfl rfl rfl rfl rfl ?_
   refine x_unwant rfl rfl rfl rfl rfl ?_
   refine x_v (r_pk_f rfl rfl) rfl ?_
   refine x_v (r_as rfl) rfl ?_
   refine XL.nil ?_
   exact ⟨false, (decide_eq_false (fun h => by obtain ⟨q1, q2, q3, q4, q5⟩ := h; omega)).symm, ⟨rfl, rfl, trivial⟩, gS⟩
 ·rintro g0 hg0
  subst hg0
  refine XC.seqcut (σ := Bool) (fun s => [(1, .pointer (some ⟨b1, 0, none⟩)), (3, .bool (decide (NoneP c))), (4, .bool s)]) (fun s => blk b1 41 [.int .i64 c.kind, .int .i64 c.epoch, .int .i64 c.site, .int .i64 c.op.1.n, .int .i64 c.op.1.epoch, .int .i64 c.op.1.kind, .int .i64 c.op.1.site, .int .i64 c.op.1.client, .int .i64 c.op.1.seq, str c.op.1.name, .int .i64 c.op.1.size, .slice c.op.2.1 c.op.1.hs.length c.op.2.2, .int .i64 c.after, .int .i64 c.since, .slice c.pA c.ops.length c.pc, .int .i64 c.tag] :: k :: Fr) (fun s => s = decide (Reigned c.epoch c.site)) ?_ ?_
  ·refine XC.region ?_
   refine x_v (r_fa fo41_1 rfl) rfl ?_
   refine x_v (r_ld ty3 rfl pK (by rfl)) rfl ?_
   refine x_v (r_ge rfl rfl) rfl ?_
   refine x_v (r_mv rfl) rfl ?_
   refine XL.splitd 38 rfl (fun hg38 => ?_) (fun hg38 => ?_)
   ·refine x_want rfl rfl rfl ?_
    refine x_v (r_fa fo41_1 rfl) rfl ?_
    refine x_want rfl rfl rfl ?_
    refine x_v (r_ld ty3 rfl pK (by rfl)) rfl ?_
    refine x_want rfl rfl rfl ?_
    refine x_v (r_le rfl rfl) rfl ?_
    refine x_v (r_pk_t rfl rfl) rfl ?_
    refine x_v (r_mv rfl) rfl ?_
    refine XL.splitd 43 rfl (fun hg43 => ?_) (fun hg43 => ?_)
    ·refine x_want rfl rfl rfl ?_
     refine x_v (r_fa fo41_2 rfl) rfl ?_
     refine x_want rfl rfl rfl ?_
     refine x_v (r_ld ty3 rfl pK (by rfl)) rfl ?_
     refine x_want rfl rfl rfl ?_
     refine x_v (r_ge rfl rfl) rfl ?_
     refine x_v (r_pk_t rfl rfl) rfl ?_
     refine x_v (r_mv rfl) rfl ?_
     refine XL.splitd 48 rfl (fun hg48 => ?_) (fun hg48 => ?_)
     ·refine x_want rfl rfl rfl ?_
      refine x_v (r_fa fo41_2 rfl) rfl ?_
      refine x_want rfl rfl rfl ?_
      refine x_v (r_ld ty3 rfl pK (by rfl)) rfl ?_
      refine x_want rfl rfl rfl ?_
      refine x_v (r_le rfl rfl) rfl ?_
      refine x_v (r_pk_t rfl rfl) rfl ?_
      refine x_v (r_as rfl) rfl ?_
      refine XL.nil ?_
      exact ⟨_, decide_eq_decide.2 (by unfold Reigned; omega), ⟨rfl, rfl, rfl, trivial⟩, gS⟩
     ·refine x_unwant rfl rfl rfl rfl rfl ?_
      refine x_unwant rfl rfl rfl rfl rfl ?_
      refine x_unwant rfl rfl rfl rfl rfl ?_
      refine x_v (r_pk_f rfl rfl) rfl ?_
      refine x_v (r_as rfl) rfl ?_
      refine XL.nil ?_
      exact ⟨false, (decide_eq_false (by unfold Reigned; omega)).symm, ⟨rfl, rfl, rfl, trivial⟩, gS⟩
    ·refine x_unwant rfl rfl rfl rfl rfl ?_
     refine x_unwant rfl rfl rfl rfl rfl ?_
     refine x_unwant rfl rfl rfl rfl rfl ?_
     refine x_v (r_pk_f rfl rfl) rfl ?_
     refine x_v (r_mv rfl) rfl ?_
     refine x_unwant rfl rfl rfl rfl rfl ?_
     refine x_unwant rfl rfl rfl rfl rfl ?_
     refine x_unwant rfl rfl rfl rfl rfl ?_
     refine x_v (r_pk_f rfl rfl) rfl ?_
     refine x_v (r_as rfl) rfl ?_
     refine XL.nil ?_
     exact ⟨false, (decide_eq_false (by unfold Reigned; omega)).symm, ⟨rfl, rfl, rfl, trivial⟩, gS⟩
   ·refine x_unwant rfl rfl rfl rfl rfl ?_
    refine x_unwant rfl rfl rfl rfl rfl ?_
    refine x_unwant rfl rfl rfl rfl rfl ?_
    refine x_v (r_pk_f rfl rfl) rfl ?_
    refine x_v (r_mv rfl) rfl ?_
    refine x_unwant rfl rfl rfl rfl rfl ?_
    refine x_unwant rfl rfl rfl rfl rfl ?_
    refine x_unwant rfl rfl rfl rfl rfl ?_
    refine x_v (r_pk_f rfl rfl) rfl ?_
    refine x_v (r_mv rfl) rfl ?_
    refine x_unwant rfl rfl rfl rfl rfl ?_
    refine x_unwant rfl rfl rfl rfl rfl ?_
    refine x_unwant rfl rfl rfl rfl rfl ?_
    refine x_v (r_pk_f rfl rfl) rfl ?_
    refine x_v (r_as rfl) rfl ?_
    refine XL.nil ?_
    exact ⟨false, (decide_eq_false (by unfold Reigned; omega)).symm, ⟨rfl, rfl, rfl, trivial⟩, gS⟩
  ·rintro g0 hg0
   subst hg0
   refine XC.seqcut (σ := Bool) (fun s => [(1, .pointer (some ⟨b1, 0, none⟩)), (3, .bool (decide (NoneP c))), (4, .bool (decide (Reigned c.epoch c.site))), (5, .bool s)]) (fun s => blk b1 41 [.int .i64 c.kind, .int .i64 c.epoch, .int .i64 c.site, .int .i64 c.op.1.n, .int .i64 c.op.1.epoch, .int .i64 c.op.1.kind, .int .i64 c.op.1.site, .int .i64 c.op.1.client, .int .i64 c.op.1.seq, str c.op.1.name, .int .i64 c.op.1.size, .slice c.op.2.1 c.op.1.hs.length c.op.2.2, .int .i64 c.after, .int .i64 c.since, .slice c.pA c.ops.length c.pc, .int .i64 c.tag] :: k :: Fr) (fun s => s = decide (NoneP c ∧ ShortP c)) ?_ ?_
   ·refine XC.region ?_
    refine x_v (r_mv rfl) rfl ?_
    refine x_v (r_mv rfl) rfl ?_
    refine XL.splitd 54 rfl (fun hg54 => ?_) (fun hg54 => ?_)
    ·refine x_want rfl rfl rfl ?_
     refine x_v (r_fa fo41_4 rfl) rfl ?_
     refine x_want rfl rfl rfl ?_
     refine x_v (r_ld ty3 rfl pK (by rfl)) rfl ?_
     refine x_want rfl rfl rfl ?_
     refine x_v (r_eq rfl rfl) rfl ?_
     refine x_v (r_pk_t rfl rfl) rfl ?_
     refine x_v (r_mv rfl) rfl ?_
     refine XL.splitd 59 rfl (fun hg59 => ?_) (fun hg59 => ?_)
     ·refine x_want rfl rfl rfl ?_
      refine x_v (r_fa fo41_5 rfl) rfl ?_
      refine x_want rfl rfl rfl ?_
      refine x_v (r_ld ty3 rfl pK (by rfl)) rfl ?_
      refine x_want rfl rfl rfl ?_
      refine x_v (r_eq rfl rfl) rfl ?_
      refine x_v (r_pk_t rfl rfl) rfl ?_
      refine x_v (r_mv rfl) rfl ?_
      refine XL.splitd 64 rfl (fun hg64 => ?_) (fun hg64 => ?_)
      ·refine x_want rfl rfl rfl ?_
       refine x_v (r_fa fo41_6 rfl) rfl ?_
       refine x_want rfl rfl rfl ?_
       refine x_v (r_ld ty33 rfl pK (by rfl)) rfl ?_
       refine x_want rfl rfl rfl ?_
       refine x_v (r_lensl Try.underlying33 rfl) rfl ?_
       refine x_want rfl rfl rfl ?_
       refine x_v (r_eq rfl rfl) rfl ?_
       refine x_v (r_pk_t rfl rfl) rfl ?_
       refine x_v (r_as rfl) rfl ?_
       refine XL.nil ?_
       exact ⟨_, decide_eq_decide.2 ⟨fun h => ⟨hg54, hg59, hg64, by omega⟩, fun h => by have := h.2.2.2; omega⟩, ⟨rfl, rfl, rfl, rfl, trivial⟩, gS⟩
      ·refine x_unwant rfl rfl rfl rfl rfl ?_
       refine x_unwant rfl rfl rfl rfl rfl ?_
       refine x_unwant rfl rfl rfl rfl rfl ?_
       refine x_unwant rfl rfl rfl rfl rfl ?_
       refine x_v (r_pk_f rfl rfl) rfl ?_
       refine x_v (r_as rfl) rfl ?_
       refine XL.nil ?_
       exact ⟨false, (decide_eq_false (fun h => hg64 h.2.2.1)).symm, ⟨rfl, rfl, rfl, rfl, trivial⟩, gS⟩
     ·refine x_unwant rfl rfl rfl rfl rfl ?_
      refine x_unwant rfl rfl rfl rfl rfl ?_
      refine x_unwant rfl rfl rfl rfl rfl ?_
      refine x_v (r_pk_f rfl rfl) rfl ?_
      refine x_v (r_mv rfl) rfl ?_
      refine x_unwant rfl rfl rfl rfl rfl ?_
      refine x_unwant rfl rfl rfl rfl rfl ?_
      refine x_unwant rfl rfl rfl rfl rfl ?_
      refine x_unwant rfl rfl rfl rfl rfl ?_
      refine x_v (r_pk_f rfl rfl) rfl ?_
      refine x_v (r_as rfl) rfl ?_
      refine XL.nil ?_
      exact ⟨false, (decide_eq_false (fun h => hg59 h.2.1)).symm, ⟨rfl, rfl, rfl, rfl, trivial⟩, gS⟩
    ·refine x_unwant rfl rfl rfl rfl rfl ?_
     refine x_unwant rfl rfl rfl rfl rfl ?_
     refine x_unwant rfl rfl rfl rfl rfl ?_
     refine x_v (r_pk_f rfl rfl) rfl ?_
     refine x_v (r_mv rfl) rfl ?_
     refine x_unwant rfl rfl rfl rfl rfl ?_
     refine x_unwant rfl rfl rfl rfl rfl ?_
     refine x_unwant rfl rfl rfl rfl rfl ?_
     refine x_v (r_pk_f rfl rfl) rfl ?_
     refine x_v (r_mv rfl) rfl ?_
     refine x_unwant rfl rfl rfl rfl rfl ?_
     refine x_unwant rfl rfl rfl rfl rfl ?_
     refine x_unwant rfl rfl rfl rfl rfl ?_
     refine x_unwant rfl rfl rfl rfl rfl ?_
     refine x_v (r_pk_f rfl rfl) rfl ?_
     refine x_v (r_as rfl) rfl ?_
     refine XL.nil ?_
     exact ⟨false, (decide_eq_false (fun h => hg54 h.1)).symm, ⟨rfl, rfl, rfl, rfl, trivial⟩, gS⟩
   ·rintro g0 hg0
    subst hg0
    refine XC.seqcut (σ := Bool) (fun s => [(1, .pointer (some ⟨b1, 0, none⟩)), (3, .bool (decide (NoneP c))), (4, .bool (decide (Reigned c.epoch c.site))), (5, .bool (decide (NoneP c ∧ ShortP c))), (6, .bool s)]) (fun s => blk b1 41 [.int .i64 c.kind, .int .i64 c.epoch, .int .i64 c.site, .int .i64 c.op.1.n, .int .i64 c.op.1.epoch, .int .i64 c.op.1.kind, .int .i64 c.op.1.site, .int .i64 c.op.1.client, .int .i64 c.op.1.seq, str c.op.1.name, .int .i64 c.op.1.size, .slice c.op.2.1 c.op.1.hs.length c.op.2.2, .int .i64 c.after, .int .i64 c.since, .slice c.pA c.ops.length c.pc, .int .i64 c.tag] :: k :: Fr) (fun s => s = decide (TagP c)) ?_ ?_
    ·refine XC.region ?_
     refine x_v (r_fa fo41_7 rfl) rfl ?_
     refine x_v (r_ld ty3 rfl pK (by rfl)) rfl ?_
     refine x_v (r_ge rfl rfl) rfl ?_
     refine x_v (r_mv rfl) rfl ?_
     refine XL.splitd 73 rfl (fun hg73 => ?_) (fun hg73 => ?_)
     ·refine x_want rfl rfl rfl ?_
      refine x_v (r_fa fo41_7 rfl) rfl ?_
      refine x_want rfl rfl rfl ?_
      refine x_v (r_ld ty3 rfl pK (by rfl)) rfl ?_
      refine x_want rfl rfl rfl ?_
      refine x_v (r_le rfl rfl) rfl ?_
      refine x_v (r_pk_t rfl rfl) rfl ?_
      refine x_v (r_as rfl) rfl ?_
      refine XL.nil ?_
      exact ⟨_, decide_eq_decide.2 ⟨fun h => ⟨hg73, h⟩, fun h => h.2⟩, ⟨rfl, rfl, rfl, rfl, rfl, trivial⟩, gS⟩
     ·refine x_unwant rfl rfl rfl rfl rfl ?_
      refine x_unwant rfl rfl rfl rfl rfl ?_
      refine x_unwant rfl rfl rfl rfl rfl ?_
      refine x_v (r_pk_f rfl rfl) rfl ?_
      refine x_v (r_as rfl) rfl ?_
      refine XL.nil ?_
      exact ⟨false, (decide_eq_false (fun h => hg73 h.1)).symm, ⟨rfl, rfl, rfl, rfl, rfl, trivial⟩, gS⟩
    ·rintro g0 hg0
     subst hg0
     refine XC.seq fun K6 hK6 => ?_
     refine XC.seq fun K7 hK7 => ?_
     refine XC.region ?_
     refine x_v (r_fa fo41_0 rfl) rfl ?_
     refine x_v (r_ld ty3 rfl pK (by rfl)) rfl ?_
     refine XL.nil ?_
     refine hK7 _ _ ?_
     refine XC.keep [(1, _), (3, _), (4, _), (5, _), (6, _), (79, _)] ⟨rfl, rfl, rfl, rfl, rfl, rfl, trivial⟩ ?_
     refine XC.block ?_
     refine XC.seq fun K8 hK8 => ?_
     refine XC.region ?_
     refine x_v (r_eq rfl rfl) rfl ?_
     refine x_v (r_as rfl) rfl ?_
     refine XL.nil ?_
     refine hK8 _ _ ?_
     refine XC.keep [(1, _), (3, _), (4, _), (5, _), (6, _), (79, _), (80, _)] ⟨rfl, rfl, rfl, rfl, rfl, rfl, rfl, trivial⟩ ?_
     refine XC.cond_d rfl (fun hc1 => ?_) (fun hc1 => ?_)
     ·refine XC.seq fun K9 hK9 => ?_
      refine XC.region ?_
      refine x_v (r_mv rfl) rfl ?_
      refine x_v (r_mv rfl) rfl ?_
      refine XL.splitd 83 rfl (fun hg83 => ?_) (fun hg83 => ?_)
      ·refine x_want rfl rfl rfl ?_
       refine x_v (r_fa fo41_1 rfl) rfl ?_
       refine x_want rfl rfl rfl ?_
       refine x_v (r_ld ty3 rfl pK (by rfl)) rfl ?_
       refine x_want rfl rfl rfl ?_
       refine x_v (r_eq rfl rfl) rfl ?_
       refine x_v (r_pk_t rfl rfl) rfl ?_
       refine x_v (r_mv rfl) rfl ?_
       refine XL.splitd 88 rfl (fun hg88 => ?_) (fun hg88 => ?_)
       ·refine x_want rfl rfl rfl ?_
        refine x_v (r_fa fo41_2 rfl) rfl ?_
        refine x_want rfl rfl rfl ?_
        refine x_v (r_ld ty3 rfl pK (by rfl)) rfl ?_
        refine x_want rfl rfl rfl ?_
        refine x_v (r_eq rfl rfl) rfl ?_
        refine x_v (r_pk_t rfl rfl) rfl ?_
        refine x_v (r_mv rfl) rfl ?_
        refine XL.splitd 93 rfl (fun hg93 => ?_) (fun hg93 => ?_)
        ·refine x_want rfl rfl rfl ?_
         refine x_v (r_fa fo41_7 rfl) rfl ?_
         refine x_want rfl rfl rfl ?_
         refine x_v (r_ld ty3 rfl pK (by rfl)) rfl ?_
         refine x_want rfl rfl rfl ?_
         refine x_v (r_eq rfl rfl) rfl ?_
         refine x_v (r_pk_t rfl rfl) rfl ?_
         refine x_v (r_as rfl) rfl ?_
         refine XL.nil ?_
         refine hK9 _ _ ?_
         refine XC.keep [(2, _)] ⟨rfl, trivial⟩ ?_
         refine XC.ret ?_
         exact fin1 rfl (⟨congrArg Value.bool (by rw [ck0 hc1]; exact decide_eq_decide.2 ⟨fun h => ⟨hg83.1, hg83.2, ⟨hg88, hg93⟩, h⟩, fun h => h.2.2.2⟩), rfl⟩) gS
        ·refine x_unwant rfl rfl rfl rfl rfl ?_
         refine x_unwant rfl rfl rfl rfl rfl ?_
         refine x_unwant rfl rfl rfl rfl rfl ?_
         refine x_v (r_pk_f rfl rfl) rfl ?_
         refine x_v (r_as rfl) rfl ?_
         refine XL.nil ?_
         refine hK9 _ _ ?_
         refine XC.keep [(2, _)] ⟨rfl, trivial⟩ ?_
         refine XC.ret ?_
         exact fin1 rfl (⟨congrArg Value.bool (by rw [ck0 hc1]; exact (decide_eq_false (fun h => hg93 h.2.2.1.2)).symm), rfl⟩) gS
       ·refine x_unwant rfl rfl rfl rfl rfl ?_
        refine x_unwant rfl rfl rfl rfl rfl ?_
        refine x_unwant rfl rfl rfl rfl rfl ?_
        refine x_v (r_pk_f rfl rfl) rfl ?_
        refine x_v (r_mv rfl) rfl ?_
        refine x_unwant rfl rfl rfl rfl rfl ?_
        refine x_unwant rfl rfl rfl rfl rfl ?_
        refine x_unwant rfl rfl rfl rfl rfl ?_
        refine x_v (r_pk_f rfl rfl) rfl ?_
        refine x_v (r_as rfl) rfl ?_
        refine XL.nil ?_
        refine hK9 _ _ ?_
        refine XC.keep [(2, _)] ⟨rfl, trivial⟩ ?_
        refine XC.ret ?_
        exact fin1 rfl (⟨congrArg Value.bool (by rw [ck0 hc1]; exact (decide_eq_false (fun h => hg88 h.2.2.1.1)).symm), rfl⟩) gS
      ·refine x_unwant rfl rfl rfl rfl rfl ?_
       refine x_unwant rfl rfl rfl rfl rfl ?_
       refine x_unwant rfl rfl rfl rfl rfl ?_
       refine x_v (r_pk_f rfl rfl) rfl ?_
       refine x_v (r_mv rfl) rfl ?_
       refine x_unwant rfl rfl rfl rfl rfl ?_
       refine x_unwant rfl rfl rfl rfl rfl ?_
       refine x_unwant rfl rfl rfl rfl rfl ?_
       refine x_v (r_pk_f rfl rfl) rfl ?_
       refine x_v (r_mv rfl) rfl ?_
       refine x_unwant rfl rfl rfl rfl rfl ?_
       refine x_unwant rfl rfl rfl rfl rfl ?_
       refine x_unwant rfl rfl rfl rfl rfl ?_
       refine x_v (r_pk_f rfl rfl) rfl ?_
       refine x_v (r_as rfl) rfl ?_
       refine XL.nil ?_
       refine hK9 _ _ ?_
       refine XC.keep [(2, _)] ⟨rfl, trivial⟩ ?_
       refine XC.ret ?_
       exact fin1 rfl (⟨congrArg Value.bool (by rw [ck0 hc1]; exact (decide_eq_false (fun h => hg83 ⟨h.1, h.2.1⟩)).symm), rfl⟩) gS
     ·refine XC.seq fun K10 hK10 => ?_
      refine XC.region ?_
      refine x_v (r_eq rfl rfl) rfl ?_
      refine x_v (r_as rfl) rfl ?_
      refine XL.nil ?_
      refine hK10 _ _ ?_
      refine XC.keep [(1, _), (3, _), (4, _), (5, _), (6, _), (79, _), (98, _)] ⟨rfl, rfl, rfl, rfl, rfl, rfl, rfl, trivial⟩ ?_
      refine XC.cond_d rfl (fun hc2 => ?_) (fun hc2 => ?_)
      ·refine XC.seq fun K11 hK11 => ?_
       refine XC.region ?_
       refine x_v (r_fa fo41_3 rfl) rfl ?_
       refine x_v (r_lda (l' := [_, _, _, _, _, _, _, _, _]) ty39 rfl pK rfl (Sub.get sU)) rfl ?_
       refine x_a (r_al ty39 rfl) rfl fun b7 => ?_
       refine x_e (r_st ty39 rfl rfl rfl rfl rfl uD oV) ?_
       refine XL.nil ?_
       refine hK11 _ _ ?_
       refine XC.keep [(1, _), (4, _), (6, _), (7, _)] ⟨rfl, rfl, rfl, rfl, trivial⟩ ?_
       refine XC.seq fun K12 hK12 => ?_
       refine XC.seq fun K13 hK13 => ?_
       refine XC.region ?_
       refine x_v (r_fa fo39_0 rfl) rfl ?_
       refine x_v (r_ld ty3 rfl pK (by rfl)) rfl ?_
       refine x_v (r_ne rfl rfl) rfl ?_
       refine x_v (r_mv rfl) rfl ?_
       refine XL.splitd 105 rfl (fun hg105 => ?_) (fun hg105 => ?_)
       ·refine x_unwant rfl rfl rfl rfl rfl ?_
        refine x_unwant rfl rfl rfl rfl rfl ?_
        refine x_unwant rfl rfl rfl rfl rfl ?_
        refine x_v (r_pk_t rfl rfl) rfl ?_
        refine x_v (r_mv rfl) rfl ?_
        refine x_unwant rfl rfl rfl rfl rfl ?_
        refine x_unwant rfl rfl rfl rfl rfl ?_
        refine x_unwant rfl rfl rfl rfl rfl ?_
        refine x_v (r_pk_t rfl rfl) rfl ?_
        refine x_v (r_mv rfl) rfl ?_
        refine x_unwant rfl rfl rfl rfl rfl ?_
        refine x_unwant rfl rfl rfl rfl rfl ?_
        refine x_unwant rfl rfl rfl rfl rfl ?_
        refine x_v (r_pk_t rfl rfl) rfl ?_
        refine XL.nil ?_
        refine hK13 _ _ ?_
        refine XC.keep [(1, _), (4, _), (6, _), (7, _), (119, _)] ⟨rfl, rfl, rfl, rfl, rfl, trivial⟩ ?_
        refine XC.cond_t rfl ?_
        refine XC.seq fun K14 hK14 => ?_
        refine XC.region ?_
        refine x_v (r_as rfl) rfl ?_
        refine XL.nil ?_
        refine hK14 _ _ ?_
        refine XC.keep [(2, _)] ⟨rfl, trivial⟩ ?_
        refine XC.ret ?_
        exact fin1 rfl (⟨congrArg Value.bool (by rw [ck1 hc2, decide_eq_false (p := DoP c) (fun h => hg105 h.1), Bool.false_and]), rfl⟩) gS
       ·refine x_want rfl rfl rfl ?_
        refine x_v (r_fa fo39_1 rfl) rfl ?_
        refine x_want rfl rfl rfl ?_
        refine x_v (r_ld ty3 rfl pK (by rfl)) rfl ?_
        refine x_want rfl rfl rfl ?_
        refine x_v (r_ne rfl rfl) rfl ?_
        refine x_v (r_pk_f rfl rfl) rfl ?_
        refine x_v (r_mv rfl) rfl ?_
        refine XL.splitd 110 rfl (fun hg110 => ?_) (fun hg110 => ?_)
        ·refine x_unwant rfl rfl rfl rfl rfl ?_
         refine x_unwant rfl rfl rfl rfl rfl ?_
         refine x_unwant rfl rfl rfl rfl rfl ?_
         refine x_v (r_pk_t rfl rfl) rfl ?_
         refine x_v (r_mv rfl) rfl ?_
         refine x_unwant rfl rfl rfl rfl rfl ?_
         refine x_unwant rfl rfl rfl rfl rfl ?_
         refine x_unwant rfl rfl rfl rfl rfl ?_
         refine x_v (r_pk_t rfl rfl) rfl ?_
         refine XL.nil ?_
         refine hK13 _ _ ?_
         refine XC.keep [(1, _), (4, _), (6, _), (7, _), (119, _)] ⟨rfl, rfl, rfl, rfl, rfl, trivial⟩ ?_
         refine XC.cond_t rfl ?_
         refine XC.seq fun K15 hK15 => ?_
         refine XC.region ?_
         refine x_v (r_as rfl) rfl ?_
         refine XL.nil ?_
         refine hK15 _ _ ?_
         refine XC.keep [(2, _)] ⟨rfl, trivial⟩ ?_
         refine XC.ret ?_
         exact fin1 rfl (⟨congrArg Value.bool (by rw [ck1 hc2, decide_eq_false (p := DoP c) (fun h => hg110 h.2.1), Bool.false_and]), rfl⟩) gS
        ·refine x_want rfl rfl rfl ?_
         refine x_v (r_fa fo39_3 rfl) rfl ?_
         refine x_want rfl rfl rfl ?_
         refine x_v (r_ld ty3 rfl pK (by rfl)) rfl ?_
         refine x_want rfl rfl rfl ?_
         refine x_v (r_ne rfl rfl) rfl ?_
         refine x_v (r_pk_f rfl rfl) rfl ?_
         refine x_v (r_mv rfl) rfl ?_
         refine XL.splitd 115 rfl (fun hg115 => ?_) (fun hg115 => ?_)
         ·refine x_unwant rfl rfl rfl rfl rfl ?_
          refine x_unwant rfl rfl rfl rfl rfl ?_
          refine x_unwant rfl rfl rfl rfl rfl ?_
          refine x_v (r_pk_t rfl rfl) rfl ?_
          refine XL.nil ?_
          refine hK13 _ _ ?_
          refine XC.keep [(1, _), (4, _), (6, _), (7, _), (119, _)] ⟨rfl, rfl, rfl, rfl, rfl, trivial⟩ ?_
          refine XC.cond_t rfl ?_
          refine XC.seq fun K16 hK16 => ?_
          refine XC.region ?_
          refine x_v (r_as rfl) rfl ?_
          refine XL.nil ?_
          refine hK16 _ _ ?_
          refine XC.keep [(2, _)] ⟨rfl, trivial⟩ ?_
          refine XC.ret ?_
          exact fin1 rfl (⟨congrArg Value.bool (by rw [ck1 hc2, decide_eq_false (p := DoP c) (fun h => hg115 h.2.2.1), Bool.false_and]), rfl⟩) gS
         ·refine x_want rfl rfl rfl ?_
          refine x_v (r_fa fo39_2 rfl) rfl ?_
          refine x_want rfl rfl rfl ?_
          refine x_v (r_ld ty3 rfl pK (by rfl)) rfl ?_
          refine x_want rfl rfl rfl ?_
          refine x_v (r_eq rfl rfl) rfl ?_
          refine x_v (r_pk_f rfl rfl) rfl ?_
          refine XL.nil ?_
          refine hK13 _ _ ?_
          refine XC.keep [(1, _), (4, _), (6, _), (7, _), (119, _)] ⟨rfl, rfl, rfl, rfl, rfl, trivial⟩ ?_
          refine XC.cond_d rfl (fun hc6 => ?_) (fun hc6 => ?_)
          ·refine XC.seq fun K17 hK17 => ?_
           refine XC.region ?_
           refine x_v (r_as rfl) rfl ?_
           refine XL.nil ?_
           refine hK17 _ _ ?_
           refine XC.keep [(2, _)] ⟨rfl, trivial⟩ ?_
           refine XC.ret ?_
           exact fin1 rfl (⟨congrArg Value.bool (by rw [ck1 hc2, decide_eq_false (p := DoP c) (fun h => h.2.2.2.1 hc6), Bool.false_and]), rfl⟩) gS
          ·refine XC.skip ?_
           refine hK12 _ _ ?_
           refine XC.keep [(1, _), (4, _), (6, _), (7, _)] ⟨rfl, rfl, rfl, rfl, trivial⟩ ?_
           refine XC.seq fun K18 hK18 => ?_
           refine XC.region ?_
           refine x_v (r_fa fo39_0 rfl) rfl ?_
           refine x_e (r_st ty3 rfl rfl rfl rfl rfl uD oV) ?_
           refine XL.nil ?_
           refine hK18 _ _ ?_
           refine XC.keep [(1, _), (4, _), (6, _), (7, _)] ⟨rfl, rfl, rfl, rfl, trivial⟩ ?_
           refine XC.seq fun K19 hK19 => ?_
           refine XC.region ?_
           refine x_v (r_fa fo41_1 rfl) rfl ?_
           refine x_v (r_ld ty3 rfl pK (by rfl)) rfl ?_
           refine x_v (r_fa fo39_1 rfl) rfl ?_
           refine x_e (r_st ty3 rfl rfl rfl rfl rfl uD oV) ?_
           refine XL.nil ?_
           refine hK19 _ _ ?_
           refine XC.keep [(1, _), (4, _), (6, _), (7, _)] ⟨rfl, rfl, rfl, rfl, trivial⟩ ?_
           refine XC.seq fun K20 hK20 => ?_
           refine XC.region ?_
           refine x_v (r_fa fo41_2 rfl) rfl ?_
           refine x_v (r_ld ty3 rfl pK (by rfl)) rfl ?_
           refine x_v (r_fa fo39_3 rfl) rfl ?_
           refine x_e (r_st ty3 rfl rfl rfl rfl rfl uD oV) ?_
           refine XL.nil ?_
           refine hK20 _ _ ?_
           refine XC.keep [(1, _), (4, _), (6, _), (7, _)] ⟨rfl, rfl, rfl, rfl, trivial⟩ ?_
           refine XC.seq fun K21 hK21 => ?_
           refine XC.region ?_
           refine x_v (r_mv rfl) rfl ?_
           refine x_v (r_mv rfl) rfl ?_
           refine XL.splitd 128 rfl (fun hg128 => ?_) (fun hg128 => ?_)
           ·refine x_want rfl rfl rfl ?_
            refine x_v (r_mv rfl) rfl ?_
            refine x_v (r_pk_t rfl rfl) rfl ?_
            refine x_v (r_mv rfl) rfl ?_
            refine XL.splitd 131 rfl (fun hg131 => ?_) (fun hg131 => ?_)
            ·refine x_want rfl rfl rfl ?_
             refine x_v (r_lda (l' := [_, _, _, _, _, _, _, _, _]) ty39 rfl pK rfl (Sub.get sU)) rfl ?_
             refine x_want rfl rfl rfl ?_
             refine x_c (r_call0 (args := [_]) ⟨rfl, rfl⟩ (rightop_tr (k := k) (opIn c, c.op.2) hop) gS) rfl ?_
             rintro _ _ ⟨rfl, rfl⟩
             refine x_v (r_pk_t rfl rfl) rfl ?_
             refine x_v (r_mv rfl) rfl ?_
             refine XL.split 135 rfl (fun hg135 => ?_) (fun hg135 => ?_)
             ·refine x_want rfl rfl rfl ?_
              refine x_v (r_fa fo41_4 rfl) rfl ?_
              refine x_want rfl rfl rfl ?_
              refine x_v (r_ld ty3 rfl pK (by rfl)) rfl ?_
              refine x_want rfl rfl rfl ?_
              refine x_v (r_eq rfl rfl) rfl ?_
              refine x_v (r_pk_t rfl rfl) rfl ?_
              refine x_v (r_mv rfl) rfl ?_
              refine XL.splitd 140 rfl (fun hg140 => ?_) (fun hg140 => ?_)
              ·refine x_want rfl rfl rfl ?_
               refine x_v (r_fa fo41_5 rfl) rfl ?_
               refine x_want rfl rfl rfl ?_
               refine x_v (r_ld ty3 rfl pK (by rfl)) rfl ?_
               refine x_want rfl rfl rfl ?_
               refine x_v (r_eq rfl rfl) rfl ?_
               refine x_v (r_pk_t rfl rfl) rfl ?_
               refine x_v (r_mv rfl) rfl ?_
               refine XL.splitd 145 rfl (fun hg145 => ?_) (fun hg145 => ?_)
               ·refine x_want rfl rfl rfl ?_
                refine x_v (r_fa fo41_6 rfl) rfl ?_
                refine x_want rfl rfl rfl ?_
                refine x_v (r_ld ty33 rfl pK (by rfl)) rfl ?_
                refine x_want rfl rfl rfl ?_
                refine x_v (r_lensl Try.underlying33 rfl) rfl ?_
                refine x_want rfl rfl rfl ?_
                refine x_v (r_eq rfl rfl) rfl ?_
                refine x_v (r_pk_t rfl rfl) rfl ?_
                refine x_v (r_as rfl) rfl ?_
                refine XL.nil ?_
                refine hK21 _ _ ?_
                refine XC.keep [(2, _)] ⟨rfl, trivial⟩ ?_
                refine XC.ret ?_
                exact fin1 rfl (⟨congrArg Value.bool (by rw [ck1 hc2, hg135, Bool.and_true]; exact decide_eq_decide.2 ⟨fun h => ⟨Classical.not_not.1 hg105, Classical.not_not.1 hg110, Classical.not_not.1 hg115, hc6, ⟨hg140, hg145, by omega⟩, hg131⟩, fun h => by have := h.2.2.2.2.1.2.2; omega⟩), rfl⟩) gS
               ·refine x_unwant rfl rfl rfl rfl rfl ?_
                refine x_unwant rfl rfl rfl rfl rfl ?_
                refine x_unwant rfl rfl rfl rfl rfl ?_
                refine x_unwant rfl rfl rfl rfl rfl ?_
                refine x_v (r_pk_f rfl rfl) rfl ?_
                refine x_v (r_as rfl) rfl ?_
                refine XL.nil ?_
                refine hK21 _ _ ?_
                refine XC.keep [(2, _)] ⟨rfl, trivial⟩ ?_
                refine XC.ret ?_
                exact fin1 rfl (⟨congrArg Value.bool (by rw [ck1 hc2, decide_eq_false (p := DoP c) (fun h => hg145 h.2.2.2.2.1.2.1), Bool.false_and]), rfl⟩) gS
              ·refine x_unwant rfl rfl rfl rfl rfl ?_
               refine x_unwant rfl rfl rfl rfl rfl ?_
               refine x_unwant rfl rfl rfl rfl rfl ?_
               refine x_v (r_pk_f rfl rfl) rfl ?_
               refine x_v (r_mv rfl) rfl ?_
               refine x_unwant rfl rfl rfl rfl rfl ?_
               refine x_unwant rfl rfl rfl rfl rfl ?_
               refine x_unwant rfl rfl rfl rfl rfl ?_
               refine x_unwant rfl rfl rfl rfl rfl ?_
               refine x_v (r_pk_f rfl rfl) rfl ?_
               refine x_v (r_as rfl) rfl ?_
               refine XL.nil ?_
               refine hK21 _ _ ?_
               refine XC.keep [(2, _)] ⟨rfl, trivial⟩ ?_
               refine XC.ret ?_
               exact fin1 rfl (⟨congrArg Value.bool (by rw [ck1 hc2, decide_eq_false (p := DoP c) (fun h => hg140 h.2.2.2.2.1.1), Bool.false_and]), rfl⟩) gS
             ·refine x_unwant rfl rfl rfl rfl rfl ?_
              refine x_unwant rfl rfl rfl rfl rfl ?_
              refine x_unwant rfl rfl rfl rfl rfl ?_
              refine x_v (r_pk_f rfl rfl) rfl ?_
              refine x_v (r_mv rfl) rfl ?_
              refine x_unwant rfl rfl rfl rfl rfl ?_
              refine x_unwant rfl rfl rfl rfl rfl ?_
              refine x_unwant rfl rfl rfl rfl rfl ?_
              refine x_v (r_pk_f rfl rfl) rfl ?_
              refine x_v (r_mv rfl) rfl ?_
              refine x_unwant rfl rfl rfl rfl rfl ?_
              refine x_unwant rfl rfl rfl rfl rfl ?_
              refine x_unwant rfl rfl rfl rfl rfl ?_
              refine x_unwant rfl rfl rfl rfl rfl ?_
              refine x_v (r_pk_f rfl rfl) rfl ?_
              refine x_v (r_as rfl) rfl ?_
              refine XL.nil ?_
              refine hK21 _ _ ?_
              refine XC.keep [(2, _)] ⟨rfl, trivial⟩ ?_
              refine XC.ret ?_
              exact fin1 rfl (⟨congrArg Value.bool (by rw [ck1 hc2, hg135, Bool.and_false]), rfl⟩) gS
            ·refine x_unwant rfl rfl rfl rfl rfl ?_
             refine x_unwant rfl rfl rfl rfl rfl ?_
             refine x_v (r_pk_f rfl rfl) rfl ?_
             refine x_v (r_mv rfl) rfl ?_
             refine x_unwant rfl rfl rfl rfl rfl ?_
             refine x_unwant rfl rfl rfl rfl rfl ?_
             refine x_unwant rfl rfl rfl rfl rfl ?_
             refine x_v (r_pk_f rfl rfl) rfl ?_
             refine x_v (r_mv rfl) rfl ?_
             refine x_unwant rfl rfl rfl rfl rfl ?_
             refine x_unwant rfl rfl rfl rfl rfl ?_
             refine x_unwant rfl rfl rfl rfl rfl ?_
             refine x_v (r_pk_f rfl rfl) rfl ?_
             refine x_v (r_mv rfl) rfl ?_
             refine x_unwant rfl rfl rfl rfl rfl ?_
             refine x_unwant rfl rfl rfl rfl rfl ?_
             refine x_unwant rfl rfl rfl rfl rfl ?_
             refine x_unwant rfl rfl rfl rfl rfl ?_
             refine x_v (r_pk_f rfl rfl) rfl ?_
             refine x_v (r_as rfl) rfl ?_
             refine XL.nil ?_
             refine hK21 _ _ ?_
             refine XC.keep [(2, _)] ⟨rfl, trivial⟩ ?_
             refine XC.ret ?_
             exact fin1 rfl (⟨congrArg Value.bool (by rw [ck1 hc2, decide_eq_false (p := DoP c) (fun h => hg131 h.2.2.2.2.2), Bool.false_and]), rfl⟩) gS
           ·refine x_unwant rfl rfl rfl rfl rfl ?_
            refine x_v (r_pk_f rfl rfl) rfl ?_
            refine x_v (r_mv rfl) rfl ?_
            refine x_unwant rfl rfl rfl rfl rfl ?_
            refine x_unwant rfl rfl rfl rfl rfl ?_
            refine x_v (r_pk_f rfl rfl) rfl ?_
            refine x_v (r_mv rfl) rfl ?_
            refine x_unwant rfl rfl rfl rfl rfl ?_
            refine x_unwant rfl rfl rfl rfl rfl ?_
            refine x_unwant rfl rfl rfl rfl rfl ?_
            refine x_v (r_pk_f rfl rfl) rfl ?_
            refine x_v (r_mv rfl) rfl ?_
            refine x_unwant rfl rfl rfl rfl rfl ?_
            refine x_unwant rfl rfl rfl rfl rfl ?_
            refine x_unwant rfl rfl rfl rfl rfl ?_
            refine x_v (r_pk_f rfl rfl) rfl ?_
            refine x_v (r_mv rfl) rfl ?_
            refine x_unwant rfl rfl rfl rfl rfl ?_
            refine x_unwant rfl rfl rfl rfl rfl ?_
            refine x_unwant rfl rfl rfl rfl rfl ?_
            refine x_unwant rfl rfl rfl rfl rfl ?_
            refine x_v (r_pk_f rfl rfl) rfl ?_
            refine x_v (r_as rfl) rfl ?_
            refine XL.nil ?_
            refine hK21 _ _ ?_
            refine XC.keep [(2, _)] ⟨rfl, trivial⟩ ?_
            refine XC.ret ?_
            exact fin1 rfl (⟨congrArg Value.bool (by rw [ck1 hc2, opOk_no (fun h => hg128 h.2.2), Bool.and_false]), rfl⟩) gS
      ·refine XC.seq fun K22 hK22 => ?_
       refine XC.region ?_
       refine x_v (r_eq rfl rfl) rfl ?_
       refine x_v (r_as rfl) rfl ?_
       refine XL.nil ?_
       refine hK22 _ _ ?_
       refine XC.keep [(1, _), (3, _), (4, _), (5, _), (6, _), (79, _), (151, _)] ⟨rfl, rfl, rfl, rfl, rfl, rfl, rfl, trivial⟩ ?_
       refine XC.cond_d rfl (fun hc7 => ?_) (fun hc7 => ?_)
       ·refine XC.seq fun K23 hK23 => ?_
        refine XC.region ?_
        refine x_v (r_mv rfl) rfl ?_
        refine x_v (r_mv rfl) rfl ?_
        refine XL.splitd 154 rfl (fun hg154 => ?_) (fun hg154 => ?_)
        ·refine x_want rfl rfl rfl ?_
         refine x_v (r_fa fo41_1 rfl) rfl ?_
         refine x_want rfl rfl rfl ?_
         refine x_v (r_ld ty3 rfl pK (by rfl)) rfl ?_
         refine x_want rfl rfl rfl ?_
         refine x_v (r_eq rfl rfl) rfl ?_
         refine x_v (r_pk_t rfl rfl) rfl ?_
         refine x_v (r_mv rfl) rfl ?_
         refine XL.splitd 159 rfl (fun hg159 => ?_) (fun hg159 => ?_)
         ·refine x_want rfl rfl rfl ?_
          refine x_v (r_fa fo41_2 rfl) rfl ?_
          refine x_want rfl rfl rfl ?_
          refine x_v (r_ld ty3 rfl pK (by rfl)) rfl ?_
          refine x_want rfl rfl rfl ?_
          refine x_v (r_eq rfl rfl) rfl ?_
          refine x_v (r_pk_t rfl rfl) rfl ?_
          refine x_v (r_mv rfl) rfl ?_
          refine XL.splitd 164 rfl (fun hg164 => ?_) (fun hg164 => ?_)
          ·refine x_want rfl rfl rfl ?_
           refine x_v (r_mv rfl) rfl ?_
           refine x_v (r_pk_t rfl rfl) rfl ?_
           refine x_v (r_as rfl) rfl ?_
           refine XL.nil ?_
           refine hK23 _ _ ?_
           refine XC.keep [(2, _)] ⟨rfl, trivial⟩ ?_
           refine XC.ret ?_
           exact fin1 rfl (⟨congrArg Value.bool (by rw [ck2 hc7]; exact decide_eq_decide.2 ⟨fun h => ⟨hg154.1, hg154.2, ⟨hg159, hg164⟩, h⟩, fun h => h.2.2.2⟩), rfl⟩) gS
          ·refine x_unwant rfl rfl rfl rfl rfl ?_
           refine x_v (r_pk_f rfl rfl) rfl ?_
           refine x_v (r_as rfl) rfl ?_
           refine XL.nil ?_
           refine hK23 _ _ ?_
           refine XC.keep [(2, _)] ⟨rfl, trivial⟩ ?_
           refine XC.ret ?_
           exact fin1 rfl (⟨congrArg Value.bool (by rw [ck2 hc7]; exact (decide_eq_false (fun h => hg164 h.2.2.1.2)).symm), rfl⟩) gS
         ·refine x_unwant rfl rfl rfl rfl rfl ?_
          refine x_unwant rfl rfl rfl rfl rfl ?_
          refine x_unwant rfl rfl rfl rfl rfl ?_
          refine x_v (r_pk_f rfl rfl) rfl ?_
          refine x_v (r_mv rfl) rfl ?_
          refine x_unwant rfl rfl rfl rfl rfl ?_
          refine x_v (r_pk_f rfl rfl) rfl ?_
          refine x_v (r_as rfl) rfl ?_
          refine XL.nil ?_
          refine hK23 _ _ ?_
          refine XC.keep [(2, _)] ⟨rfl, trivial⟩ ?_
          refine XC.ret ?_
          exact fin1 rfl (⟨congrArg Value.bool (by rw [ck2 hc7]; exact (decide_eq_false (fun h => hg159 h.2.2.1.1)).symm), rfl⟩) gS
        ·refine x_unwant rfl rfl rfl rfl rfl ?_
         refine x_unwant rfl rfl rfl rfl rfl ?_
         refine x_unwant rfl rfl rfl rfl rfl ?_
         refine x_v (r_pk_f rfl rfl) rfl ?_
         refine x_v (r_mv rfl) rfl ?_
         refine x_unwant rfl rfl rfl rfl rfl ?_
         refine x_unwant rfl rfl rfl rfl rfl ?_
         refine x_unwant rfl rfl rfl rfl rfl ?_
         refine x_v (r_pk_f rfl rfl) rfl ?_
         refine x_v (r_mv rfl) rfl ?_
         refine x_unwant rfl rfl rfl rfl rfl ?_
         refine x_v (r_pk_f rfl rfl) rfl ?_
         refine x_v (r_as rfl) rfl ?_
         refine XL.nil ?_
         refine hK23 _ _ ?_
         refine XC.keep [(2, _)] ⟨rfl, trivial⟩ ?_
         refine XC.ret ?_
         exact fin1 rfl (⟨congrArg Value.bool (by rw [ck2 hc7]; exact (decide_eq_false (fun h => hg154 ⟨h.1, h.2.1⟩)).symm), rfl⟩) gS
       ·refine XC.seq fun K24 hK24 => ?_
        refine XC.region ?_
        refine x_v (r_eq rfl rfl) rfl ?_
        refine x_v (r_as rfl) rfl ?_
        refine XL.nil ?_
        refine hK24 _ _ ?_
        refine XC.keep [(1, _), (3, _), (4, _), (5, _), (79, _), (167, _)] ⟨rfl, rfl, rfl, rfl, rfl, rfl, trivial⟩ ?_
        refine XC.cond_d rfl (fun hc8 => ?_) (fun hc8 => ?_)
        ·refine XC.seq fun K25 hK25 => ?_
         refine XC.seq fun K26 hK26 => ?_
         refine XC.region ?_
         refine x_v (r_mv rfl) rfl ?_
         refine x_v (r_not_d rfl) rfl ?_
         refine x_v (r_mv rfl) rfl ?_
         refine XL.splitd 171 rfl (fun hg171 => ?_) (fun hg171 => ?_)
         ·refine x_unwant rfl rfl rfl rfl rfl ?_
          refine x_unwant rfl rfl rfl rfl rfl ?_
          refine x_v (r_pk_t rfl rfl) rfl ?_
          refine x_v (r_mv rfl) rfl ?_
          refine x_unwant rfl rfl rfl rfl rfl ?_
          refine x_unwant rfl rfl rfl rfl rfl ?_
          refine x_unwant rfl rfl rfl rfl rfl ?_
          refine x_v (r_pk_t rfl rfl) rfl ?_
          refine x_v (r_mv rfl) rfl ?_
          refine x_unwant rfl rfl rfl rfl rfl ?_
          refine x_unwant rfl rfl rfl rfl rfl ?_
          refine x_unwant rfl rfl rfl rfl rfl ?_
          refine x_unwant rfl rfl rfl rfl rfl ?_
          refine x_v (r_pk_t rfl rfl) rfl ?_
          refine x_v (r_mv rfl) rfl ?_
          refine x_unwant rfl rfl rfl rfl rfl ?_
          refine x_unwant rfl rfl rfl rfl rfl ?_
          refine x_unwant rfl rfl rfl rfl rfl ?_
          refine x_unwant rfl rfl rfl rfl rfl ?_
          refine x_unwant rfl rfl rfl rfl rfl ?_
          refine x_v (r_pk_t rfl rfl) rfl ?_
          refine x_v (r_mv rfl) rfl ?_
          refine x_unwant rfl rfl rfl rfl rfl ?_
          refine x_unwant rfl rfl rfl rfl rfl ?_
          refine x_unwant rfl rfl rfl rfl rfl ?_
          refine x_unwant rfl rfl rfl rfl rfl ?_
          refine x_unwant rfl rfl rfl rfl rfl ?_
          refine x_unwant rfl rfl rfl rfl rfl ?_
          refine x_unwant rfl rfl rfl rfl rfl ?_
          refine x_unwant rfl rfl rfl rfl rfl ?_
          refine x_unwant rfl rfl rfl rfl rfl ?_
          refine x_v (r_pk_t rfl rfl) rfl ?_
          refine XL.nil ?_
          refine hK26 _ _ ?_
          refine XC.keep [(1, _), (203, _)] ⟨rfl, rfl, trivial⟩ ?_
          refine XC.cond_t rfl ?_
          refine XC.seq fun K27 hK27 => ?_
          refine XC.region ?_
          refine x_v (r_as rfl) rfl ?_
          refine XL.nil ?_
          refine hK27 _ _ ?_
          refine XC.keep [(2, _)] ⟨rfl, trivial⟩ ?_
          refine XC.ret ?_
          exact fin1 rfl (⟨congrArg Value.bool (by rw [ck3 hc8, decide_eq_false (p := ShipP c) (fun h => hg171 h.1), Bool.false_and]), rfl⟩) gS
         ·refine x_want rfl rfl rfl ?_
          refine x_v (r_mv rfl) rfl ?_
          refine x_want rfl rfl rfl ?_
          refine x_v (r_not_d rfl) rfl ?_
          refine x_v (r_pk_f rfl rfl) rfl ?_
          refine x_v (r_mv rfl) rfl ?_
          refine XL.splitd 175 rfl (fun hg175 => ?_) (fun hg175 => ?_)
          ·refine x_unwant rfl rfl rfl rfl rfl ?_
           refine x_unwant rfl rfl rfl rfl rfl ?_
           refine x_unwant rfl rfl rfl rfl rfl ?_
           refine x_v (r_pk_t rfl rfl) rfl ?_
           refine x_v (r_mv rfl) rfl ?_
           refine x_unwant rfl rfl rfl rfl rfl ?_
           refine x_unwant rfl rfl rfl rfl rfl ?_
           refine x_unwant rfl rfl rfl rfl rfl ?_
           refine x_unwant rfl rfl rfl rfl rfl ?_
           refine x_v (r_pk_t rfl rfl) rfl ?_
           refine x_v (r_mv rfl) rfl ?_
           refine x_unwant rfl rfl rfl rfl rfl ?_
           refine x_unwant rfl rfl rfl rfl rfl ?_
           refine x_unwant rfl rfl rfl rfl rfl ?_
           refine x_unwant rfl rfl rfl rfl rfl ?_
           refine x_unwant rfl rfl rfl rfl rfl ?_
           refine x_v (r_pk_t rfl rfl) rfl ?_
           refine x_v (r_mv rfl) rfl ?_
           refine x_unwant rfl rfl rfl rfl rfl ?_
           refine x_unwant rfl rfl rfl rfl rfl ?_
           refine x_unwant rfl rfl rfl rfl rfl ?_
           refine x_unwant rfl rfl rfl rfl rfl ?_
           refine x_unwant rfl rfl rfl rfl rfl ?_
           refine x_unwant rfl rfl rfl rfl rfl ?_
           refine x_unwant rfl rfl rfl rfl rfl ?_
           refine x_unwant rfl rfl rfl rfl rfl ?_
           refine x_unwant rfl rfl rfl rfl rfl ?_
           refine x_v (r_pk_t rfl rfl) rfl ?_
           refine XL.nil ?_
           refine hK26 _ _ ?_
           refine XC.keep [(1, _), (203, _)] ⟨rfl, rfl, trivial⟩ ?_
           refine XC.cond_t rfl ?_
           refine XC.seq fun K28 hK28 => ?_
           refine XC.region ?_
           refine x_v (r_as rfl) rfl ?_
           refine XL.nil ?_
           refine hK28 _ _ ?_
           refine XC.keep [(2, _)] ⟨rfl, trivial⟩ ?_
           refine XC.ret ?_
           exact fin1 rfl (⟨congrArg Value.bool (by rw [ck3 hc8, decide_eq_false (p := ShipP c) (fun h => hg175 h.2.2.1), Bool.false_and]), rfl⟩) gS
          ·refine x_want rfl rfl rfl ?_
           refine x_v (r_fa fo41_7 rfl) rfl ?_
           refine x_want rfl rfl rfl ?_
           refine x_v (r_ld ty3 rfl pK (by rfl)) rfl ?_
           refine x_want rfl rfl rfl ?_
           refine x_v (r_ne rfl rfl) rfl ?_
           refine x_v (r_pk_f rfl rfl) rfl ?_
           refine x_v (r_mv rfl) rfl ?_
           refine XL.splitd 180 rfl (fun hg180 => ?_) (fun hg180 => ?_)
           ·refine x_unwant rfl rfl rfl rfl rfl ?_
            refine x_unwant rfl rfl rfl rfl rfl ?_
            refine x_unwant rfl rfl rfl rfl rfl ?_
            refine x_unwant rfl rfl rfl rfl rfl ?_
            refine x_v (r_pk_t rfl rfl) rfl ?_
            refine x_v (r_mv rfl) rfl ?_
            refine x_unwant rfl rfl rfl rfl rfl ?_
            refine x_unwant rfl rfl rfl rfl rfl ?_
            refine x_unwant rfl rfl rfl rfl rfl ?_
            refine x_unwant rfl rfl rfl rfl rfl ?_
            refine x_unwant rfl rfl rfl rfl rfl ?_
            refine x_v (r_pk_t rfl rfl) rfl ?_
            refine x_v (r_mv rfl) rfl ?_
            refine x_unwant rfl rfl rfl rfl rfl ?_
            refine x_unwant rfl rfl rfl rfl rfl ?_
            refine x_unwant rfl rfl rfl rfl rfl ?_
            refine x_unwant rfl rfl rfl rfl rfl ?_
            refine x_unwant rfl rfl rfl rfl rfl ?_
            refine x_unwant rfl rfl rfl rfl rfl ?_
            refine x_unwant rfl rfl rfl rfl rfl ?_
            refine x_unwant rfl rfl rfl rfl rfl ?_
            refine x_unwant rfl rfl rfl rfl rfl ?_
            refine x_v (r_pk_t rfl rfl) rfl ?_
            refine XL.nil ?_
            refine hK26 _ _ ?_
            refine XC.keep [(1, _), (203, _)] ⟨rfl, rfl, trivial⟩ ?_
            refine XC.cond_t rfl ?_
            refine XC.seq fun K29 hK29 => ?_
            refine XC.region ?_
            refine x_v (r_as rfl) rfl ?_
            refine XL.nil ?_
            refine hK29 _ _ ?_
            refine XC.keep [(2, _)] ⟨rfl, trivial⟩ ?_
            refine XC.ret ?_
            exact fin1 rfl (⟨congrArg Value.bool (by rw [ck3 hc8, decide_eq_false (p := ShipP c) (fun h => hg180 h.2.1), Bool.false_and]), rfl⟩) gS
           ·refine x_want rfl rfl rfl ?_
            refine x_v (r_fa fo41_6 rfl) rfl ?_
            refine x_want rfl rfl rfl ?_
            refine x_v (r_ld ty33 rfl pK (by rfl)) rfl ?_
            refine x_want rfl rfl rfl ?_
            refine x_v (r_lensl Try.underlying33 rfl) rfl ?_
            refine x_want rfl rfl rfl ?_
            refine x_v (r_gt rfl rfl) rfl ?_
            refine x_v (r_pk_f rfl rfl) rfl ?_
            refine x_v (r_mv rfl) rfl ?_
            refine XL.splitd 186 rfl (fun hg186 => ?_) (fun hg186 => ?_)
            ·refine x_unwant rfl rfl rfl rfl rfl ?_
             refine x_unwant rfl rfl rfl rfl rfl ?_
             refine x_unwant rfl rfl rfl rfl rfl ?_
             refine x_unwant rfl rfl rfl rfl rfl ?_
             refine x_unwant rfl rfl rfl rfl rfl ?_
             refine x_v (r_pk_t rfl rfl) rfl ?_
             refine x_v (r_mv rfl) rfl ?_
             refine x_unwant rfl rfl rfl rfl rfl ?_
             refine x_unwant rfl rfl rfl rfl rfl ?_
             refine x_unwant rfl rfl rfl rfl rfl ?_
             refine x_unwant rfl rfl rfl rfl rfl ?_
             refine x_unwant rfl rfl rfl rfl rfl ?_
             refine x_unwant rfl rfl rfl rfl rfl ?_
             refine x_unwant rfl rfl rfl rfl rfl ?_
             refine x_unwant rfl rfl rfl rfl rfl ?_
             refine x_unwant rfl rfl rfl rfl rfl ?_
             refine x_v (r_pk_t rfl rfl) rfl ?_
             refine XL.nil ?_
             refine hK26 _ _ ?_
             refine XC.keep [(1, _), (203, _)] ⟨rfl, rfl, trivial⟩ ?_
             refine XC.cond_t rfl ?_
             refine XC.seq fun K30 hK30 => ?_
             refine XC.region ?_
             refine x_v (r_as rfl) rfl ?_
             refine XL.nil ?_
             refine hK30 _ _ ?_
             refine XC.keep [(2, _)] ⟨rfl, trivial⟩ ?_
             refine XC.ret ?_
             exact fin1 rfl (⟨congrArg Value.bool (by rw [ck3 hc8, decide_eq_false (p := ShipP c) (fun h => by have := h.2.2.2.1; omega), Bool.false_and]), rfl⟩) gS
            ·refine x_want rfl rfl rfl ?_
             refine x_v (r_fa fo41_5 rfl) rfl ?_
             refine x_want rfl rfl rfl ?_
             refine x_v (r_ld ty3 rfl pK (by rfl)) rfl ?_
             refine x_want rfl rfl rfl ?_
             refine x_v (r_fa fo41_1 rfl) rfl ?_
             refine x_want rfl rfl rfl ?_
             refine x_v (r_ld ty3 rfl pK (by rfl)) rfl ?_
             refine x_want rfl rfl rfl ?_
             refine x_v (r_gt rfl rfl) rfl ?_
             refine x_v (r_pk_f rfl rfl) rfl ?_
             refine x_v (r_mv rfl) rfl ?_
             refine XL.splitd 193 rfl (fun hg193 => ?_) (fun hg193 => ?_)
             ·refine x_unwant rfl rfl rfl rfl rfl ?_
              refine x_unwant rfl rfl rfl rfl rfl ?_
              refine x_unwant rfl rfl rfl rfl rfl ?_
              refine x_unwant rfl rfl rfl rfl rfl ?_
              refine x_unwant rfl rfl rfl rfl rfl ?_
              refine x_unwant rfl rfl rfl rfl rfl ?_
              refine x_unwant rfl rfl rfl rfl rfl ?_
              refine x_unwant rfl rfl rfl rfl rfl ?_
              refine x_unwant rfl rfl rfl rfl rfl ?_
              refine x_v (r_pk_t rfl rfl) rfl ?_
              refine XL.nil ?_
              refine hK26 _ _ ?_
              refine XC.keep [(1, _), (203, _)] ⟨rfl, rfl, trivial⟩ ?_
              refine XC.cond_t rfl ?_
              refine XC.seq fun K31 hK31 => ?_
              refine XC.region ?_
              refine x_v (r_as rfl) rfl ?_
              refine XL.nil ?_
              refine hK31 _ _ ?_
              refine XC.keep [(2, _)] ⟨rfl, trivial⟩ ?_
              refine XC.ret ?_
              exact fin1 rfl (⟨congrArg Value.bool (by rw [ck3 hc8, decide_eq_false (p := ShipP c) (fun h => by have := h.2.2.2.2; omega), Bool.false_and]), rfl⟩) gS
             ·refine x_want rfl rfl rfl ?_
              refine x_v (r_fa fo41_4 rfl) rfl ?_
              refine x_want rfl rfl rfl ?_
              refine x_v (r_ld ty3 rfl pK (by rfl)) rfl ?_
              refine x_want rfl rfl rfl ?_
              refine x_v (r_fa fo41_5 rfl) rfl ?_
              refine x_want rfl rfl rfl ?_
              refine x_v (r_ld ty3 rfl pK (by rfl)) rfl ?_
              refine x_want rfl rfl rfl ?_
              refine x_v (r_bd (vs := [_, _]) rfl ⟨rfl, rfl, rfl⟩ (bd31_0_1 _ _)) rfl ?_
              refine x_want rfl rfl rfl ?_
              refine x_v (r_fa fo41_6 rfl) rfl ?_
              refine x_want rfl rfl rfl ?_
              refine x_v (r_ld ty33 rfl pK (by rfl)) rfl ?_
              refine x_want rfl rfl rfl ?_
              refine x_c (r_call0 (args := [_, _]) ⟨rfl, rfl, rfl⟩ (wrow_tr (k := k) c.after c.since c.pA c.pc c.ops hr ho hl) gS) rfl ?_
              rintro _ _ ⟨rfl, rfl⟩
              refine x_want rfl rfl rfl ?_
              refine x_v (r_not rfl) rfl ?_
              refine x_v (r_pk_f rfl rfl) rfl ?_
              refine XL.nil ?_
              refine hK26 _ _ ?_
              refine XC.keep [(1, _), (203, _)] ⟨rfl, rfl, trivial⟩ ?_
              refine XC.cond rfl (fun hc14 => ?_) (fun hc14 => ?_)
              ·refine XC.seq fun K32 hK32 => ?_
               refine XC.region ?_
               refine x_v (r_as rfl) rfl ?_
               refine XL.nil ?_
               refine hK32 _ _ ?_
               refine XC.keep [(2, _)] ⟨rfl, trivial⟩ ?_
               refine XC.ret ?_
               exact fin1 rfl (⟨congrArg Value.bool (by rw [ck3 hc8]; cases hrw : rowOk c.after c.since (fst1 c.ops) with | false => simp | true => rw [hrw] at hc14; cases hc14), rfl⟩) gS
              ·refine XC.skip ?_
               refine hK25 _ _ ?_
               refine XC.keep [(1, _)] ⟨rfl, trivial⟩ ?_
               refine XC.seq fun K33 hK33 => ?_
               have hrow : rowOk c.after c.since (fst1 c.ops) = true := by (cases hh : rowOk c.after c.since (fst1 c.ops) with | true => rfl | false => (rw [hh] at hc14; cases hc14))
               have hsh : ShipP c := ⟨Classical.not_not.1 hg171, Classical.not_not.1 hg180, Classical.not_not.1 hg175, by omega, by omega⟩
               obtain ⟨z, hz0⟩ : ∃ z : Od, 0 < c.ops.length → c.ops[c.ops.length - 1]? = some z := by (by_cases hh : 0 < c.ops.length; exact ⟨c.ops[c.ops.length - 1]'(by omega), fun _ => List.getElem?_eq_getElem (by omega)⟩; exact ⟨c.op, fun h => absurd h hh⟩)
               refine XC.draw [blk b1 41 [.int .i64 c.kind, .int .i64 c.epoch, .int .i64 c.site, .int .i64 c.op.1.n, .int .i64 c.op.1.epoch, .int .i64 c.op.1.kind, .int .i64 c.op.1.site, .int .i64 c.op.1.client, .int .i64 c.op.1.seq, str c.op.1.name, .int .i64 c.op.1.size, .slice c.op.2.1 c.op.1.hs.length c.op.2.2, .int .i64 c.after, .int .i64 c.since, .slice c.pA c.ops.length c.pc, .int .i64 c.tag], k] false [(0, false), (1, false), (2, false), (3, false), (4, false), (5, false), (6, false), (7, false), (8, false), (9, false), (10, false), (11, false), (12, false), (13, false), (14, false), (15, false), (16, false), (17, false), (18, false)] (by kernel_rfl) (by kernel_rfl) ?_
               refine y_v rfl (r_fa fo41_6 rfl) gT rfl ?_
               refine y_v rfl (r_ld ty33 rfl pK (by rfl)) gT rfl ?_
               refine y_v rfl (r_lensl Try.underlying33 rfl) gT rfl ?_
               refine y_v rfl (r_eq rfl rfl) gT rfl ?_
               refine y_v rfl (r_mv rfl) gT rfl ?_
               refine XH.splitd 208 rfl (fun hg208 => ?_) (fun hg208 => ?_)
               ·refine y_un rfl rfl rfl (fun _ h => Gets.own gS h) rfl ?_
                refine y_un rfl rfl rfl (fun _ h => Gets.own gS h) rfl ?_
                refine y_un rfl rfl rfl (fun _ h => Gets.own gS h) rfl ?_
                refine y_un rfl rfl rfl (fun _ h => Gets.own gS h) rfl ?_
                refine y_un rfl rfl rfl (fun _ h => Gets.own gS h) rfl ?_
                refine y_un rfl rfl rfl (fun _ h => Gets.own gS h) rfl ?_
                refine y_un rfl rfl rfl (fun _ h => Gets.own gS h) rfl ?_
                refine y_un rfl rfl rfl (fun _ h => Gets.own gS h) rfl ?_
                refine y_un rfl rfl rfl (fun _ h => Gets.own gS h) rfl ?_
                refine y_un rfl rfl rfl (fun _ h => Gets.own gS h) rfl ?_
                refine y_un rfl rfl rfl (fun _ h => Gets.own gS h) rfl ?_
                refine y_un rfl rfl rfl (fun _ h => Gets.own gS h) rfl ?_
                refine y_v rfl (r_pk_t rfl rfl) gT rfl ?_
                refine y_v rfl (r_as rfl) gT rfl ?_
                refine XH.nil ?_
                refine hK33 _ _ ?_
                refine XC.keep [(2, _)] ⟨rfl, trivial⟩ ?_
                refine XC.ret ?_
                exact fin1 rfl (⟨congrArg Value.bool (by rw [ck3 hc8, decide_eq_true (p := ShipP c) hsh, hrow, List.eq_nil_of_length_eq_zero (show c.ops.length = 0 by omega)]; rfl), rfl⟩) gS
               ·refine y_vg rfl rfl rfl (r_fa fo41_6 rfl) gT rfl ?_
                refine y_vg rfl rfl rfl (r_ld ty33 rfl pK (by rfl)) gT rfl ?_
                refine y_vg rfl rfl rfl (r_fa fo41_6 rfl) gT rfl ?_
                have hz := hz0 (by omega)
                obtain ⟨ob, oo, hpA, hat⟩ := hr.at_ (by omega)
                refine y_vg rfl rfl rfl (r_ld ty33 rfl pK (by rfl)) gT rfl ?_
                refine y_vg rfl rfl rfl (r_lensl Try.underlying33 rfl) gT rfl ?_
                refine y_vg rfl rfl rfl (r_sub rfl rfl (by omega)) gT rfl ?_
                refine y_vg rfl rfl rfl (r_ia (k := c.ops.length - 1) Try.underlying33 ty39 (by rw [hpA]; rfl) rfl (by omega) (by omega)) gT rfl ?_
                refine y_vg rfl rfl rfl (r_fa fo39_1 rfl) gT rfl ?_
                refine y_vg rfl rfl rfl (r_ldr ty3 rfl (fun w hw => by rw [Nat.add_assoc]; exact hat w (Gets.own gS hw) _ _ (cells_get odc_len c.ops _ _ hz 1 _ rfl))) gT rfl ?_
                refine y_vg rfl rfl rfl (r_fa fo41_1 rfl) gT rfl ?_
                refine y_vg rfl rfl rfl (r_ld ty3 rfl pK (by rfl)) gT rfl ?_
                refine y_vg rfl rfl rfl (r_le rfl rfl) gT rfl ?_
                refine y_v rfl (r_pk_f rfl rfl) gT rfl ?_
                refine y_v rfl (r_as rfl) gT rfl ?_
                refine XH.nil ?_
                refine hK33 _ _ ?_
                refine XC.keep [(2, _)] ⟨rfl, trivial⟩ ?_
                refine XC.ret ?_
                exact fin1 rfl (⟨congrArg Value.bool (by rw [ck3 hc8, decide_eq_true (p := ShipP c) hsh, hrow, Bool.true_and, Bool.true_and, le_last hrow hz]), rfl⟩) gS
        ·refine XC.seq fun K34 hK34 => ?_
         refine XC.region ?_
         refine x_v (r_eq rfl rfl) rfl ?_
         refine x_v (r_as rfl) rfl ?_
         refine XL.nil ?_
         refine hK34 _ _ ?_
         refine XC.keep [(1, _), (3, _), (4, _), (5, _), (79, _), (222, _)] ⟨rfl, rfl, rfl, rfl, rfl, rfl, trivial⟩ ?_
         refine XC.cond_d rfl (fun hc15 => ?_) (fun hc15 => ?_)
         ·refine XC.seq fun K35 hK35 => ?_
          refine XC.region ?_
          refine x_v (r_mv rfl) rfl ?_
          refine x_v (r_mv rfl) rfl ?_
          refine XL.splitd 225 rfl (fun hg225 => ?_) (fun hg225 => ?_)
          ·refine x_want rfl rfl rfl ?_
           refine x_v (r_mv rfl) rfl ?_
           refine x_v (r_pk_t rfl rfl) rfl ?_
           refine x_v (r_mv rfl) rfl ?_
           refine XL.splitd 228 rfl (fun hg228 => ?_) (fun hg228 => ?_)
           ·refine x_want rfl rfl rfl ?_
            refine x_v (r_fa fo41_7 rfl) rfl ?_
            refine x_want rfl rfl rfl ?_
            refine x_v (r_ld ty3 rfl pK (by rfl)) rfl ?_
            refine x_want rfl rfl rfl ?_
            refine x_v (r_eq rfl rfl) rfl ?_
            refine x_v (r_pk_t rfl rfl) rfl ?_
            refine x_v (r_as rfl) rfl ?_
            refine XL.nil ?_
            refine hK35 _ _ ?_
            refine XC.keep [(2, _)] ⟨rfl, trivial⟩ ?_
            refine XC.ret ?_
            exact fin1 rfl (⟨congrArg Value.bool (by rw [ck4 hc15]; exact decide_eq_decide.2 ⟨fun h => ⟨hg225.1, hg225.2, h, hg228⟩, fun h => h.2.2.1⟩), rfl⟩) gS
           ·refine x_unwant rfl rfl rfl rfl rfl ?_
            refine x_unwant rfl rfl rfl rfl rfl ?_
            refine x_unwant rfl rfl rfl rfl rfl ?_
            refine x_v (r_pk_f rfl rfl) rfl ?_
            refine x_v (r_as rfl) rfl ?_
            refine XL.nil ?_
            refine hK35 _ _ ?_
            refine XC.keep [(2, _)] ⟨rfl, trivial⟩ ?_
            refine XC.ret ?_
            exact fin1 rfl (⟨congrArg Value.bool (by rw [ck4 hc15]; exact (decide_eq_false (fun h => hg228 h.2.2.2)).symm), rfl⟩) gS
          ·refine x_unwant rfl rfl rfl rfl rfl ?_
           refine x_v (r_pk_f rfl rfl) rfl ?_
           refine x_v (r_mv rfl) rfl ?_
           refine x_unwant rfl rfl rfl rfl rfl ?_
           refine x_unwant rfl rfl rfl rfl rfl ?_
           refine x_unwant rfl rfl rfl rfl rfl ?_
           refine x_v (r_pk_f rfl rfl) rfl ?_
           refine x_v (r_as rfl) rfl ?_
           refine XL.nil ?_
           refine hK35 _ _ ?_
           refine XC.keep [(2, _)] ⟨rfl, trivial⟩ ?_
           refine XC.ret ?_
           exact fin1 rfl (⟨congrArg Value.bool (by rw [ck4 hc15]; exact (decide_eq_false (fun h => hg225 ⟨h.1, h.2.1⟩)).symm), rfl⟩) gS
         ·refine XC.seq fun K36 hK36 => ?_
          refine XC.region ?_
          refine x_v (r_eq rfl rfl) rfl ?_
          refine x_v (r_as rfl) rfl ?_
          refine XL.nil ?_
          refine hK36 _ _ ?_
          refine XC.keep [(1, _), (3, _), (4, _), (233, _)] ⟨rfl, rfl, rfl, rfl, trivial⟩ ?_
          refine XC.cond_d rfl (fun hc16 => ?_) (fun hc16 => ?_)
          ·refine XC.seq fun K37 hK37 => ?_
           refine XC.region ?_
           refine x_v (r_mv rfl) rfl ?_
           refine x_v (r_mv rfl) rfl ?_
           refine XL.splitd 236 rfl (fun hg236 => ?_) (fun hg236 => ?_)
           ·refine x_want rfl rfl rfl ?_
            refine x_v (r_mv rfl) rfl ?_
            refine x_v (r_pk_t rfl rfl) rfl ?_
            refine x_v (r_mv rfl) rfl ?_
            refine XL.splitd 239 rfl (fun hg239 => ?_) (fun hg239 => ?_)
            ·refine x_want rfl rfl rfl ?_
             refine x_v (r_fa fo41_7 rfl) rfl ?_
             refine x_want rfl rfl rfl ?_
             refine x_v (r_ld ty3 rfl pK (by rfl)) rfl ?_
             refine x_want rfl rfl rfl ?_
             refine x_v (r_eq rfl rfl) rfl ?_
             refine x_v (r_pk_t rfl rfl) rfl ?_
             refine x_v (r_mv rfl) rfl ?_
             refine XL.splitd 244 rfl (fun hg244 => ?_) (fun hg244 => ?_)
             ·refine x_want rfl rfl rfl ?_
              refine x_v (r_fa fo41_6 rfl) rfl ?_
              refine x_want rfl rfl rfl ?_
              refine x_v (r_ld ty33 rfl pK (by rfl)) rfl ?_
              refine x_want rfl rfl rfl ?_
              refine x_v (r_lensl Try.underlying33 rfl) rfl ?_
              refine x_want rfl rfl rfl ?_
              refine x_v (r_eq rfl rfl) rfl ?_
              refine x_v (r_pk_t rfl rfl) rfl ?_
              refine x_v (r_mv rfl) rfl ?_
              refine XL.splitd 250 rfl (fun hg250 => ?_) (fun hg250 => ?_)
              ·refine x_want rfl rfl rfl ?_
               refine x_v (r_fa fo41_4 rfl) rfl ?_
               refine x_want rfl rfl rfl ?_
               refine x_v (r_ld ty3 rfl pK (by rfl)) rfl ?_
               refine x_want rfl rfl rfl ?_
               refine x_v (r_ge rfl rfl) rfl ?_
               refine x_v (r_pk_t rfl rfl) rfl ?_
               refine x_v (r_mv rfl) rfl ?_
               refine XL.splitd 255 rfl (fun hg255 => ?_) (fun hg255 => ?_)
               ·refine x_want rfl rfl rfl ?_
                refine x_v (r_fa fo41_4 rfl) rfl ?_
                refine x_want rfl rfl rfl ?_
                refine x_v (r_ld ty3 rfl pK (by rfl)) rfl ?_
                refine x_want rfl rfl rfl ?_
                refine x_v (r_le rfl rfl) rfl ?_
                refine x_v (r_pk_t rfl rfl) rfl ?_
                refine x_v (r_mv rfl) rfl ?_
                refine XL.splitd 260 rfl (fun hg260 => ?_) (fun hg260 => ?_)
                ·refine x_want rfl rfl rfl ?_
                 refine x_v (r_fa fo41_5 rfl) rfl ?_
                 refine x_want rfl rfl rfl ?_
                 refine x_v (r_ld ty3 rfl pK (by rfl)) rfl ?_
                 refine x_want rfl rfl rfl ?_
                 refine x_v (r_ge rfl rfl) rfl ?_
                 refine x_v (r_pk_t rfl rfl) rfl ?_
                 refine x_v (r_mv rfl) rfl ?_
                 refine XL.splitd 265 rfl (fun hg265 => ?_) (fun hg265 => ?_)
                 ·refine x_want rfl rfl rfl ?_
                  refine x_v (r_fa fo41_5 rfl) rfl ?_
                  refine x_want rfl rfl rfl ?_
                  refine x_v (r_ld ty3 rfl pK (by rfl)) rfl ?_
                  refine x_want rfl rfl rfl ?_
                  refine x_v (r_fa fo41_1 rfl) rfl ?_
                  refine x_want rfl rfl rfl ?_
                  refine x_v (r_ld ty3 rfl pK (by rfl)) rfl ?_
                  refine x_want rfl rfl rfl ?_
                  refine x_v (r_le rfl rfl) rfl ?_
                  refine x_v (r_pk_t rfl rfl) rfl ?_
                  refine x_v (r_as rfl) rfl ?_
                  refine XL.nil ?_
                  refine hK37 _ _ ?_
                  refine XC.keep [(2, _)] ⟨rfl, trivial⟩ ?_
                  refine XC.ret ?_
                  exact fin1 rfl (⟨congrArg Value.bool (by rw [ck5 hc16]; exact decide_eq_decide.2 ⟨fun h => ⟨hg236, by omega, hg244, hg239, hg255, hg260, hg265, h⟩, fun h => h.2.2.2.2.2.2.2⟩), rfl⟩) gS
                 ·refine x_unwant rfl rfl rfl rfl rfl ?_
                  refine x_unwant rfl rfl rfl rfl rfl ?_
                  refine x_unwant rfl rfl rfl rfl rfl ?_
                  refine x_unwant rfl rfl rfl rfl rfl ?_
                  refine x_unwant rfl rfl rfl rfl rfl ?_
                  refine x_v (r_pk_f rfl rfl) rfl ?_
                  refine x_v (r_as rfl) rfl ?_
                  refine XL.nil ?_
                  refine hK37 _ _ ?_
                  refine XC.keep [(2, _)] ⟨rfl, trivial⟩ ?_
                  refine XC.ret ?_
                  exact fin1 rfl (⟨congrArg Value.bool (by rw [ck5 hc16]; exact (decide_eq_false (fun h => hg265 h.2.2.2.2.2.2.1)).symm), rfl⟩) gS
                ·refine x_unwant rfl rfl rfl rfl rfl ?_
                 refine x_unwant rfl rfl rfl rfl rfl ?_
                 refine x_unwant rfl rfl rfl rfl rfl ?_
                 refine x_v (r_pk_f rfl rfl) rfl ?_
                 refine x_v (r_mv rfl) rfl ?_
                 refine x_unwant rfl rfl rfl rfl rfl ?_
                 refine x_unwant rfl rfl rfl rfl rfl ?_
                 refine x_unwant rfl rfl rfl rfl rfl ?_
                 refine x_unwant rfl rfl rfl rfl rfl ?_
                 refine x_unwant rfl rfl rfl rfl rfl ?_
                 refine x_v (r_pk_f rfl rfl) rfl ?_
                 refine x_v (r_as rfl) rfl ?_
                 refine XL.nil ?_
                 refine hK37 _ _ ?_
                 refine XC.keep [(2, _)] ⟨rfl, trivial⟩ ?_
                 refine XC.ret ?_
                 exact fin1 rfl (⟨congrArg Value.bool (by rw [ck5 hc16]; exact (decide_eq_false (fun h => hg260 h.2.2.2.2.2.1)).symm), rfl⟩) gS
               ·refine x_unwant rfl rfl rfl rfl rfl ?_
                refine x_unwant rfl rfl rfl rfl rfl ?_
                refine x_unwant rfl rfl rfl rfl rfl ?_
                refine x_v (r_pk_f rfl rfl) rfl ?_
                refine x_v (r_mv rfl) rfl ?_
                refine x_unwant rfl rfl rfl rfl rfl ?_
                refine x_unwant rfl rfl rfl rfl rfl ?_
                refine x_unwant rfl rfl rfl rfl rfl ?_
                refine x_v (r_pk_f rfl rfl) rfl ?_
                refine x_v (r_mv rfl) rfl ?_
                refine x_unwant rfl rfl rfl rfl rfl ?_
                refine x_unwant rfl rfl rfl rfl rfl ?_
                refine x_unwant rfl rfl rfl rfl rfl ?_
                refine x_unwant rfl rfl rfl rfl rfl ?_
                refine x_unwant rfl rfl rfl rfl rfl ?_
                refine x_v (r_pk_f rfl rfl) rfl ?_
                refine x_v (r_as rfl) rfl ?_
                refine XL.nil ?_
                refine hK37 _ _ ?_
                refine XC.keep [(2, _)] ⟨rfl, trivial⟩ ?_
                refine XC.ret ?_
                exact fin1 rfl (⟨congrArg Value.bool (by rw [ck5 hc16]; exact (decide_eq_false (fun h => hg255 h.2.2.2.2.1)).symm), rfl⟩) gS
              ·refine x_unwant rfl rfl rfl rfl rfl ?_
               refine x_unwant rfl rfl rfl rfl rfl ?_
               refine x_unwant rfl rfl rfl rfl rfl ?_
               refine x_v (r_pk_f rfl rfl) rfl ?_
               refine x_v (r_mv rfl) rfl ?_
               refine x_unwant rfl rfl rfl rfl rfl ?_
               refine x_unwant rfl rfl rfl rfl rfl ?_
               refine x_unwant rfl rfl rfl rfl rfl ?_
               refine x_v (r_pk_f rfl rfl) rfl ?_
               refine x_v (r_mv rfl) rfl ?_
               refine x_unwant rfl rfl rfl rfl rfl ?_
               refine x_unwant rfl rfl rfl rfl rfl ?_
               refine x_unwant rfl rfl rfl rfl rfl ?_
               refine x_v (r_pk_f rfl rfl) rfl ?_
               refine x_v (r_mv rfl) rfl ?_
               refine x_unwant rfl rfl rfl rfl rfl ?_
               refine x_unwant rfl rfl rfl rfl rfl ?_
               refine x_unwant rfl rfl rfl rfl rfl ?_
               refine x_unwant rfl rfl rfl rfl rfl ?_
               refine x_unwant rfl rfl rfl rfl rfl ?_
               refine x_v (r_pk_f rfl rfl) rfl ?_
               refine x_v (r_as rfl) rfl ?_
               refine XL.nil ?_
               refine hK37 _ _ ?_
               refine XC.keep [(2, _)] ⟨rfl, trivial⟩ ?_
               refine XC.ret ?_
               exact fin1 rfl (⟨congrArg Value.bool (by rw [ck5 hc16]; exact (decide_eq_false (fun h => hg250 (by have := h.2.1; omega))).symm), rfl⟩) gS
             ·refine x_unwant rfl rfl rfl rfl rfl ?_
              refine x_unwant rfl rfl rfl rfl rfl ?_
              refine x_unwant rfl rfl rfl rfl rfl ?_
              refine x_unwant rfl rfl rfl rfl rfl ?_
              refine x_v (r_pk_f rfl rfl) rfl ?_
              refine x_v (r_mv rfl) rfl ?_
              refine x_unwant rfl rfl rfl rfl rfl ?_
              refine x_unwant rfl rfl rfl rfl rfl ?_
              refine x_unwant rfl rfl rfl rfl rfl ?_
              refine x_v (r_pk_f rfl rfl) rfl ?_
              refine x_v (r_mv rfl) rfl ?_
              refine x_unwant rfl rfl rfl rfl rfl ?_
              refine x_unwant rfl rfl rfl rfl rfl ?_
              refine x_unwant rfl rfl rfl rfl rfl ?_
              refine x_v (r_pk_f rfl rfl) rfl ?_
              refine x_v (r_mv rfl) rfl ?_
              refine x_unwant rfl rfl rfl rfl rfl ?_
              refine x_unwant rfl rfl rfl rfl rfl ?_
              refine x_unwant rfl rfl rfl rfl rfl ?_
              refine x_v (r_pk_f rfl rfl) rfl ?_
              refine x_v (r_mv rfl) rfl ?_
              refine x_unwant rfl rfl rfl rfl rfl ?_
              refine x_unwant rfl rfl rfl rfl rfl ?_
              refine x_unwant rfl rfl rfl rfl rfl ?_
              refine x_unwant rfl rfl rfl rfl rfl ?_
              refine x_unwant rfl rfl rfl rfl rfl ?_
              refine x_v (r_pk_f rfl rfl) rfl ?_
              refine x_v (r_as rfl) rfl ?_
              refine XL.nil ?_
              refine hK37 _ _ ?_
              refine XC.keep [(2, _)] ⟨rfl, trivial⟩ ?_
              refine XC.ret ?_
              exact fin1 rfl (⟨congrArg Value.bool (by rw [ck5 hc16]; exact (decide_eq_false (fun h => hg244 h.2.2.1)).symm), rfl⟩) gS
            ·refine x_unwant rfl rfl rfl rfl rfl ?_
             refine x_unwant rfl rfl rfl rfl rfl ?_
             refine x_unwant rfl rfl rfl rfl rfl ?_
             refine x_v (r_pk_f rfl rfl) rfl ?_
             refine x_v (r_mv rfl) rfl ?_
             refine x_unwant rfl rfl rfl rfl rfl ?_
             refine x_unwant rfl rfl rfl rfl rfl ?_
             refine x_unwant rfl rfl rfl rfl rfl ?_
             refine x_unwant rfl rfl rfl rfl rfl ?_
             refine x_v (r_pk_f rfl rfl) rfl ?_
             refine x_v (r_mv rfl) rfl ?_
             refine x_unwant rfl rfl rfl rfl rfl ?_
             refine x_unwant rfl rfl rfl rfl rfl ?_
             refine x_unwant rfl rfl rfl rfl rfl ?_
             refine x_v (r_pk_f rfl rfl) rfl ?_
             refine x_v (r_mv rfl) rfl ?_
             refine x_unwant rfl rfl rfl rfl rfl ?_
             refine x_unwant rfl rfl rfl rfl rfl ?_
             refine x_unwant rfl rfl rfl rfl rfl ?_
             refine x_v (r_pk_f rfl rfl) rfl ?_
             refine x_v (r_mv rfl) rfl ?_
             refine x_unwant rfl rfl rfl rfl rfl ?_
             refine x_unwant rfl rfl rfl rfl rfl ?_
             refine x_unwant rfl rfl rfl rfl rfl ?_
             refine x_v (r_pk_f rfl rfl) rfl ?_
             refine x_v (r_mv rfl) rfl ?_
             refine x_unwant rfl rfl rfl rfl rfl ?_
             refine x_unwant rfl rfl rfl rfl rfl ?_
             refine x_unwant rfl rfl rfl rfl rfl ?_
             refine x_unwant rfl rfl rfl rfl rfl ?_
             refine x_unwant rfl rfl rfl rfl rfl ?_
             refine x_v (r_pk_f rfl rfl) rfl ?_
             refine x_v (r_as rfl) rfl ?_
             refine XL.nil ?_
             refine hK37 _ _ ?_
             refine XC.keep [(2, _)] ⟨rfl, trivial⟩ ?_
             refine XC.ret ?_
             exact fin1 rfl (⟨congrArg Value.bool (by rw [ck5 hc16]; exact (decide_eq_false (fun h => hg239 h.2.2.2.1)).symm), rfl⟩) gS
           ·refine x_unwant rfl rfl rfl rfl rfl ?_
            refine x_v (r_pk_f rfl rfl) rfl ?_
            refine x_v (r_mv rfl) rfl ?_
            refine x_unwant rfl rfl rfl rfl rfl ?_
            refine x_unwant rfl rfl rfl rfl rfl ?_
            refine x_unwant rfl rfl rfl rfl rfl ?_
            refine x_v (r_pk_f rfl rfl) rfl ?_
            refine x_v (r_mv rfl) rfl ?_
            refine x_unwant rfl rfl rfl rfl rfl ?_
            refine x_unwant rfl rfl rfl rfl rfl ?_
            refine x_unwant rfl rfl rfl rfl rfl ?_
            refine x_unwant rfl rfl rfl rfl rfl ?_
            refine x_v (r_pk_f rfl rfl) rfl ?_
            refine x_v (r_mv rfl) rfl ?_
            refine x_unwant rfl rfl rfl rfl rfl ?_
            refine x_unwant rfl rfl rfl rfl rfl ?_
            refine x_unwant rfl rfl rfl rfl rfl ?_
            refine x_v (r_pk_f rfl rfl) rfl ?_
            refine x_v (r_mv rfl) rfl ?_
            refine x_unwant rfl rfl rfl rfl rfl ?_
            refine x_unwant rfl rfl rfl rfl rfl ?_
            refine x_unwant rfl rfl rfl rfl rfl ?_
            refine x_v (r_pk_f rfl rfl) rfl ?_
            refine x_v (r_mv rfl) rfl ?_
            refine x_unwant rfl rfl rfl rfl rfl ?_
            refine x_unwant rfl rfl rfl rfl rfl ?_
            refine x_unwant rfl rfl rfl rfl rfl ?_
            refine x_v (r_pk_f rfl rfl) rfl ?_
            refine x_v (r_mv rfl) rfl ?_
            refine x_unwant rfl rfl rfl rfl rfl ?_
            refine x_unwant rfl rfl rfl rfl rfl ?_
            refine x_unwant rfl rfl rfl rfl rfl ?_
            refine x_unwant rfl rfl rfl rfl rfl ?_
            refine x_unwant rfl rfl rfl rfl rfl ?_
            refine x_v (r_pk_f rfl rfl) rfl ?_
            refine x_v (r_as rfl) rfl ?_
            refine XL.nil ?_
            refine hK37 _ _ ?_
            refine XC.keep [(2, _)] ⟨rfl, trivial⟩ ?_
            refine XC.ret ?_
            exact fin1 rfl (⟨congrArg Value.bool (by rw [ck5 hc16]; exact (decide_eq_false (fun h => hg236 h.1)).symm), rfl⟩) gS
          ·refine XC.skip ?_
           refine hK6 _ _ ?_
           refine XC.keep [] trivial ?_
           refine XC.seq fun K38 hK38 => ?_
           refine XC.region ?_
           refine x_v (r_as rfl) rfl ?_
           refine XL.nil ?_
           refine hK38 _ _ ?_
           refine XC.keep [(2, _)] ⟨rfl, trivial⟩ ?_
           refine XC.ret ?_
           exact fin1 rfl (⟨congrArg Value.bool (ckn hc1 hc2 hc7 hc8 hc15 hc16).symm, rfl⟩) gS
end Go.Proofs.Ytheilpcbilnadaa

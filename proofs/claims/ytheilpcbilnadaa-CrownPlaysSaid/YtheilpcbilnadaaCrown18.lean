/- Crowns: commands that may be. -/
import Derived.Test.YtheilpcbilnadaaCrown17
namespace Go.Proofs.Ytheilpcbilnadaa
open Go.Sx
set_option linter.unusedVariables false

def NoneP (c : Cm) : Prop := c.op.1.n = 0 ∧ c.op.1.epoch = 0 ∧ c.op.1.kind = 0 ∧ c.op.1.site = 0 ∧ BlankP c.op.1
instance (c : Cm) : Decidable (NoneP c) := by unfold NoneP; infer_instance
def ShortP (c : Cm) : Prop := c.after = 0 ∧ c.since = 0 ∧ c.ops.length = 0
instance (c : Cm) : Decidable (ShortP c) := by unfold ShortP; infer_instance
def NobodyP (c : Cm) : Prop := c.epoch = 0 ∧ c.site = 0
instance (c : Cm) : Decidable (NobodyP c) := by unfold NobodyP; infer_instance
def TagP (c : Cm) : Prop := 0 ≤ c.tag ∧ c.tag ≤ 1099511627776
instance (c : Cm) : Decidable (TagP c) := by unfold TagP; infer_instance
/-- A client's operation, as it would be put. -/
def opIn (c : Cm) : Pop := { c.op.1 with n := 1, epoch := c.epoch, site := c.site }
def DoP (c : Cm) : Prop := c.op.1.n = 0 ∧ c.op.1.epoch = 0 ∧ c.op.1.site = 0 ∧ c.op.1.kind ≠ 3 ∧ ShortP c ∧ TagP c
instance (c : Cm) : Decidable (DoP c) := by unfold DoP; infer_instance
def ShipP (c : Cm) : Prop := NoneP c ∧ c.tag = 0 ∧ Reigned c.epoch c.site ∧ c.ops.length ≤ 8 ∧ c.since ≤ c.epoch
instance (c : Cm) : Decidable (ShipP c) := by unfold ShipP; infer_instance
def allLe (e : Int) (L : List Pop) : Bool := L.all fun o => decide (o.epoch ≤ e)
def ReignP (c : Cm) : Prop := NoneP c ∧ ShortP c ∧ c.tag = 0 ∧ Reigned c.epoch c.site
instance (c : Cm) : Decidable (ReignP c) := by unfold ReignP; infer_instance
def MarkP (c : Cm) : Prop := NoneP c ∧ c.ops.length = 0 ∧ c.tag = 0 ∧ Reigned c.epoch c.site ∧ 1 ≤ c.after ∧ c.after ≤ 80 ∧ 1 ≤ c.since ∧ c.since ≤ c.epoch
instance (c : Cm) : Decidable (MarkP c) := by unfold MarkP; infer_instance
/-- A command may be. -/
def cmdOk (c : Cm) : Bool :=
 if c.kind = 0 then decide (NoneP c ∧ ShortP c ∧ NobodyP c ∧ c.tag = 0) else if c.kind = 1 then decide (DoP c) && opOk (opIn c)
 else if c.kind = 2 then decide (NoneP c ∧ ShortP c ∧ NobodyP c ∧ TagP c) else if c.kind = 3 then decide (ShipP c) && (rowOk c.after c.since (fst1 c.ops) && allLe c.epoch (fst1 c.ops))
 else if c.kind = 4 then decide (ReignP c) else if c.kind = 5 then decide (MarkP c) else false
theorem allLe_snoc {L : List Od} {i : Nat} {o : Od} {e : Int} (h : L[i]? = some o) : allLe e (fst1 (L.take (i + 1))) = (allLe e (fst1 (L.take i)) && decide (o.1.epoch ≤ e)) := by
 rw [fst_take_snoc h]; unfold allLe; rw [List.all_append]; simp
section
variable {c : Cm}
theorem ck0 (h : c.kind = 0) : cmdOk c = decide (NoneP c ∧ ShortP c ∧ NobodyP c ∧ c.tag = 0) := by unfold cmdOk; rw [if_pos h]
theorem ck1 (h : c.kind = 1) : cmdOk c = (decide (DoP c) && opOk (opIn c)) := by unfold cmdOk; rw [if_neg (by omega), if_pos h]
theorem ck2 (h : c.kind = 2) : cmdOk c = decide (NoneP c ∧ ShortP c ∧ NobodyP c ∧ TagP c) := by unfold cmdOk; rw [if_neg (by omega), if_neg (by omega), if_pos h]
theorem ck3 (h : c.kind = 3) : cmdOk c = (decide (ShipP c) && (rowOk c.after c.since (fst1 c.ops) && allLe c.epoch (fst1 c.ops))) := by unfold cmdOk; rw [if_neg (by omega), if_neg (by omega), if_neg (by omega), if_pos h]
theorem ck4 (h : c.kind = 4) : cmdOk c = decide (ReignP c) := by unfold cmdOk; rw [if_neg (by omega), if_neg (by omega), if_neg (by omega), if_neg (by omega), if_pos h]
theorem ck5 (h : c.kind = 5) : cmdOk c = decide (MarkP c) := by unfold cmdOk; rw [if_neg (by omega), if_neg (by omega), if_neg (by omega), if_neg (by omega), if_neg (by omega), if_pos h]
theorem ckn (h0 : ¬ c.kind = 0) (h1 : ¬ c.kind = 1) (h2 : ¬ c.kind = 2) (h3 : ¬ c.kind = 3) (h4 : ¬ c.kind = 4) (h5 : ¬ c.kind = 5) : cmdOk c = false := by unfold cmdOk; rw [if_neg h0, if_neg h1, if_neg h2, if_neg h3, if_neg h4, if_neg h5]
end
set_option maxHeartbeats 4000000 in
theorem check_tr {W0 : World} {Fr : List HP} {k : HP} (c : Cm) (hop : RdO W0 k c.op) (hr : Rdb W0 [k] c.pA c.ops.length 9 (cells odc c.ops)) (ho : ∀ o ∈ c.ops, RdO W0 k o) (hl : c.ops.length ≤ 1466015503701) :
  Tr W0 Try.prog 40 [.agg (cmc c).toArray] (k :: Fr) (fun v Rs' => v = .int .i64 (if cmdOk c = true then 0 else 3) ∧ Rs' = k :: Fr) := by
 refine Entry.tr (N := 250) (rs := [.tmp 2]) ⟨_, Try.func40, rfl, by kernel_rfl, rfl, rfl⟩ rfl ?_
 refine XC.seq fun K1 hK1 => ?_
 refine XC.region ?_
 refine x_a (r_bx rfl rfl) rfl fun b1 => ?_
 unfold cmc
 refine x_v (r_as rfl) rfl ?_
 refine XL.nil ?_
 refine hK1 _ _ ?_
 refine XC.keep [(1, _)] ⟨rfl, trivial⟩ ?_
 refine XC.seqcut (σ := Bool) (fun s => [(1, .pointer (some ⟨b1, 0, none⟩)), (3, .bool s)]) (fun s => blk b1 41 [.int .i64 c.kind, .int .i64 c.epoch, .int .i64 c.site, .int .i64 c.op.1.n, .int .i64 c.op.1.epoch, .int .i64 c.op.1.kind, .int .i64 c.op.1.site, .int .i64 c.op.1.client, .int .i64 c.op.1.seq, str c.op.1.name, .int .i64 c.op.1.size, .slice c.op.2.1 c.op.1.hs.length c.op.2.2, .int .i64 c.after, .int .i64 c.since, .slice c.pA c.ops.length c.pc, .int .i64 c.tag] :: k :: Fr) (fun s => s = decide (NoneP c)) ?_ ?_
 ·refine XC.region ?_
  refine x_v (r_fa fo41_3 rfl) rfl ?_
  refine x_v (r_fa fo39_0 rfl) rfl ?_
  refine x_v (r_ld ty3 rfl pK (by rfl)) rfl ?_
  refine x_v (r_eq rfl rfl) rfl ?_
  refine x_v (r_mv rfl) rfl ?_
  refine XL.splitd 15 rfl (fun hg15 => ?_) (fun hg15 => ?_)
  ·refine x_want rfl rfl rfl ?_
   refine x_v (r_fa fo41_3 rfl) rfl ?_
   refine x_want rfl rfl rfl ?_
   refine x_v (r_fa fo39_1 rfl) rfl ?_
   refine x_want rfl rfl rfl ?_
   refine x_v (r_ld ty3 rfl pK (by rfl)) rfl ?_
   refine x_want rfl rfl rfl ?_
   refine x_v (r_eq rfl rfl) rfl ?_
   refine x_v (r_pk_t rfl rfl) rfl ?_
   refine x_v (r_mv rfl) rfl ?_
   refine XL.splitd 21 rfl (fun hg21 => ?_) (fun hg21 => ?_)
   ·refine x_want rfl rfl rfl ?_
    refine x_v (r_fa fo41_3 rfl) rfl ?_
    refine x_want rfl rfl rfl ?_
    refine x_v (r_fa fo39_2 rfl) rfl ?_
    refine x_want rfl rfl rfl ?_
    refine x_v (r_ld ty3 rfl pK (by rfl)) rfl ?_
    refine x_want rfl rfl rfl ?_
    refine x_v (r_eq rfl rfl) rfl ?_
    refine x_v (r_pk_t rfl rfl) rfl ?_
    refine x_v (r_mv rfl) rfl ?_
    refine XL.splitd 27 rfl (fun hg27 => ?_) (fun hg27 => ?_)
    ·refine x_want rfl rfl rfl ?_
     refine x_v (r_fa fo41_3 rfl) rfl ?_
     refine x_want rfl rfl rfl ?_
     refine x_v (r_fa fo39_3 rfl) rfl ?_
     refine x_want rfl rfl rfl ?_
     refine x_v (r_ld ty3 rfl pK (by rfl)) rfl ?_
     refine x_want rfl rfl rfl ?_
     refine x_v (r_eq rfl rfl) rfl ?_
     refine x_v (r_pk_t rfl rfl) rfl ?_
     refine x_v (r_mv rfl) rfl ?_
     refine XL.splitd 33 rfl (fun hg33 => ?_) (fun hg33 => ?_)
     ·refine x_want rfl rfl rfl ?_
      refine x_v (r_fa fo41_3 rfl) rfl ?_
      refine x_want rfl rfl rfl ?_
      refine x_v (r_lda (l' := [_, _, _, _, _, _, _, _, _]) ty39 rfl pK rfl (Sub.get sU)) rfl ?_
      refine x_want rfl rfl rfl ?_
      refine x_c (r_call0 (args := [_]) ⟨rfl, rfl⟩ (blank_tr c.op) gS) rfl ?_
      rintro _ _ ⟨rfl, rfl⟩
      refine x_v (r_pk_t rfl rfl) rfl ?_
      refine x_v (r_as rfl) rfl ?_
      refine XL.nil ?_
      exact ⟨decide (Blank c.op), decide_eq_decide.2 ⟨fun h => ⟨hg15, hg21, hg27, hg33, h⟩, fun h => h.2.2.2.2⟩, ⟨rfl, rfl, trivial⟩, gS⟩
     ·refine x_unwant rfl rfl rfl rfl rfl ?_
      refine x_unwant rfl rfl rfl rfl rfl ?_
      refine x_unwant rfl rfl rfl rfl rfl ?_
      refine x_v (r_pk_f rfl rfl) rfl ?_
      refine x_v (r_as rfl) rfl ?_
      refine XL.nil ?_
      exact ⟨false, (decide_eq_false (fun h => by obtain ⟨q1, q2, q3, q4, q5⟩ := h; omega)).symm, ⟨rfl, rfl, trivial⟩, gS⟩
    ·refine x_unwant rfl rfl rfl rfl rfl ?_
     refine x_unwant rfl rfl rfl rfl rfl ?_
     refine x_unwant rfl rfl rfl rfl rfl ?_
     refine x_unwant rfl rfl rfl rfl rfl ?_
     refine x_v (r_pk_f rfl rfl) rfl ?_
     refine x_v (r_mv rfl) rfl ?_
     refine x_unwant rfl rfl rfl rfl rfl ?_
     refine x_unwant rfl rfl rfl rfl rfl ?_
     refine x_unwant rfl rfl rfl rfl rfl ?_
     refine x_v (r_pk_f rfl rfl) rfl ?_
     refine x_v (r_as rfl) rfl ?_
     refine XL.nil ?_
     exact ⟨false, (decide_eq_false (fun h => by obtain ⟨q1, q2, q3, q4, q5⟩ := h; omega)).symm, ⟨rfl, rfl, trivial⟩, gS⟩
   ·refine x_unwant rfl rfl rfl rfl rfl ?_
    refine x_unwant rfl rfl rfl rfl rfl ?_
    refine x_unwant rfl rfl rfl rfl rfl ?_
    refine x_unwant rfl rfl rfl rfl rfl ?_
    refine x_v (r_pk_f rfl rfl) rfl ?_
    refine x_v (r_mv rfl) rfl ?_
    refine x_unwant rfl rfl rfl rfl rfl ?_
    refine x_unwant rfl rfl rfl rfl rfl ?_
    refine x_unwant rfl rfl rfl rfl rfl ?_
    refine x_unwant rfl rfl rfl rfl rfl ?_
    refine x_v (r_pk_f rfl rfl) rfl ?_
    refine x_v (r_mv rfl) rfl ?_
    refine x_unwant rfl rfl rfl rfl rfl ?_
    refine x_unwant rfl rfl rfl rfl rfl ?_
    refine x_unwant rfl rfl rfl rfl rfl ?_
    refine x_v (r_pk_f rfl rfl) rfl ?_
    refine x_v (r_as rfl) rfl ?_
    refine XL.nil ?_
    exact ⟨false, (decide_eq_false (fun h => by obtain ⟨q1, q2, q3, q4, q5⟩ := h; omega)).symm, ⟨rfl, rfl, trivial⟩, gS⟩
  ·refine x_unwant rfl rfl rfl rfl rfl ?_
   refine x_unwant rfl rfl rfl rfl rfl ?_
   refine x_unwant rfl rfl rfl rfl rfl ?_
   refine x_unwant rfl rfl rfl rfl rfl ?_
   refine x_v (r_pk_f rfl rfl) rfl ?_
   refine x_v (r_mv rfl) rfl ?_
   refine x_unwant rfl rfl rfl rfl rfl ?_
   refine x_unwant rfl rfl rfl rfl rfl ?_
   refine x_unwant rfl rfl rfl rfl rfl ?_
   refine x_unwant rfl rfl rfl rfl rfl ?_
   refine x_v (r_pk_f rfl rfl) rfl ?_
   refine x_v (r_mv rfl) rfl ?_
   refine x_unwant rfl rfl rfl rfl rfl ?_
   refine x_unwant rfl rfl rfl rfl rfl ?_
   refine x_unwant rfl rfl rfl rfl rfl ?_
   refine x_unwant rfl rfl rfl rfl rfl ?_
   refine x_v (r_pk_f rfl rfl) rfl ?_
   refine x_v (r_mv rfl) rfl ?_
   refine x_unwant rfl rfl rfl rfl rfl ?_
   refine x_unwant rfl rfl rfl rfl rfl ?_
   refine x_unwant rfl rfl rfl rfl rfl ?_
   refine x_v (r_pk_f rfl rfl) rfl ?_
   refine x_v (r_as rfl) rfl ?_
   refine XL.nil ?_
   exact ⟨false, (decide_eq_false (fun h => by obtain ⟨q1, q2, q3, q4, q5⟩ := h; omega)).symm, ⟨rfl, rfl, trivial⟩, gS⟩
 ·rintro g0 hg0
  subst hg0
  refine XC.seqcut (σ := Bool) (fun s => [(1, .pointer (some ⟨b1, 0, none⟩)), (3, .bool (decide (NoneP c))), (4, .bool s)]) (fun s => blk b1 41 [.int .i64 c.kind, .int .i64 c.epoch, .int .i64 c.site, .int .i64 c.op.1.n, .int .i64 c.op.1.epoch, .int .i64 c.op.1.kind, .int .i64 c.op.1.site, .int .i64 c.op.1.client, .int .i64 c.op.1.seq, str c.op.1.name, .int .i64 c.op.1.size, .slice c.op.2.1 c.op.1.hs.length c.op.2.2, .int .i64 c.after, .int .i64 c.since, .slice c.pA c.ops.length c.pc, .int .i64 c.tag] :: k :: Fr) (fun s => s = decide (ShortP c)) ?_ ?_
  ·refine XC.region ?_
   refine x_v (r_fa fo41_4 rfl) rfl ?_
   refine x_v (r_ld ty3 rfl pK (by rfl)) rfl ?_
   refine x_v (r_eq rfl rfl) rfl ?_
   refine x_v (r_mv rfl) rfl ?_
   refine XL.splitd 41 rfl (fun hg41 => ?_) (fun hg41 => ?_)
   ·refine x_want rfl rfl rfl ?_
    refine x_v (r_fa fo41_5 rfl) rfl ?_
    refine x_want rfl rfl rfl ?_
    refine x_v (r_ld ty3 rfl pK (by rfl)) rfl ?_
    refine x_want rfl rfl rfl ?_
    refine x_v (r_eq rfl rfl) rfl ?_
    refine x_v (r_pk_t rfl rfl) rfl ?_
    refine x_v (r_mv rfl) rfl ?_
    refine XL.splitd 46 rfl (fun hg46 => ?_) (fun hg46 => ?_)
    ·refine x_want rfl rfl rfl ?_
     refine x_v (r_fa fo41_6 rfl) rfl ?_
     refine x_want rfl rfl rfl ?_
     refine x_v (r_ld ty33 rfl pK (by rfl)) rfl ?_
     refine x_want rfl rfl rfl ?_
     refine x_v (r_lensl Try.underlying33 rfl) rfl ?_
     refine x_want rfl rfl rfl ?_
     refine x_v (r_eq rfl rfl) rfl ?_
     refine x_v (r_pk_t rfl rfl) rfl ?_
     refine x_v (r_as rfl) rfl ?_
     refine XL.nil ?_
     exact ⟨decide ((c.ops.length : Int) = 0), decide_eq_decide.2 ⟨fun h => ⟨hg41, hg46, by omega⟩, fun h => by have := h.2.2; omega⟩, ⟨rfl, rfl, rfl, trivial⟩, gS⟩
    ·refine x_unwant rfl rfl rfl rfl rfl ?_
     refine x_unwant rfl rfl rfl rfl rfl ?_
     refine x_unwant rfl rfl rfl rfl rfl ?_
     refine x_unwant rfl rfl rfl rfl rfl ?_
     refine x_v (r_pk_f rfl rfl) rfl ?_
     refine x_v (r_as rfl) rfl ?_
     refine XL.nil ?_
     exact ⟨false, (decide_eq_false (fun h => by obtain ⟨q1, q2, q3⟩ := h; omega)).symm, ⟨rfl, rfl, rfl, trivial⟩, gS⟩
   ·refine x_unwant rfl rfl rfl rfl rfl ?_
    refine x_unwant rfl rfl rfl rfl rfl ?_
    refine x_unwant rfl rfl rfl rfl rfl ?_
    refine x_v (r_pk_f rfl rfl) rfl ?_
    refine x_v (r_mv rfl) rfl ?_
    refine x_unwant rfl rfl rfl rfl rfl ?_
    refine x_unwant rfl rfl rfl rfl rfl ?_
    refine x_unwant rfl rfl rfl rfl rfl ?_
    refine x_unwant rfl rfl rfl rfl rfl ?_
    refine x_v (r_pk_f rfl rfl) rfl ?_
    refine x_v (r_as rfl) rfl ?_
    refine XL.nil ?_
    exact ⟨false, (decide_eq_false (fun h => by obtain ⟨q1, q2, q3⟩ := h; omega)).symm, ⟨rfl, rfl, rfl, trivial⟩, gS⟩
  ·rintro g0 hg0
   subst hg0
   refine XC.seqcut (σ := Bool) (fun s => [(1, .pointer (some ⟨b1, 0, none⟩)), (3, .bool (decide (NoneP c))), (4, .bool (decide (ShortP c))), (5, .bool s)]) (fun s => blk b1 41 [.int .i64 c.kind, .int .i64 c.epoch, .int .i64 c.site, .int .i64 c.op.1.n, .int .i64 c.op.1.epoch, .int .i64 c.op.1.kind, .int .i64 c.op.1.site, .int .i64 c.op.1.client, .int .i64 c.op.1.seq, str c.op.1.name, .int .i64 c.op.1.size, .slice c.op.2.1 c.op.1.hs.length c.op.2.2, .int .i64 c.after, .int .i64 c.since, .slice c.pA c.ops.length c.pc, .int .i64 c.tag] :: k :: Fr) (fun s => s = decide (NobodyP c)) ?_ ?_
   ·refine XC.region ?_
    refine x_v (r_fa fo41_1 rfl) rfl ?_
    refine x_v (r_ld ty3 rfl pK (by rfl)) rfl ?_
    refine x_v (r_eq rfl rfl) rfl ?_
    refine x_v (r_mv rfl) rfl ?_
    refine XL.splitd 55 rfl (fun hg55 => ?_) (fun hg55 => ?_)
    ·refine x_want rfl rfl rfl ?_
     refine x_v (r_fa fo41_2 rfl) rfl ?_
     refine x_want rfl rfl rfl ?_
     refine x_v (r_ld ty3 rfl pK (by rfl)) rfl ?_
     refine x_want rfl rfl rfl ?_
     refine x_v (r_eq rfl rfl) rfl ?_
     refine x_v (r_pk_t rfl rfl) rfl ?_
     refine x_v (r_as rfl) rfl ?_
     refine XL.nil ?_
     exact ⟨decide (c.site = 0), decide_eq_decide.2 ⟨fun h => ⟨hg55, h⟩, fun h => h.2⟩, ⟨rfl, rfl, rfl, rfl, trivial⟩, gS⟩
    ·refine x_unwant rfl rfl rfl rfl rfl ?_
     refine x_unwant rfl rfl rfl rfl rfl ?_
     refine x_unwant rfl rfl rfl rfl rfl ?_
     refine x_v (r_pk_f rfl rfl) rfl ?_
     refine x_v (r_as rfl) rfl ?_
     refine XL.nil ?_
     exact ⟨false, (decide_eq_false (fun h => hg55 h.1)).symm, ⟨rfl, rfl, rfl, rfl, trivial⟩, gS⟩
   ·rintro g0 hg0
    subst hg0
    refine XC.seq fun K5 hK5 => ?_
    refine XC.region ?_
    refine x_v (r_as rfl) rfl ?_
    refine XL.nil ?_
    refine hK5 _ _ ?_
    refine XC.keep [(1, _), (3, _), (4, _), (5, _), (6, _)] ⟨rfl, rfl, rfl, rfl, rfl, trivial⟩ ?_
    refine XC.seqcut (σ := Bool) (fun s => [(6, .bool s)]) (fun s => k :: Fr) (fun s => s = cmdOk c) ?_ ?_
    ·refine XC.seq fun K7 hK7 => ?_
     refine XC.region ?_
     refine x_v (r_fa fo41_0 rfl) rfl ?_
     refine x_v (r_ld ty3 rfl pK (by rfl)) rfl ?_
     refine XL.nil ?_
     refine hK7 _ _ ?_
     refine XC.keep [(1, _), (3, _), (4, _), (5, _), (6, _), (61, _)] ⟨rfl, rfl, rfl, rfl, rfl, rfl, trivial⟩ ?_
     refine XC.block ?_
     refine XC.seq fun K8 hK8 => ?_
     refine XC.region ?_
     refine x_v (r_eq rfl rfl) rfl ?_
     refine x_v (r_as rfl) rfl ?_
     refine XL.nil ?_
     refine hK8 _ _ ?_
     refine XC.keep [(1, _), (3, _), (4, _), (5, _), (6, _), (61, _), (62, _)] ⟨rfl, rfl, rfl, rfl, rfl, rfl, rfl, trivial⟩ ?_
     refine XC.cond_d rfl (fun hc1 => ?_) (fun hc1 => ?_)
     ·refine XC.region ?_
      refine x_v (r_mv rfl) rfl ?_
      refine x_v (r_mv rfl) rfl ?_
      refine XL.splitd 65 rfl (fun hg65 => ?_) (fun hg65 => ?_)
      ·refine x_want rfl rfl rfl ?_
       refine x_v (r_mv rfl) rfl ?_
       refine x_v (r_pk_t rfl rfl) rfl ?_
       refine x_v (r_mv rfl) rfl ?_
       refine XL.splitd 68 rfl (fun hg68 => ?_) (fun hg68 => ?_)
       ·refine x_want rfl rfl rfl ?_
        refine x_v (r_mv rfl) rfl ?_
        refine x_v (r_pk_t rfl rfl) rfl ?_
        refine x_v (r_mv rfl) rfl ?_
        refine XL.splitd 71 rfl (fun hg71 => ?_) (fun hg71 => ?_)
        ·refine x_want rfl rfl rfl ?_
         refine x_v (r_fa fo41_7 rfl) rfl ?_
         refine x_want rfl rfl rfl ?_
         refine x_v (r_ld ty3 rfl pK (by rfl)) rfl ?_
         refine x_want rfl rfl rfl ?_
         refine x_v (r_eq rfl rfl) rfl ?_
         refine x_v (r_pk_t rfl rfl) rfl ?_
         refine x_v (r_as rfl) rfl ?_
         refine XL.nil ?_
         exact ⟨_, (by rw [ck0 hc1]; exact decide_eq_decide.2 ⟨fun h => ⟨hg65, hg68, hg71, h⟩, fun h => h.2.2.2⟩), ⟨rfl, trivial⟩, gS⟩
        ·refine x_unwant rfl rfl rfl rfl rfl ?_
         refine x_unwant rfl rfl rfl rfl rfl ?_
         refine x_unwant rfl rfl rfl rfl rfl ?_
         refine x_v (r_pk_f rfl rfl) rfl ?_
         refine x_v (r_as rfl) rfl ?_
         refine XL.nil ?_
         exact ⟨false, (by rw [ck0 hc1]; exact (decide_eq_false (fun h => hg71 h.2.2.1)).symm), ⟨rfl, trivial⟩, gS⟩
       ·refine x_unwant rfl rfl rfl rfl rfl ?_
        refine x_v (r_pk_f rfl rfl) rfl ?_
        refine x_v (r_mv rfl) rfl ?_
        refine x_unwant rfl rfl rfl rfl rfl ?_
        refine x_unwant rfl rfl rfl rfl rfl ?_
        refine x_unwant rfl rfl rfl rfl rfl ?_
        refine x_v (r_pk_f rfl rfl) rfl ?_
        refine x_v (r_as rfl) rfl ?_
        refine XL.nil ?_
        exact ⟨false, (by rw [ck0 hc1]; exact (decide_eq_false (fun h => hg68 h.2.1)).symm), ⟨rfl, trivial⟩, gS⟩
      ·refine x_unwant rfl rfl rfl rfl rfl ?_
       refine x_v (r_pk_f rfl rfl) rfl ?_
       refine x_v (r_mv rfl) rfl ?_
       refine x_unwant rfl rfl rfl rfl rfl ?_
       refine x_v (r_pk_f rfl rfl) rfl ?_
       refine x_v (r_mv rfl) rfl ?_
       refine x_unwant rfl rfl rfl rfl rfl ?_
       refine x_unwant rfl rfl rfl rfl rfl ?_
       refine x_unwant rfl rfl rfl rfl rfl ?_
       refine x_v (r_pk_f rfl rfl) rfl ?_
       refine x_v (r_as rfl) rfl ?_
       refine XL.nil ?_
       exact ⟨false, (by rw [ck0 hc1]; exact (decide_eq_false (fun h => hg65 h.1)).symm), ⟨rfl, trivial⟩, gS⟩
     ·refine XC.seq fun K9 hK9 => ?_
      refine XC.region ?_
      refine x_v (r_eq rfl rfl) rfl ?_
      refine x_v (r_as rfl) rfl ?_
      refine XL.nil ?_
      refine hK9 _ _ ?_
      refine XC.keep [(1, _), (3, _), (4, _), (5, _), (6, _), (61, _), (76, _)] ⟨rfl, rfl, rfl, rfl, rfl, rfl, rfl, trivial⟩ ?_
      refine XC.cond_d rfl (fun hc2 => ?_) (fun hc2 => ?_)
      ·refine XC.seq fun K10 hK10 => ?_
       refine XC.region ?_
       refine x_v (r_fa fo41_3 rfl) rfl ?_
       refine x_v (r_lda (l' := [_, _, _, _, _, _, _, _, _]) ty39 rfl pK rfl (Sub.get sU)) rfl ?_
       refine x_a (r_al ty39 rfl) rfl fun b7 => ?_
       refine x_e (r_st ty39 rfl rfl rfl rfl rfl uD oV) ?_
       refine XL.nil ?_
       refine hK10 _ _ ?_
       refine XC.keep [(1, _), (4, _), (7, _)] ⟨rfl, rfl, rfl, trivial⟩ ?_
       refine XC.seqcut (σ := Bool) (fun s => [(1, .pointer (some ⟨b1, 0, none⟩)), (4, .bool (decide (ShortP c))), (7, .pointer (some ⟨b7, 0, none⟩)), (8, .bool s)]) (fun s => blk b7 39 [.int .i64 c.op.1.n, .int .i64 c.op.1.epoch, .int .i64 c.op.1.kind, .int .i64 c.op.1.site, .int .i64 c.op.1.client, .int .i64 c.op.1.seq, str c.op.1.name, .int .i64 c.op.1.size, .slice c.op.2.1 c.op.1.hs.length c.op.2.2] :: blk b1 41 [.int .i64 c.kind, .int .i64 c.epoch, .int .i64 c.site, .int .i64 c.op.1.n, .int .i64 c.op.1.epoch, .int .i64 c.op.1.kind, .int .i64 c.op.1.site, .int .i64 c.op.1.client, .int .i64 c.op.1.seq, str c.op.1.name, .int .i64 c.op.1.size, .slice c.op.2.1 c.op.1.hs.length c.op.2.2, .int .i64 c.after, .int .i64 c.since, .slice c.pA c.ops.length c.pc, .int .i64 c.tag] :: k :: Fr) (fun s => s = decide (c.op.1.n = 0 ∧ c.op.1.epoch = 0 ∧ c.op.1.site = 0 ∧ c.op.1.kind ≠ 3)) ?_ ?_
       ·refine XC.region ?_
        refine x_v (r_fa fo39_0 rfl) rfl ?_
        refine x_v (r_ld ty3 rfl pK (by rfl)) rfl ?_
        refine x_v (r_eq rfl rfl) rfl ?_
        refine x_v (r_mv rfl) rfl ?_
        refine XL.splitd 83 rfl (fun hg83 => ?_) (fun hg83 => ?_)
        ·refine x_want rfl rfl rfl ?_
         refine x_v (r_fa fo39_1 rfl) rfl ?_
         refine x_want rfl rfl rfl ?_
         refine x_v (r_ld ty3 rfl pK (by rfl)) rfl ?_
         refine x_want rfl rfl rfl ?_
         refine x_v (r_eq rfl rfl) rfl ?_
         refine x_v (r_pk_t rfl rfl) rfl ?_
         refine x_v (r_mv rfl) rfl ?_
         refine XL.splitd 88 rfl (fun hg88 => ?_) (fun hg88 => ?_)
         ·refine x_want rfl rfl rfl ?_
          refine x_v (r_fa fo39_3 rfl) rfl ?_
          refine x_want rfl rfl rfl ?_
          refine x_v (r_ld ty3 rfl pK (by rfl)) rfl ?_
          refine x_want rfl rfl rfl ?_
          refine x_v (r_eq rfl rfl) rfl ?_
          refine x_v (r_pk_t rfl rfl) rfl ?_
          refine x_v (r_mv rfl) rfl ?_
          refine XL.splitd 93 rfl (fun hg93 => ?_) (fun hg93 => ?_)
          ·refine x_want rfl rfl rfl ?_
           refine x_v (r_fa fo39_2 rfl) rfl ?_
           refine x_want rfl rfl rfl ?_
           refine x_v (r_ld ty3 rfl pK (by rfl)) rfl ?_
           refine x_want rfl rfl rfl ?_
           refine x_v (r_ne rfl rfl) rfl ?_
           refine x_v (r_pk_t rfl rfl) rfl ?_
           refine x_v (r_as rfl) rfl ?_
           refine XL.nil ?_
           exact ⟨_, decide_eq_decide.2 ⟨fun h => ⟨hg83, hg88, hg93, h⟩, fun h => h.2.2.2⟩, ⟨rfl, rfl, rfl, rfl, trivial⟩, gS⟩
          ·refine x_unwant rfl rfl rfl rfl rfl ?_
           refine x_unwant rfl rfl rfl rfl rfl ?_
           refine x_unwant rfl rfl rfl rfl rfl ?_
           refine x_v (r_pk_f rfl rfl) rfl ?_
           refine x_v (r_as rfl) rfl ?_
           refine XL.nil ?_
           exact ⟨false, (decide_eq_false (fun h => hg93 h.2.2.1)).symm, ⟨rfl, rfl, rfl, rfl, trivial⟩, gS⟩
         ·refine x_unwant rfl rfl rfl rfl rfl ?_
          refine x_unwant rfl rfl rfl rfl rfl ?_
          refine x_unwant rfl rfl rfl rfl rfl ?_
          refine x_v (r_pk_f rfl rfl) rfl ?_
          refine x_v (r_mv rfl) rfl ?_
          refine x_unwant rfl rfl rfl rfl rfl ?_
          refine x_unwant rfl rfl rfl rfl rfl ?_
          refine x_unwant rfl rfl rfl rfl rfl ?_
          refine x_v (r_pk_f rfl rfl) rfl ?_
          refine x_v (r_as rfl) rfl ?_
          refine XL.nil ?_
          exact ⟨false, (decide_eq_false (fun h => hg88 h.2.1)).symm, ⟨rfl, rfl, rfl, rfl, trivial⟩, gS⟩
        ·refine x_unwant rfl rfl rfl rfl rfl ?_
         refine x_unwant rfl rfl rfl rfl rfl ?_
         refine x_unwant rfl rfl rfl rfl rfl ?_
         refine x_v (r_pk_f rfl rfl) rfl ?_
         refine x_v (r_mv rfl) rfl ?_
         refine x_unwant rfl rfl rfl rfl rfl ?_
         refine x_unwant rfl rfl rfl rfl rfl ?_
         refine x_unwant rfl rfl rfl rfl rfl ?_
         refine x_v (r_pk_f rfl rfl) rfl ?_
         refine x_v (r_mv rfl) rfl ?_
         refine x_unwant rfl rfl rfl rfl rfl ?_
         refine x_unwant rfl rfl rfl rfl rfl ?_
         refine x_unwant rfl rfl rfl rfl rfl ?_
         refine x_v (r_pk_f rfl rfl) rfl ?_
         refine x_v (r_as rfl) rfl ?_
         refine XL.nil ?_
         exact ⟨false, (decide_eq_false (fun h => hg83 h.1)).symm, ⟨rfl, rfl, rfl, rfl, trivial⟩, gS⟩
       ·rintro g0 hg0
        subst hg0
        refine XC.seq fun K12 hK12 => ?_
        refine XC.draw [blk b1 41 [.int .i64 c.kind, .int .i64 c.epoch, .int .i64 c.site, .int .i64 c.op.1.n, .int .i64 c.op.1.epoch, .int .i64 c.op.1.kind, .int .i64 c.op.1.site, .int .i64 c.op.1.client, .int .i64 c.op.1.seq, str c.op.1.name, .int .i64 c.op.1.size, .slice c.op.2.1 c.op.1.hs.length c.op.2.2, .int .i64 c.after, .int .i64 c.since, .slice c.pA c.ops.length c.pc, .int .i64 c.tag]] true [(0, false), (1, false), (2, false), (3, false), (4, false), (5, true), (6, false), (7, true), (8, false), (9, true)] (by kernel_rfl) (by kernel_rfl) ?_
        refine y_v rfl (r_fa fo41_1 rfl) gT rfl ?_
        refine y_v rfl (r_ld ty3 rfl pK (by rfl)) gT rfl ?_
        refine y_v rfl (r_fa fo41_2 rfl) gT rfl ?_
        refine y_v rfl (r_ld ty3 rfl pK (by rfl)) gT rfl ?_
        refine y_v rfl (r_fa fo39_0 rfl) gT rfl ?_
        refine y_e rfl (r_st ty3 rfl rfl rfl rfl rfl uD oV) (fun _ _ h => Gets.own gS h) ?_
        refine y_v rfl (r_fa fo39_1 rfl) gT rfl ?_
        refine y_e rfl (r_st ty3 rfl rfl rfl rfl rfl uD oV) (fun _ _ h => Gets.own gS h) ?_
        refine y_v rfl (r_fa fo39_3 rfl) gT rfl ?_
        refine y_e rfl (r_st ty3 rfl rfl rfl rfl rfl uD oV) (fun h => absurd h (by decide)) ?_
        refine XH.nil ?_
        refine hK12 _ _ ?_
        refine XC.keep [(1, _), (4, _), (7, _), (8, _)] ⟨rfl, rfl, rfl, rfl, trivial⟩ ?_
        refine XC.region ?_
        refine x_v (r_mv rfl) rfl ?_
        refine x_v (r_mv rfl) rfl ?_
        refine XL.splitd 106 rfl (fun hg106 => ?_) (fun hg106 => ?_)
        ·refine x_want rfl rfl rfl ?_
         refine x_v (r_mv rfl) rfl ?_
         refine x_v (r_pk_t rfl rfl) rfl ?_
         refine x_v (r_mv rfl) rfl ?_
         refine XL.splitd 109 rfl (fun hg109 => ?_) (fun hg109 => ?_)
         ·refine x_want rfl rfl rfl ?_
          refine x_v (r_fa fo41_7 rfl) rfl ?_
          refine x_want rfl rfl rfl ?_
          refine x_v (r_ld ty3 rfl pK (by rfl)) rfl ?_
          refine x_want rfl rfl rfl ?_
          refine x_c (r_call0 (args := [_]) ⟨rfl, rfl⟩ (tagged_tr c.tag) gS) rfl ?_
          rintro _ _ ⟨rfl, rfl⟩
          refine x_v (r_pk_t rfl rfl) rfl ?_
          refine x_v (r_mv rfl) rfl ?_
          refine XL.splitd 114 rfl (fun hg114 => ?_) (fun hg114 => ?_)
          ·refine x_want rfl rfl rfl ?_
           refine x_v (r_lda (l' := [_, _, _, _, _, _, _, _, _]) ty39 rfl pK rfl (Sub.get sU)) rfl ?_
           refine x_want rfl rfl rfl ?_
           refine x_c (r_call0 (args := [_]) ⟨rfl, rfl⟩ (checkop_tr (k := k) (opIn c, c.op.2) hop) gS) rfl ?_
           rintro _ _ ⟨rfl, rfl⟩
           refine x_want rfl rfl rfl ?_
           refine x_v (r_eq rfl rfl) rfl ?_
           refine x_v (r_pk_t rfl rfl) rfl ?_
           refine x_v (r_as rfl) rfl ?_
           refine XL.nil ?_
           exact ⟨_, (by rw [if03, ck1 hc2, decide_eq_true (p := DoP c) ⟨hg106.1, hg106.2.1, hg106.2.2.1, hg106.2.2.2, hg109, hg114⟩, Bool.true_and]), ⟨rfl, trivial⟩, gS⟩
          ·refine x_unwant rfl rfl rfl rfl rfl ?_
           refine x_unwant rfl rfl rfl rfl rfl ?_
           refine x_unwant rfl rfl rfl rfl rfl ?_
           refine x_v (r_pk_f rfl rfl) rfl ?_
           refine x_v (r_as rfl) rfl ?_
           refine XL.nil ?_
           exact ⟨false, (by rw [ck1 hc2, decide_eq_false (p := DoP c) (fun h => hg114 h.2.2.2.2.2), Bool.false_and]), ⟨rfl, trivial⟩, gS⟩
         ·refine x_unwant rfl rfl rfl rfl rfl ?_
          refine x_unwant rfl rfl rfl rfl rfl ?_
          refine x_unwant rfl rfl rfl rfl rfl ?_
          refine x_v (r_pk_f rfl rfl) rfl ?_
          refine x_v (r_mv rfl) rfl ?_
          refine x_unwant rfl rfl rfl rfl rfl ?_
          refine x_unwant rfl rfl rfl rfl rfl ?_
          refine x_unwant rfl rfl rfl rfl rfl ?_
          refine x_v (r_pk_f rfl rfl) rfl ?_
          refine x_v (r_as rfl) rfl ?_
          refine XL.nil ?_
          exact ⟨false, (by rw [ck1 hc2, decide_eq_false (p := DoP c) (fun h => hg109 h.2.2.2.2.1), Bool.false_and]), ⟨rfl, trivial⟩, gS⟩
        ·refine x_unwant rfl rfl rfl rfl rfl ?_
         refine x_v (r_pk_f rfl rfl) rfl ?_
         refine x_v (r_mv rfl) rfl ?_
         refine x_unwant rfl rfl rfl rfl rfl ?_
         refine x_unwant rfl rfl rfl rfl rfl ?_
         refine x_unwant rfl rfl rfl rfl rfl ?_
         refine x_v (r_pk_f rfl rfl) rfl ?_
         refine x_v (r_mv rfl) rfl ?_
         refine x_unwant rfl rfl rfl rfl rfl ?_
         refine x_unwant rfl rfl rfl rfl rfl ?_
         refine x_unwant rfl rfl rfl rfl rfl ?_
         refine x_v (r_pk_f rfl rfl) rfl ?_
         refine x_v (r_as rfl) rfl ?_
         refine XL.nil ?_
         exact ⟨false, (by rw [ck1 hc2, decide_eq_false (p := DoP c) (fun h => hg106 ⟨h.1, h.2.1, h.2.2.1, h.2.2.2.1⟩), Bool.false_and]), ⟨rfl, trivial⟩, gS⟩
      ·refine XC.seq fun K13 hK13 => ?_
       refine XC.region ?_
       refine x_v (r_eq rfl rfl) rfl ?_
       refine x_v (r_as rfl) rfl ?_
       refine XL.nil ?_
       refine hK13 _ _ ?_
       refine XC.keep [(1, _), (3, _), (4, _), (5, _), (6, _), (61, _), (119, _)] ⟨rfl, rfl, rfl, rfl, rfl, rfl, rfl, trivial⟩ ?_
       refine XC.cond_d rfl (fun hc3 => ?_) (fun hc3 => ?_)
       ·refine XC.region ?_
        refine x_v (r_mv rfl) rfl ?_
        refine x_v (r_mv rfl) rfl ?_
        refine XL.splitd 122 rfl (fun hg122 => ?_) (fun hg122 => ?_)
        ·refine x_want rfl rfl rfl ?_
         refine x_v (r_mv rfl) rfl ?_
         refine x_v (r_pk_t rfl rfl) rfl ?_
         refine x_v (r_mv rfl) rfl ?_
         refine XL.splitd 125 rfl (fun hg125 => ?_) (fun hg125 => ?_)
         ·refine x_want rfl rfl rfl ?_
          refine x_v (r_mv rfl) rfl ?_
          refine x_v (r_pk_t rfl rfl) rfl ?_
          refine x_v (r_mv rfl) rfl ?_
          refine XL.splitd 128 rfl (fun hg128 => ?_) (fun hg128 => ?_)
          ·refine x_want rfl rfl rfl ?_
           refine x_v (r_fa fo41_7 rfl) rfl ?_
           refine x_want rfl rfl rfl ?_
           refine x_v (r_ld ty3 rfl pK (by rfl)) rfl ?_
           refine x_want rfl rfl rfl ?_
           refine x_c (r_call0 (args := [_]) ⟨rfl, rfl⟩ (tagged_tr c.tag) gS) rfl ?_
           rintro _ _ ⟨rfl, rfl⟩
           refine x_v (r_pk_t rfl rfl) rfl ?_
           refine x_v (r_as rfl) rfl ?_
           refine XL.nil ?_
           exact ⟨_, (by rw [ck2 hc3]; exact decide_eq_decide.2 ⟨fun h => ⟨hg122, hg125, hg128, h⟩, fun h => h.2.2.2⟩), ⟨rfl, trivial⟩, gS⟩
          ·refine x_unwant rfl rfl rfl rfl rfl ?_
           refine x_unwant rfl rfl rfl rfl rfl ?_
           refine x_unwant rfl rfl rfl rfl rfl ?_
           refine x_v (r_pk_f rfl rfl) rfl ?_
           refine x_v (r_as rfl) rfl ?_
           refine XL.nil ?_
           exact ⟨false, (by rw [ck2 hc3]; exact (decide_eq_false (fun h => hg128 h.2.2.1)).symm), ⟨rfl, trivial⟩, gS⟩
         ·refine x_unwant rfl rfl rfl rfl rfl ?_
          refine x_v (r_pk_f rfl rfl) rfl ?_
          refine x_v (r_mv rfl) rfl ?_
          refine x_unwant rfl rfl rfl rfl rfl ?_
          refine x_unwant rfl rfl rfl rfl rfl ?_
          refine x_unwant rfl rfl rfl rfl rfl ?_
          refine x_v (r_pk_f rfl rfl) rfl ?_
          refine x_v (r_as rfl) rfl ?_
          refine XL.nil ?_
          exact ⟨false, (by rw [ck2 hc3]; exact (decide_eq_false (fun h => hg125 h.2.1)).symm), ⟨rfl, trivial⟩, gS⟩
        ·refine x_unwant rfl rfl rfl rfl rfl ?_
         refine x_v (r_pk_f rfl rfl) rfl ?_
         refine x_v (r_mv rfl) rfl ?_
         refine x_unwant rfl rfl rfl rfl rfl ?_
         refine x_v (r_pk_f rfl rfl) rfl ?_
         refine x_v (r_mv rfl) rfl ?_
         refine x_unwant rfl rfl rfl rfl rfl ?_
         refine x_unwant rfl rfl rfl rfl rfl ?_
         refine x_unwant rfl rfl rfl rfl rfl ?_
         refine x_v (r_pk_f rfl rfl) rfl ?_
         refine x_v (r_as rfl) rfl ?_
         refine XL.nil ?_
         exact ⟨false, (by rw [ck2 hc3]; exact (decide_eq_false (fun h => hg122 h.1)).symm), ⟨rfl, trivial⟩, gS⟩
       ·refine XC.seq fun K14 hK14 => ?_
        refine XC.region ?_
        refine x_v (r_eq rfl rfl) rfl ?_
        refine x_v (r_as rfl) rfl ?_
        refine XL.nil ?_
        refine hK14 _ _ ?_
        refine XC.keep [(1, _), (3, _), (4, _), (6, _), (61, _), (133, _)] ⟨rfl, rfl, rfl, rfl, rfl, rfl, trivial⟩ ?_
        refine XC.cond_d rfl (fun hc4 => ?_) (fun hc4 => ?_)
        ·refine XC.seqcut (σ := Bool) (fun s => [(1, .pointer (some ⟨b1, 0, none⟩)), (6, .bool s)]) (fun s => blk b1 41 [.int .i64 c.kind, .int .i64 c.epoch, .int .i64 c.site, .int .i64 c.op.1.n, .int .i64 c.op.1.epoch, .int .i64 c.op.1.kind, .int .i64 c.op.1.site, .int .i64 c.op.1.client, .int .i64 c.op.1.seq, str c.op.1.name, .int .i64 c.op.1.size, .slice c.op.2.1 c.op.1.hs.length c.op.2.2, .int .i64 c.after, .int .i64 c.since, .slice c.pA c.ops.length c.pc, .int .i64 c.tag] :: k :: Fr) (fun s => s = (decide (ShipP c) && rowOk c.after c.since (fst1 c.ops))) ?_ ?_
         ·refine XC.region ?_
          refine x_v (r_mv rfl) rfl ?_
          refine x_v (r_mv rfl) rfl ?_
          refine XL.splitd 136 rfl (fun hg136 => ?_) (fun hg136 => ?_)
          ·refine x_want rfl rfl rfl ?_
           refine x_v (r_fa fo41_7 rfl) rfl ?_
           refine x_want rfl rfl rfl ?_
           refine x_v (r_ld ty3 rfl pK (by rfl)) rfl ?_
           refine x_want rfl rfl rfl ?_
           refine x_v (r_eq rfl rfl) rfl ?_
           refine x_v (r_pk_t rfl rfl) rfl ?_
           refine x_v (r_mv rfl) rfl ?_
           refine XL.splitd 141 rfl (fun hg141 => ?_) (fun hg141 => ?_)
           ·refine x_want rfl rfl rfl ?_
            refine x_v (r_fa fo41_1 rfl) rfl ?_
            refine x_want rfl rfl rfl ?_
            refine x_v (r_ld ty3 rfl pK (by rfl)) rfl ?_
            refine x_want rfl rfl rfl ?_
            refine x_v (r_fa fo41_2 rfl) rfl ?_
            refine x_want rfl rfl rfl ?_
            refine x_v (r_ld ty3 rfl pK (by rfl)) rfl ?_
            refine x_want rfl rfl rfl ?_
            refine x_c (r_call0 (args := [_, _]) ⟨rfl, rfl, rfl⟩ (reigned_tr c.epoch c.site) gS) rfl ?_
            rintro _ _ ⟨rfl, rfl⟩
            refine x_v (r_pk_t rfl rfl) rfl ?_
            refine x_v (r_mv rfl) rfl ?_
            refine XL.splitd 148 rfl (fun hg148 => ?_) (fun hg148 => ?_)
            ·refine x_want rfl rfl rfl ?_
             refine x_v (r_fa fo41_6 rfl) rfl ?_
             refine x_want rfl rfl rfl ?_
             refine x_v (r_ld ty33 rfl pK (by rfl)) rfl ?_
             refine x_want rfl rfl rfl ?_
             refine x_v (r_lensl Try.underlying33 rfl) rfl ?_
             refine x_want rfl rfl rfl ?_
             refine x_v (r_le rfl rfl) rfl ?_
             refine x_v (r_pk_t rfl rfl) rfl ?_
             refine x_v (r_mv rfl) rfl ?_
             refine XL.splitd 154 rfl (fun hg154 => ?_) (fun hg154 => ?_)
             ·refine x_want rfl rfl rfl ?_
              refine x_v (r_fa fo41_5 rfl) rfl ?_
              refine x_want rfl rfl rfl ?_
              refine x_v (r_ld ty3 rfl pK (by rfl)) rfl ?_
              refine x_want rfl rfl rfl ?_
              refine x_v (r_fa fo41_1 rfl) rfl ?_
              refine x_want rfl rfl rfl ?_
              refine x_v (r_ld ty3 rfl pK (by rfl)) rfl ?_
              refine x_want rfl rfl rfl ?_
              refine x_v (r_le rfl rfl) rfl ?_
              refine x_v (r_pk_t rfl rfl) rfl ?_
              refine x_v (r_mv rfl) rfl ?_
              refine XL.splitd 161 rfl (fun hg161 => ?_) (fun hg161 => ?_)
              ·refine x_want rfl rfl rfl ?_
               refine x_v (r_fa fo41_4 rfl) rfl ?_
               refine x_want rfl rfl rfl ?_
               refine x_v (r_ld ty3 rfl pK (by rfl)) rfl ?_
               refine x_want rfl rfl rfl ?_
               refine x_v (r_fa fo41_5 rfl) rfl ?_
               refine x_want rfl rfl rfl ?_
               refine x_v (r_ld ty3 rfl pK (by rfl)) rfl ?_
               refine x_want rfl rfl rfl ?_
               refine x_v (r_bd (vs := [_, _]) rfl ⟨rfl, rfl, rfl⟩ (bd31_0_1 _ _)) rfl ?_
               refine x_want rfl rfl rfl ?_
               refine x_v (r_fa fo41_6 rfl) rfl ?_
               refine x_want rfl rfl rfl ?_
               refine x_v (r_ld ty33 rfl pK (by rfl)) rfl ?_
               refine x_want rfl rfl rfl ?_
               refine x_c (r_call0 (args := [_, _]) ⟨rfl, rfl, rfl⟩ (row_tr (k := k) c.after c.since c.pA c.pc c.ops hr ho hl) gS) rfl ?_
               rintro _ _ ⟨rfl, rfl⟩
               refine x_v (r_pk_t rfl rfl) rfl ?_
               refine x_v (r_as rfl) rfl ?_
               refine XL.nil ?_
               exact ⟨_, (by rw [decide_eq_true (p := ShipP c) ⟨hg136, hg141, hg148, by omega, hg161⟩, Bool.true_and]), ⟨rfl, rfl, trivial⟩, gS⟩
              ·refine x_unwant rfl rfl rfl rfl rfl ?_
               refine x_unwant rfl rfl rfl rfl rfl ?_
               refine x_unwant rfl rfl rfl rfl rfl ?_
               refine x_unwant rfl rfl rfl rfl rfl ?_
               refine x_unwant rfl rfl rfl rfl rfl ?_
               refine x_unwant rfl rfl rfl rfl rfl ?_
               refine x_unwant rfl rfl rfl rfl rfl ?_
               refine x_unwant rfl rfl rfl rfl rfl ?_
               refine x_v (r_pk_f rfl rfl) rfl ?_
               refine x_v (r_as rfl) rfl ?_
               refine XL.nil ?_
               exact ⟨false, (by rw [decide_eq_false (p := ShipP c) (fun h => hg161 h.2.2.2.2), Bool.false_and]), ⟨rfl, rfl, trivial⟩, gS⟩
             ·refine x_unwant rfl rfl rfl rfl rfl ?_
              refine x_unwant rfl rfl rfl rfl rfl ?_
              refine x_unwant rfl rfl rfl rfl rfl ?_
              refine x_unwant rfl rfl rfl rfl rfl ?_
              refine x_unwant rfl rfl rfl rfl rfl ?_
              refine x_v (r_pk_f rfl rfl) rfl ?_
              refine x_v (r_mv rfl) rfl ?_
              refine x_unwant rfl rfl rfl rfl rfl ?_
              refine x_unwant rfl rfl rfl rfl rfl ?_
              refine x_unwant rfl rfl rfl rfl rfl ?_
              refine x_unwant rfl rfl rfl rfl rfl ?_
              refine x_unwant rfl rfl rfl rfl rfl ?_
              refine x_unwant rfl rfl rfl rfl rfl ?_
              refine x_unwant rfl rfl rfl rfl rfl ?_
              refine x_unwant rfl rfl rfl rfl rfl ?_
              refine x_v (r_pk_f rfl rfl) rfl ?_
              refine x_v (r_as rfl) rfl ?_
              refine XL.nil ?_
              exact ⟨false, (by rw [decide_eq_false (p := ShipP c) (fun h => hg154 (by have := h.2.2.2.1; omega)), Bool.false_and]), ⟨rfl, rfl, trivial⟩, gS⟩
            ·refine x_unwant rfl rfl rfl rfl rfl ?_
             refine x_unwant rfl rfl rfl rfl rfl ?_
             refine x_unwant rfl rfl rfl rfl rfl ?_
             refine x_unwant rfl rfl rfl rfl rfl ?_
             refine x_v (r_pk_f rfl rfl) rfl ?_
             refine x_v (r_mv rfl) rfl ?_
             refine x_unwant rfl rfl rfl rfl rfl ?_
             refine x_unwant rfl rfl rfl rfl rfl ?_
             refine x_unwant rfl rfl rfl rfl rfl ?_
             refine x_unwant rfl rfl rfl rfl rfl ?_
             refine x_unwant rfl rfl rfl rfl rfl ?_
             refine x_v (r_pk_f rfl rfl) rfl ?_
             refine x_v (r_mv rfl) rfl ?_
             refine x_unwant rfl rfl rfl rfl rfl ?_
             refine x_unwant rfl rfl rfl rfl rfl ?_
             refine x_unwant rfl rfl rfl rfl rfl ?_
             refine x_unwant rfl rfl rfl rfl rfl ?_
             refine x_unwant rfl rfl rfl rfl rfl ?_
             refine x_unwant rfl rfl rfl rfl rfl ?_
             refine x_unwant rfl rfl rfl rfl rfl ?_
             refine x_unwant rfl rfl rfl rfl rfl ?_
             refine x_v (r_pk_f rfl rfl) rfl ?_
             refine x_v (r_as rfl) rfl ?_
             refine XL.nil ?_
             exact ⟨false, (by rw [decide_eq_false (p := ShipP c) (fun h => hg148 h.2.2.1), Bool.false_and]), ⟨rfl, rfl, trivial⟩, gS⟩
           ·refine x_unwant rfl rfl rfl rfl rfl ?_
            refine x_unwant rfl rfl rfl rfl rfl ?_
            refine x_unwant rfl rfl rfl rfl rfl ?_
            refine x_unwant rfl rfl rfl rfl rfl ?_
            refine x_unwant rfl rfl rfl rfl rfl ?_
            refine x_v (r_pk_f rfl rfl) rfl ?_
            refine x_v (r_mv rfl) rfl ?_
            refine x_unwant rfl rfl rfl rfl rfl ?_
            refine x_unwant rfl rfl rfl rfl rfl ?_
            refine x_unwant rfl rfl rfl rfl rfl ?_
            refine x_unwant rfl rfl rfl rfl rfl ?_
            refine x_v (r_pk_f rfl rfl) rfl ?_
            refine x_v (r_mv rfl) rfl ?_
            refine x_unwant rfl rfl rfl rfl rfl ?_
            refine x_unwant rfl rfl rfl rfl rfl ?_
            refine x_unwant rfl rfl rfl rfl rfl ?_
            refine x_unwant rfl rfl rfl rfl rfl ?_
            refine x_unwant rfl rfl rfl rfl rfl ?_
            refine x_v (r_pk_f rfl rfl) rfl ?_
            refine x_v (r_mv rfl) rfl ?_
            refine x_unwant rfl rfl rfl rfl rfl ?_
            refine x_unwant rfl rfl rfl rfl rfl ?_
            refine x_unwant rfl rfl rfl rfl rfl ?_
            refine x_unwant rfl rfl rfl rfl rfl ?_
            refine x_unwant rfl rfl rfl rfl rfl ?_
            refine x_unwant rfl rfl rfl rfl rfl ?_
            refine x_unwant rfl rfl rfl rfl rfl ?_
            refine x_unwant rfl rfl rfl rfl rfl ?_
            refine x_v (r_pk_f rfl rfl) rfl ?_
            refine x_v (r_as rfl) rfl ?_
            refine XL.nil ?_
            exact ⟨false, (by rw [decide_eq_false (p := ShipP c) (fun h => hg141 h.2.1), Bool.false_and]), ⟨rfl, rfl, trivial⟩, gS⟩
          ·refine x_unwant rfl rfl rfl rfl rfl ?_
           refine x_unwant rfl rfl rfl rfl rfl ?_
           refine x_unwant rfl rfl rfl rfl rfl ?_
           refine x_v (r_pk_f rfl rfl) rfl ?_
           refine x_v (r_mv rfl) rfl ?_
           refine x_unwant rfl rfl rfl rfl rfl ?_
           refine x_unwant rfl rfl rfl rfl rfl ?_
           refine x_unwant rfl rfl rfl rfl rfl ?_
           refine x_unwant rfl rfl rfl rfl rfl ?_
           refine x_unwant rfl rfl rfl rfl rfl ?_
           refine x_v (r_pk_f rfl rfl) rfl ?_
           refine x_v (r_mv rfl) rfl ?_
           refine x_unwant rfl rfl rfl rfl rfl ?_
           refine x_unwant rfl rfl rfl rfl rfl ?_
           refine x_unwant rfl rfl rfl rfl rfl ?_
           refine x_unwant rfl rfl rfl rfl rfl ?_
           refine x_v (r_pk_f rfl rfl) rfl ?_
           refine x_v (r_mv rfl) rfl ?_
           refine x_unwant rfl rfl rfl rfl rfl ?_
           refine x_unwant rfl rfl rfl rfl rfl ?_
           refine x_unwant rfl rfl rfl rfl rfl ?_
           refine x_unwant rfl rfl rfl rfl rfl ?_
           refine x_unwant rfl rfl rfl rfl rfl ?_
           refine x_v (r_pk_f rfl rfl) rfl ?_
           refine x_v (r_mv rfl) rfl ?_
           refine x_unwant rfl rfl rfl rfl rfl ?_
           refine x_unwant rfl rfl rfl rfl rfl ?_
           refine x_unwant rfl rfl rfl rfl rfl ?_
           refine x_unwant rfl rfl rfl rfl rfl ?_
           refine x_unwant rfl rfl rfl rfl rfl ?_
           refine x_unwant rfl rfl rfl rfl rfl ?_
           refine x_unwant rfl rfl rfl rfl rfl ?_
           refine x_unwant rfl rfl rfl rfl rfl ?_
           refine x_v (r_pk_f rfl rfl) rfl ?_
           refine x_v (r_as rfl) rfl ?_
           refine XL.nil ?_
           exact ⟨false, (by rw [decide_eq_false (p := ShipP c) (fun h => hg136 h.1), Bool.false_and]), ⟨rfl, rfl, trivial⟩, gS⟩
         ·rintro g6 hg6
          refine XC.seq fun K16 hK16 => ?_
          refine XC.region ?_
          refine x_v (r_fa fo41_6 rfl) rfl ?_
          refine x_v (r_ld ty33 rfl pK (by rfl)) rfl ?_
          refine x_v (r_lensl Try.underlying33 rfl) rfl ?_
          refine x_v (r_mv rfl) rfl ?_
          refine XL.nil ?_
          refine hK16 _ _ ?_
          refine XC.keep [(1, _), (6, _), (172, _), (173, _), (174, _)] ⟨rfl, rfl, rfl, rfl, rfl, trivial⟩ ?_
          refine XC.block ?_
          refine XC.loop (σ := Nat × Bool) (fun s => [(1, .pointer (some ⟨b1, 0, none⟩)), (6, .bool s.2), (172, .slice c.pA c.ops.length c.pc), (173, .int .i64 (c.ops.length : Int)), (174, .int .i64 (s.1 : Int))]) (fun s => blk b1 41 [.int .i64 c.kind, .int .i64 c.epoch, .int .i64 c.site, .int .i64 c.op.1.n, .int .i64 c.op.1.epoch, .int .i64 c.op.1.kind, .int .i64 c.op.1.site, .int .i64 c.op.1.client, .int .i64 c.op.1.seq, str c.op.1.name, .int .i64 c.op.1.size, .slice c.op.2.1 c.op.1.hs.length c.op.2.2, .int .i64 c.after, .int .i64 c.since, .slice c.pA c.ops.length c.pc, .int .i64 c.tag] :: k :: Fr) (fun s => s.1 ≤ c.ops.length ∧ s.2 = ((decide (ShipP c) && rowOk c.after c.since (fst1 c.ops)) && allLe c.epoch (fst1 (c.ops.take s.1)))) (fun s => c.ops.length - s.1) (0, g6) ?_ ⟨rfl, rfl, rfl, rfl, rfl, trivial⟩ gS ?_
          ·exact ⟨Nat.zero_le _, by dsimp only; rw [hg6]; unfold allLe fst1; simp⟩
          rintro ⟨i, g⟩ ⟨hi, hg⟩
          dsimp only at hi hg ⊢
          refine XC.seq fun K17 hK17 => ?_
          refine XC.region ?_
          refine x_v (r_lt rfl rfl) rfl ?_
          refine XL.nil ?_
          refine hK17 _ _ ?_
          refine XC.keep [(1, _), (6, _), (172, _), (173, _), (174, _), (175, _)] ⟨rfl, rfl, rfl, rfl, rfl, rfl, trivial⟩ ?_
          refine XC.seq fun K18 hK18 => ?_
          refine XC.cond_d rfl (fun hc5 => ?_) (fun hc5 => ?_)
          ·refine XC.skip ?_
           refine hK18 _ _ ?_
           refine XC.keep [(1, _), (6, _), (172, _), (173, _), (174, _)] ⟨rfl, rfl, rfl, rfl, rfl, trivial⟩ ?_
           refine XC.seq fun K19 hK19 => ?_
           refine XC.block ?_
           refine XC.seq fun K20 hK20 => ?_
           obtain ⟨o, hoi⟩ : ∃ o, c.ops[i]? = some o := ⟨_, List.getElem?_eq_getElem (by omega)⟩
           obtain ⟨ob, oo, hpA, hat⟩ := hr.at_ (by omega)
           refine XC.region ?_
           refine x_v (r_ia (k := i) Try.underlying33 ty39 (by rw [hpA]; rfl) rfl (by omega) (by omega)) rfl ?_
           refine x_v (r_ldar (l' := odc o) ty39 rfl rfl (fun w hw j u hu => by rw [Nat.add_assoc]; exact hat w (Gets.own gS hw) _ u (cells_get odc_len c.ops _ _ hoi j u hu))) rfl ?_
           rw [odc_def o]
           refine x_a (r_al ty39 rfl) rfl fun b10 => ?_
           refine x_e (r_st ty39 rfl rfl rfl rfl rfl uD oV) ?_
           refine XL.nil ?_
           refine hK20 _ _ ?_
           refine XC.keep [(1, _), (6, _), (10, _), (172, _), (173, _), (174, _)] ⟨rfl, rfl, rfl, rfl, rfl, rfl, trivial⟩ ?_
           refine XC.region ?_
           refine x_v (r_mv rfl) rfl ?_
           refine x_v (r_mv rfl) rfl ?_
           refine XL.split 179 rfl (fun hg179 => ?_) (fun hg179 => ?_)
           ·refine x_want rfl rfl rfl ?_
            refine x_v (r_fa fo39_1 rfl) rfl ?_
            refine x_want rfl rfl rfl ?_
            refine x_v (r_ld ty3 rfl pK (by rfl)) rfl ?_
            refine x_want rfl rfl rfl ?_
            refine x_v (r_fa fo41_1 rfl) rfl ?_
            refine x_want rfl rfl rfl ?_
            refine x_v (r_ld ty3 rfl pK (by rfl)) rfl ?_
            refine x_want rfl rfl rfl ?_
            refine x_v (r_le rfl rfl) rfl ?_
            refine x_v (r_pk_t rfl rfl) rfl ?_
            refine x_v (r_as rfl) rfl ?_
            refine XL.nil ?_
            refine hK19 _ _ ?_
            refine XC.keep [(1, _), (6, _), (172, _), (173, _), (174, _)] ⟨rfl, rfl, rfl, rfl, rfl, trivial⟩ ?_
            refine XC.region ?_
            refine x_v (r_add rfl rfl (by omega)) rfl ?_
            refine x_v (r_mv rfl) rfl ?_
            refine XL.nil ?_
            refine ⟨(i + 1, decide (o.1.epoch ≤ c.epoch)), ?_, ?_, ⟨rfl, rfl, rfl, rfl, rfl, trivial⟩, gS⟩
            ·exact ⟨by dsimp only; omega, by dsimp only; rw [allLe_snoc hoi, ← Bool.and_assoc, ← hg, hg179, Bool.true_and]⟩
            ·dsimp only; omega
           ·refine x_unwant rfl rfl rfl rfl rfl ?_
            refine x_unwant rfl rfl rfl rfl rfl ?_
            refine x_unwant rfl rfl rfl rfl rfl ?_
            refine x_unwant rfl rfl rfl rfl rfl ?_
            refine x_unwant rfl rfl rfl rfl rfl ?_
            refine x_v (r_pk_f rfl rfl) rfl ?_
            refine x_v (r_as rfl) rfl ?_
            refine XL.nil ?_
            refine hK19 _ _ ?_
            refine XC.keep [(1, _), (6, _), (172, _), (173, _), (174, _)] ⟨rfl, rfl, rfl, rfl, rfl, trivial⟩ ?_
            refine XC.region ?_
            refine x_v (r_add rfl rfl (by omega)) rfl ?_
            refine x_v (r_mv rfl) rfl ?_
            refine XL.nil ?_
            refine ⟨(i + 1, false), ?_, ?_, ⟨rfl, rfl, rfl, rfl, rfl, trivial⟩, gS⟩
            ·exact ⟨by dsimp only; omega, by dsimp only; rw [allLe_snoc hoi, ← Bool.and_assoc, ← hg, hg179, Bool.false_and]⟩
            ·dsimp only; omega
          ·refine XC.exit rfl ?_
           exact ⟨_, (by rw [List.take_of_length_le (by omega)] at hg; rw [hg, ck3 hc4, Bool.and_assoc]), ⟨rfl, trivial⟩, gS⟩
        ·refine XC.seq fun K21 hK21 => ?_
         refine XC.region ?_
         refine x_v (r_eq rfl rfl) rfl ?_
         refine x_v (r_as rfl) rfl ?_
         refine XL.nil ?_
         refine hK21 _ _ ?_
         refine XC.keep [(1, _), (3, _), (4, _), (6, _), (61, _), (187, _)] ⟨rfl, rfl, rfl, rfl, rfl, rfl, trivial⟩ ?_
         refine XC.cond_d rfl (fun hc6 => ?_) (fun hc6 => ?_)
         ·refine XC.region ?_
          refine x_v (r_mv rfl) rfl ?_
          refine x_v (r_mv rfl) rfl ?_
          refine XL.splitd 190 rfl (fun hg190 => ?_) (fun hg190 => ?_)
          ·refine x_want rfl rfl rfl ?_
           refine x_v (r_mv rfl) rfl ?_
           refine x_v (r_pk_t rfl rfl) rfl ?_
           refine x_v (r_mv rfl) rfl ?_
           refine XL.splitd 193 rfl (fun hg193 => ?_) (fun hg193 => ?_)
           ·refine x_want rfl rfl rfl ?_
            refine x_v (r_fa fo41_7 rfl) rfl ?_
            refine x_want rfl rfl rfl ?_
            refine x_v (r_ld ty3 rfl pK (by rfl)) rfl ?_
            refine x_want rfl rfl rfl ?_
            refine x_v (r_eq rfl rfl) rfl ?_
            refine x_v (r_pk_t rfl rfl) rfl ?_
            refine x_v (r_mv rfl) rfl ?_
            refine XL.splitd 198 rfl (fun hg198 => ?_) (fun hg198 => ?_)
            ·refine x_want rfl rfl rfl ?_
             refine x_v (r_fa fo41_1 rfl) rfl ?_
             refine x_want rfl rfl rfl ?_
             refine x_v (r_ld ty3 rfl pK (by rfl)) rfl ?_
             refine x_want rfl rfl rfl ?_
             refine x_v (r_fa fo41_2 rfl) rfl ?_
             refine x_want rfl rfl rfl ?_
             refine x_v (r_ld ty3 rfl pK (by rfl)) rfl ?_
             refine x_want rfl rfl rfl ?_
             refine x_c (r_call0 (args := [_, _]) ⟨rfl, rfl, rfl⟩ (reigned_tr c.epoch c.site) gS) rfl ?_
             rintro _ _ ⟨rfl, rfl⟩
             refine x_v (r_pk_t rfl rfl) rfl ?_
             refine x_v (r_as rfl) rfl ?_
             refine XL.nil ?_
             exact ⟨_, (by rw [ck4 hc6]; exact decide_eq_decide.2 ⟨fun h => ⟨hg190, hg193, hg198, h⟩, fun h => h.2.2.2⟩), ⟨rfl, trivial⟩, gS⟩
            ·refine x_unwant rfl rfl rfl rfl rfl ?_
             refine x_unwant rfl rfl rfl rfl rfl ?_
             refine x_unwant rfl rfl rfl rfl rfl ?_
             refine x_unwant rfl rfl rfl rfl rfl ?_
             refine x_unwant rfl rfl rfl rfl rfl ?_
             refine x_v (r_pk_f rfl rfl) rfl ?_
             refine x_v (r_as rfl) rfl ?_
             refine XL.nil ?_
             exact ⟨false, (by rw [ck4 hc6]; exact (decide_eq_false (fun h => hg198 h.2.2.1)).symm), ⟨rfl, trivial⟩, gS⟩
           ·refine x_unwant rfl rfl rfl rfl rfl ?_
            refine x_unwant rfl rfl rfl rfl rfl ?_
            refine x_unwant rfl rfl rfl rfl rfl ?_
            refine x_v (r_pk_f rfl rfl) rfl ?_
            refine x_v (r_mv rfl) rfl ?_
            refine x_unwant rfl rfl rfl rfl rfl ?_
            refine x_unwant rfl rfl rfl rfl rfl ?_
            refine x_unwant rfl rfl rfl rfl rfl ?_
            refine x_unwant rfl rfl rfl rfl rfl ?_
            refine x_unwant rfl rfl rfl rfl rfl ?_
            refine x_v (r_pk_f rfl rfl) rfl ?_
            refine x_v (r_as rfl) rfl ?_
            refine XL.nil ?_
            exact ⟨false, (by rw [ck4 hc6]; exact (decide_eq_false (fun h => hg193 h.2.1)).symm), ⟨rfl, trivial⟩, gS⟩
          ·refine x_unwant rfl rfl rfl rfl rfl ?_
           refine x_v (r_pk_f rfl rfl) rfl ?_
           refine x_v (r_mv rfl) rfl ?_
           refine x_unwant rfl rfl rfl rfl rfl ?_
           refine x_unwant rfl rfl rfl rfl rfl ?_
           refine x_unwant rfl rfl rfl rfl rfl ?_
           refine x_v (r_pk_f rfl rfl) rfl ?_
           refine x_v (r_mv rfl) rfl ?_
           refine x_unwant rfl rfl rfl rfl rfl ?_
           refine x_unwant rfl rfl rfl rfl rfl ?_
           refine x_unwant rfl rfl rfl rfl rfl ?_
           refine x_unwant rfl rfl rfl rfl rfl ?_
           refine x_unwant rfl rfl rfl rfl rfl ?_
           refine x_v (r_pk_f rfl rfl) rfl ?_
           refine x_v (r_as rfl) rfl ?_
           refine XL.nil ?_
           exact ⟨false, (by rw [ck4 hc6]; exact (decide_eq_false (fun h => hg190 h.1)).symm), ⟨rfl, trivial⟩, gS⟩
         ·refine XC.seq fun K22 hK22 => ?_
          refine XC.region ?_
          refine x_v (r_eq rfl rfl) rfl ?_
          refine x_v (r_as rfl) rfl ?_
          refine XL.nil ?_
          refine hK22 _ _ ?_
          refine XC.keep [(1, _), (3, _), (6, _), (205, _)] ⟨rfl, rfl, rfl, rfl, trivial⟩ ?_
          refine XC.cond_d rfl (fun hc7 => ?_) (fun hc7 => ?_)
          ·refine XC.region ?_
           refine x_v (r_mv rfl) rfl ?_
           refine x_v (r_mv rfl) rfl ?_
           refine XL.splitd 208 rfl (fun hg208 => ?_) (fun hg208 => ?_)
           ·refine x_want rfl rfl rfl ?_
            refine x_v (r_fa fo41_6 rfl) rfl ?_
            refine x_want rfl rfl rfl ?_
            refine x_v (r_ld ty33 rfl pK (by rfl)) rfl ?_
            refine x_want rfl rfl rfl ?_
            refine x_v (r_lensl Try.underlying33 rfl) rfl ?_
            refine x_want rfl rfl rfl ?_
            refine x_v (r_eq rfl rfl) rfl ?_
            refine x_v (r_pk_t rfl rfl) rfl ?_
            refine x_v (r_mv rfl) rfl ?_
            refine XL.splitd 214 rfl (fun hg214 => ?_) (fun hg214 => ?_)
            ·refine x_want rfl rfl rfl ?_
             refine x_v (r_fa fo41_7 rfl) rfl ?_
             refine x_want rfl rfl rfl ?_
             refine x_v (r_ld ty3 rfl pK (by rfl)) rfl ?_
             refine x_want rfl rfl rfl ?_
             refine x_v (r_eq rfl rfl) rfl ?_
             refine x_v (r_pk_t rfl rfl) rfl ?_
             refine x_v (r_mv rfl) rfl ?_
             refine XL.splitd 219 rfl (fun hg219 => ?_) (fun hg219 => ?_)
             ·refine x_want rfl rfl rfl ?_
              refine x_v (r_fa fo41_1 rfl) rfl ?_
              refine x_want rfl rfl rfl ?_
              refine x_v (r_ld ty3 rfl pK (by rfl)) rfl ?_
              refine x_want rfl rfl rfl ?_
              refine x_v (r_fa fo41_2 rfl) rfl ?_
              refine x_want rfl rfl rfl ?_
              refine x_v (r_ld ty3 rfl pK (by rfl)) rfl ?_
              refine x_want rfl rfl rfl ?_
              refine x_c (r_call0 (args := [_, _]) ⟨rfl, rfl, rfl⟩ (reigned_tr c.epoch c.site) gS) rfl ?_
              rintro _ _ ⟨rfl, rfl⟩
              refine x_v (r_pk_t rfl rfl) rfl ?_
              refine x_v (r_mv rfl) rfl ?_
              refine XL.splitd 226 rfl (fun hg226 => ?_) (fun hg226 => ?_)
              ·refine x_want rfl rfl rfl ?_
               refine x_v (r_fa fo41_4 rfl) rfl ?_
               refine x_want rfl rfl rfl ?_
               refine x_v (r_ld ty3 rfl pK (by rfl)) rfl ?_
               refine x_want rfl rfl rfl ?_
               refine x_v (r_ge rfl rfl) rfl ?_
               refine x_v (r_pk_t rfl rfl) rfl ?_
               refine x_v (r_mv rfl) rfl ?_
               refine XL.splitd 231 rfl (fun hg231 => ?_) (fun hg231 => ?_)
               ·refine x_want rfl rfl rfl ?_
                refine x_v (r_fa fo41_4 rfl) rfl ?_
                refine x_want rfl rfl rfl ?_
                refine x_v (r_ld ty3 rfl pK (by rfl)) rfl ?_
                refine x_want rfl rfl rfl ?_
                refine x_v (r_le rfl rfl) rfl ?_
                refine x_v (r_pk_t rfl rfl) rfl ?_
                refine x_v (r_mv rfl) rfl ?_
                refine XL.splitd 236 rfl (fun hg236 => ?_) (fun hg236 => ?_)
                ·refine x_want rfl rfl rfl ?_
                 refine x_v (r_fa fo41_5 rfl) rfl ?_
                 refine x_want rfl rfl rfl ?_
                 refine x_v (r_ld ty3 rfl pK (by rfl)) rfl ?_
                 refine x_want rfl rfl rfl ?_
                 refine x_v (r_ge rfl rfl) rfl ?_
                 refine x_v (r_pk_t rfl rfl) rfl ?_
                 refine x_v (r_mv rfl) rfl ?_
                 refine XL.splitd 241 rfl (fun hg241 => ?_) (fun hg241 => ?_)
                 ·refine x_want rfl rfl rfl ?_
                  refine x_v (r_fa fo41_5 rfl) rfl ?_
                  refine x_want rfl rfl rfl ?_
                  refine x_v (r_ld ty3 rfl pK (by rfl)) rfl ?_
                  refine x_want rfl rfl rfl ?_
                  refine x_v (r_fa fo41_1 rfl) rfl ?_
                  refine x_want rfl rfl rfl ?_
                  refine x_v (r_ld ty3 rfl pK (by rfl)) rfl ?_
                  refine x_want rfl rfl rfl ?_
                  refine x_v (r_le rfl rfl) rfl ?_
                  refine x_v (r_pk_t rfl rfl) rfl ?_
                  refine x_v (r_as rfl) rfl ?_
                  refine XL.nil ?_
                  exact ⟨_, (by rw [ck5 hc7]; exact decide_eq_decide.2 ⟨fun h => ⟨hg208, by omega, hg219, hg226, hg231, hg236, hg241, h⟩, fun h => h.2.2.2.2.2.2.2⟩), ⟨rfl, trivial⟩, gS⟩
                 ·refine x_unwant rfl rfl rfl rfl rfl ?_
                  refine x_unwant rfl rfl rfl rfl rfl ?_
                  refine x_unwant rfl rfl rfl rfl rfl ?_
                  refine x_unwant rfl rfl rfl rfl rfl ?_
                  refine x_unwant rfl rfl rfl rfl rfl ?_
                  refine x_v (r_pk_f rfl rfl) rfl ?_
                  refine x_v (r_as rfl) rfl ?_
                  refine XL.nil ?_
                  exact ⟨false, (by rw [ck5 hc7]; exact (decide_eq_false (fun h => hg241 h.2.2.2.2.2.2.1)).symm), ⟨rfl, trivial⟩, gS⟩
                ·refine x_unwant rfl rfl rfl rfl rfl ?_
                 refine x_unwant rfl rfl rfl rfl rfl ?_
                 refine x_unwant rfl rfl rfl rfl rfl ?_
                 refine x_v (r_pk_f rfl rfl) rfl ?_
                 refine x_v (r_mv rfl) rfl ?_
                 refine x_unwant rfl rfl rfl rfl rfl ?_
                 refine x_unwant rfl rfl rfl rfl rfl ?_
                 refine x_unwant rfl rfl rfl rfl rfl ?_
                 refine x_unwant rfl rfl rfl rfl rfl ?_
                 refine x_unwant rfl rfl rfl rfl rfl ?_
                 refine x_v (r_pk_f rfl rfl) rfl ?_
                 refine x_v (r_as rfl) rfl ?_
                 refine XL.nil ?_
                 exact ⟨false, (by rw [ck5 hc7]; exact (decide_eq_false (fun h => hg236 h.2.2.2.2.2.1)).symm), ⟨rfl, trivial⟩, gS⟩
               ·refine x_unwant rfl rfl rfl rfl rfl ?_
                refine x_unwant rfl rfl rfl rfl rfl ?_
                refine x_unwant rfl rfl rfl rfl rfl ?_
                refine x_v (r_pk_f rfl rfl) rfl ?_
                refine x_v (r_mv rfl) rfl ?_
                refine x_unwant rfl rfl rfl rfl rfl ?_
                refine x_unwant rfl rfl rfl rfl rfl ?_
                refine x_unwant rfl rfl rfl rfl rfl ?_
                refine x_v (r_pk_f rfl rfl) rfl ?_
                refine x_v (r_mv rfl) rfl ?_
                refine x_unwant rfl rfl rfl rfl rfl ?_
                refine x_unwant rfl rfl rfl rfl rfl ?_
                refine x_unwant rfl rfl rfl rfl rfl ?_
                refine x_unwant rfl rfl rfl rfl rfl ?_
                refine x_unwant rfl rfl rfl rfl rfl ?_
                refine x_v (r_pk_f rfl rfl) rfl ?_
                refine x_v (r_as rfl) rfl ?_
                refine XL.nil ?_
                exact ⟨false, (by rw [ck5 hc7]; exact (decide_eq_false (fun h => hg231 h.2.2.2.2.1)).symm), ⟨rfl, trivial⟩, gS⟩
              ·refine x_unwant rfl rfl rfl rfl rfl ?_
               refine x_unwant rfl rfl rfl rfl rfl ?_
               refine x_unwant rfl rfl rfl rfl rfl ?_
               refine x_v (r_pk_f rfl rfl) rfl ?_
               refine x_v (r_mv rfl) rfl ?_
               refine x_unwant rfl rfl rfl rfl rfl ?_
               refine x_unwant rfl rfl rfl rfl rfl ?_
               refine x_unwant rfl rfl rfl rfl rfl ?_
               refine x_v (r_pk_f rfl rfl) rfl ?_
               refine x_v (r_mv rfl) rfl ?_
               refine x_unwant rfl rfl rfl rfl rfl ?_
               refine x_unwant rfl rfl rfl rfl rfl ?_
               refine x_unwant rfl rfl rfl rfl rfl ?_
               refine x_v (r_pk_f rfl rfl) rfl ?_
               refine x_v (r_mv rfl) rfl ?_
               refine x_unwant rfl rfl rfl rfl rfl ?_
               refine x_unwant rfl rfl rfl rfl rfl ?_
               refine x_unwant rfl rfl rfl rfl rfl ?_
               refine x_unwant rfl rfl rfl rfl rfl ?_
               refine x_unwant rfl rfl rfl rfl rfl ?_
               refine x_v (r_pk_f rfl rfl) rfl ?_
               refine x_v (r_as rfl) rfl ?_
               refine XL.nil ?_
               exact ⟨false, (by rw [ck5 hc7]; exact (decide_eq_false (fun h => hg226 h.2.2.2.1)).symm), ⟨rfl, trivial⟩, gS⟩
             ·refine x_unwant rfl rfl rfl rfl rfl ?_
              refine x_unwant rfl rfl rfl rfl rfl ?_
              refine x_unwant rfl rfl rfl rfl rfl ?_
              refine x_unwant rfl rfl rfl rfl rfl ?_
              refine x_unwant rfl rfl rfl rfl rfl ?_
              refine x_v (r_pk_f rfl rfl) rfl ?_
              refine x_v (r_mv rfl) rfl ?_
              refine x_unwant rfl rfl rfl rfl rfl ?_
              refine x_unwant rfl rfl rfl rfl rfl ?_
              refine x_unwant rfl rfl rfl rfl rfl ?_
              refine x_v (r_pk_f rfl rfl) rfl ?_
              refine x_v (r_mv rfl) rfl ?_
              refine x_unwant rfl rfl rfl rfl rfl ?_
              refine x_unwant rfl rfl rfl rfl rfl ?_
              refine x_unwant rfl rfl rfl rfl rfl ?_
              refine x_v (r_pk_f rfl rfl) rfl ?_
              refine x_v (r_mv rfl) rfl ?_
              refine x_unwant rfl rfl rfl rfl rfl ?_
              refine x_unwant rfl rfl rfl rfl rfl ?_
              refine x_unwant rfl rfl rfl rfl rfl ?_
              refine x_v (r_pk_f rfl rfl) rfl ?_
              refine x_v (r_mv rfl) rfl ?_
              refine x_unwant rfl rfl rfl rfl rfl ?_
              refine x_unwant rfl rfl rfl rfl rfl ?_
              refine x_unwant rfl rfl rfl rfl rfl ?_
              refine x_unwant rfl rfl rfl rfl rfl ?_
              refine x_unwant rfl rfl rfl rfl rfl ?_
              refine x_v (r_pk_f rfl rfl) rfl ?_
              refine x_v (r_as rfl) rfl ?_
              refine XL.nil ?_
              exact ⟨false, (by rw [ck5 hc7]; exact (decide_eq_false (fun h => hg219 h.2.2.1)).symm), ⟨rfl, trivial⟩, gS⟩
            ·refine x_unwant rfl rfl rfl rfl rfl ?_
             refine x_unwant rfl rfl rfl rfl rfl ?_
             refine x_unwant rfl rfl rfl rfl rfl ?_
             refine x_v (r_pk_f rfl rfl) rfl ?_
             refine x_v (r_mv rfl) rfl ?_
             refine x_unwant rfl rfl rfl rfl rfl ?_
             refine x_unwant rfl rfl rfl rfl rfl ?_
             refine x_unwant rfl rfl rfl rfl rfl ?_
             refine x_unwant rfl rfl rfl rfl rfl ?_
             refine x_unwant rfl rfl rfl rfl rfl ?_
             refine x_v (r_pk_f rfl rfl) rfl ?_
             refine x_v (r_mv rfl) rfl ?_
             refine x_unwant rfl rfl rfl rfl rfl ?_
             refine x_unwant rfl rfl rfl rfl rfl ?_
             refine x_unwant rfl rfl rfl rfl rfl ?_
             refine x_v (r_pk_f rfl rfl) rfl ?_
             refine x_v (r_mv rfl) rfl ?_
             refine x_unwant rfl rfl rfl rfl rfl ?_
             refine x_unwant rfl rfl rfl rfl rfl ?_
             refine x_unwant rfl rfl rfl rfl rfl ?_
             refine x_v (r_pk_f rfl rfl) rfl ?_
             refine x_v (r_mv rfl) rfl ?_
             refine x_unwant rfl rfl rfl rfl rfl ?_
             refine x_unwant rfl rfl rfl rfl rfl ?_
             refine x_unwant rfl rfl rfl rfl rfl ?_
             refine x_v (r_pk_f rfl rfl) rfl ?_
             refine x_v (r_mv rfl) rfl ?_
             refine x_unwant rfl rfl rfl rfl rfl ?_
             refine x_unwant rfl rfl rfl rfl rfl ?_
             refine x_unwant rfl rfl rfl rfl rfl ?_
             refine x_unwant rfl rfl rfl rfl rfl ?_
             refine x_unwant rfl rfl rfl rfl rfl ?_
             refine x_v (r_pk_f rfl rfl) rfl ?_
             refine x_v (r_as rfl) rfl ?_
             refine XL.nil ?_
             exact ⟨false, (by rw [ck5 hc7]; exact (decide_eq_false (fun h => hg214 (by have := h.2.1; omega))).symm), ⟨rfl, trivial⟩, gS⟩
           ·refine x_unwant rfl rfl rfl rfl rfl ?_
            refine x_unwant rfl rfl rfl rfl rfl ?_
            refine x_unwant rfl rfl rfl rfl rfl ?_
            refine x_unwant rfl rfl rfl rfl rfl ?_
            refine x_v (r_pk_f rfl rfl) rfl ?_
            refine x_v (r_mv rfl) rfl ?_
            refine x_unwant rfl rfl rfl rfl rfl ?_
            refine x_unwant rfl rfl rfl rfl rfl ?_
            refine x_unwant rfl rfl rfl rfl rfl ?_
            refine x_v (r_pk_f rfl rfl) rfl ?_
            refine x_v (r_mv rfl) rfl ?_
            refine x_unwant rfl rfl rfl rfl rfl ?_
            refine x_unwant rfl rfl rfl rfl rfl ?_
            refine x_unwant rfl rfl rfl rfl rfl ?_
            refine x_unwant rfl rfl rfl rfl rfl ?_
            refine x_unwant rfl rfl rfl rfl rfl ?_
            refine x_v (r_pk_f rfl rfl) rfl ?_
            refine x_v (r_mv rfl) rfl ?_
            refine x_unwant rfl rfl rfl rfl rfl ?_
            refine x_unwant rfl rfl rfl rfl rfl ?_
            refine x_unwant rfl rfl rfl rfl rfl ?_
            refine x_v (r_pk_f rfl rfl) rfl ?_
            refine x_v (r_mv rfl) rfl ?_
            refine x_unwant rfl rfl rfl rfl rfl ?_
            refine x_unwant rfl rfl rfl rfl rfl ?_
            refine x_unwant rfl rfl rfl rfl rfl ?_
            refine x_v (r_pk_f rfl rfl) rfl ?_
            refine x_v (r_mv rfl) rfl ?_
            refine x_unwant rfl rfl rfl rfl rfl ?_
            refine x_unwant rfl rfl rfl rfl rfl ?_
            refine x_unwant rfl rfl rfl rfl rfl ?_
            refine x_v (r_pk_f rfl rfl) rfl ?_
            refine x_v (r_mv rfl) rfl ?_
            refine x_unwant rfl rfl rfl rfl rfl ?_
            refine x_unwant rfl rfl rfl rfl rfl ?_
            refine x_unwant rfl rfl rfl rfl rfl ?_
            refine x_unwant rfl rfl rfl rfl rfl ?_
            refine x_unwant rfl rfl rfl rfl rfl ?_
            refine x_v (r_pk_f rfl rfl) rfl ?_
            refine x_v (r_as rfl) rfl ?_
            refine XL.nil ?_
            exact ⟨false, (by rw [ck5 hc7]; exact (decide_eq_false (fun h => hg208 h.1)).symm), ⟨rfl, trivial⟩, gS⟩
          ·refine XC.skip ?_
           exact ⟨false, (ckn hc1 hc2 hc3 hc4 hc6 hc7).symm, ⟨rfl, trivial⟩, gS⟩
    ·rintro gk hgk
     refine XC.seq fun K23 hK23 => ?_
     refine XC.seq fun K24 hK24 => ?_
     refine XC.region ?_
     refine x_v (r_mv rfl) rfl ?_
     refine x_v (r_not rfl) rfl ?_
     refine XL.nil ?_
     refine hK24 _ _ ?_
     refine XC.keep [(249, _)] ⟨rfl, trivial⟩ ?_
     refine XC.cond rfl (fun hc8 => ?_) (fun hc8 => ?_)
     ·refine XC.seq fun K25 hK25 => ?_
      refine XC.region ?_
      refine x_v (r_as rfl) rfl ?_
      refine XL.nil ?_
      refine hK25 _ _ ?_
      refine XC.keep [(2, _)] ⟨rfl, trivial⟩ ?_
      refine XC.ret ?_
      rw [← hgk, if_neg (by (cases gk with | false => decide | true => cases hc8))]
      exact fin1 rfl (⟨rfl, rfl⟩) gS
     ·refine XC.skip ?_
      refine hK23 _ _ ?_
      refine XC.keep [] trivial ?_
      refine XC.seq fun K26 hK26 => ?_
      refine XC.region ?_
      refine x_v (r_as rfl) rfl ?_
      refine XL.nil ?_
      refine hK26 _ _ ?_
      refine XC.keep [(2, _)] ⟨rfl, trivial⟩ ?_
      refine XC.ret ?_
      rw [← hgk, if_pos (by (cases gk with | false => cases hc8 | true => rfl))]
      exact fin1 rfl (⟨rfl, rfl⟩) gS
end Go.Proofs.Ytheilpcbilnadaa

/- Crowns: operations that may be. -/
import Derived.Test.YtheilpcbilnadaaCrown14
namespace Go.Proofs.Ytheilpcbilnadaa
open Go.Sx
set_option linter.unusedVariables false

theorem h32_no {hs : List (List UInt8)} {i : Nat} {h : List UInt8} (hh : hs[i]? = some h) (hn : ¬ h.length = 32) : h32 hs = false := by
 cases hb : h32 hs with
 | false => rfl
 | true =>
  unfold h32 at hb
  exact absurd (of_decide_eq_true (List.all_eq_true.1 hb h (List.mem_of_getElem? hh))) hn
theorem wsheet_tr {W0 : World} {Fr : List HP} {k : HP} (z : Int) (A : Option Addr) (c : Nat) (hs : List (List UInt8)) (hr : Rdb W0 [k] A hs.length 1 (cells sv1 hs)) (hl : hs.length * 16 ≤ 140737488355328) : Tr W0 Try.prog 89 [.agg #[.int .i64 z, .slice A hs.length c]] (k :: Fr) (fun v Rs' => v = .bool (shOk z hs) ∧ Rs' = k :: Fr) := by
 refine Entry.tr (N := 35) (rs := [.tmp 2]) ⟨_, Try.func89, rfl, by kernel_rfl, rfl, rfl⟩ rfl ?_
 refine XC.seq fun K1 hK1 => ?_
 refine XC.region ?_
 refine x_a (r_bx rfl rfl) rfl fun b1 => ?_
 refine x_v (r_as rfl) rfl ?_
 refine XL.nil ?_
 refine hK1 _ _ ?_
 refine XC.keep [(1, _)] ⟨rfl, trivial⟩ ?_
 refine XC.seq fun K2 hK2 => ?_
 refine XC.seq fun K3 hK3 => ?_
 refine XC.draw [blk b1 37 [.int .i64 z, .slice A hs.length c]] false [(0, false), (1, false), (2, false), (3, false), (4, false), (5, false), (6, false), (7, false), (8, false), (9, false), (10, false), (11, false), (12, false), (13, false), (14, true), (15, false), (16, false)] (by kernel_rfl) (by kernel_rfl) ?_
 refine y_v rfl (r_fa fo37_0 rfl) gT rfl ?_
 refine y_v rfl (r_ld ty3 rfl pK (by rfl)) gT rfl ?_
 refine y_v rfl (r_lt rfl rfl) gT rfl ?_
 refine y_v rfl (r_mv rfl) gT rfl ?_
 refine XH.splitd 7 rfl (fun hg7 => ?_) (fun hg7 => ?_)
 ·refine y_un rfl rfl rfl (fun _ h => Gets.own gS h) rfl ?_
  refine y_un rfl rfl rfl (fun _ h => Gets.own gS h) rfl ?_
  refine y_un rfl rfl rfl (fun _ h => Gets.own gS h) rfl ?_
  refine y_v rfl (r_pk_t rfl rfl) gT rfl ?_
  refine y_v rfl (r_mv rfl) gT rfl ?_
  refine y_un rfl rfl rfl (fun _ h => Gets.own gS h) rfl ?_
  refine y_un rfl rfl rfl (fun _ h => Gets.own gS h) rfl ?_
  refine y_un rfl rfl rfl (fun _ h => Gets.own gS h) rfl ?_
  refine y_un rfl rfl rfl (fun _ h => Gets.own gS h) rfl ?_
  refine y_un rfl rfl rfl (fun _ h => Gets.own gS h) rfl ?_
  refine y_unl rfl rfl rfl (fun _ h => Gets.own gS h) rfl ?_
  refine y_un rfl rfl rfl (fun _ h => Gets.own gS h) rfl ?_
  refine y_v rfl (r_pk_t rfl rfl) gT rfl ?_
  refine XH.nil ?_
  refine hK3 _ _ ?_
  refine XC.keep [(1, _), (20, _)] ⟨rfl, rfl, trivial⟩ ?_
  refine XC.cond_t rfl ?_
  refine XC.seq fun K4 hK4 => ?_
  refine XC.region ?_
  refine x_v (r_as rfl) rfl ?_
  refine XL.nil ?_
  refine hK4 _ _ ?_
  refine XC.keep [(2, _)] ⟨rfl, trivial⟩ ?_
  refine XC.ret ?_
  exact fin1 rfl (⟨congrArg Value.bool (by unfold shOk; rw [decide_eq_false (by unfold shA; omega)]; rfl), rfl⟩) gS
 ·refine y_vg rfl rfl rfl (r_fa fo37_0 rfl) gT rfl ?_
  refine y_vg rfl rfl rfl (r_ld ty3 rfl pK (by rfl)) gT rfl ?_
  refine y_vg rfl rfl rfl (r_gt rfl rfl) gT rfl ?_
  refine y_v rfl (r_pk_f rfl rfl) gT rfl ?_
  refine y_v rfl (r_mv rfl) gT rfl ?_
  refine XH.splitd 12 rfl (fun hg12 => ?_) (fun hg12 => ?_)
  ·refine y_un rfl rfl rfl (fun _ h => Gets.own gS h) rfl ?_
   refine y_un rfl rfl rfl (fun _ h => Gets.own gS h) rfl ?_
   refine y_un rfl rfl rfl (fun _ h => Gets.own gS h) rfl ?_
   refine y_un rfl rfl rfl (fun _ h => Gets.own gS h) rfl ?_
   refine y_un rfl rfl rfl (fun _ h => Gets.own gS h) rfl ?_
   refine y_unl rfl rfl rfl (fun _ h => Gets.own gS h) rfl ?_
   refine y_un rfl rfl rfl (fun _ h => Gets.own gS h) rfl ?_
   refine y_v rfl (r_pk_t rfl rfl) gT rfl ?_
   refine XH.nil ?_
   refine hK3 _ _ ?_
   refine XC.keep [(1, _), (20, _)] ⟨rfl, rfl, trivial⟩ ?_
   refine XC.cond_t rfl ?_
   refine XC.seq fun K5 hK5 => ?_
   refine XC.region ?_
   refine x_v (r_as rfl) rfl ?_
   refine XL.nil ?_
   refine hK5 _ _ ?_
   refine XC.keep [(2, _)] ⟨rfl, trivial⟩ ?_
   refine XC.ret ?_
   exact fin1 rfl (⟨congrArg Value.bool (by unfold shOk; rw [decide_eq_false (by unfold shA; omega)]; rfl), rfl⟩) gS
  ·refine y_vg rfl rfl rfl (r_fa fo37_1 rfl) gT rfl ?_
   refine y_vg rfl rfl rfl (r_ld ty29 rfl pK (by rfl)) gT rfl ?_
   refine y_vg rfl rfl rfl (r_lensl Try.underlying29 rfl) gT rfl ?_
   refine y_vg rfl rfl rfl (r_fa fo37_0 rfl) gT rfl ?_
   refine y_vg rfl rfl rfl (r_ld ty3 rfl pK (by rfl)) gT rfl ?_
   refine y_cg rfl rfl rfl (r_call0 (args := [_]) ⟨rfl, rfl⟩ (wcount_tr z (by omega)) gS) (by rintro _ _ _ _ ⟨rfl, rfl⟩ h; exact Gets.own gS h) rfl ?_
   rintro _ _ ⟨rfl, rfl⟩
   refine y_vg rfl rfl rfl (r_ne rfl rfl) gT rfl ?_
   refine y_v rfl (r_pk_f rfl rfl) gT rfl ?_
   refine XH.nil ?_
   refine hK3 _ _ ?_
   refine XC.keep [(1, _), (20, _)] ⟨rfl, rfl, trivial⟩ ?_
   refine XC.cond_d rfl (fun hc3 => ?_) (fun hc3 => ?_)
   ·refine XC.seq fun K6 hK6 => ?_
    refine XC.region ?_
    refine x_v (r_as rfl) rfl ?_
    refine XL.nil ?_
    refine hK6 _ _ ?_
    refine XC.keep [(2, _)] ⟨rfl, trivial⟩ ?_
    refine XC.ret ?_
    exact fin1 rfl (⟨congrArg Value.bool (by unfold shOk; rw [decide_eq_false (by unfold shA; omega)]; rfl), rfl⟩) gS
   ·refine XC.skip ?_
    refine hK2 _ _ ?_
    refine XC.keep [(1, _)] ⟨rfl, trivial⟩ ?_
    refine XC.seq fun K7 hK7 => ?_
    refine XC.seq fun K8 hK8 => ?_
    have hA : shA z hs := by unfold shA; omega
    refine XC.region ?_
    refine x_v (r_as rfl) rfl ?_
    refine XL.nil ?_
    refine hK8 _ _ ?_
    refine XC.keep [(1, _), (3, _)] ⟨rfl, rfl, trivial⟩ ?_
    refine XC.block ?_
    refine XC.loop (σ := Nat) (fun s => [(1, .pointer (some ⟨b1, 0, none⟩)), (3, .int .i64 (s : Int))]) (fun s => blk b1 37 [.int .i64 z, .slice A hs.length c] :: k :: Fr) (fun s => s ≤ hs.length ∧ h32 (hs.take s) = true) (fun s => hs.length - s) 0 ?_ ⟨rfl, rfl, trivial⟩ gS ?_
    ·exact ⟨Nat.zero_le _, by unfold h32; simp⟩
    rintro i ⟨hi, hg⟩
    refine XC.seq fun K9 hK9 => ?_
    refine XC.seq fun K10 hK10 => ?_
    refine XC.region ?_
    refine x_v (r_mv rfl) rfl ?_
    refine x_v (r_fa fo37_1 rfl) rfl ?_
    refine x_v (r_ld ty29 rfl pK (by rfl)) rfl ?_
    refine x_v (r_lensl Try.underlying29 rfl) rfl ?_
    refine x_v (r_lt rfl rfl) rfl ?_
    refine XL.nil ?_
    refine hK10 _ _ ?_
    refine XC.keep [(1, _), (3, _), (25, _)] ⟨rfl, rfl, rfl, trivial⟩ ?_
    refine XC.cond_d rfl (fun hc4 => ?_) (fun hc4 => ?_)
    ·refine XC.skip ?_
     refine hK9 _ _ ?_
     refine XC.keep [(1, _), (3, _)] ⟨rfl, rfl, trivial⟩ ?_
     refine XC.seq fun K11 hK11 => ?_
     refine XC.block ?_
     refine XC.seq fun K12 hK12 => ?_
     obtain ⟨h, hh⟩ : ∃ h, hs[i]? = some h := ⟨_, List.getElem?_eq_getElem (by omega)⟩
     obtain ⟨ob, oo, rfl, hat⟩ := hr.at_ (by omega)
     refine XC.region ?_
     refine x_v (r_fa fo37_1 rfl) rfl ?_
     refine x_v (r_ld ty29 rfl pK (by rfl)) rfl ?_
     refine x_v (r_mv rfl) rfl ?_
     refine x_v (r_ia (k := i) Try.underlying29 ty9 rfl rfl (by omega) (by omega)) rfl ?_
     refine x_v (r_ldr (v := str h) ty9 rfl (fun w hw => hat w (Gets.own gS hw) (i * 1) _ (by rw [cells_get_z hh]))) rfl ?_
     refine x_v (r_lens Try.underlying9 rfl) rfl ?_
     refine x_v (r_ne rfl rfl) rfl ?_
     refine XL.nil ?_
     refine hK12 _ _ ?_
     refine XC.keep [(1, _), (3, _), (34, _)] ⟨rfl, rfl, rfl, trivial⟩ ?_
     refine XC.cond_d rfl (fun hc5 => ?_) (fun hc5 => ?_)
     ·refine XC.seq fun K13 hK13 => ?_
      refine XC.region ?_
      refine x_v (r_as rfl) rfl ?_
      refine XL.nil ?_
      refine hK13 _ _ ?_
      refine XC.keep [(2, _)] ⟨rfl, trivial⟩ ?_
      refine XC.ret ?_
      exact fin1 rfl (⟨congrArg Value.bool (by unfold shOk; rw [h32_no hh (by omega), Bool.and_false]), rfl⟩) gS
     ·refine XC.skip ?_
      refine hK11 _ _ ?_
      refine XC.keep [(1, _), (3, _)] ⟨rfl, rfl, trivial⟩ ?_
      refine XC.region ?_
      refine x_v (r_mv rfl) rfl ?_
      refine x_v (r_add rfl rfl (by omega)) rfl ?_
      refine x_v (r_as rfl) rfl ?_
      refine XL.nil ?_
      refine ⟨i + 1, ?_, ?_, ⟨rfl, rfl, trivial⟩, gS⟩
      ·exact ⟨by omega, by rw [h32_snoc hh, hg, Bool.true_and, decide_eq_true_eq]; omega⟩
      ·omega
    ·refine XC.exit rfl ?_
     refine hK7 _ _ ?_
     refine XC.keep [] trivial ?_
     refine XC.seq fun K14 hK14 => ?_
     refine XC.region ?_
     refine x_v (r_as rfl) rfl ?_
     refine XL.nil ?_
     refine hK14 _ _ ?_
     refine XC.keep [(2, _)] ⟨rfl, trivial⟩ ?_
     refine XC.ret ?_
     exact fin1 rfl (⟨congrArg Value.bool (by rw [List.take_of_length_le (by omega)] at hg; unfold shOk; rw [decide_eq_true hA, hg]; rfl), rfl⟩) gS

def OwnP (o : Pop) : Prop := 0 ≤ o.client ∧ o.client < 8 ∧ 1 ≤ o.seq ∧ o.seq ≤ 1099511627776 ∧ o.name ≠ [] ∧ o.name.length ≤ 16
instance (o : Pop) : Decidable (OwnP o) := by unfold OwnP; infer_instance
def opA (o : Pop) : Prop := 1 ≤ o.n ∧ o.n ≤ 80 ∧ Reigned o.epoch o.site
instance (o : Pop) : Decidable (opA o) := by unfold opA; infer_instance
def BlankP (o : Pop) : Prop := o.client = 0 ∧ o.seq = 0 ∧ o.name = [] ∧ o.size = 0 ∧ o.hs.length = 0
instance (o : Pop) : Decidable (BlankP o) := by unfold BlankP; infer_instance
/-- An operation may be. -/
def opOk (o : Pop) : Bool := decide (opA o) && (if o.kind = 1 then decide (OwnP o) && shOk o.size o.hs else if o.kind = 2 then decide (OwnP o ∧ o.size = 0 ∧ o.hs.length = 0) else if o.kind = 3 then decide (BlankP o) else false)
section
variable {o : Pop}
theorem opOk_no (h : ¬ opA o) : opOk o = false := by unfold opOk; rw [decide_eq_false h]; rfl
theorem opOk1 (hk : o.kind = 1) (ha : opA o) (ho : OwnP o) : opOk o = shOk o.size o.hs := by unfold opOk; rw [decide_eq_true ha, if_pos hk, decide_eq_true ho]; rfl
theorem opOk1n (hk : o.kind = 1) (ho : ¬ OwnP o) : opOk o = false := by unfold opOk; rw [if_pos hk, decide_eq_false (p := OwnP o) ho]; simp
theorem opOk2 (hk : o.kind = 2) (ha : opA o) : opOk o = decide (OwnP o ∧ o.size = 0 ∧ o.hs.length = 0) := by unfold opOk; rw [decide_eq_true ha, if_neg (by omega), if_pos hk]; rfl
theorem opOk2n (hk : o.kind = 2) (ho : ¬ OwnP o) : opOk o = false := by unfold opOk; rw [if_neg (by omega), if_pos hk, decide_eq_false (p := OwnP o ∧ o.size = 0 ∧ o.hs.length = 0) (fun h => ho h.1)]; simp
theorem opOk3 (hk : o.kind = 3) (ha : opA o) : opOk o = decide (BlankP o) := by unfold opOk; rw [decide_eq_true ha, if_neg (by omega), if_neg (by omega), if_pos hk]; rfl
theorem opOkn (h1 : ¬ o.kind = 1) (h2 : ¬ o.kind = 2) (h3 : ¬ o.kind = 3) : opOk o = false := by unfold opOk; rw [if_neg h1, if_neg h2, if_neg h3]; simp
theorem opOk_nown (h3 : ¬ o.kind = 3) (ho : ¬ OwnP o) : opOk o = false := by
 by_cases h1 : o.kind = 1
 ·exact opOk1n h1 ho
 ·by_cases h2 : o.kind = 2
  ·exact opOk2n h2 ho
  ·exact opOkn h1 h2 h3
end
theorem if03 (b : Bool) : decide ((if b = true then (0 : Int) else 3) = 0) = b := by cases b <;> rfl
theorem checkop_tr {W0 : World} {Fr : List HP} {k : HP} (o : Od) (hro : RdO W0 k o) : Tr W0 Try.prog 67 [.agg (odc o).toArray] (k :: Fr) (fun v Rs' => v = .int .i64 (if opOk o.1 = true then 0 else 3) ∧ Rs' = k :: Fr) := by
 refine Entry.tr (N := 83) (rs := [.tmp 2]) ⟨_, Try.func67, rfl, by kernel_rfl, rfl, rfl⟩ rfl ?_
 refine XC.seq fun K1 hK1 => ?_
 refine XC.region ?_
 refine x_a (r_bx rfl rfl) rfl fun b1 => ?_
 rw [odc_def o]
 refine x_v (r_as rfl) rfl ?_
 refine XL.nil ?_
 refine hK1 _ _ ?_
 refine XC.keep [(1, _)] ⟨rfl, trivial⟩ ?_
 refine XC.seqcut (σ := Bool) (fun s => [(1, .pointer (some ⟨b1, 0, none⟩)), (3, .bool s)]) (fun s => blk b1 39 [.int .i64 o.1.n, .int .i64 o.1.epoch, .int .i64 o.1.kind, .int .i64 o.1.site, .int .i64 o.1.client, .int .i64 o.1.seq, str o.1.name, .int .i64 o.1.size, .slice o.2.1 o.1.hs.length o.2.2] :: k :: Fr) (fun s => s = decide (opA o.1)) ?_ ?_
 ·refine XC.region ?_
  refine x_v (r_fa fo39_0 rfl) rfl ?_
  refine x_v (r_ld ty3 rfl pK (by rfl)) rfl ?_
  refine x_v (r_ge rfl rfl) rfl ?_
  refine x_v (r_mv rfl) rfl ?_
  refine XL.splitd 8 rfl (fun hg8 => ?_) (fun hg8 => ?_)
  ·refine x_want rfl rfl rfl ?_
   refine x_v (r_fa fo39_0 rfl) rfl ?_
   refine x_want rfl rfl rfl ?_
   refine x_v (r_ld ty3 rfl pK (by rfl)) rfl ?_
   refine x_want rfl rfl rfl ?_
   refine x_v (r_le rfl rfl) rfl ?_
   refine x_v (r_pk_t rfl rfl) rfl ?_
   refine x_v (r_mv rfl) rfl ?_
   refine XL.splitd 13 rfl (fun hg13 => ?_) (fun hg13 => ?_)
   ·refine x_want rfl rfl rfl ?_
    refine x_v (r_fa fo39_1 rfl) rfl ?_
    refine x_want rfl rfl rfl ?_
    refine x_v (r_ld ty3 rfl pK (by rfl)) rfl ?_
    refine x_want rfl rfl rfl ?_
    refine x_v (r_fa fo39_3 rfl) rfl ?_
    refine x_want rfl rfl rfl ?_
    refine x_v (r_ld ty3 rfl pK (by rfl)) rfl ?_
    refine x_want rfl rfl rfl ?_
    refine x_c (r_call0 (args := [_, _]) ⟨rfl, rfl, rfl⟩ (reigned_tr o.1.epoch o.1.site) gS) rfl ?_
    rintro _ _ ⟨rfl, rfl⟩
    refine x_v (r_pk_t rfl rfl) rfl ?_
    refine x_v (r_as rfl) rfl ?_
    refine XL.nil ?_
    exact ⟨decide (Reigned o.1.epoch o.1.site), decide_eq_decide.2 ⟨fun h => ⟨by omega, by omega, h⟩, fun h => h.2.2⟩, ⟨rfl, rfl, trivial⟩, gS⟩
   ·refine x_unwant rfl rfl rfl rfl rfl ?_
    refine x_unwant rfl rfl rfl rfl rfl ?_
    refine x_unwant rfl rfl rfl rfl rfl ?_
    refine x_unwant rfl rfl rfl rfl rfl ?_
    refine x_unwant rfl rfl rfl rfl rfl ?_
    refine x_v (r_pk_f rfl rfl) rfl ?_
    refine x_v (r_as rfl) rfl ?_
    refine XL.nil ?_
    exact ⟨false, (decide_eq_false (fun h => by have := h.1; have := h.2.1; omega)).symm, ⟨rfl, rfl, trivial⟩, gS⟩
  ·refine x_unwant rfl rfl rfl rfl rfl ?_
   refine x_unwant rfl rfl rfl rfl rfl ?_
   refine x_unwant rfl rfl rfl rfl rfl ?_
   refine x_v (r_pk_f rfl rfl) rfl ?_
   refine x_v (r_mv rfl) rfl ?_
   refine x_unwant rfl rfl rfl rfl rfl ?_
   refine x_unwant rfl rfl rfl rfl rfl ?_
   refine x_unwant rfl rfl rfl rfl rfl ?_
   refine x_unwant rfl rfl rfl rfl rfl ?_
   refine x_unwant rfl rfl rfl rfl rfl ?_
   refine x_v (r_pk_f rfl rfl) rfl ?_
   refine x_v (r_as rfl) rfl ?_
   refine XL.nil ?_
   exact ⟨false, (decide_eq_false (fun h => by have := h.1; have := h.2.1; omega)).symm, ⟨rfl, rfl, trivial⟩, gS⟩
 ·rintro gA hgA
  subst hgA
  refine XC.seqcut (σ := Bool) (fun s => [(1, .pointer (some ⟨b1, 0, none⟩)), (3, .bool (decide (opA o.1))), (4, .bool s)]) (fun s => blk b1 39 [.int .i64 o.1.n, .int .i64 o.1.epoch, .int .i64 o.1.kind, .int .i64 o.1.site, .int .i64 o.1.client, .int .i64 o.1.seq, str o.1.name, .int .i64 o.1.size, .slice o.2.1 o.1.hs.length o.2.2] :: k :: Fr) (fun s => s = decide (OwnP o.1)) ?_ ?_
  ·refine XC.region ?_
   refine x_v (r_fa fo39_4 rfl) rfl ?_
   refine x_v (r_ld ty3 rfl pK (by rfl)) rfl ?_
   refine x_v (r_ge rfl rfl) rfl ?_
   refine x_v (r_mv rfl) rfl ?_
   refine XL.splitd 23 rfl (fun hg23 => ?_) (fun hg23 => ?_)
   ·refine x_want rfl rfl rfl ?_
    refine x_v (r_fa fo39_4 rfl) rfl ?_
    refine x_want rfl rfl rfl ?_
    refine x_v (r_ld ty3 rfl pK (by rfl)) rfl ?_
    refine x_want rfl rfl rfl ?_
    refine x_v (r_lt rfl rfl) rfl ?_
    refine x_v (r_pk_t rfl rfl) rfl ?_
    refine x_v (r_mv rfl) rfl ?_
    refine XL.splitd 28 rfl (fun hg28 => ?_) (fun hg28 => ?_)
    ·refine x_want rfl rfl rfl ?_
     refine x_v (r_fa fo39_5 rfl) rfl ?_
     refine x_want rfl rfl rfl ?_
     refine x_v (r_ld ty3 rfl pK (by rfl)) rfl ?_
     refine x_want rfl rfl rfl ?_
     refine x_v (r_ge rfl rfl) rfl ?_
     refine x_v (r_pk_t rfl rfl) rfl ?_
     refine x_v (r_mv rfl) rfl ?_
     refine XL.splitd 33 rfl (fun hg33 => ?_) (fun hg33 => ?_)
     ·refine x_want rfl rfl rfl ?_
      refine x_v (r_fa fo39_5 rfl) rfl ?_
      refine x_want rfl rfl rfl ?_
      refine x_v (r_ld ty3 rfl pK (by rfl)) rfl ?_
      refine x_want rfl rfl rfl ?_
      refine x_v (r_le rfl rfl) rfl ?_
      refine x_v (r_pk_t rfl rfl) rfl ?_
      refine x_v (r_mv rfl) rfl ?_
      refine XL.splitd 38 rfl (fun hg38 => ?_) (fun hg38 => ?_)
      ·refine x_want rfl rfl rfl ?_
       refine x_v (r_fa fo39_6 rfl) rfl ?_
       refine x_want rfl rfl rfl ?_
       refine x_v (r_ld ty9 rfl pK (by rfl)) rfl ?_
       refine x_want rfl rfl rfl ?_
       refine x_v (r_sne rfl rfl) rfl ?_
       refine x_v (r_pk_t rfl rfl) rfl ?_
       refine x_v (r_mv rfl) rfl ?_
       refine XL.splitd 43 rfl (fun hg43 => ?_) (fun hg43 => ?_)
       ·refine x_want rfl rfl rfl ?_
        refine x_v (r_fa fo39_6 rfl) rfl ?_
        refine x_want rfl rfl rfl ?_
        refine x_v (r_ld ty9 rfl pK (by rfl)) rfl ?_
        refine x_want rfl rfl rfl ?_
        refine x_v (r_lens Try.underlying9 rfl) rfl ?_
        refine x_want rfl rfl rfl ?_
        refine x_v (r_le rfl rfl) rfl ?_
        refine x_v (r_pk_t rfl rfl) rfl ?_
        refine x_v (r_as rfl) rfl ?_
        refine XL.nil ?_
        exact ⟨decide ((o.1.name.length : Int) ≤ 16), decide_eq_decide.2 ⟨fun h => ⟨by omega, by omega, by omega, by omega, hg43, by omega⟩, fun h => by have := h.2.2.2.2.2; omega⟩, ⟨rfl, rfl, rfl, trivial⟩, gS⟩
       ·refine x_unwant rfl rfl rfl rfl rfl ?_
        refine x_unwant rfl rfl rfl rfl rfl ?_
        refine x_unwant rfl rfl rfl rfl rfl ?_
        refine x_unwant rfl rfl rfl rfl rfl ?_
        refine x_v (r_pk_f rfl rfl) rfl ?_
        refine x_v (r_as rfl) rfl ?_
        refine XL.nil ?_
        exact ⟨false, (decide_eq_false (fun h => by obtain ⟨q1, q2, q3, q4, q5, q6⟩ := h; first | (exact hg43 q5) | omega)).symm, ⟨rfl, rfl, rfl, trivial⟩, gS⟩
      ·refine x_unwant rfl rfl rfl rfl rfl ?_
       refine x_unwant rfl rfl rfl rfl rfl ?_
       refine x_unwant rfl rfl rfl rfl rfl ?_
       refine x_v (r_pk_f rfl rfl) rfl ?_
       refine x_v (r_mv rfl) rfl ?_
       refine x_unwant rfl rfl rfl rfl rfl ?_
       refine x_unwant rfl rfl rfl rfl rfl ?_
       refine x_unwant rfl rfl rfl rfl rfl ?_
       refine x_unwant rfl rfl rfl rfl rfl ?_
       refine x_v (r_pk_f rfl rfl) rfl ?_
       refine x_v (r_as rfl) rfl ?_
       refine XL.nil ?_
       exact ⟨false, (decide_eq_false (fun h => by obtain ⟨q1, q2, q3, q4, q5, q6⟩ := h; first | (exact hg43 q5) | omega)).symm, ⟨rfl, rfl, rfl, trivial⟩, gS⟩
     ·refine x_unwant rfl rfl rfl rfl rfl ?_
      refine x_unwant rfl rfl rfl rfl rfl ?_
      refine x_unwant rfl rfl rfl rfl rfl ?_
      refine x_v (r_pk_f rfl rfl) rfl ?_
      refine x_v (r_mv rfl) rfl ?_
      refine x_unwant rfl rfl rfl rfl rfl ?_
      refine x_unwant rfl rfl rfl rfl rfl ?_
      refine x_unwant rfl rfl rfl rfl rfl ?_
      refine x_v (r_pk_f rfl rfl) rfl ?_
      refine x_v (r_mv rfl) rfl ?_
      refine x_unwant rfl rfl rfl rfl rfl ?_
      refine x_unwant rfl rfl rfl rfl rfl ?_
      refine x_unwant rfl rfl rfl rfl rfl ?_
      refine x_unwant rfl rfl rfl rfl rfl ?_
      refine x_v (r_pk_f rfl rfl) rfl ?_
      refine x_v (r_as rfl) rfl ?_
      refine XL.nil ?_
      exact ⟨false, (decide_eq_false (fun h => by obtain ⟨q1, q2, q3, q4, q5, q6⟩ := h; first | (exact hg43 q5) | omega)).symm, ⟨rfl, rfl, rfl, trivial⟩, gS⟩
    ·refine x_unwant rfl rfl rfl rfl rfl ?_
     refine x_unwant rfl rfl rfl rfl rfl ?_
     refine x_unwant rfl rfl rfl rfl rfl ?_
     refine x_v (r_pk_f rfl rfl) rfl ?_
     refine x_v (r_mv rfl) rfl ?_
     refine x_unwant rfl rfl rfl rfl rfl ?_
     refine x_unwant rfl rfl rfl rfl rfl ?_
     refine x_unwant rfl rfl rfl rfl rfl ?_
     refine x_v (r_pk_f rfl rfl) rfl ?_
     refine x_v (r_mv rfl) rfl ?_
     refine x_unwant rfl rfl rfl rfl rfl ?_
     refine x_unwant rfl rfl rfl rfl rfl ?_
     refine x_unwant rfl rfl rfl rfl rfl ?_
     refine x_v (r_pk_f rfl rfl) rfl ?_
     refine x_v (r_mv rfl) rfl ?_
     refine x_unwant rfl rfl rfl rfl rfl ?_
     refine x_unwant rfl rfl rfl rfl rfl ?_
     refine x_unwant rfl rfl rfl rfl rfl ?_
     refine x_unwant rfl rfl rfl rfl rfl ?_
     refine x_v (r_pk_f rfl rfl) rfl ?_
     refine x_v (r_as rfl) rfl ?_
     refine XL.nil ?_
     exact ⟨false, (decide_eq_false (fun h => by obtain ⟨q1, q2, q3, q4, q5, q6⟩ := h; first | (exact hg43 q5) | omega)).symm, ⟨rfl, rfl, rfl, trivial⟩, gS⟩
   ·refine x_unwant rfl rfl rfl rfl rfl ?_
    refine x_unwant rfl rfl rfl rfl rfl ?_
    refine x_unwant rfl rfl rfl rfl rfl ?_
    refine x_v (r_pk_f rfl rfl) rfl ?_
    refine x_v (r_mv rfl) rfl ?_
    refine x_unwant rfl rfl rfl rfl rfl ?_
    refine x_unwant rfl rfl rfl rfl rfl ?_
    refine x_unwant rfl rfl rfl rfl rfl ?_
    refine x_v (r_pk_f rfl rfl) rfl ?_
    refine x_v (r_mv rfl) rfl ?_
    refine x_unwant rfl rfl rfl rfl rfl ?_
    refine x_unwant rfl rfl rfl rfl rfl ?_
    refine x_unwant rfl rfl rfl rfl rfl ?_
    refine x_v (r_pk_f rfl rfl) rfl ?_
    refine x_v (r_mv rfl) rfl ?_
    refine x_unwant rfl rfl rfl rfl rfl ?_
    refine x_unwant rfl rfl rfl rfl rfl ?_
    refine x_unwant rfl rfl rfl rfl rfl ?_
    refine x_v (r_pk_f rfl rfl) rfl ?_
    refine x_v (r_mv rfl) rfl ?_
    refine x_unwant rfl rfl rfl rfl rfl ?_
    refine x_unwant rfl rfl rfl rfl rfl ?_
    refine x_unwant rfl rfl rfl rfl rfl ?_
    refine x_unwant rfl rfl rfl rfl rfl ?_
    refine x_v (r_pk_f rfl rfl) rfl ?_
    refine x_v (r_as rfl) rfl ?_
    refine XL.nil ?_
    exact ⟨false, (decide_eq_false (fun h => by obtain ⟨q1, q2, q3, q4, q5, q6⟩ := h; first | (exact hg43 q5) | omega)).symm, ⟨rfl, rfl, rfl, trivial⟩, gS⟩
  ·rintro gO hgO
   subst hgO
   refine XC.seqcut (σ := Bool) (fun s => [(3, .bool s)]) (fun s => k :: Fr) (fun s => s = opOk o.1) ?_ ?_
   ·refine XC.seq fun K5 hK5 => ?_
    refine XC.region ?_
    refine x_v (r_fa fo39_2 rfl) rfl ?_
    refine x_v (r_ld ty3 rfl pK (by rfl)) rfl ?_
    refine XL.nil ?_
    refine hK5 _ _ ?_
    refine XC.keep [(1, _), (3, _), (4, _), (50, _)] ⟨rfl, rfl, rfl, rfl, trivial⟩ ?_
    refine XC.block ?_
    refine XC.seq fun K6 hK6 => ?_
    refine XC.region ?_
    refine x_v (r_eq rfl rfl) rfl ?_
    refine x_v (r_as rfl) rfl ?_
    refine XL.nil ?_
    refine hK6 _ _ ?_
    refine XC.keep [(1, _), (3, _), (4, _), (50, _), (51, _)] ⟨rfl, rfl, rfl, rfl, rfl, trivial⟩ ?_
    refine XC.cond_d rfl (fun hc1 => ?_) (fun hc1 => ?_)
    ·refine XC.region ?_
     refine x_v (r_mv rfl) rfl ?_
     refine x_v (r_mv rfl) rfl ?_
     refine XL.splitd 54 rfl (fun hg54 => ?_) (fun hg54 => ?_)
     ·refine x_want rfl rfl rfl ?_
      refine x_v (r_mv rfl) rfl ?_
      refine x_v (r_pk_t rfl rfl) rfl ?_
      refine x_v (r_mv rfl) rfl ?_
      refine XL.splitd 57 rfl (fun hg57 => ?_) (fun hg57 => ?_)
      ·refine x_want rfl rfl rfl ?_
       refine x_v (r_fa fo39_7 rfl) rfl ?_
       refine x_want rfl rfl rfl ?_
       refine x_v (r_lda (l' := [_, _]) ty37 rfl pK rfl (Sub.get sU)) rfl ?_
       refine x_want rfl rfl rfl ?_
       refine x_c (r_call0 (args := [_]) ⟨rfl, rfl⟩ (sheet_tr (k := k) o.1.size o.2.1 o.2.2 o.1.hs hro.1 hro.2) gS) rfl ?_
       rintro _ _ ⟨rfl, rfl⟩
       refine x_want rfl rfl rfl ?_
       refine x_v (r_eq rfl rfl) rfl ?_
       refine x_v (r_pk_t rfl rfl) rfl ?_
       refine x_v (r_as rfl) rfl ?_
       refine XL.nil ?_
       exact ⟨decide ((if shOk o.1.size o.1.hs = true then (0 : Int) else 3) = 0), (by rw [if03, opOk1 hc1 hg54 hg57]), ⟨rfl, trivial⟩, gS⟩
      ·refine x_unwant rfl rfl rfl rfl rfl ?_
       refine x_unwant rfl rfl rfl rfl rfl ?_
       refine x_unwant rfl rfl rfl rfl rfl ?_
       refine x_unwant rfl rfl rfl rfl rfl ?_
       refine x_v (r_pk_f rfl rfl) rfl ?_
       refine x_v (r_as rfl) rfl ?_
       refine XL.nil ?_
       exact ⟨false, (opOk1n hc1 hg57).symm, ⟨rfl, trivial⟩, gS⟩
     ·refine x_unwant rfl rfl rfl rfl rfl ?_
      refine x_v (r_pk_f rfl rfl) rfl ?_
      refine x_v (r_mv rfl) rfl ?_
      refine x_unwant rfl rfl rfl rfl rfl ?_
      refine x_unwant rfl rfl rfl rfl rfl ?_
      refine x_unwant rfl rfl rfl rfl rfl ?_
      refine x_unwant rfl rfl rfl rfl rfl ?_
      refine x_v (r_pk_f rfl rfl) rfl ?_
      refine x_v (r_as rfl) rfl ?_
      refine XL.nil ?_
      exact ⟨false, (opOk_no hg54).symm, ⟨rfl, trivial⟩, gS⟩
    ·refine XC.seq fun K7 hK7 => ?_
     refine XC.region ?_
     refine x_v (r_eq rfl rfl) rfl ?_
     refine x_v (r_as rfl) rfl ?_
     refine XL.nil ?_
     refine hK7 _ _ ?_
     refine XC.keep [(1, _), (3, _), (4, _), (50, _), (63, _)] ⟨rfl, rfl, rfl, rfl, rfl, trivial⟩ ?_
     refine XC.cond_d rfl (fun hc2 => ?_) (fun hc2 => ?_)
     ·refine XC.region ?_
      refine x_v (r_mv rfl) rfl ?_
      refine x_v (r_mv rfl) rfl ?_
      refine XL.splitd 66 rfl (fun hg66 => ?_) (fun hg66 => ?_)
      ·refine x_want rfl rfl rfl ?_
       refine x_v (r_mv rfl) rfl ?_
       refine x_v (r_pk_t rfl rfl) rfl ?_
       refine x_v (r_mv rfl) rfl ?_
       refine XL.splitd 69 rfl (fun hg69 => ?_) (fun hg69 => ?_)
       ·refine x_want rfl rfl rfl ?_
        refine x_v (r_fa fo39_7 rfl) rfl ?_
        refine x_want rfl rfl rfl ?_
        refine x_v (r_lda (l' := [_, _]) ty37 rfl pK rfl (Sub.get sU)) rfl ?_
        refine x_want rfl rfl rfl ?_
        refine x_c (r_call0 (args := [_]) ⟨rfl, rfl⟩ (bare_tr o.1.size o.2.1 o.1.hs.length o.2.2) gS) rfl ?_
        rintro _ _ ⟨rfl, rfl⟩
        refine x_v (r_pk_t rfl rfl) rfl ?_
        refine x_v (r_as rfl) rfl ?_
        refine XL.nil ?_
        exact ⟨decide (o.1.size = 0 ∧ o.1.hs.length = 0), (by rw [opOk2 hc2 hg66]; exact decide_eq_decide.2 ⟨fun h => ⟨hg69, h⟩, fun h => h.2⟩), ⟨rfl, trivial⟩, gS⟩
       ·refine x_unwant rfl rfl rfl rfl rfl ?_
        refine x_unwant rfl rfl rfl rfl rfl ?_
        refine x_unwant rfl rfl rfl rfl rfl ?_
        refine x_v (r_pk_f rfl rfl) rfl ?_
        refine x_v (r_as rfl) rfl ?_
        refine XL.nil ?_
        exact ⟨false, (opOk2n hc2 hg69).symm, ⟨rfl, trivial⟩, gS⟩
      ·refine x_unwant rfl rfl rfl rfl rfl ?_
       refine x_v (r_pk_f rfl rfl) rfl ?_
       refine x_v (r_mv rfl) rfl ?_
       refine x_unwant rfl rfl rfl rfl rfl ?_
       refine x_unwant rfl rfl rfl rfl rfl ?_
       refine x_unwant rfl rfl rfl rfl rfl ?_
       refine x_v (r_pk_f rfl rfl) rfl ?_
       refine x_v (r_as rfl) rfl ?_
       refine XL.nil ?_
       exact ⟨false, (opOk_no hg66).symm, ⟨rfl, trivial⟩, gS⟩
     ·refine XC.seq fun K8 hK8 => ?_
      refine XC.region ?_
      refine x_v (r_eq rfl rfl) rfl ?_
      refine x_v (r_as rfl) rfl ?_
      refine XL.nil ?_
      refine hK8 _ _ ?_
      refine XC.keep [(1, _), (3, _), (74, _)] ⟨rfl, rfl, rfl, trivial⟩ ?_
      refine XC.cond_d rfl (fun hc3 => ?_) (fun hc3 => ?_)
      ·refine XC.region ?_
       refine x_v (r_mv rfl) rfl ?_
       refine x_v (r_mv rfl) rfl ?_
       refine XL.splitd 77 rfl (fun hg77 => ?_) (fun hg77 => ?_)
       ·refine x_want rfl rfl rfl ?_
        refine x_v (r_lda (l' := [_, _, _, _, _, _, _, _, _]) ty39 rfl pK rfl (Sub.get sU)) rfl ?_
        refine x_want rfl rfl rfl ?_
        refine x_c (r_call0 (args := [_]) ⟨rfl, rfl⟩ (blank_tr o) gS) rfl ?_
        rintro _ _ ⟨rfl, rfl⟩
        refine x_v (r_pk_t rfl rfl) rfl ?_
        refine x_v (r_as rfl) rfl ?_
        refine XL.nil ?_
        exact ⟨decide (Blank o), (opOk3 hc3 hg77).symm, ⟨rfl, trivial⟩, gS⟩
       ·refine x_unwant rfl rfl rfl rfl rfl ?_
        refine x_unwant rfl rfl rfl rfl rfl ?_
        refine x_v (r_pk_f rfl rfl) rfl ?_
        refine x_v (r_as rfl) rfl ?_
        refine XL.nil ?_
        exact ⟨false, (opOk_no hg77).symm, ⟨rfl, trivial⟩, gS⟩
      ·refine XC.region ?_
       refine x_v (r_as rfl) rfl ?_
       refine XL.nil ?_
       exact ⟨false, (opOkn hc1 hc2 hc3).symm, ⟨rfl, trivial⟩, gS⟩
   ·rintro gk hgk
    refine XC.seq fun K9 hK9 => ?_
    refine XC.seq fun K10 hK10 => ?_
    refine XC.region ?_
    refine x_v (r_mv rfl) rfl ?_
    refine x_v (r_not rfl) rfl ?_
    refine XL.nil ?_
    refine hK10 _ _ ?_
    refine XC.keep [(82, _)] ⟨rfl, trivial⟩ ?_
    refine XC.cond rfl (fun hc4 => ?_) (fun hc4 => ?_)
    ·refine XC.seq fun K11 hK11 => ?_
     refine XC.region ?_
     refine x_v (r_as rfl) rfl ?_
     refine XL.nil ?_
     refine hK11 _ _ ?_
     refine XC.keep [(2, _)] ⟨rfl, trivial⟩ ?_
     refine XC.ret ?_
     rw [← hgk, if_neg (by (cases gk with | false => decide | true => cases hc4))]
     exact fin1 rfl (⟨rfl, rfl⟩) gS
    ·refine XC.skip ?_
     refine hK9 _ _ ?_
     refine XC.keep [] trivial ?_
     refine XC.seq fun K12 hK12 => ?_
     refine XC.region ?_
     refine x_v (r_as rfl) rfl ?_
     refine XL.nil ?_
     refine hK12 _ _ ?_
     refine XC.keep [(2, _)] ⟨rfl, trivial⟩ ?_
     refine XC.ret ?_
     rw [← hgk, if_pos (by (cases gk with | false => cases hc4 | true => rfl))]
     exact fin1 rfl (⟨rfl, rfl⟩) gS
theorem zero_tr {W0 : World} {Fr : List HP} (o : Od) : Tr W0 Try.prog 76 [.agg (odc o).toArray] Fr (fun v Rs' => v = .bool (decide (BlankP o.1)) ∧ Rs' = Fr) := by
 refine Entry.tr (N := 29) (rs := [.tmp 2]) ⟨_, Try.func76, rfl, by kernel_rfl, rfl, rfl⟩ rfl ?_
 refine XC.seq fun K1 hK1 => ?_
 refine XC.region ?_
 refine x_a (r_bx rfl rfl) rfl fun b1 => ?_
 rw [odc_def o]
 refine x_v (r_as rfl) rfl ?_
 refine XL.nil ?_
 refine hK1 _ _ ?_
 refine XC.keep [(1, _)] ⟨rfl, trivial⟩ ?_
 refine XC.seq fun K2 hK2 => ?_
 refine XC.region ?_
 refine x_v (r_fa fo39_4 rfl) rfl ?_
 refine x_v (r_ld ty3 rfl pK (by rfl)) rfl ?_
 refine x_v (r_eq rfl rfl) rfl ?_
 refine x_v (r_mv rfl) rfl ?_
 refine XL.splitd 6 rfl (fun hg6 => ?_) (fun hg6 => ?_)
 ·refine x_want rfl rfl rfl ?_
  refine x_v (r_fa fo39_5 rfl) rfl ?_
  refine x_want rfl rfl rfl ?_
  refine x_v (r_ld ty3 rfl pK (by rfl)) rfl ?_
  refine x_want rfl rfl rfl ?_
  refine x_v (r_eq rfl rfl) rfl ?_
  refine x_v (r_pk_t rfl rfl) rfl ?_
  refine x_v (r_mv rfl) rfl ?_
  refine XL.splitd 11 rfl (fun hg11 => ?_) (fun hg11 => ?_)
  ·refine x_want rfl rfl rfl ?_
   refine x_v (r_fa fo39_6 rfl) rfl ?_
   refine x_want rfl rfl rfl ?_
   refine x_v (r_ld ty9 rfl pK (by rfl)) rfl ?_
   refine x_want rfl rfl rfl ?_
   refine x_v (r_seq rfl rfl) rfl ?_
   refine x_v (r_pk_t rfl rfl) rfl ?_
   refine x_v (r_mv rfl) rfl ?_
   refine XL.splitd 16 rfl (fun hg16 => ?_) (fun hg16 => ?_)
   ·refine x_want rfl rfl rfl ?_
    refine x_v (r_fa fo39_7 rfl) rfl ?_
    refine x_want rfl rfl rfl ?_
    refine x_v (r_fa fo37_0 rfl) rfl ?_
    refine x_want rfl rfl rfl ?_
    refine x_v (r_ld ty3 rfl pK (by rfl)) rfl ?_
    refine x_want rfl rfl rfl ?_
    refine x_v (r_eq rfl rfl) rfl ?_
    refine x_v (r_pk_t rfl rfl) rfl ?_
    refine x_v (r_mv rfl) rfl ?_
    refine XL.splitd 22 rfl (fun hg22 => ?_) (fun hg22 => ?_)
    ·refine x_want rfl rfl rfl ?_
     refine x_v (r_fa fo39_7 rfl) rfl ?_
     refine x_want rfl rfl rfl ?_
     refine x_v (r_fa fo37_1 rfl) rfl ?_
     refine x_want rfl rfl rfl ?_
     refine x_v (r_ld ty29 rfl pK (by rfl)) rfl ?_
     refine x_want rfl rfl rfl ?_
     refine x_v (r_lensl Try.underlying29 rfl) rfl ?_
     refine x_want rfl rfl rfl ?_
     refine x_v (r_eq rfl rfl) rfl ?_
     refine x_v (r_pk_t rfl rfl) rfl ?_
     refine x_v (r_as rfl) rfl ?_
     refine XL.nil ?_
     refine hK2 _ _ ?_
     refine XC.keep [(2, _)] ⟨rfl, trivial⟩ ?_
     refine XC.ret ?_
     exact fin1 rfl (⟨congrArg Value.bool (decide_eq_decide.2 ⟨fun q => ⟨hg6, hg11, hg16, hg22, by omega⟩, fun q => by have := q.2.2.2.2; omega⟩), rfl⟩) gS
    ·refine x_unwant rfl rfl rfl rfl rfl ?_
     refine x_unwant rfl rfl rfl rfl rfl ?_
     refine x_unwant rfl rfl rfl rfl rfl ?_
     refine x_unwant rfl rfl rfl rfl rfl ?_
     refine x_unwant rfl rfl rfl rfl rfl ?_
     refine x_v (r_pk_f rfl rfl) rfl ?_
     refine x_v (r_as rfl) rfl ?_
     refine XL.nil ?_
     refine hK2 _ _ ?_
     refine XC.keep [(2, _)] ⟨rfl, trivial⟩ ?_
     refine XC.ret ?_
     exact fin1 rfl (⟨congrArg Value.bool (decide_eq_false (fun q => by obtain ⟨q1, q2, q3, q4, q5⟩ := q; first | (exact hg16 q3) | omega)).symm, rfl⟩) gS
   ·refine x_unwant rfl rfl rfl rfl rfl ?_
    refine x_unwant rfl rfl rfl rfl rfl ?_
    refine x_unwant rfl rfl rfl rfl rfl ?_
    refine x_unwant rfl rfl rfl rfl rfl ?_
    refine x_v (r_pk_f rfl rfl) rfl ?_
    refine x_v (r_mv rfl) rfl ?_
    refine x_unwant rfl rfl rfl rfl rfl ?_
    refine x_unwant rfl rfl rfl rfl rfl ?_
    refine x_unwant rfl rfl rfl rfl rfl ?_
    refine x_unwant rfl rfl rfl rfl rfl ?_
    refine x_unwant rfl rfl rfl rfl rfl ?_
    refine x_v (r_pk_f rfl rfl) rfl ?_
    refine x_v (r_as rfl) rfl ?_
    refine XL.nil ?_
    refine hK2 _ _ ?_
    refine XC.keep [(2, _)] ⟨rfl, trivial⟩ ?_
    refine XC.ret ?_
    exact fin1 rfl (⟨congrArg Value.bool (decide_eq_false (fun q => by obtain ⟨q1, q2, q3, q4, q5⟩ := q; first | (exact hg16 q3) | omega)).symm, rfl⟩) gS
  ·refine x_unwant rfl rfl rfl rfl rfl ?_
   refine x_unwant rfl rfl rfl rfl rfl ?_
   refine x_unwant rfl rfl rfl rfl rfl ?_
   refine x_v (r_pk_f rfl rfl) rfl ?_
   refine x_v (r_mv rfl) rfl ?_
   refine x_unwant rfl rfl rfl rfl rfl ?_
   refine x_unwant rfl rfl rfl rfl rfl ?_
   refine x_unwant rfl rfl rfl rfl rfl ?_
   refine x_unwant rfl rfl rfl rfl rfl ?_
   refine x_v (r_pk_f rfl rfl) rfl ?_
   refine x_v (r_mv rfl) rfl ?_
   refine x_unwant rfl rfl rfl rfl rfl ?_
   refine x_unwant rfl rfl rfl rfl rfl ?_
   refine x_unwant rfl rfl rfl rfl rfl ?_
   refine x_unwant rfl rfl rfl rfl rfl ?_
   refine x_unwant rfl rfl rfl rfl rfl ?_
   refine x_v (r_pk_f rfl rfl) rfl ?_
   refine x_v (r_as rfl) rfl ?_
   refine XL.nil ?_
   refine hK2 _ _ ?_
   refine XC.keep [(2, _)] ⟨rfl, trivial⟩ ?_
   refine XC.ret ?_
   exact fin1 rfl (⟨congrArg Value.bool (decide_eq_false (fun q => by obtain ⟨q1, q2, q3, q4, q5⟩ := q; first | (exact hg16 q3) | omega)).symm, rfl⟩) gS
 ·refine x_unwant rfl rfl rfl rfl rfl ?_
  refine x_unwant rfl rfl rfl rfl rfl ?_
  refine x_unwant rfl rfl rfl rfl rfl ?_
  refine x_v (r_pk_f rfl rfl) rfl ?_
  refine x_v (r_mv rfl) rfl ?_
  refine x_unwant rfl rfl rfl rfl rfl ?_
  refine x_unwant rfl rfl rfl rfl rfl ?_
  refine x_unwant rfl rfl rfl rfl rfl ?_
  refine x_v (r_pk_f rfl rfl) rfl ?_
  refine x_v (r_mv rfl) rfl ?_
  refine x_unwant rfl rfl rfl rfl rfl ?_
  refine x_unwant rfl rfl rfl rfl rfl ?_
  refine x_unwant rfl rfl rfl rfl rfl ?_
  refine x_unwant rfl rfl rfl rfl rfl ?_
  refine x_v (r_pk_f rfl rfl) rfl ?_
  refine x_v (r_mv rfl) rfl ?_
  refine x_unwant rfl rfl rfl rfl rfl ?_
  refine x_unwant rfl rfl rfl rfl rfl ?_
  refine x_unwant rfl rfl rfl rfl rfl ?_
  refine x_unwant rfl rfl rfl rfl rfl ?_
  refine x_unwant rfl rfl rfl rfl rfl ?_
  refine x_v (r_pk_f rfl rfl) rfl ?_
  refine x_v (r_as rfl) rfl ?_
  refine XL.nil ?_
  refine hK2 _ _ ?_
  refine XC.keep [(2, _)] ⟨rfl, trivial⟩ ?_
  refine XC.ret ?_
  exact fin1 rfl (⟨congrArg Value.bool (decide_eq_false (fun q => by obtain ⟨q1, q2, q3, q4, q5⟩ := q; first | (exact hg16 q3) | omega)).symm, rfl⟩) gS
theorem rightop_tr {W0 : World} {Fr : List HP} {k : HP} (o : Od) (hro : RdO W0 k o) : Tr W0 Try.prog 77 [.agg (odc o).toArray] (k :: Fr) (fun v Rs' => v = .bool (opOk o.1) ∧ Rs' = k :: Fr) := by
 refine Entry.tr (N := 92) (rs := [.tmp 2]) ⟨_, Try.func77, rfl, by kernel_rfl, rfl, rfl⟩ rfl ?_
 refine XC.seq fun K1 hK1 => ?_
 refine XC.region ?_
 refine x_a (r_bx rfl rfl) rfl fun b1 => ?_
 rw [odc_def o]
 refine x_v (r_as rfl) rfl ?_
 refine XL.nil ?_
 refine hK1 _ _ ?_
 refine XC.keep [(1, _)] ⟨rfl, trivial⟩ ?_
 refine XC.seq fun K2 hK2 => ?_
 refine XC.seq fun K3 hK3 => ?_
 refine XC.region ?_
 refine x_v (r_fa fo39_0 rfl) rfl ?_
 refine x_v (r_ld ty3 rfl pK (by rfl)) rfl ?_
 refine x_v (r_lt rfl rfl) rfl ?_
 refine x_v (r_mv rfl) rfl ?_
 refine XL.splitd 6 rfl (fun hg6 => ?_) (fun hg6 => ?_)
 ·refine x_unwant rfl rfl rfl rfl rfl ?_
  refine x_unwant rfl rfl rfl rfl rfl ?_
  refine x_unwant rfl rfl rfl rfl rfl ?_
  refine x_v (r_pk_t rfl rfl) rfl ?_
  refine x_v (r_mv rfl) rfl ?_
  refine x_unwant rfl rfl rfl rfl rfl ?_
  refine x_unwant rfl rfl rfl rfl rfl ?_
  refine x_unwant rfl rfl rfl rfl rfl ?_
  refine x_v (r_pk_t rfl rfl) rfl ?_
  refine x_v (r_mv rfl) rfl ?_
  refine x_unwant rfl rfl rfl rfl rfl ?_
  refine x_unwant rfl rfl rfl rfl rfl ?_
  refine x_unwant rfl rfl rfl rfl rfl ?_
  refine x_v (r_pk_t rfl rfl) rfl ?_
  refine x_v (r_mv rfl) rfl ?_
  refine x_unwant rfl rfl rfl rfl rfl ?_
  refine x_unwant rfl rfl rfl rfl rfl ?_
  refine x_unwant rfl rfl rfl rfl rfl ?_
  refine x_v (r_pk_t rfl rfl) rfl ?_
  refine x_v (r_mv rfl) rfl ?_
  refine x_unwant rfl rfl rfl rfl rfl ?_
  refine x_unwant rfl rfl rfl rfl rfl ?_
  refine x_unwant rfl rfl rfl rfl rfl ?_
  refine x_v (r_pk_t rfl rfl) rfl ?_
  refine XL.nil ?_
  refine hK3 _ _ ?_
  refine XC.keep [(1, _), (30, _)] ⟨rfl, rfl, trivial⟩ ?_
  refine XC.cond_t rfl ?_
  refine XC.seq fun K4 hK4 => ?_
  refine XC.region ?_
  refine x_v (r_as rfl) rfl ?_
  refine XL.nil ?_
  refine hK4 _ _ ?_
  refine XC.keep [(2, _)] ⟨rfl, trivial⟩ ?_
  refine XC.ret ?_
  exact fin1 rfl (⟨congrArg Value.bool (opOk_no (fun h => by obtain ⟨q1, q2, q3⟩ := h; unfold Reigned at q3; omega)).symm, rfl⟩) gS
 ·refine x_want rfl rfl rfl ?_
  refine x_v (r_fa fo39_0 rfl) rfl ?_
  refine x_want rfl rfl rfl ?_
  refine x_v (r_ld ty3 rfl pK (by rfl)) rfl ?_
  refine x_want rfl rfl rfl ?_
  refine x_v (r_gt rfl rfl) rfl ?_
  refine x_v (r_pk_f rfl rfl) rfl ?_
  refine x_v (r_mv rfl) rfl ?_
  refine XL.splitd 11 rfl (fun hg11 => ?_) (fun hg11 => ?_)
  ·refine x_unwant rfl rfl rfl rfl rfl ?_
   refine x_unwant rfl rfl rfl rfl rfl ?_
   refine x_unwant rfl rfl rfl rfl rfl ?_
   refine x_v (r_pk_t rfl rfl) rfl ?_
   refine x_v (r_mv rfl) rfl ?_
   refine x_unwant rfl rfl rfl rfl rfl ?_
   refine x_unwant rfl rfl rfl rfl rfl ?_
   refine x_unwant rfl rfl rfl rfl rfl ?_
   refine x_v (r_pk_t rfl rfl) rfl ?_
   refine x_v (r_mv rfl) rfl ?_
   refine x_unwant rfl rfl rfl rfl rfl ?_
   refine x_unwant rfl rfl rfl rfl rfl ?_
   refine x_unwant rfl rfl rfl rfl rfl ?_
   refine x_v (r_pk_t rfl rfl) rfl ?_
   refine x_v (r_mv rfl) rfl ?_
   refine x_unwant rfl rfl rfl rfl rfl ?_
   refine x_unwant rfl rfl rfl rfl rfl ?_
   refine x_unwant rfl rfl rfl rfl rfl ?_
   refine x_v (r_pk_t rfl rfl) rfl ?_
   refine XL.nil ?_
   refine hK3 _ _ ?_
   refine XC.keep [(1, _), (30, _)] ⟨rfl, rfl, trivial⟩ ?_
   refine XC.cond_t rfl ?_
   refine XC.seq fun K5 hK5 => ?_
   refine XC.region ?_
   refine x_v (r_as rfl) rfl ?_
   refine XL.nil ?_
   refine hK5 _ _ ?_
   refine XC.keep [(2, _)] ⟨rfl, trivial⟩ ?_
   refine XC.ret ?_
   exact fin1 rfl (⟨congrArg Value.bool (opOk_no (fun h => by obtain ⟨q1, q2, q3⟩ := h; unfold Reigned at q3; omega)).symm, rfl⟩) gS
  ·refine x_want rfl rfl rfl ?_
   refine x_v (r_fa fo39_1 rfl) rfl ?_
   refine x_want rfl rfl rfl ?_
   refine x_v (r_ld ty3 rfl pK (by rfl)) rfl ?_
   refine x_want rfl rfl rfl ?_
   refine x_v (r_lt rfl rfl) rfl ?_
   refine x_v (r_pk_f rfl rfl) rfl ?_
   refine x_v (r_mv rfl) rfl ?_
   refine XL.splitd 16 rfl (fun hg16 => ?_) (fun hg16 => ?_)
   ·refine x_unwant rfl rfl rfl rfl rfl ?_
    refine x_unwant rfl rfl rfl rfl rfl ?_
    refine x_unwant rfl rfl rfl rfl rfl ?_
    refine x_v (r_pk_t rfl rfl) rfl ?_
    refine x_v (r_mv rfl) rfl ?_
    refine x_unwant rfl rfl rfl rfl rfl ?_
    refine x_unwant rfl rfl rfl rfl rfl ?_
    refine x_unwant rfl rfl rfl rfl rfl ?_
    refine x_v (r_pk_t rfl rfl) rfl ?_
    refine x_v (r_mv rfl) rfl ?_
    refine x_unwant rfl rfl rfl rfl rfl ?_
    refine x_unwant rfl rfl rfl rfl rfl ?_
    refine x_unwant rfl rfl rfl rfl rfl ?_
    refine x_v (r_pk_t rfl rfl) rfl ?_
    refine XL.nil ?_
    refine hK3 _ _ ?_
    refine XC.keep [(1, _), (30, _)] ⟨rfl, rfl, trivial⟩ ?_
    refine XC.cond_t rfl ?_
    refine XC.seq fun K6 hK6 => ?_
    refine XC.region ?_
    refine x_v (r_as rfl) rfl ?_
    refine XL.nil ?_
    refine hK6 _ _ ?_
    refine XC.keep [(2, _)] ⟨rfl, trivial⟩ ?_
    refine XC.ret ?_
    exact fin1 rfl (⟨congrArg Value.bool (opOk_no (fun h => by obtain ⟨q1, q2, q3⟩ := h; unfold Reigned at q3; omega)).symm, rfl⟩) gS
   ·refine x_want rfl rfl rfl ?_
    refine x_v (r_fa fo39_1 rfl) rfl ?_
    refine x_want rfl rfl rfl ?_
    refine x_v (r_ld ty3 rfl pK (by rfl)) rfl ?_
    refine x_want rfl rfl rfl ?_
    refine x_v (r_gt rfl rfl) rfl ?_
    refine x_v (r_pk_f rfl rfl) rfl ?_
    refine x_v (r_mv rfl) rfl ?_
    refine XL.splitd 21 rfl (fun hg21 => ?_) (fun hg21 => ?_)
    ·refine x_unwant rfl rfl rfl rfl rfl ?_
     refine x_unwant rfl rfl rfl rfl rfl ?_
     refine x_unwant rfl rfl rfl rfl rfl ?_
     refine x_v (r_pk_t rfl rfl) rfl ?_
     refine x_v (r_mv rfl) rfl ?_
     refine x_unwant rfl rfl rfl rfl rfl ?_
     refine x_unwant rfl rfl rfl rfl rfl ?_
     refine x_unwant rfl rfl rfl rfl rfl ?_
     refine x_v (r_pk_t rfl rfl) rfl ?_
     refine XL.nil ?_
     refine hK3 _ _ ?_
     refine XC.keep [(1, _), (30, _)] ⟨rfl, rfl, trivial⟩ ?_
     refine XC.cond_t rfl ?_
     refine XC.seq fun K7 hK7 => ?_
     refine XC.region ?_
     refine x_v (r_as rfl) rfl ?_
     refine XL.nil ?_
     refine hK7 _ _ ?_
     refine XC.keep [(2, _)] ⟨rfl, trivial⟩ ?_
     refine XC.ret ?_
     exact fin1 rfl (⟨congrArg Value.bool (opOk_no (fun h => by obtain ⟨q1, q2, q3⟩ := h; unfold Reigned at q3; omega)).symm, rfl⟩) gS
    ·refine x_want rfl rfl rfl ?_
     refine x_v (r_fa fo39_3 rfl) rfl ?_
     refine x_want rfl rfl rfl ?_
     refine x_v (r_ld ty3 rfl pK (by rfl)) rfl ?_
     refine x_want rfl rfl rfl ?_
     refine x_v (r_lt rfl rfl) rfl ?_
     refine x_v (r_pk_f rfl rfl) rfl ?_
     refine x_v (r_mv rfl) rfl ?_
     refine XL.splitd 26 rfl (fun hg26 => ?_) (fun hg26 => ?_)
     ·refine x_unwant rfl rfl rfl rfl rfl ?_
      refine x_unwant rfl rfl rfl rfl rfl ?_
      refine x_unwant rfl rfl rfl rfl rfl ?_
      refine x_v (r_pk_t rfl rfl) rfl ?_
      refine XL.nil ?_
      refine hK3 _ _ ?_
      refine XC.keep [(1, _), (30, _)] ⟨rfl, rfl, trivial⟩ ?_
      refine XC.cond_t rfl ?_
      refine XC.seq fun K8 hK8 => ?_
      refine XC.region ?_
      refine x_v (r_as rfl) rfl ?_
      refine XL.nil ?_
      refine hK8 _ _ ?_
      refine XC.keep [(2, _)] ⟨rfl, trivial⟩ ?_
      refine XC.ret ?_
      exact fin1 rfl (⟨congrArg Value.bool (opOk_no (fun h => by obtain ⟨q1, q2, q3⟩ := h; unfold Reigned at q3; omega)).symm, rfl⟩) gS
     ·refine x_want rfl rfl rfl ?_
      refine x_v (r_fa fo39_3 rfl) rfl ?_
      refine x_want rfl rfl rfl ?_
      refine x_v (r_ld ty3 rfl pK (by rfl)) rfl ?_
      refine x_want rfl rfl rfl ?_
      refine x_v (r_gt rfl rfl) rfl ?_
      refine x_v (r_pk_f rfl rfl) rfl ?_
      refine XL.nil ?_
      refine hK3 _ _ ?_
      refine XC.keep [(1, _), (30, _)] ⟨rfl, rfl, trivial⟩ ?_
      refine XC.cond_d rfl (fun hc6 => ?_) (fun hc6 => ?_)
      ·refine XC.seq fun K9 hK9 => ?_
       refine XC.region ?_
       refine x_v (r_as rfl) rfl ?_
       refine XL.nil ?_
       refine hK9 _ _ ?_
       refine XC.keep [(2, _)] ⟨rfl, trivial⟩ ?_
       refine XC.ret ?_
       exact fin1 rfl (⟨congrArg Value.bool (opOk_no (fun h => by obtain ⟨q1, q2, q3⟩ := h; unfold Reigned at q3; omega)).symm, rfl⟩) gS
      ·refine XC.skip ?_
       refine hK2 _ _ ?_
       refine XC.keep [(1, _)] ⟨rfl, trivial⟩ ?_
       refine XC.seq fun K10 hK10 => ?_
       refine XC.seq fun K11 hK11 => ?_
       have hA : opA o.1 := ⟨by omega, by omega, by unfold Reigned; omega⟩
       refine XC.region ?_
       refine x_v (r_fa fo39_2 rfl) rfl ?_
       refine x_v (r_ld ty3 rfl pK (by rfl)) rfl ?_
       refine x_v (r_eq rfl rfl) rfl ?_
       refine XL.nil ?_
       refine hK11 _ _ ?_
       refine XC.keep [(1, _), (33, _)] ⟨rfl, rfl, trivial⟩ ?_
       refine XC.cond_d rfl (fun hc7 => ?_) (fun hc7 => ?_)
       ·refine XC.seq fun K12 hK12 => ?_
        refine XC.region ?_
        refine x_v (r_lda (l' := odc o) ty39 rfl pK rfl (fun j u hu => by rw [Nat.zero_add]; exact hu)) rfl ?_
        refine x_c (r_call0 (args := [_]) ⟨rfl, rfl⟩ (zero_tr o) gS) rfl ?_
        rintro _ _ ⟨rfl, rfl⟩
        refine x_v (r_as rfl) rfl ?_
        refine XL.nil ?_
        refine hK12 _ _ ?_
        refine XC.keep [(2, _)] ⟨rfl, trivial⟩ ?_
        refine XC.ret ?_
        exact fin1 rfl (⟨congrArg Value.bool (opOk3 hc7 hA).symm, rfl⟩) gS
       ·refine XC.skip ?_
        refine hK10 _ _ ?_
        refine XC.keep [(1, _)] ⟨rfl, trivial⟩ ?_
        refine XC.seq fun K13 hK13 => ?_
        refine XC.seq fun K14 hK14 => ?_
        refine XC.region ?_
        refine x_v (r_fa fo39_4 rfl) rfl ?_
        refine x_v (r_ld ty3 rfl pK (by rfl)) rfl ?_
        refine x_v (r_lt rfl rfl) rfl ?_
        refine x_v (r_mv rfl) rfl ?_
        refine XL.splitd 39 rfl (fun hg39 => ?_) (fun hg39 => ?_)
        ·refine x_unwant rfl rfl rfl rfl rfl ?_
         refine x_unwant rfl rfl rfl rfl rfl ?_
         refine x_unwant rfl rfl rfl rfl rfl ?_
         refine x_v (r_pk_t rfl rfl) rfl ?_
         refine x_v (r_mv rfl) rfl ?_
         refine x_unwant rfl rfl rfl rfl rfl ?_
         refine x_unwant rfl rfl rfl rfl rfl ?_
         refine x_unwant rfl rfl rfl rfl rfl ?_
         refine x_v (r_pk_t rfl rfl) rfl ?_
         refine x_v (r_mv rfl) rfl ?_
         refine x_unwant rfl rfl rfl rfl rfl ?_
         refine x_unwant rfl rfl rfl rfl rfl ?_
         refine x_unwant rfl rfl rfl rfl rfl ?_
         refine x_v (r_pk_t rfl rfl) rfl ?_
         refine x_v (r_mv rfl) rfl ?_
         refine x_unwant rfl rfl rfl rfl rfl ?_
         refine x_unwant rfl rfl rfl rfl rfl ?_
         refine x_unwant rfl rfl rfl rfl rfl ?_
         refine x_unwant rfl rfl rfl rfl rfl ?_
         refine x_v (r_pk_t rfl rfl) rfl ?_
         refine x_v (r_mv rfl) rfl ?_
         refine x_unwant rfl rfl rfl rfl rfl ?_
         refine x_unwant rfl rfl rfl rfl rfl ?_
         refine x_unwant rfl rfl rfl rfl rfl ?_
         refine x_unwant rfl rfl rfl rfl rfl ?_
         refine x_v (r_pk_t rfl rfl) rfl ?_
         refine XL.nil ?_
         refine hK14 _ _ ?_
         refine XC.keep [(1, _), (65, _)] ⟨rfl, rfl, trivial⟩ ?_
         refine XC.cond_t rfl ?_
         refine XC.seq fun K15 hK15 => ?_
         refine XC.region ?_
         refine x_v (r_as rfl) rfl ?_
         refine XL.nil ?_
         refine hK15 _ _ ?_
         refine XC.keep [(2, _)] ⟨rfl, trivial⟩ ?_
         refine XC.ret ?_
         exact fin1 rfl (⟨congrArg Value.bool (opOk_nown hc7 (fun h => by obtain ⟨q1, q2, q3, q4, q5, q6⟩ := h; first | omega | exact q5 (List.eq_nil_of_length_eq_zero (by omega)))).symm, rfl⟩) gS
        ·refine x_want rfl rfl rfl ?_
         refine x_v (r_fa fo39_4 rfl) rfl ?_
         refine x_want rfl rfl rfl ?_
         refine x_v (r_ld ty3 rfl pK (by rfl)) rfl ?_
         refine x_want rfl rfl rfl ?_
         refine x_v (r_gt rfl rfl) rfl ?_
         refine x_v (r_pk_f rfl rfl) rfl ?_
         refine x_v (r_mv rfl) rfl ?_
         refine XL.splitd 44 rfl (fun hg44 => ?_) (fun hg44 => ?_)
         ·refine x_unwant rfl rfl rfl rfl rfl ?_
          refine x_unwant rfl rfl rfl rfl rfl ?_
          refine x_unwant rfl rfl rfl rfl rfl ?_
          refine x_v (r_pk_t rfl rfl) rfl ?_
          refine x_v (r_mv rfl) rfl ?_
          refine x_unwant rfl rfl rfl rfl rfl ?_
          refine x_unwant rfl rfl rfl rfl rfl ?_
          refine x_unwant rfl rfl rfl rfl rfl ?_
          refine x_v (r_pk_t rfl rfl) rfl ?_
          refine x_v (r_mv rfl) rfl ?_
          refine x_unwant rfl rfl rfl rfl rfl ?_
          refine x_unwant rfl rfl rfl rfl rfl ?_
          refine x_unwant rfl rfl rfl rfl rfl ?_
          refine x_unwant rfl rfl rfl rfl rfl ?_
          refine x_v (r_pk_t rfl rfl) rfl ?_
          refine x_v (r_mv rfl) rfl ?_
          refine x_unwant rfl rfl rfl rfl rfl ?_
          refine x_unwant rfl rfl rfl rfl rfl ?_
          refine x_unwant rfl rfl rfl rfl rfl ?_
          refine x_unwant rfl rfl rfl rfl rfl ?_
          refine x_v (r_pk_t rfl rfl) rfl ?_
          refine XL.nil ?_
          refine hK14 _ _ ?_
          refine XC.keep [(1, _), (65, _)] ⟨rfl, rfl, trivial⟩ ?_
          refine XC.cond_t rfl ?_
          refine XC.seq fun K16 hK16 => ?_
          refine XC.region ?_
          refine x_v (r_as rfl) rfl ?_
          refine XL.nil ?_
          refine hK16 _ _ ?_
          refine XC.keep [(2, _)] ⟨rfl, trivial⟩ ?_
          refine XC.ret ?_
          exact fin1 rfl (⟨congrArg Value.bool (opOk_nown hc7 (fun h => by obtain ⟨q1, q2, q3, q4, q5, q6⟩ := h; first | omega | exact q5 (List.eq_nil_of_length_eq_zero (by omega)))).symm, rfl⟩) gS
         ·refine x_want rfl rfl rfl ?_
          refine x_v (r_fa fo39_5 rfl) rfl ?_
          refine x_want rfl rfl rfl ?_
          refine x_v (r_ld ty3 rfl pK (by rfl)) rfl ?_
          refine x_want rfl rfl rfl ?_
          refine x_v (r_lt rfl rfl) rfl ?_
          refine x_v (r_pk_f rfl rfl) rfl ?_
          refine x_v (r_mv rfl) rfl ?_
          refine XL.splitd 49 rfl (fun hg49 => ?_) (fun hg49 => ?_)
          ·refine x_unwant rfl rfl rfl rfl rfl ?_
           refine x_unwant rfl rfl rfl rfl rfl ?_
           refine x_unwant rfl rfl rfl rfl rfl ?_
           refine x_v (r_pk_t rfl rfl) rfl ?_
           refine x_v (r_mv rfl) rfl ?_
           refine x_unwant rfl rfl rfl rfl rfl ?_
           refine x_unwant rfl rfl rfl rfl rfl ?_
           refine x_unwant rfl rfl rfl rfl rfl ?_
           refine x_unwant rfl rfl rfl rfl rfl ?_
           refine x_v (r_pk_t rfl rfl) rfl ?_
           refine x_v (r_mv rfl) rfl ?_
           refine x_unwant rfl rfl rfl rfl rfl ?_
           refine x_unwant rfl rfl rfl rfl rfl ?_
           refine x_unwant rfl rfl rfl rfl rfl ?_
           refine x_unwant rfl rfl rfl rfl rfl ?_
           refine x_v (r_pk_t rfl rfl) rfl ?_
           refine XL.nil ?_
           refine hK14 _ _ ?_
           refine XC.keep [(1, _), (65, _)] ⟨rfl, rfl, trivial⟩ ?_
           refine XC.cond_t rfl ?_
           refine XC.seq fun K17 hK17 => ?_
           refine XC.region ?_
           refine x_v (r_as rfl) rfl ?_
           refine XL.nil ?_
           refine hK17 _ _ ?_
           refine XC.keep [(2, _)] ⟨rfl, trivial⟩ ?_
           refine XC.ret ?_
           exact fin1 rfl (⟨congrArg Value.bool (opOk_nown hc7 (fun h => by obtain ⟨q1, q2, q3, q4, q5, q6⟩ := h; first | omega | exact q5 (List.eq_nil_of_length_eq_zero (by omega)))).symm, rfl⟩) gS
          ·refine x_want rfl rfl rfl ?_
           refine x_v (r_fa fo39_5 rfl) rfl ?_
           refine x_want rfl rfl rfl ?_
           refine x_v (r_ld ty3 rfl pK (by rfl)) rfl ?_
           refine x_want rfl rfl rfl ?_
           refine x_v (r_gt rfl rfl) rfl ?_
           refine x_v (r_pk_f rfl rfl) rfl ?_
           refine x_v (r_mv rfl) rfl ?_
           refine XL.splitd 54 rfl (fun hg54 => ?_) (fun hg54 => ?_)
           ·refine x_unwant rfl rfl rfl rfl rfl ?_
            refine x_unwant rfl rfl rfl rfl rfl ?_
            refine x_unwant rfl rfl rfl rfl rfl ?_
            refine x_unwant rfl rfl rfl rfl rfl ?_
            refine x_v (r_pk_t rfl rfl) rfl ?_
            refine x_v (r_mv rfl) rfl ?_
            refine x_unwant rfl rfl rfl rfl rfl ?_
            refine x_unwant rfl rfl rfl rfl rfl ?_
            refine x_unwant rfl rfl rfl rfl rfl ?_
            refine x_unwant rfl rfl rfl rfl rfl ?_
            refine x_v (r_pk_t rfl rfl) rfl ?_
            refine XL.nil ?_
            refine hK14 _ _ ?_
            refine XC.keep [(1, _), (65, _)] ⟨rfl, rfl, trivial⟩ ?_
            refine XC.cond_t rfl ?_
            refine XC.seq fun K18 hK18 => ?_
            refine XC.region ?_
            refine x_v (r_as rfl) rfl ?_
            refine XL.nil ?_
            refine hK18 _ _ ?_
            refine XC.keep [(2, _)] ⟨rfl, trivial⟩ ?_
            refine XC.ret ?_
            exact fin1 rfl (⟨congrArg Value.bool (opOk_nown hc7 (fun h => by obtain ⟨q1, q2, q3, q4, q5, q6⟩ := h; first | omega | exact q5 (List.eq_nil_of_length_eq_zero (by omega)))).symm, rfl⟩) gS
           ·refine x_want rfl rfl rfl ?_
            refine x_v (r_fa fo39_6 rfl) rfl ?_
            refine x_want rfl rfl rfl ?_
            refine x_v (r_ld ty9 rfl pK (by rfl)) rfl ?_
            refine x_want rfl rfl rfl ?_
            refine x_v (r_lens Try.underlying9 rfl) rfl ?_
            refine x_want rfl rfl rfl ?_
            refine x_v (r_lt rfl rfl) rfl ?_
            refine x_v (r_pk_f rfl rfl) rfl ?_
            refine x_v (r_mv rfl) rfl ?_
            refine XL.splitd 60 rfl (fun hg60 => ?_) (fun hg60 => ?_)
            ·refine x_unwant rfl rfl rfl rfl rfl ?_
             refine x_unwant rfl rfl rfl rfl rfl ?_
             refine x_unwant rfl rfl rfl rfl rfl ?_
             refine x_unwant rfl rfl rfl rfl rfl ?_
             refine x_v (r_pk_t rfl rfl) rfl ?_
             refine XL.nil ?_
             refine hK14 _ _ ?_
             refine XC.keep [(1, _), (65, _)] ⟨rfl, rfl, trivial⟩ ?_
             refine XC.cond_t rfl ?_
             refine XC.seq fun K19 hK19 => ?_
             refine XC.region ?_
             refine x_v (r_as rfl) rfl ?_
             refine XL.nil ?_
             refine hK19 _ _ ?_
             refine XC.keep [(2, _)] ⟨rfl, trivial⟩ ?_
             refine XC.ret ?_
             exact fin1 rfl (⟨congrArg Value.bool (opOk_nown hc7 (fun h => by obtain ⟨q1, q2, q3, q4, q5, q6⟩ := h; first | omega | exact q5 (List.eq_nil_of_length_eq_zero (by omega)))).symm, rfl⟩) gS
            ·refine x_want rfl rfl rfl ?_
             refine x_v (r_fa fo39_6 rfl) rfl ?_
             refine x_want rfl rfl rfl ?_
             refine x_v (r_ld ty9 rfl pK (by rfl)) rfl ?_
             refine x_want rfl rfl rfl ?_
             refine x_v (r_lens Try.underlying9 rfl) rfl ?_
             refine x_want rfl rfl rfl ?_
             refine x_v (r_gt rfl rfl) rfl ?_
             refine x_v (r_pk_f rfl rfl) rfl ?_
             refine XL.nil ?_
             refine hK14 _ _ ?_
             refine XC.keep [(1, _), (65, _)] ⟨rfl, rfl, trivial⟩ ?_
             refine XC.cond_d rfl (fun hc13 => ?_) (fun hc13 => ?_)
             ·refine XC.seq fun K20 hK20 => ?_
              refine XC.region ?_
              refine x_v (r_as rfl) rfl ?_
              refine XL.nil ?_
              refine hK20 _ _ ?_
              refine XC.keep [(2, _)] ⟨rfl, trivial⟩ ?_
              refine XC.ret ?_
              exact fin1 rfl (⟨congrArg Value.bool (opOk_nown hc7 (fun h => by obtain ⟨q1, q2, q3, q4, q5, q6⟩ := h; first | omega | exact q5 (List.eq_nil_of_length_eq_zero (by omega)))).symm, rfl⟩) gS
             ·refine XC.skip ?_
              refine hK13 _ _ ?_
              refine XC.keep [(1, _)] ⟨rfl, trivial⟩ ?_
              refine XC.seq fun K21 hK21 => ?_
              have hO : OwnP o.1 := ⟨by omega, by omega, by omega, by omega, fun h => by (have : o.1.name.length = 0 := by rw [h]; rfl); omega, by omega⟩
              refine XC.region ?_
              refine x_v (r_fa fo39_2 rfl) rfl ?_
              refine x_v (r_ld ty3 rfl pK (by rfl)) rfl ?_
              refine x_v (r_eq rfl rfl) rfl ?_
              refine x_v (r_mv rfl) rfl ?_
              refine XL.splitd 69 rfl (fun hg69 => ?_) (fun hg69 => ?_)
              ·refine x_want rfl rfl rfl ?_
               refine x_v (r_fa fo39_7 rfl) rfl ?_
               refine x_want rfl rfl rfl ?_
               refine x_v (r_lda (l' := [_, _]) ty37 rfl pK rfl (Sub.get sU)) rfl ?_
               refine x_want rfl rfl rfl ?_
               refine x_c (r_call0 (args := [_]) ⟨rfl, rfl⟩ (wsheet_tr (k := k) o.1.size o.2.1 o.2.2 o.1.hs hro.1 hro.2) gS) rfl ?_
               rintro _ _ ⟨rfl, rfl⟩
               refine x_v (r_pk_t rfl rfl) rfl ?_
               refine x_v (r_mv rfl) rfl ?_
               refine XL.split 74 rfl (fun hg74 => ?_) (fun hg74 => ?_)
               ·refine x_unwant rfl rfl rfl rfl rfl ?_
                refine x_unwant rfl rfl rfl rfl rfl ?_
                refine x_unwant rfl rfl rfl rfl rfl ?_
                refine x_unwant rfl rfl rfl rfl rfl ?_
                refine x_unwantu rfl rfl rfl rfl rfl ?_
                refine x_unwantu rfl rfl rfl rfl rfl ?_
                refine x_unwantu rfl rfl rfl rfl rfl ?_
                refine x_unwantu rfl rfl rfl rfl rfl ?_
                refine x_unwant rfl rfl rfl rfl rfl ?_
                refine x_unwant rfl rfl rfl rfl rfl ?_
                refine x_unwantu rfl rfl rfl rfl rfl ?_
                refine x_unwantu rfl rfl rfl rfl rfl ?_
                refine x_unwantu rfl rfl rfl rfl rfl ?_
                refine x_unwantu rfl rfl rfl rfl rfl ?_
                refine x_unwantu rfl rfl rfl rfl rfl ?_
                refine x_unwant rfl rfl rfl rfl rfl ?_
                refine x_v (r_pk_t rfl rfl) rfl ?_
                refine x_v (r_as rfl) rfl ?_
                refine XL.nil ?_
                refine hK21 _ _ ?_
                refine XC.keep [(2, _)] ⟨rfl, trivial⟩ ?_
                refine XC.ret ?_
                exact fin1 rfl (⟨congrArg Value.bool (by rw [opOk1 hg69 hA hO]; exact hg74.symm), rfl⟩) gS
               ·refine x_want rfl rfl rfl ?_
                refine x_v (r_fa fo39_2 rfl) rfl ?_
                refine x_want rfl rfl rfl ?_
                refine x_v (r_ld ty3 rfl pK (by rfl)) rfl ?_
                refine x_want rfl rfl rfl ?_
                refine x_v (r_eq rfl rfl) rfl ?_
                refine x_want rfl rfl rfl ?_
                refine x_v (r_mv rfl) rfl ?_
                refine XL.splitd 78 rfl (fun hg78 => ?_) (fun hg78 => ?_)
                ·refine x_want rfl rfl rfl ?_
                 refine x_v (r_fa fo39_7 rfl) rfl ?_
                 refine x_want rfl rfl rfl ?_
                 refine x_v (r_fa fo37_0 rfl) rfl ?_
                 refine x_want rfl rfl rfl ?_
                 refine x_v (r_ld ty3 rfl pK (by rfl)) rfl ?_
                 refine x_want rfl rfl rfl ?_
                 refine x_v (r_eq rfl rfl) rfl ?_
                 refine x_want rfl rfl rfl ?_
                 refine x_v (r_pk_t rfl rfl) rfl ?_
                 refine x_want rfl rfl rfl ?_
                 refine x_v (r_mv rfl) rfl ?_
                 refine XL.splitd 84 rfl (fun hg84 => ?_) (fun hg84 => ?_)
                 ·refine x_want rfl rfl rfl ?_
                  refine x_v (r_fa fo39_7 rfl) rfl ?_
                  refine x_want rfl rfl rfl ?_
                  refine x_v (r_fa fo37_1 rfl) rfl ?_
                  refine x_want rfl rfl rfl ?_
                  refine x_v (r_ld ty29 rfl pK (by rfl)) rfl ?_
                  refine x_want rfl rfl rfl ?_
                  refine x_v (r_lensl Try.underlying29 rfl) rfl ?_
                  refine x_want rfl rfl rfl ?_
                  refine x_v (r_eq rfl rfl) rfl ?_
                  refine x_want rfl rfl rfl ?_
                  refine x_v (r_pk_t rfl rfl) rfl ?_
                  refine x_v (r_pk_f rfl rfl) rfl ?_
                  refine x_v (r_as rfl) rfl ?_
                  refine XL.nil ?_
                  refine hK21 _ _ ?_
                  refine XC.keep [(2, _)] ⟨rfl, trivial⟩ ?_
                  refine XC.ret ?_
                  (exfalso; omega)
                 ·refine x_unwant rfl rfl rfl rfl rfl ?_
                  refine x_unwant rfl rfl rfl rfl rfl ?_
                  refine x_unwant rfl rfl rfl rfl rfl ?_
                  refine x_unwant rfl rfl rfl rfl rfl ?_
                  refine x_unwant rfl rfl rfl rfl rfl ?_
                  refine x_want rfl rfl rfl ?_
                  refine x_v (r_pk_f rfl rfl) rfl ?_
                  refine x_v (r_pk_f rfl rfl) rfl ?_
                  refine x_v (r_as rfl) rfl ?_
                  refine XL.nil ?_
                  refine hK21 _ _ ?_
                  refine XC.keep [(2, _)] ⟨rfl, trivial⟩ ?_
                  refine XC.ret ?_
                  (exfalso; omega)
                ·refine x_unwant rfl rfl rfl rfl rfl ?_
                 refine x_unwant rfl rfl rfl rfl rfl ?_
                 refine x_unwant rfl rfl rfl rfl rfl ?_
                 refine x_unwant rfl rfl rfl rfl rfl ?_
                 refine x_want rfl rfl rfl ?_
                 refine x_v (r_pk_f rfl rfl) rfl ?_
                 refine x_want rfl rfl rfl ?_
                 refine x_v (r_mv rfl) rfl ?_
                 refine x_unwant rfl rfl rfl rfl rfl ?_
                 refine x_unwant rfl rfl rfl rfl rfl ?_
                 refine x_unwant rfl rfl rfl rfl rfl ?_
                 refine x_unwant rfl rfl rfl rfl rfl ?_
                 refine x_unwant rfl rfl rfl rfl rfl ?_
                 refine x_want rfl rfl rfl ?_
                 refine x_v (r_pk_f rfl rfl) rfl ?_
                 refine x_v (r_pk_f rfl rfl) rfl ?_
                 refine x_v (r_as rfl) rfl ?_
                 refine XL.nil ?_
                 refine hK21 _ _ ?_
                 refine XC.keep [(2, _)] ⟨rfl, trivial⟩ ?_
                 refine XC.ret ?_
                 exact fin1 rfl (⟨congrArg Value.bool (by rw [opOk1 hg69 hA hO]; exact hg74.symm), rfl⟩) gS
              ·refine x_unwant rfl rfl rfl rfl rfl ?_
               refine x_unwant rfl rfl rfl rfl rfl ?_
               refine x_unwant rfl rfl rfl rfl rfl ?_
               refine x_v (r_pk_f rfl rfl) rfl ?_
               refine x_v (r_mv rfl) rfl ?_
               refine x_want rfl rfl rfl ?_
               refine x_v (r_fa fo39_2 rfl) rfl ?_
               refine x_want rfl rfl rfl ?_
               refine x_v (r_ld ty3 rfl pK (by rfl)) rfl ?_
               refine x_want rfl rfl rfl ?_
               refine x_v (r_eq rfl rfl) rfl ?_
               refine x_want rfl rfl rfl ?_
               refine x_v (r_mv rfl) rfl ?_
               refine XL.splitd 78 rfl (fun hg78 => ?_) (fun hg78 => ?_)
               ·refine x_want rfl rfl rfl ?_
                refine x_v (r_fa fo39_7 rfl) rfl ?_
                refine x_want rfl rfl rfl ?_
                refine x_v (r_fa fo37_0 rfl) rfl ?_
                refine x_want rfl rfl rfl ?_
                refine x_v (r_ld ty3 rfl pK (by rfl)) rfl ?_
                refine x_want rfl rfl rfl ?_
                refine x_v (r_eq rfl rfl) rfl ?_
                refine x_want rfl rfl rfl ?_
                refine x_v (r_pk_t rfl rfl) rfl ?_
                refine x_want rfl rfl rfl ?_
                refine x_v (r_mv rfl) rfl ?_
                refine XL.splitd 84 rfl (fun hg84 => ?_) (fun hg84 => ?_)
                ·refine x_want rfl rfl rfl ?_
                 refine x_v (r_fa fo39_7 rfl) rfl ?_
                 refine x_want rfl rfl rfl ?_
                 refine x_v (r_fa fo37_1 rfl) rfl ?_
                 refine x_want rfl rfl rfl ?_
                 refine x_v (r_ld ty29 rfl pK (by rfl)) rfl ?_
                 refine x_want rfl rfl rfl ?_
                 refine x_v (r_lensl Try.underlying29 rfl) rfl ?_
                 refine x_want rfl rfl rfl ?_
                 refine x_v (r_eq rfl rfl) rfl ?_
                 refine x_want rfl rfl rfl ?_
                 refine x_v (r_pk_t rfl rfl) rfl ?_
                 refine x_v (r_pk_f rfl rfl) rfl ?_
                 refine x_v (r_as rfl) rfl ?_
                 refine XL.nil ?_
                 refine hK21 _ _ ?_
                 refine XC.keep [(2, _)] ⟨rfl, trivial⟩ ?_
                 refine XC.ret ?_
                 exact fin1 rfl (⟨congrArg Value.bool (by rw [opOk2 hg78 hA]; exact decide_eq_decide.2 ⟨fun h => ⟨hO, hg84, by omega⟩, fun h => by have := h.2.2; omega⟩), rfl⟩) gS
                ·refine x_unwant rfl rfl rfl rfl rfl ?_
                 refine x_unwant rfl rfl rfl rfl rfl ?_
                 refine x_unwant rfl rfl rfl rfl rfl ?_
                 refine x_unwant rfl rfl rfl rfl rfl ?_
                 refine x_unwant rfl rfl rfl rfl rfl ?_
                 refine x_want rfl rfl rfl ?_
                 refine x_v (r_pk_f rfl rfl) rfl ?_
                 refine x_v (r_pk_f rfl rfl) rfl ?_
                 refine x_v (r_as rfl) rfl ?_
                 refine XL.nil ?_
                 refine hK21 _ _ ?_
                 refine XC.keep [(2, _)] ⟨rfl, trivial⟩ ?_
                 refine XC.ret ?_
                 exact fin1 rfl (⟨congrArg Value.bool (by rw [opOk2 hg78 hA]; exact (decide_eq_false (fun h => hg84 h.2.1)).symm), rfl⟩) gS
               ·refine x_unwant rfl rfl rfl rfl rfl ?_
                refine x_unwant rfl rfl rfl rfl rfl ?_
                refine x_unwant rfl rfl rfl rfl rfl ?_
                refine x_unwant rfl rfl rfl rfl rfl ?_
                refine x_want rfl rfl rfl ?_
                refine x_v (r_pk_f rfl rfl) rfl ?_
                refine x_want rfl rfl rfl ?_
                refine x_v (r_mv rfl) rfl ?_
                refine x_unwant rfl rfl rfl rfl rfl ?_
                refine x_unwant rfl rfl rfl rfl rfl ?_
                refine x_unwant rfl rfl rfl rfl rfl ?_
                refine x_unwant rfl rfl rfl rfl rfl ?_
                refine x_unwant rfl rfl rfl rfl rfl ?_
                refine x_want rfl rfl rfl ?_
                refine x_v (r_pk_f rfl rfl) rfl ?_
                refine x_v (r_pk_f rfl rfl) rfl ?_
                refine x_v (r_as rfl) rfl ?_
                refine XL.nil ?_
                refine hK21 _ _ ?_
                refine XC.keep [(2, _)] ⟨rfl, trivial⟩ ?_
                refine XC.ret ?_
                exact fin1 rfl (⟨congrArg Value.bool (opOkn hg69 hg78 hc7).symm, rfl⟩) gS
end Go.Proofs.Ytheilpcbilnadaa

/- Crowns: an epoch that begins, as a command; answers that the document fixes. -/
import Derived.Test.YtheilpcbilnadaaCrown7
namespace Go.Proofs.Ytheilpcbilnadaa
open Go.Sx
set_option linter.unusedVariables false

theorem bare_tr {W0 : World} {Fr : List HP} (z : Int) (A : Option Addr) (n c : Nat) : Tr W0 Try.prog 85 [.agg #[.int .i64 z, .slice A n c]] Fr (fun v Rs' => v = .bool (decide (z = 0 ∧ n = 0)) ∧ Rs' = Fr) := by
 refine Entry.tr (N := 12) (rs := [.tmp 2]) ⟨_, Try.func85, rfl, by kernel_rfl, rfl, rfl⟩ rfl ?_
 refine XC.seq fun K1 hK1 => ?_
 refine XC.region ?_
 refine x_a (r_bx rfl rfl) rfl fun b1 => ?_
 refine x_v (r_as rfl) rfl ?_
 refine XL.nil ?_
 refine hK1 _ _ ?_
 refine XC.keep [(1, _)] ⟨rfl, trivial⟩ ?_
 refine XC.seq fun K2 hK2 => ?_
 refine XC.region ?_
 refine x_v (r_fa fo37_0 rfl) rfl ?_
 refine x_v (r_ld ty3 rfl pK (by rfl)) rfl ?_
 refine x_v (r_eq rfl rfl) rfl ?_
 refine x_v (r_mv rfl) rfl ?_
 refine XL.splitd 6 rfl (fun hg6 => ?_) (fun hg6 => ?_)
 ·refine x_want rfl rfl rfl ?_
  refine x_v (r_fa fo37_1 rfl) rfl ?_
  refine x_want rfl rfl rfl ?_
  refine x_v (r_ld ty29 rfl pK (by rfl)) rfl ?_
  refine x_want rfl rfl rfl ?_
  refine x_v (r_lensl Try.underlying29 rfl) rfl ?_
  refine x_want rfl rfl rfl ?_
  refine x_v (r_eq rfl rfl) rfl ?_
  refine x_v (r_pk_t rfl rfl) rfl ?_
  refine x_v (r_as rfl) rfl ?_
  refine XL.nil ?_
  refine hK2 _ _ ?_
  refine XC.keep [(2, _)] ⟨rfl, trivial⟩ ?_
  refine XC.ret ?_
  exact fin1 rfl (⟨congrArg Value.bool (decide_eq_decide.2 (by omega)), rfl⟩) gS
 ·refine x_unwant rfl rfl rfl rfl rfl ?_
  refine x_unwant rfl rfl rfl rfl rfl ?_
  refine x_unwant rfl rfl rfl rfl rfl ?_
  refine x_unwant rfl rfl rfl rfl rfl ?_
  refine x_v (r_pk_f rfl rfl) rfl ?_
  refine x_v (r_as rfl) rfl ?_
  refine XL.nil ?_
  refine hK2 _ _ ?_
  refine XC.keep [(2, _)] ⟨rfl, trivial⟩ ?_
  refine XC.ret ?_
  exact fin1 rfl (⟨congrArg Value.bool (decide_eq_false (by omega)).symm, rfl⟩) gS
def Blank (o : Od) : Prop := o.1.client = 0 ∧ o.1.seq = 0 ∧ o.1.name = [] ∧ o.1.size = 0 ∧ o.1.hs.length = 0
instance (o : Od) : Decidable (Blank o) := by unfold Blank; infer_instance
theorem blank_tr {W0 : World} {Fr : List HP} (o : Od) : Tr W0 Try.prog 65 [.agg (odc o).toArray] Fr (fun v Rs' => v = .bool (decide (Blank o)) ∧ Rs' = Fr) := by
 refine Entry.tr (N := 21) (rs := [.tmp 2]) ⟨_, Try.func65, rfl, by kernel_rfl, rfl, rfl⟩ rfl ?_
 refine XC.seq fun K1 hK1 => ?_
 refine XC.region ?_
 refine x_a (r_bx rfl rfl) rfl fun b1 => ?_
 rw [odc_def o]
 refine x_v (r_as rfl) rfl ?_
 refine XL.nil ?_
 refine hK1 _ _ ?_
 refine XC.keep [(1, _)] ⟨rfl, trivial⟩ ?_
 refine XC.seq fun K2 hK2 => ?_
 refine XC.region ?_
 refine x_v (r_fa fo39_4 rfl) rfl ?_
 refine x_v (r_ld ty3 rfl pK (by rfl)) rfl ?_
 refine x_v (r_eq rfl rfl) rfl ?_
 refine x_v (r_mv rfl) rfl ?_
 refine XL.splitd 6 rfl (fun hg6 => ?_) (fun hg6 => ?_)
 ·refine x_want rfl rfl rfl ?_
  refine x_v (r_fa fo39_5 rfl) rfl ?_
  refine x_want rfl rfl rfl ?_
  refine x_v (r_ld ty3 rfl pK (by rfl)) rfl ?_
  refine x_want rfl rfl rfl ?_
  refine x_v (r_eq rfl rfl) rfl ?_
  refine x_v (r_pk_t rfl rfl) rfl ?_
  refine x_v (r_mv rfl) rfl ?_
  refine XL.splitd 11 rfl (fun hg11 => ?_) (fun hg11 => ?_)
  ·refine x_want rfl rfl rfl ?_
   refine x_v (r_fa fo39_6 rfl) rfl ?_
   refine x_want rfl rfl rfl ?_
   refine x_v (r_ld ty9 rfl pK (by rfl)) rfl ?_
   refine x_want rfl rfl rfl ?_
   refine x_v (r_seq rfl rfl) rfl ?_
   refine x_v (r_pk_t rfl rfl) rfl ?_
   refine x_v (r_mv rfl) rfl ?_
   refine XL.splitd 16 rfl (fun hg16 => ?_) (fun hg16 => ?_)
   ·refine x_want rfl rfl rfl ?_
    refine x_v (r_fa fo39_7 rfl) rfl ?_
    refine x_want rfl rfl rfl ?_
    refine x_v (r_lda (l' := [_, _]) ty37 rfl pK rfl (Sub.get sU)) rfl ?_
    refine x_want rfl rfl rfl ?_
    refine x_c (r_call0 (args := [_]) ⟨rfl, rfl⟩ (bare_tr o.1.size o.2.1 o.1.hs.length o.2.2) gS) rfl ?_
    rintro _ _ ⟨rfl, rfl⟩
    refine x_v (r_pk_t rfl rfl) rfl ?_
    refine x_v (r_as rfl) rfl ?_
    refine XL.nil ?_
    refine hK2 _ _ ?_
    refine XC.keep [(2, _)] ⟨rfl, trivial⟩ ?_
    refine XC.ret ?_
    exact fin1 rfl (⟨congrArg Value.bool (decide_eq_decide.2 ⟨fun q => ⟨hg6, hg11, hg16, q.1, q.2⟩, fun q => q.2.2.2⟩), rfl⟩) gS
   ·refine x_unwant rfl rfl rfl rfl rfl ?_
    refine x_unwant rfl rfl rfl rfl rfl ?_
    refine x_unwant rfl rfl rfl rfl rfl ?_
    refine x_v (r_pk_f rfl rfl) rfl ?_
    refine x_v (r_as rfl) rfl ?_
    refine XL.nil ?_
    refine hK2 _ _ ?_
    refine XC.keep [(2, _)] ⟨rfl, trivial⟩ ?_
    refine XC.ret ?_
    exact fin1 rfl (⟨congrArg Value.bool (decide_eq_false (fun q => by obtain ⟨q1, q2, q3, q4, q5⟩ := q; first | (exact hg16 q3) | omega)).symm, rfl⟩) gS
  ·refine x_unwant rfl rfl rfl rfl rfl ?_
   refine x_unwant rfl rfl rfl rfl rfl ?_
   refine x_unwant rfl rfl rfl rfl rfl ?_
   refine x_v (r_pk_f rfl rfl) rfl ?_
   refine x_v (r_mv rfl) rfl ?_
   refine x_unwant rfl rfl rfl rfl rfl ?_
   refine x_unwant rfl rfl rfl rfl rfl ?_
   refine x_unwant rfl rfl rfl rfl rfl ?_
   refine x_v (r_pk_f rfl rfl) rfl ?_
   refine x_v (r_as rfl) rfl ?_
   refine XL.nil ?_
   refine hK2 _ _ ?_
   refine XC.keep [(2, _)] ⟨rfl, trivial⟩ ?_
   refine XC.ret ?_
   exact fin1 rfl (⟨congrArg Value.bool (decide_eq_false (fun q => by obtain ⟨q1, q2, q3, q4, q5⟩ := q; first | (exact hg16 q3) | omega)).symm, rfl⟩) gS
 ·refine x_unwant rfl rfl rfl rfl rfl ?_
  refine x_unwant rfl rfl rfl rfl rfl ?_
  refine x_unwant rfl rfl rfl rfl rfl ?_
  refine x_v (r_pk_f rfl rfl) rfl ?_
  refine x_v (r_mv rfl) rfl ?_
  refine x_unwant rfl rfl rfl rfl rfl ?_
  refine x_unwant rfl rfl rfl rfl rfl ?_
  refine x_unwant rfl rfl rfl rfl rfl ?_
  refine x_v (r_pk_f rfl rfl) rfl ?_
  refine x_v (r_mv rfl) rfl ?_
  refine x_unwant rfl rfl rfl rfl rfl ?_
  refine x_unwant rfl rfl rfl rfl rfl ?_
  refine x_unwant rfl rfl rfl rfl rfl ?_
  refine x_v (r_pk_f rfl rfl) rfl ?_
  refine x_v (r_as rfl) rfl ?_
  refine XL.nil ?_
  refine hK2 _ _ ?_
  refine XC.keep [(2, _)] ⟨rfl, trivial⟩ ?_
  refine XC.ret ?_
  exact fin1 rfl (⟨congrArg Value.bool (decide_eq_false (fun q => by obtain ⟨q1, q2, q3, q4, q5⟩ := q; first | (exact hg16 q3) | omega)).symm, rfl⟩) gS
def Reigned (e s : Int) : Prop := 1 ≤ e ∧ e ≤ 16 ∧ 0 ≤ s ∧ s < 2
instance (e s : Int) : Decidable (Reigned e s) := by unfold Reigned; infer_instance
theorem reigned_tr {W0 : World} {Fr : List HP} (e s : Int) : Tr W0 Try.prog 68 [.int .i64 e, .int .i64 s] Fr (fun v Rs' => v = .bool (decide (Reigned e s)) ∧ Rs' = Fr) := by
 refine Entry.tr (N := 19) (rs := [.tmp 4]) ⟨_, Try.func68, rfl, by kernel_rfl, rfl, rfl⟩ rfl ?_
 refine XC.seq fun K1 hK1 => ?_
 refine XC.region ?_
 refine x_v (r_as rfl) rfl ?_
 refine XL.nil ?_
 refine hK1 _ _ ?_
 refine XC.keep [(0, _), (1, _)] ⟨rfl, rfl, trivial⟩ ?_
 refine XC.seq fun K2 hK2 => ?_
 refine XC.region ?_
 refine x_v (r_mv rfl) rfl ?_
 refine x_v (r_ge rfl rfl) rfl ?_
 refine x_v (r_mv rfl) rfl ?_
 refine XL.splitd 7 rfl (fun hg7 => ?_) (fun hg7 => ?_)
 ·refine x_want rfl rfl rfl ?_
  refine x_v (r_mv rfl) rfl ?_
  refine x_want rfl rfl rfl ?_
  refine x_v (r_le rfl rfl) rfl ?_
  refine x_v (r_pk_t rfl rfl) rfl ?_
  refine x_v (r_mv rfl) rfl ?_
  refine XL.splitd 11 rfl (fun hg11 => ?_) (fun hg11 => ?_)
  ·refine x_want rfl rfl rfl ?_
   refine x_v (r_mv rfl) rfl ?_
   refine x_want rfl rfl rfl ?_
   refine x_v (r_ge rfl rfl) rfl ?_
   refine x_v (r_pk_t rfl rfl) rfl ?_
   refine x_v (r_mv rfl) rfl ?_
   refine XL.splitd 15 rfl (fun hg15 => ?_) (fun hg15 => ?_)
   ·refine x_want rfl rfl rfl ?_
    refine x_v (r_mv rfl) rfl ?_
    refine x_want rfl rfl rfl ?_
    refine x_v (r_lt rfl rfl) rfl ?_
    refine x_v (r_pk_t rfl rfl) rfl ?_
    refine x_v (r_as rfl) rfl ?_
    refine XL.nil ?_
    refine hK2 _ _ ?_
    refine XC.keep [(4, _)] ⟨rfl, trivial⟩ ?_
    refine XC.ret ?_
    exact fin1 rfl (⟨congrArg Value.bool (decide_eq_decide.2 (by unfold Reigned; omega)), rfl⟩) gS
   ·refine x_unwant rfl rfl rfl rfl rfl ?_
    refine x_unwant rfl rfl rfl rfl rfl ?_
    refine x_v (r_pk_f rfl rfl) rfl ?_
    refine x_v (r_as rfl) rfl ?_
    refine XL.nil ?_
    refine hK2 _ _ ?_
    refine XC.keep [(4, _)] ⟨rfl, trivial⟩ ?_
    refine XC.ret ?_
    exact fin1 rfl (⟨congrArg Value.bool (decide_eq_false (by unfold Reigned; omega)).symm, rfl⟩) gS
  ·refine x_unwant rfl rfl rfl rfl rfl ?_
   refine x_unwant rfl rfl rfl rfl rfl ?_
   refine x_v (r_pk_f rfl rfl) rfl ?_
   refine x_v (r_mv rfl) rfl ?_
   refine x_unwant rfl rfl rfl rfl rfl ?_
   refine x_unwant rfl rfl rfl rfl rfl ?_
   refine x_v (r_pk_f rfl rfl) rfl ?_
   refine x_v (r_as rfl) rfl ?_
   refine XL.nil ?_
   refine hK2 _ _ ?_
   refine XC.keep [(4, _)] ⟨rfl, trivial⟩ ?_
   refine XC.ret ?_
   exact fin1 rfl (⟨congrArg Value.bool (decide_eq_false (by unfold Reigned; omega)).symm, rfl⟩) gS
 ·refine x_unwant rfl rfl rfl rfl rfl ?_
  refine x_unwant rfl rfl rfl rfl rfl ?_
  refine x_v (r_pk_f rfl rfl) rfl ?_
  refine x_v (r_mv rfl) rfl ?_
  refine x_unwant rfl rfl rfl rfl rfl ?_
  refine x_unwant rfl rfl rfl rfl rfl ?_
  refine x_v (r_pk_f rfl rfl) rfl ?_
  refine x_v (r_mv rfl) rfl ?_
  refine x_unwant rfl rfl rfl rfl rfl ?_
  refine x_unwant rfl rfl rfl rfl rfl ?_
  refine x_v (r_pk_f rfl rfl) rfl ?_
  refine x_v (r_as rfl) rfl ?_
  refine XL.nil ?_
  refine hK2 _ _ ?_
  refine XC.keep [(4, _)] ⟨rfl, trivial⟩ ?_
  refine XC.ret ?_
  exact fin1 rfl (⟨congrArg Value.bool (decide_eq_false (by unfold Reigned; omega)).symm, rfl⟩) gS
theorem tagged_tr {W0 : World} {Fr : List HP} (n : Int) : Tr W0 Try.prog 66 [.int .i64 n] Fr (fun v Rs' => v = .bool (decide (0 ≤ n ∧ n ≤ 1099511627776)) ∧ Rs' = Fr) := by
 refine Entry.tr (N := 9) (rs := [.tmp 2]) ⟨_, Try.func66, rfl, by kernel_rfl, rfl, rfl⟩ rfl ?_
 refine XC.seq fun K1 hK1 => ?_
 refine XC.region ?_
 refine x_v (r_as rfl) rfl ?_
 refine XL.nil ?_
 refine hK1 _ _ ?_
 refine XC.keep [(0, _)] ⟨rfl, trivial⟩ ?_
 refine XC.seq fun K2 hK2 => ?_
 refine XC.region ?_
 refine x_v (r_mv rfl) rfl ?_
 refine x_v (r_ge rfl rfl) rfl ?_
 refine x_v (r_mv rfl) rfl ?_
 refine XL.splitd 5 rfl (fun hg5 => ?_) (fun hg5 => ?_)
 ·refine x_want rfl rfl rfl ?_
  refine x_v (r_mv rfl) rfl ?_
  refine x_want rfl rfl rfl ?_
  refine x_v (r_le rfl rfl) rfl ?_
  refine x_v (r_pk_t rfl rfl) rfl ?_
  refine x_v (r_as rfl) rfl ?_
  refine XL.nil ?_
  refine hK2 _ _ ?_
  refine XC.keep [(2, _)] ⟨rfl, trivial⟩ ?_
  refine XC.ret ?_
  exact fin1 rfl (⟨congrArg Value.bool (decide_eq_decide.2 (by omega)), rfl⟩) gS
 ·refine x_unwant rfl rfl rfl rfl rfl ?_
  refine x_unwant rfl rfl rfl rfl rfl ?_
  refine x_v (r_pk_f rfl rfl) rfl ?_
  refine x_v (r_as rfl) rfl ?_
  refine XL.nil ?_
  refine hK2 _ _ ?_
  refine XC.keep [(2, _)] ⟨rfl, trivial⟩ ?_
  refine XC.ret ?_
  exact fin1 rfl (⟨congrArg Value.bool (decide_eq_false (by omega)).symm, rfl⟩) gS
def zop : Od := (⟨0, 0, 0, 0, 0, 0, [], 0, []⟩, none, 0)
theorem zblank : Blank zop := ⟨rfl, rfl, rfl, rfl, rfl⟩
theorem chkr_tr {W0 : World} {Fr : List HP} (e s : Int) (h : Reigned e s) : Tr W0 Try.prog 40 [.agg (cmz 4 e s).toArray] Fr (fun v Rs' => v = .int .i64 0 ∧ Rs' = Fr) := by
 have h' : 1 ≤ e ∧ e ≤ 16 ∧ 0 ≤ s ∧ s < 2 := h
 refine Entry.tr (N := 250) (rs := [.tmp 2]) ⟨_, Try.func40, rfl, by kernel_rfl, rfl, rfl⟩ rfl ?_
 refine XC.seq fun K1 hK1 => ?_
 refine XC.region ?_
 refine x_a (r_bx rfl rfl) rfl fun b1 => ?_
 unfold cmz
 refine x_v (r_as rfl) rfl ?_
 refine XL.nil ?_
 refine hK1 _ _ ?_
 refine XC.keep [(1, _)] ⟨rfl, trivial⟩ ?_
 refine XC.seq fun K2 hK2 => ?_
 refine XC.region ?_
 refine x_v (r_fa fo41_3 rfl) rfl ?_
 refine x_v (r_fa fo39_0 rfl) rfl ?_
 refine x_v (r_ld ty3 rfl pK (by rfl)) rfl ?_
 refine x_v (r_eq rfl rfl) rfl ?_
 refine x_v (r_mv rfl) rfl ?_
 refine XL.splitd 15 rfl (fun hg15 => ?_) (fun hg15 => ?_)
 ·refine x_want rfl rfl rfl ?_
  refine x_v (r_fa fo41_3 rfl) rfl ?_
  refine x_want rfl rfl rfl ?_
  refine x_v (r_fa fo39_1 rfl) rfl ?_
  refine x_want rfl rfl rfl ?_
  refine x_v (r_ld ty3 rfl pK (by rfl)) rfl ?_
  refine x_want rfl rfl rfl ?_
  refine x_v (r_eq rfl rfl) rfl ?_
  refine x_v (r_pk_t rfl rfl) rfl ?_
  refine x_v (r_mv rfl) rfl ?_
  refine XL.splitd 21 rfl (fun hg21 => ?_) (fun hg21 => ?_)
  ·refine x_want rfl rfl rfl ?_
   refine x_v (r_fa fo41_3 rfl) rfl ?_
   refine x_want rfl rfl rfl ?_
   refine x_v (r_fa fo39_2 rfl) rfl ?_
   refine x_want rfl rfl rfl ?_
   refine x_v (r_ld ty3 rfl pK (by rfl)) rfl ?_
   refine x_want rfl rfl rfl ?_
   refine x_v (r_eq rfl rfl) rfl ?_
   refine x_v (r_pk_t rfl rfl) rfl ?_
   refine x_v (r_mv rfl) rfl ?_
   refine XL.splitd 27 rfl (fun hg27 => ?_) (fun hg27 => ?_)
   ·refine x_want rfl rfl rfl ?_
    refine x_v (r_fa fo41_3 rfl) rfl ?_
    refine x_want rfl rfl rfl ?_
    refine x_v (r_fa fo39_3 rfl) rfl ?_
    refine x_want rfl rfl rfl ?_
    refine x_v (r_ld ty3 rfl pK (by rfl)) rfl ?_
    refine x_want rfl rfl rfl ?_
    refine x_v (r_eq rfl rfl) rfl ?_
    refine x_v (r_pk_t rfl rfl) rfl ?_
    refine x_v (r_mv rfl) rfl ?_
    refine XL.splitd 33 rfl (fun hg33 => ?_) (fun hg33 => ?_)
    ·refine x_want rfl rfl rfl ?_
     refine x_v (r_fa fo41_3 rfl) rfl ?_
     refine x_want rfl rfl rfl ?_
     refine x_v (r_lda (l' := [_, _, _, _, _, _, _, _, _]) ty39 rfl pK rfl (Sub.get sU)) rfl ?_
     refine x_want rfl rfl rfl ?_
     refine x_c (r_call0 (args := [_]) ⟨rfl, rfl⟩ (blank_tr zop) gS) rfl ?_
     rintro _ _ ⟨rfl, rfl⟩
     refine x_v (r_pk_t rfl rfl) rfl ?_
     refine x_v (r_as rfl) rfl ?_
     refine XL.nil ?_
     refine hK2 _ _ ?_
     refine XC.keep [(1, _), (3, _)] ⟨rfl, rfl, trivial⟩ ?_
     refine XC.seq fun K3 hK3 => ?_
     refine XC.region ?_
     refine x_v (r_fa fo41_4 rfl) rfl ?_
     refine x_v (r_ld ty3 rfl pK (by rfl)) rfl ?_
     refine x_v (r_eq rfl rfl) rfl ?_
     refine x_v (r_mv rfl) rfl ?_
     refine XL.splitd 41 rfl (fun hg41 => ?_) (fun hg41 => ?_)
     ·refine x_want rfl rfl rfl ?_
      refine x_v (r_fa fo41_5 rfl) rfl ?_
      refine x_want rfl rfl rfl ?_
      refine x_v (r_ld ty3 rfl pK (by rfl)) rfl ?_
      refine x_want rfl rfl rfl ?_
      refine x_v (r_eq rfl rfl) rfl ?_
      refine x_v (r_pk_t rfl rfl) rfl ?_
      refine x_v (r_mv rfl) rfl ?_
      refine XL.splitd 46 rfl (fun hg46 => ?_) (fun hg46 => ?_)
      ·refine x_want rfl rfl rfl ?_
       refine x_v (r_fa fo41_6 rfl) rfl ?_
       refine x_want rfl rfl rfl ?_
       refine x_v (r_ld ty33 rfl pK (by rfl)) rfl ?_
       refine x_want rfl rfl rfl ?_
       refine x_v (r_lensl Try.underlying33 rfl) rfl ?_
       refine x_want rfl rfl rfl ?_
       refine x_v (r_eq rfl rfl) rfl ?_
       refine x_v (r_pk_t rfl rfl) rfl ?_
       refine x_v (r_as rfl) rfl ?_
       refine XL.nil ?_
       refine hK3 _ _ ?_
       refine XC.keep [(1, _), (3, _), (4, _)] ⟨rfl, rfl, rfl, trivial⟩ ?_
       refine XC.seq fun K4 hK4 => ?_
       refine XC.region ?_
       refine x_v (r_fa fo41_1 rfl) rfl ?_
       refine x_v (r_ld ty3 rfl pK (by rfl)) rfl ?_
       refine x_v (r_eq rfl rfl) rfl ?_
       refine x_v (r_mv rfl) rfl ?_
       refine XL.splitd 55 rfl (fun hg55 => ?_) (fun hg55 => ?_)
       ·exfalso; omega
       ·refine x_unwant rfl rfl rfl rfl rfl ?_
        refine x_unwant rfl rfl rfl rfl rfl ?_
        refine x_unwant rfl rfl rfl rfl rfl ?_
        refine x_v (r_pk_f rfl rfl) rfl ?_
        refine x_v (r_as rfl) rfl ?_
        refine XL.nil ?_
        refine hK4 _ _ ?_
        refine XC.keep [(1, _), (3, _), (4, _), (5, _)] ⟨rfl, rfl, rfl, rfl, trivial⟩ ?_
        refine XC.seq fun K5 hK5 => ?_
        refine XC.region ?_
        refine x_v (r_as rfl) rfl ?_
        refine XL.nil ?_
        refine hK5 _ _ ?_
        refine XC.keep [(1, _), (3, _), (4, _), (5, _), (6, _)] ⟨rfl, rfl, rfl, rfl, rfl, trivial⟩ ?_
        refine XC.seq fun K6 hK6 => ?_
        refine XC.seq fun K7 hK7 => ?_
        refine XC.region ?_
        refine x_v (r_fa fo41_0 rfl) rfl ?_
        refine x_v (r_ld ty3 rfl pK (by rfl)) rfl ?_
        refine XL.nil ?_
        refine hK7 _ _ ?_
        refine XC.keep [(1, _), (3, _), (4, _), (5, _), (6, _), (61, _)] ⟨rfl, rfl, rfl, rfl, rfl, rfl, trivial⟩ ?_
        refine XC.block ?_
        refine XC.seq fun K8 hK8 => ?_
        refine XC.region ?_
        refine x_v (r_eq rfl rfl) rfl ?_
        refine x_v (r_as rfl) rfl ?_
        refine XL.nil ?_
        refine hK8 _ _ ?_
        refine XC.keep [(1, _), (3, _), (4, _), (5, _), (6, _), (61, _), (62, _)] ⟨rfl, rfl, rfl, rfl, rfl, rfl, rfl, trivial⟩ ?_
        refine XC.cond_d rfl (fun hc1 => ?_) (fun hc1 => ?_)
        ·exfalso; omega
        ·refine XC.seq fun K9 hK9 => ?_
         refine XC.region ?_
         refine x_v (r_eq rfl rfl) rfl ?_
         refine x_v (r_as rfl) rfl ?_
         refine XL.nil ?_
         refine hK9 _ _ ?_
         refine XC.keep [(1, _), (3, _), (4, _), (5, _), (6, _), (61, _), (76, _)] ⟨rfl, rfl, rfl, rfl, rfl, rfl, rfl, trivial⟩ ?_
         refine XC.cond_d rfl (fun hc2 => ?_) (fun hc2 => ?_)
         ·exfalso; omega
         ·refine XC.seq fun K10 hK10 => ?_
          refine XC.region ?_
          refine x_v (r_eq rfl rfl) rfl ?_
          refine x_v (r_as rfl) rfl ?_
          refine XL.nil ?_
          refine hK10 _ _ ?_
          refine XC.keep [(1, _), (3, _), (4, _), (5, _), (6, _), (61, _), (119, _)] ⟨rfl, rfl, rfl, rfl, rfl, rfl, rfl, trivial⟩ ?_
          refine XC.cond_d rfl (fun hc3 => ?_) (fun hc3 => ?_)
          ·exfalso; omega
          ·refine XC.seq fun K11 hK11 => ?_
           refine XC.region ?_
           refine x_v (r_eq rfl rfl) rfl ?_
           refine x_v (r_as rfl) rfl ?_
           refine XL.nil ?_
           refine hK11 _ _ ?_
           refine XC.keep [(1, _), (3, _), (4, _), (6, _), (61, _), (133, _)] ⟨rfl, rfl, rfl, rfl, rfl, rfl, trivial⟩ ?_
           refine XC.cond_d rfl (fun hc4 => ?_) (fun hc4 => ?_)
           ·exfalso; omega
           ·refine XC.seq fun K12 hK12 => ?_
            refine XC.region ?_
            refine x_v (r_eq rfl rfl) rfl ?_
            refine x_v (r_as rfl) rfl ?_
            refine XL.nil ?_
            refine hK12 _ _ ?_
            refine XC.keep [(1, _), (3, _), (4, _), (6, _), (61, _), (187, _)] ⟨rfl, rfl, rfl, rfl, rfl, rfl, trivial⟩ ?_
            refine XC.cond_d rfl (fun hc5 => ?_) (fun hc5 => ?_)
            ·refine XC.region ?_
             refine x_v (r_mv rfl) rfl ?_
             refine x_v (r_mv rfl) rfl ?_
             refine XL.splitd 190 rfl (fun hg190 => ?_) (fun hg190 => ?_)
             ·refine x_want rfl rfl rfl ?_
              refine x_v (r_mv rfl) rfl ?_
              refine x_v (r_pk_t rfl rfl) rfl ?_
              refine x_v (r_mv rfl) rfl ?_
              refine XL.splitd 193 rfl (fun hg193 => ?_) (fun hg193 => ?_)
              ·refine x_want rfl rfl rfl ?_
               refine x_v (r_fa fo41_7 rfl) rfl ?_
               refine x_want rfl rfl rfl ?_
               refine x_v (r_ld ty3 rfl pK (by rfl)) rfl ?_
               refine x_want rfl rfl rfl ?_
               refine x_v (r_eq rfl rfl) rfl ?_
               refine x_v (r_pk_t rfl rfl) rfl ?_
               refine x_v (r_mv rfl) rfl ?_
               refine XL.splitd 198 rfl (fun hg198 => ?_) (fun hg198 => ?_)
               ·refine x_want rfl rfl rfl ?_
                refine x_v (r_fa fo41_1 rfl) rfl ?_
                refine x_want rfl rfl rfl ?_
                refine x_v (r_ld ty3 rfl pK (by rfl)) rfl ?_
                refine x_want rfl rfl rfl ?_
                refine x_v (r_fa fo41_2 rfl) rfl ?_
                refine x_want rfl rfl rfl ?_
                refine x_v (r_ld ty3 rfl pK (by rfl)) rfl ?_
                refine x_want rfl rfl rfl ?_
                refine x_c (r_call0 (args := [_, _]) ⟨rfl, rfl, rfl⟩ (reigned_tr e s) gS) rfl ?_
                rintro _ _ ⟨rfl, rfl⟩
                refine x_v (r_pk_t rfl rfl) rfl ?_
                refine x_v (r_as rfl) rfl ?_
                refine XL.nil ?_
                refine hK6 _ _ ?_
                refine XC.keep [(6, _)] ⟨rfl, trivial⟩ ?_
                refine XC.seq fun K13 hK13 => ?_
                refine XC.seq fun K14 hK14 => ?_
                refine XC.region ?_
                refine x_v (r_mv rfl) rfl ?_
                refine x_v (r_not_d rfl) rfl ?_
                refine XL.nil ?_
                refine hK14 _ _ ?_
                refine XC.keep [(249, _)] ⟨rfl, trivial⟩ ?_
                refine XC.cond_d rfl (fun hc6 => ?_) (fun hc6 => ?_)
                ·exfalso; exact hc6 h
                ·refine XC.skip ?_
                 refine hK13 _ _ ?_
                 refine XC.keep [] trivial ?_
                 refine XC.seq fun K15 hK15 => ?_
                 refine XC.region ?_
                 refine x_v (r_as rfl) rfl ?_
                 refine XL.nil ?_
                 refine hK15 _ _ ?_
                 refine XC.keep [(2, _)] ⟨rfl, trivial⟩ ?_
                 refine XC.ret ?_
                 exact fin1 rfl (⟨rfl, rfl⟩) gS
               ·exfalso; first | omega | exact hg198 rfl | simp at hg198
              ·exfalso; exact hg193 rfl
             ·exfalso; exact hg190 zblank
            ·exfalso; omega
      ·exfalso; first | omega | exact hg46 rfl | simp at hg46
     ·exfalso; first | omega | exact hg41 rfl | simp at hg41
    ·exfalso; first | omega | exact hg33 rfl | simp at hg33
   ·exfalso; first | omega | exact hg27 rfl | simp at hg27
  ·exfalso; first | omega | exact hg21 rfl | simp at hg21
 ·exfalso; first | omega | exact hg15 rfl | simp at hg15
theorem reign_tr {W0 : World} {Fr : List HP} {k : HP} {h : Lh} (b : Nat) (e s : Int) (L : List Od) (hLn : L.length = h.n) (he : h.fence < e) (hn : h.n < 80) :
  Tr W0 Try.prog 43 [.pointer (some ⟨b, 0, none⟩), .agg (cmz 4 e s).toArray] (blk b 91 (ldc h) :: sl h.A h.n h.c 39 9 (cells odc L) :: k :: Fr) (fun v Rs' => ∃ A2 c2 k2 o3, v = .agg #[.int .i64 0, .int .i64 ((h.n : Int) + 1), .int .i64 e] ∧ Rs' = blk b 91 (ldc { h with A := A2, n := h.n + 1, c := c2, hE := e, hS := s, fence := e }) :: sl A2 (h.n + 1) c2 39 9 (cells odc (L ++ [o3])) :: k2 :: Fr ∧ Ex W0 k k2 ∧ o3.1 = opAt (⟨0, 0, 3, 0, 0, 0, [], 0, []⟩, none, 0) h.n e s ∧ RdO W0 k2 o3) := by
 unfold ldc
 refine Entry.tr (N := 34) (rs := [.cell 4 62]) ⟨_, Try.func43, rfl, by kernel_rfl, rfl, rfl⟩ rfl ?_
 refine XC.seq fun K1 hK1 => ?_
 refine XC.region ?_
 refine x_a (r_bx rfl rfl) rfl fun b3 => ?_
 unfold cmz
 refine x_a (r_al ty62 rfl) rfl fun b4 => ?_
 refine XL.nil ?_
 refine hK1 _ _ ?_
 refine XC.keep [(0, _), (3, _), (4, _)] ⟨rfl, rfl, rfl, trivial⟩ ?_
 refine XC.seq fun K2 hK2 => ?_
 refine XC.block ?_
 refine XC.seq fun K3 hK3 => ?_
 refine XC.draw [blk b3 41 [.int .i64 4, .int .i64 e, .int .i64 s, .int .i64 0, .int .i64 0, .int .i64 0, .int .i64 0, .int .i64 0, .int .i64 0, str [], .int .i64 0, .slice none 0 0, .int .i64 0, .int .i64 0, .slice none 0 0, .int .i64 0], blk b 91 [.map (some h.mL), .int .i64 h.used, .map (some h.mO), .int .i64 h.hE, .int .i64 h.hS, .slice h.A h.n h.c, .slice h.lA h.ln h.lc, .int .i64 h.fence, .int .i64 h.settled, .int .i64 h.quota, .int .i64 h.room]] false [(0, false), (1, false), (2, false), (3, false), (4, false), (5, false), (6, false), (7, false)] (by kernel_rfl) (by kernel_rfl) ?_
 refine y_v rfl (r_fa fo41_1 rfl) gT rfl ?_
 refine y_v rfl (r_ld ty3 rfl pK (by rfl)) gT rfl ?_
 refine y_v rfl (r_mv rfl) gT rfl ?_
 refine y_v rfl (r_nc rfl) gT rfl ?_
 refine y_v rfl (r_fa fo91_3 rfl) gT rfl ?_
 refine y_v rfl (r_ld ty3 rfl pK (by rfl)) gT rfl ?_
 refine y_v rfl (r_le rfl rfl) gT rfl ?_
 refine y_v rfl (r_as rfl) gT rfl ?_
 refine XH.nil ?_
 refine hK3 _ _ ?_
 refine XC.keep [(0, _), (3, _), (4, _), (5, _)] ⟨rfl, rfl, rfl, rfl, trivial⟩ ?_
 refine XC.cond_d rfl (fun hc1 => ?_) (fun hc1 => ?_)
 ·exfalso; omega
 ·refine XC.seq fun K4 hK4 => ?_
  refine XC.region ?_
  refine x_v (r_mv rfl) rfl ?_
  refine x_v (r_nc rfl) rfl ?_
  refine x_v (r_fa fo91_1 rfl) rfl ?_
  refine x_v (r_ld ty33 rfl pK (by rfl)) rfl ?_
  refine x_v (r_lensl Try.underlying33 rfl) rfl ?_
  refine x_v (r_ge rfl rfl) rfl ?_
  refine x_v (r_as rfl) rfl ?_
  refine XL.nil ?_
  refine hK4 _ _ ?_
  refine XC.keep [(0, _), (3, _), (4, _), (14, _)] ⟨rfl, rfl, rfl, rfl, trivial⟩ ?_
  refine XC.cond_d rfl (fun hc2 => ?_) (fun hc2 => ?_)
  ·exfalso; omega
  ·refine XC.skip ?_
   refine hK2 _ _ ?_
   refine XC.keep [(0, _), (3, _), (4, _)] ⟨rfl, rfl, rfl, trivial⟩ ?_
   refine XC.seq fun K5 hK5 => ?_
   refine XC.region ?_
   refine x_v (r_mv rfl) rfl ?_
   refine x_v (r_fa fo41_1 rfl) rfl ?_
   refine x_v (r_ld ty3 rfl pK (by rfl)) rfl ?_
   refine x_v (r_nc rfl) rfl ?_
   refine x_v (r_fa fo91_3 rfl) rfl ?_
   refine x_e (r_st ty3 rfl rfl rfl rfl rfl uD oV) ?_
   refine XL.nil ?_
   refine hK5 _ _ ?_
   refine XC.keep [(0, _), (3, _), (4, _)] ⟨rfl, rfl, rfl, trivial⟩ ?_
   refine XC.seq fun K6 hK6 => ?_
   refine XC.region ?_
   refine x_v (r_mv rfl) rfl ?_
   refine x_v (r_bd (vs := [_]) rfl ⟨rfl, rfl⟩ (bd39_2 _)) rfl ?_
   refine x_v (r_fa fo41_1 rfl) rfl ?_
   refine x_v (r_ld ty3 rfl pK (by rfl)) rfl ?_
   refine x_v (r_fa fo41_2 rfl) rfl ?_
   refine x_v (r_ld ty3 rfl pK (by rfl)) rfl ?_
   refine x_c (r_call0 (args := [_, _, _, _]) ⟨rfl, rfl, rfl, rfl, rfl⟩ (putr_tr (k := k) (h := { h with fence := e }) b (⟨0, 0, 3, 0, 0, 0, [], 0, []⟩, none, 0) e s L hLn rfl ⟨Rdb.nil _ _ _, by decide⟩ (by dsimp only; omega)) gS) rfl ?_
   rintro _ _ ⟨A2, c2, k2, o3, rfl, rfl, hx2, ho3, hr3⟩
   refine x_e (r_st ty62 rfl rfl rfl rfl rfl uD oV) ?_
   refine XL.nil ?_
   refine hK6 _ _ ?_
   refine XC.keep [(4, _)] ⟨rfl, trivial⟩ ?_
   refine XC.ret ?_
   exact finc1 ty62 rfl pK (by rfl) (⟨A2, c2, k2, o3, rfl, rfl, hx2, ho3, hr3⟩) gS
theorem applyr_tr {W0 : World} {Fr : List HP} {k : HP} {h : Lh} (b : Nat) (e s : Int) (L : List Od) (hLn : L.length = h.n) (hr : Reigned e s) (he : h.fence < e) (hn : h.n < 80) :
  Tr W0 Try.prog 21 [.pointer (some ⟨b, 0, none⟩), .agg (cmz 4 e s).toArray] (blk b 91 (ldc h) :: sl h.A h.n h.c 39 9 (cells odc L) :: k :: Fr) (fun v Rs' => ∃ A2 c2 k2 o3, v = .agg #[.int .i64 0, .int .i64 ((h.n : Int) + 1), .int .i64 e] ∧ Rs' = blk b 91 (ldc { h with A := A2, n := h.n + 1, c := c2, hE := e, hS := s, fence := e }) :: sl A2 (h.n + 1) c2 39 9 (cells odc (L ++ [o3])) :: k2 :: Fr ∧ Ex W0 k k2 ∧ o3.1 = opAt (⟨0, 0, 3, 0, 0, 0, [], 0, []⟩, none, 0) h.n e s ∧ RdO W0 k2 o3) := by
 refine Entry.tr (N := 40) (rs := [.cell 4 62]) ⟨_, Try.func21, rfl, by kernel_rfl, rfl, rfl⟩ rfl ?_
 refine XC.seq fun K1 hK1 => ?_
 refine XC.region ?_
 refine x_a (r_bx rfl rfl) rfl fun b3 => ?_
 unfold cmz
 refine x_a (r_al ty62 rfl) rfl fun b4 => ?_
 refine XL.nil ?_
 refine hK1 _ _ ?_
 refine XC.keep [(0, _), (3, _), (4, _)] ⟨rfl, rfl, rfl, trivial⟩ ?_
 refine XC.seq fun K2 hK2 => ?_
 refine XC.seq fun K3 hK3 => ?_
 refine XC.region ?_
 refine x_v (r_mv rfl) rfl ?_
 refine x_v (r_peq_some Try.underlying54 rfl rfl) rfl ?_
 refine XL.nil ?_
 refine hK3 _ _ ?_
 refine XC.keep [(0, _), (3, _), (4, _), (7, _)] ⟨rfl, rfl, rfl, rfl, trivial⟩ ?_
 refine XC.cond_f rfl ?_
 refine XC.skip ?_
 refine hK2 _ _ ?_
 refine XC.keep [(0, _), (3, _), (4, _)] ⟨rfl, rfl, rfl, trivial⟩ ?_
 refine XC.seq fun K4 hK4 => ?_
 refine XC.seq fun K5 hK5 => ?_
 refine XC.region ?_
 refine x_v (r_lda (l' := [_, _, _, _, _, _, _, _, _, _, _, _, _, _, _, _]) ty41 rfl pK rfl (Sub.get sU)) rfl ?_
 refine x_c (r_call0 (args := [_]) ⟨rfl, rfl⟩ (chkr_tr e s hr) gS) rfl ?_
 rintro _ _ ⟨rfl, rfl⟩
 refine x_v (r_as rfl) rfl ?_
 refine XL.nil ?_
 refine hK5 _ _ ?_
 refine XC.keep [(0, _), (3, _), (4, _), (5, _)] ⟨rfl, rfl, rfl, rfl, trivial⟩ ?_
 refine XC.seq fun K6 hK6 => ?_
 refine XC.region ?_
 refine x_v (r_mv rfl) rfl ?_
 refine x_v (r_ne rfl rfl) rfl ?_
 refine XL.nil ?_
 refine hK6 _ _ ?_
 refine XC.keep [(0, _), (3, _), (4, _), (5, _), (12, _)] ⟨rfl, rfl, rfl, rfl, rfl, trivial⟩ ?_
 refine XC.cond_d rfl (fun hc2 => ?_) (fun hc2 => ?_)
 ·exfalso; omega
 ·refine XC.skip ?_
  refine hK4 _ _ ?_
  refine XC.keep [(0, _), (3, _), (4, _)] ⟨rfl, rfl, rfl, trivial⟩ ?_
  refine XC.seq fun K7 hK7 => ?_
  refine XC.seq fun K8 hK8 => ?_
  refine XC.region ?_
  refine x_v (r_fa fo41_0 rfl) rfl ?_
  refine x_v (r_ld ty3 rfl pK (by rfl)) rfl ?_
  refine XL.nil ?_
  refine hK8 _ _ ?_
  refine XC.keep [(0, _), (3, _), (4, _), (16, _)] ⟨rfl, rfl, rfl, rfl, trivial⟩ ?_
  refine XC.block ?_
  refine XC.seq fun K9 hK9 => ?_
  refine XC.region ?_
  refine x_v (r_eq rfl rfl) rfl ?_
  refine x_v (r_as rfl) rfl ?_
  refine XL.nil ?_
  refine hK9 _ _ ?_
  refine XC.keep [(0, _), (3, _), (4, _), (16, _), (17, _)] ⟨rfl, rfl, rfl, rfl, rfl, trivial⟩ ?_
  refine XC.cond_d rfl (fun hc3 => ?_) (fun hc3 => ?_)
  ·exfalso; omega
  ·refine XC.seq fun K10 hK10 => ?_
   refine XC.region ?_
   refine x_v (r_eq rfl rfl) rfl ?_
   refine x_v (r_as rfl) rfl ?_
   refine XL.nil ?_
   refine hK10 _ _ ?_
   refine XC.keep [(0, _), (3, _), (4, _), (16, _), (22, _)] ⟨rfl, rfl, rfl, rfl, rfl, trivial⟩ ?_
   refine XC.cond_d rfl (fun hc4 => ?_) (fun hc4 => ?_)
   ·exfalso; omega
   ·refine XC.seq fun K11 hK11 => ?_
    refine XC.region ?_
    refine x_v (r_eq rfl rfl) rfl ?_
    refine x_v (r_as rfl) rfl ?_
    refine XL.nil ?_
    refine hK11 _ _ ?_
    refine XC.keep [(0, _), (3, _), (4, _), (16, _), (27, _)] ⟨rfl, rfl, rfl, rfl, rfl, trivial⟩ ?_
    refine XC.cond_d rfl (fun hc5 => ?_) (fun hc5 => ?_)
    ·refine XC.seq fun K12 hK12 => ?_
     refine XC.region ?_
     refine x_v (r_mv rfl) rfl ?_
     refine x_v (r_lda (l' := [_, _, _, _, _, _, _, _, _, _, _, _, _, _, _, _]) ty41 rfl pK rfl (Sub.get sU)) rfl ?_
     refine x_c (r_call0 (args := [_, _]) ⟨rfl, rfl, rfl⟩ (reign_tr (k := k) (h := h) b e s L hLn he hn) gS) rfl ?_
     rintro _ _ ⟨A2, c2, k2, o3, rfl, rfl, hx2, ho3, hr3⟩
     refine x_e (r_st ty62 rfl rfl rfl rfl rfl uD oV) ?_
     refine XL.nil ?_
     refine hK12 _ _ ?_
     refine XC.keep [(4, _)] ⟨rfl, trivial⟩ ?_
     refine XC.ret ?_
     exact finc1 ty62 rfl pK (by rfl) (⟨A2, c2, k2, o3, rfl, rfl, hx2, ho3, hr3⟩) gS
    ·exfalso; omega
end Go.Proofs.Ytheilpcbilnadaa

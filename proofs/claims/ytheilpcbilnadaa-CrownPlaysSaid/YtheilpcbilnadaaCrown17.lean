/- Crowns: rows of operations that may be (the reference's). -/
import Derived.Test.YtheilpcbilnadaaCrown16
namespace Go.Proofs.Ytheilpcbilnadaa
open Go.Sx
set_option linter.unusedVariables false

theorem wrow_tr {W0 : World} {Fr : List HP} {k : HP} (aN aE : Int) (A : Option Addr) (c : Nat) (L : List Od) (hr : Rdb W0 [k] A L.length 9 (cells odc L)) (ho : ∀ o ∈ L, RdO W0 k o) (hl : L.length ≤ 1466015503701) :
  Tr W0 Try.prog 78 [.agg #[.int .i64 aN, .int .i64 aE], .slice A L.length c] (k :: Fr) (fun v Rs' => v = .bool (rowOk aN aE (fst1 L)) ∧ Rs' = k :: Fr) := by
 refine Entry.tr (N := 109) (rs := [.tmp 4]) ⟨_, Try.func78, rfl, by kernel_rfl, rfl, rfl⟩ rfl ?_
 refine XC.seq fun K1 hK1 => ?_
 refine XC.region ?_
 refine x_a (r_bx rfl rfl) rfl fun b2 => ?_
 refine x_v (r_as rfl) rfl ?_
 refine XL.nil ?_
 refine hK1 _ _ ?_
 refine XC.keep [(1, _), (2, _)] ⟨rfl, rfl, trivial⟩ ?_
 refine XC.seq fun K2 hK2 => ?_
 refine XC.seq fun K3 hK3 => ?_
 refine XC.region ?_
 refine x_v (r_fa fo31_0 rfl) rfl ?_
 refine x_v (r_ld ty3 rfl pK (by rfl)) rfl ?_
 refine x_v (r_lt rfl rfl) rfl ?_
 refine x_v (r_mv rfl) rfl ?_
 refine XL.splitd 11 rfl (fun hg11 => ?_) (fun hg11 => ?_)
 ·refine x_unwant rfl rfl rfl rfl rfl ?_
  refine x_unwant rfl rfl rfl rfl rfl ?_
  refine x_unwant rfl rfl rfl rfl rfl ?_
  refine x_v (r_pk_t rfl rfl) rfl ?_
  refine x_v (r_mv rfl) rfl ?_
  refine x_unwant rfl rfl rfl rfl rfl ?_
  refine x_unwant rfl rfl rfl rfl rfl ?_
  refine x_unwant rfl rfl rfl rfl rfl ?_
  refine x_v (r_pk_t rfl rfl) rfl ?_
  refine x_v (r_mv rfl) rfl ?_
  refine x_unwant rfl rfl rfl rfl rfl ?_
  refine x_unwant rfl rfl rfl rfl rfl ?_
  refine x_unwant rfl rfl rfl rfl rfl ?_
  refine x_v (r_pk_t rfl rfl) rfl ?_
  refine x_v (r_mv rfl) rfl ?_
  refine x_unwant rfl rfl rfl rfl rfl ?_
  refine x_unwant rfl rfl rfl rfl rfl ?_
  refine x_unwant rfl rfl rfl rfl rfl ?_
  refine x_unwant rfl rfl rfl rfl rfl ?_
  refine x_unwant rfl rfl rfl rfl rfl ?_
  refine x_unwant rfl rfl rfl rfl rfl ?_
  refine x_unwant rfl rfl rfl rfl rfl ?_
  refine x_v (r_pk_t rfl rfl) rfl ?_
  refine XL.nil ?_
  refine hK3 _ _ ?_
  refine XC.keep [(1, _), (2, _), (34, _)] ⟨rfl, rfl, rfl, trivial⟩ ?_
  refine XC.cond_t rfl ?_
  refine XC.seq fun K4 hK4 => ?_
  refine XC.region ?_
  refine x_v (r_as rfl) rfl ?_
  refine XL.nil ?_
  refine hK4 _ _ ?_
  refine XC.keep [(4, _)] ⟨rfl, trivial⟩ ?_
  refine XC.ret ?_
  exact fin1 rfl (⟨congrArg Value.bool (row_no (fun h => by unfold placeOk at h; first | omega | exact absurd h.2.2.2.2 (nbeq_t hc5))).symm, rfl⟩) gS
 ·refine x_want rfl rfl rfl ?_
  refine x_v (r_fa fo31_0 rfl) rfl ?_
  refine x_want rfl rfl rfl ?_
  refine x_v (r_ld ty3 rfl pK (by rfl)) rfl ?_
  refine x_want rfl rfl rfl ?_
  refine x_v (r_gt rfl rfl) rfl ?_
  refine x_v (r_pk_f rfl rfl) rfl ?_
  refine x_v (r_mv rfl) rfl ?_
  refine XL.splitd 16 rfl (fun hg16 => ?_) (fun hg16 => ?_)
  ·refine x_unwant rfl rfl rfl rfl rfl ?_
   refine x_unwant rfl rfl rfl rfl rfl ?_
   refine x_unwant rfl rfl rfl rfl rfl ?_
   refine x_v (r_pk_t rfl rfl) rfl ?_
   refine x_v (r_mv rfl) rfl ?_
   refine x_unwant rfl rfl rfl rfl rfl ?_
   refine x_unwant rfl rfl rfl rfl rfl ?_
   refine x_unwant rfl rfl rfl rfl rfl ?_
   refine x_v (r_pk_t rfl rfl) rfl ?_
   refine x_v (r_mv rfl) rfl ?_
   refine x_unwant rfl rfl rfl rfl rfl ?_
   refine x_unwant rfl rfl rfl rfl rfl ?_
   refine x_unwant rfl rfl rfl rfl rfl ?_
   refine x_unwant rfl rfl rfl rfl rfl ?_
   refine x_unwant rfl rfl rfl rfl rfl ?_
   refine x_unwant rfl rfl rfl rfl rfl ?_
   refine x_unwant rfl rfl rfl rfl rfl ?_
   refine x_v (r_pk_t rfl rfl) rfl ?_
   refine XL.nil ?_
   refine hK3 _ _ ?_
   refine XC.keep [(1, _), (2, _), (34, _)] ⟨rfl, rfl, rfl, trivial⟩ ?_
   refine XC.cond_t rfl ?_
   refine XC.seq fun K5 hK5 => ?_
   refine XC.region ?_
   refine x_v (r_as rfl) rfl ?_
   refine XL.nil ?_
   refine hK5 _ _ ?_
   refine XC.keep [(4, _)] ⟨rfl, trivial⟩ ?_
   refine XC.ret ?_
   exact fin1 rfl (⟨congrArg Value.bool (row_no (fun h => by unfold placeOk at h; first | omega | exact absurd h.2.2.2.2 (nbeq_t hc5))).symm, rfl⟩) gS
  ·refine x_want rfl rfl rfl ?_
   refine x_v (r_fa fo31_1 rfl) rfl ?_
   refine x_want rfl rfl rfl ?_
   refine x_v (r_ld ty3 rfl pK (by rfl)) rfl ?_
   refine x_want rfl rfl rfl ?_
   refine x_v (r_lt rfl rfl) rfl ?_
   refine x_v (r_pk_f rfl rfl) rfl ?_
   refine x_v (r_mv rfl) rfl ?_
   refine XL.splitd 21 rfl (fun hg21 => ?_) (fun hg21 => ?_)
   ·refine x_unwant rfl rfl rfl rfl rfl ?_
    refine x_unwant rfl rfl rfl rfl rfl ?_
    refine x_unwant rfl rfl rfl rfl rfl ?_
    refine x_v (r_pk_t rfl rfl) rfl ?_
    refine x_v (r_mv rfl) rfl ?_
    refine x_unwant rfl rfl rfl rfl rfl ?_
    refine x_unwant rfl rfl rfl rfl rfl ?_
    refine x_unwant rfl rfl rfl rfl rfl ?_
    refine x_unwant rfl rfl rfl rfl rfl ?_
    refine x_unwant rfl rfl rfl rfl rfl ?_
    refine x_unwant rfl rfl rfl rfl rfl ?_
    refine x_unwant rfl rfl rfl rfl rfl ?_
    refine x_v (r_pk_t rfl rfl) rfl ?_
    refine XL.nil ?_
    refine hK3 _ _ ?_
    refine XC.keep [(1, _), (2, _), (34, _)] ⟨rfl, rfl, rfl, trivial⟩ ?_
    refine XC.cond_t rfl ?_
    refine XC.seq fun K6 hK6 => ?_
    refine XC.region ?_
    refine x_v (r_as rfl) rfl ?_
    refine XL.nil ?_
    refine hK6 _ _ ?_
    refine XC.keep [(4, _)] ⟨rfl, trivial⟩ ?_
    refine XC.ret ?_
    exact fin1 rfl (⟨congrArg Value.bool (row_no (fun h => by unfold placeOk at h; first | omega | exact absurd h.2.2.2.2 (nbeq_t hc5))).symm, rfl⟩) gS
   ·refine x_want rfl rfl rfl ?_
    refine x_v (r_fa fo31_1 rfl) rfl ?_
    refine x_want rfl rfl rfl ?_
    refine x_v (r_ld ty3 rfl pK (by rfl)) rfl ?_
    refine x_want rfl rfl rfl ?_
    refine x_v (r_gt rfl rfl) rfl ?_
    refine x_v (r_pk_f rfl rfl) rfl ?_
    refine x_v (r_mv rfl) rfl ?_
    refine XL.splitd 26 rfl (fun hg26 => ?_) (fun hg26 => ?_)
    ·refine x_unwant rfl rfl rfl rfl rfl ?_
     refine x_unwant rfl rfl rfl rfl rfl ?_
     refine x_unwant rfl rfl rfl rfl rfl ?_
     refine x_unwant rfl rfl rfl rfl rfl ?_
     refine x_unwant rfl rfl rfl rfl rfl ?_
     refine x_unwant rfl rfl rfl rfl rfl ?_
     refine x_unwant rfl rfl rfl rfl rfl ?_
     refine x_v (r_pk_t rfl rfl) rfl ?_
     refine XL.nil ?_
     refine hK3 _ _ ?_
     refine XC.keep [(1, _), (2, _), (34, _)] ⟨rfl, rfl, rfl, trivial⟩ ?_
     refine XC.cond_t rfl ?_
     refine XC.seq fun K7 hK7 => ?_
     refine XC.region ?_
     refine x_v (r_as rfl) rfl ?_
     refine XL.nil ?_
     refine hK7 _ _ ?_
     refine XC.keep [(4, _)] ⟨rfl, trivial⟩ ?_
     refine XC.ret ?_
     exact fin1 rfl (⟨congrArg Value.bool (row_no (fun h => by unfold placeOk at h; first | omega | exact absurd h.2.2.2.2 (nbeq_t hc5))).symm, rfl⟩) gS
    ·refine x_want rfl rfl rfl ?_
     refine x_v (r_fa fo31_0 rfl) rfl ?_
     refine x_want rfl rfl rfl ?_
     refine x_v (r_ld ty3 rfl pK (by rfl)) rfl ?_
     refine x_want rfl rfl rfl ?_
     refine x_v (r_eq rfl rfl) rfl ?_
     refine x_want rfl rfl rfl ?_
     refine x_v (r_fa fo31_1 rfl) rfl ?_
     refine x_want rfl rfl rfl ?_
     refine x_v (r_ld ty3 rfl pK (by rfl)) rfl ?_
     refine x_want rfl rfl rfl ?_
     refine x_v (r_eq rfl rfl) rfl ?_
     refine x_want rfl rfl rfl ?_
     refine x_v (r_bne Try.underlying4 rfl rfl) rfl ?_
     refine x_v (r_pk_f rfl rfl) rfl ?_
     refine XL.nil ?_
     refine hK3 _ _ ?_
     refine XC.keep [(1, _), (2, _), (34, _)] ⟨rfl, rfl, rfl, trivial⟩ ?_
     refine XC.cond rfl (fun hc5 => ?_) (fun hc5 => ?_)
     ·refine XC.seq fun K8 hK8 => ?_
      refine XC.region ?_
      refine x_v (r_as rfl) rfl ?_
      refine XL.nil ?_
      refine hK8 _ _ ?_
      refine XC.keep [(4, _)] ⟨rfl, trivial⟩ ?_
      refine XC.ret ?_
      exact fin1 rfl (⟨congrArg Value.bool (row_no (fun h => by unfold placeOk at h; first | omega | exact absurd h.2.2.2.2 (nbeq_t hc5))).symm, rfl⟩) gS
     ·refine XC.skip ?_
      refine hK2 _ _ ?_
      refine XC.keep [(1, _), (2, _)] ⟨rfl, rfl, trivial⟩ ?_
      refine XC.seq fun K9 hK9 => ?_
      refine XC.seq fun K10 hK10 => ?_
      have hpl : placeOk aN aE := by (have := nbeq_f hc5; unfold placeOk; omega)
      have hpl2 : 0 ≤ aN ∧ aN ≤ 80 := by unfold placeOk at hpl; omega
      refine XC.region ?_
      refine x_v (r_as rfl) rfl ?_
      refine XL.nil ?_
      refine hK10 _ _ ?_
      refine XC.keep [(1, _), (2, _), (5, _)] ⟨rfl, rfl, rfl, trivial⟩ ?_
      refine XC.block ?_
      refine XC.loop (σ := Nat × Int × Int) (fun s => [(1, .slice A L.length c), (2, .pointer (some ⟨b2, 0, none⟩)), (5, .int .i64 (s.1 : Int))]) (fun s => blk b2 31 [.int .i64 aN, .int .i64 aE] :: k :: Fr) (fun s => s.1 ≤ L.length ∧ (s.1 = 0 → s.2.1 = aE ∧ s.2.2 = -1) ∧ (∀ j o, s.1 = j + 1 → L[j]? = some o → s.2.1 = o.1.epoch ∧ s.2.2 = o.1.site ∧ 0 ≤ o.1.site) ∧ rowGo aN aE (-1) (fst1 L) = rowGo (aN + s.1) s.2.1 s.2.2 (fst1 (L.drop s.1))) (fun s => L.length - s.1) (0, aE, -1) ?_ ⟨rfl, rfl, rfl, trivial⟩ gS ?_
      ·exact ⟨Nat.zero_le _, fun _ => ⟨rfl, rfl⟩, fun j o h _ => (Nat.succ_ne_zero j h.symm).elim, by dsimp only; rw [show aN + ((0 : Nat) : Int) = aN by omega]; rfl⟩
      rintro ⟨i, xE, st⟩ ⟨hi, hz, hp, hg⟩
      dsimp only at hi hz hp hg ⊢
      refine XC.seq fun K11 hK11 => ?_
      refine XC.seq fun K12 hK12 => ?_
      refine XC.region ?_
      refine x_v (r_mv rfl) rfl ?_
      refine x_v (r_mv rfl) rfl ?_
      refine x_v (r_lensl Try.underlying33 rfl) rfl ?_
      refine x_v (r_lt rfl rfl) rfl ?_
      refine XL.nil ?_
      refine hK12 _ _ ?_
      refine XC.keep [(1, _), (2, _), (5, _), (38, _)] ⟨rfl, rfl, rfl, rfl, trivial⟩ ?_
      refine XC.cond_d rfl (fun hc6 => ?_) (fun hc6 => ?_)
      ·refine XC.skip ?_
       refine hK11 _ _ ?_
       refine XC.keep [(1, _), (2, _), (5, _)] ⟨rfl, rfl, rfl, trivial⟩ ?_
       refine XC.seq fun K13 hK13 => ?_
       refine XC.block ?_
       refine XC.seq fun K14 hK14 => ?_
       obtain ⟨o, hoi⟩ : ∃ o, L[i]? = some o := ⟨_, List.getElem?_eq_getElem (by omega)⟩
       have hro := ho o (List.mem_of_getElem? hoi)
       have hfd := fst_get hoi
       obtain ⟨ob, oo, rfl, hat⟩ := hr.at_ (by omega)
       obtain ⟨op, hop⟩ : ∃ op : Od, 0 < i → L[i - 1]? = some op := by (by_cases hi0 : 0 < i; exact ⟨L[i - 1]'(by omega), fun _ => List.getElem?_eq_getElem (by omega)⟩; exact ⟨o, fun h => absurd h hi0⟩)
       have hxp : 0 < i → xE = op.1.epoch ∧ st = op.1.site ∧ 0 ≤ op.1.site := fun h => hp (i - 1) op (by omega) (hop h)
       refine XC.region ?_
       refine x_v (r_mv rfl) rfl ?_
       refine x_v (r_mv rfl) rfl ?_
       refine x_v (r_ia (k := i) Try.underlying33 ty39 rfl rfl (by omega) (by omega)) rfl ?_
       refine x_v (r_ldar (l' := odc o) ty39 rfl rfl (fun w hw j u hu => by rw [Nat.add_assoc]; exact hat w (Gets.own gS hw) _ u (cells_get odc_len L _ _ hoi j u hu))) rfl ?_
       rw [odc_def o]
       refine x_a (r_al ty39 rfl) rfl fun b6 => ?_
       refine x_e (r_st ty39 rfl rfl rfl rfl rfl uD oV) ?_
       refine XL.nil ?_
       refine hK14 _ _ ?_
       refine XC.keep [(1, _), (2, _), (5, _), (6, _)] ⟨rfl, rfl, rfl, rfl, trivial⟩ ?_
       refine XC.seq fun K15 hK15 => ?_
       refine XC.region ?_
       refine x_v (r_fa fo31_1 rfl) rfl ?_
       refine x_v (r_ld ty3 rfl pK (by rfl)) rfl ?_
       refine x_v (r_as rfl) rfl ?_
       refine XL.nil ?_
       refine hK15 _ _ ?_
       refine XC.keep [(1, _), (2, _), (5, _), (6, _), (7, _)] ⟨rfl, rfl, rfl, rfl, rfl, trivial⟩ ?_
       refine XC.seqcut (σ := Unit) (fun u => [(1, .slice (some ⟨ob, oo, none⟩) L.length c), (2, .pointer (some ⟨b2, 0, none⟩)), (5, .int .i64 (i : Int)), (6, .pointer (some ⟨b6, 0, none⟩)), (7, .int .i64 xE)]) (fun u => blk b2 31 [.int .i64 aN, .int .i64 aE] :: blk b6 39 [.int .i64 o.1.n, .int .i64 o.1.epoch, .int .i64 o.1.kind, .int .i64 o.1.site, .int .i64 o.1.client, .int .i64 o.1.seq, str o.1.name, .int .i64 o.1.size, .slice o.2.1 o.1.hs.length o.2.2] :: k :: Fr) (fun u => True) ?_ ?_
       ·refine XC.seq fun K17 hK17 => ?_
        refine XC.region ?_
        refine x_v (r_mv rfl) rfl ?_
        refine x_v (r_gt rfl rfl) rfl ?_
        refine XL.nil ?_
        refine hK17 _ _ ?_
        refine XC.keep [(1, _), (2, _), (5, _), (6, _), (7, _), (48, _)] ⟨rfl, rfl, rfl, rfl, rfl, rfl, trivial⟩ ?_
        refine XC.cond_d rfl (fun hc7 => ?_) (fun hc7 => ?_)
        ·refine XC.region ?_
         refine x_v (r_mv rfl) rfl ?_
         refine x_v (r_mv rfl) rfl ?_
         refine x_v (r_sub rfl rfl (by omega)) rfl ?_
         refine x_v (r_ia (k := i - 1) Try.underlying33 ty39 rfl rfl (by omega) (by omega)) rfl ?_
         refine x_v (r_fa fo39_1 rfl) rfl ?_
         refine x_v (r_ldr ty3 rfl (fun w hw => by rw [Nat.add_assoc]; exact hat w (Gets.own gS hw) _ _ (cells_get odc_len L _ _ (hop (by omega)) 1 _ rfl))) rfl ?_
         refine x_v (r_as rfl) rfl ?_
         refine XL.nil ?_
         rw [← (hxp (by omega)).1]
         exact ⟨(), trivial, ⟨rfl, rfl, rfl, rfl, rfl, trivial⟩, gS⟩
        ·refine XC.skip ?_
         rw [← (hz (by omega)).1]
         exact ⟨(), trivial, ⟨rfl, rfl, rfl, rfl, rfl, trivial⟩, gS⟩
       ·rintro _ _
        refine XC.seq fun K18 hK18 => ?_
        refine XC.seq fun K19 hK19 => ?_
        refine XC.region ?_
        refine x_v (r_lda (l' := [_, _, _, _, _, _, _, _, _]) ty39 rfl pK rfl (Sub.get sU)) rfl ?_
        refine x_c (r_call0 (args := [_]) ⟨rfl, rfl⟩ (rightop_tr (k := k) o hro) gS) rfl ?_
        rintro _ _ ⟨rfl, rfl⟩
        refine x_v (r_not rfl) rfl ?_
        refine x_v (r_mv rfl) rfl ?_
        refine XL.split 58 rfl (fun hg58 => ?_) (fun hg58 => ?_)
        ·refine x_unwant rfl rfl rfl rfl rfl ?_
         refine x_unwant rfl rfl rfl rfl rfl ?_
         refine x_unwant rfl rfl rfl rfl rfl ?_
         refine x_unwant rfl rfl rfl rfl rfl ?_
         refine x_unwant rfl rfl rfl rfl rfl ?_
         refine x_unwant rfl rfl rfl rfl rfl ?_
         refine x_unwant rfl rfl rfl rfl rfl ?_
         refine x_unwant rfl rfl rfl rfl rfl ?_
         refine x_v (r_pk_t rfl rfl) rfl ?_
         refine XL.nil ?_
         refine hK19 _ _ ?_
         refine XC.keep [(1, _), (2, _), (5, _), (6, _), (7, _), (67, _)] ⟨rfl, rfl, rfl, rfl, rfl, rfl, trivial⟩ ?_
         refine XC.cond_t rfl ?_
         refine XC.seq fun K20 hK20 => ?_
         refine XC.region ?_
         refine x_v (r_as rfl) rfl ?_
         refine XL.nil ?_
         refine hK20 _ _ ?_
         refine XC.keep [(4, _)] ⟨rfl, trivial⟩ ?_
         refine XC.ret ?_
         exact fin1 rfl (⟨congrArg Value.bool (by rw [row_of hpl, hg, hfd, go_no (fun h => by obtain ⟨q1, q2, q3, q4⟩ := h; first | omega | (rw [q1] at hg58; cases hg58) | (have := hxp (by omega); omega))]), rfl⟩) gS
        ·refine x_want rfl rfl rfl ?_
         refine x_v (r_fa fo39_0 rfl) rfl ?_
         refine x_want rfl rfl rfl ?_
         refine x_v (r_ld ty3 rfl pK (by rfl)) rfl ?_
         refine x_want rfl rfl rfl ?_
         refine x_v (r_fa fo31_0 rfl) rfl ?_
         refine x_want rfl rfl rfl ?_
         refine x_v (r_ld ty3 rfl pK (by rfl)) rfl ?_
         refine x_want rfl rfl rfl ?_
         refine x_v (r_add rfl rfl (by omega)) rfl ?_
         refine x_want rfl rfl rfl ?_
         refine x_v (r_mv rfl) rfl ?_
         refine x_want rfl rfl rfl ?_
         refine x_v (r_add rfl rfl (by omega)) rfl ?_
         refine x_want rfl rfl rfl ?_
         refine x_v (r_ne rfl rfl) rfl ?_
         refine x_v (r_pk_f rfl rfl) rfl ?_
         refine XL.nil ?_
         refine hK19 _ _ ?_
         refine XC.keep [(1, _), (2, _), (5, _), (6, _), (7, _), (67, _)] ⟨rfl, rfl, rfl, rfl, rfl, rfl, trivial⟩ ?_
         refine XC.cond_d rfl (fun hc9 => ?_) (fun hc9 => ?_)
         ·refine XC.seq fun K21 hK21 => ?_
          refine XC.region ?_
          refine x_v (r_as rfl) rfl ?_
          refine XL.nil ?_
          refine hK21 _ _ ?_
          refine XC.keep [(4, _)] ⟨rfl, trivial⟩ ?_
          refine XC.ret ?_
          exact fin1 rfl (⟨congrArg Value.bool (by rw [row_of hpl, hg, hfd, go_no (fun h => by obtain ⟨q1, q2, q3, q4⟩ := h; first | omega | (rw [q1] at hg58; cases hg58) | (have := hxp (by omega); omega))]), rfl⟩) gS
         ·refine XC.skip ?_
          refine hK18 _ _ ?_
          refine XC.keep [(1, _), (2, _), (5, _), (6, _), (7, _)] ⟨rfl, rfl, rfl, rfl, rfl, trivial⟩ ?_
          refine XC.seq fun K22 hK22 => ?_
          have hok : opOk o.1 = true := by (cases hh : opOk o.1 with | true => rfl | false => (rw [hh] at hg58; cases hg58))
          refine XC.draw [blk b6 39 [.int .i64 o.1.n, .int .i64 o.1.epoch, .int .i64 o.1.kind, .int .i64 o.1.site, .int .i64 o.1.client, .int .i64 o.1.seq, str o.1.name, .int .i64 o.1.size, .slice o.2.1 o.1.hs.length o.2.2], k] false [(0, false), (1, false), (2, false), (3, false), (4, false), (5, false), (6, false), (7, false), (8, false), (9, false), (10, false), (11, false), (12, false), (13, false), (14, false), (15, false), (16, false), (17, false), (18, false), (19, false), (20, false), (21, false), (22, false), (23, false), (24, false), (25, false), (26, false), (27, false), (28, false), (29, false), (30, false), (31, false), (32, false), (33, false), (34, false), (35, false), (36, false), (37, false), (38, false), (39, false), (40, false)] (by kernel_rfl) (by kernel_rfl) ?_
          refine y_v rfl (r_fa fo39_1 rfl) gT rfl ?_
          refine y_v rfl (r_ld ty3 rfl pK (by rfl)) gT rfl ?_
          refine y_v rfl (r_mv rfl) gT rfl ?_
          refine y_v rfl (r_eq rfl rfl) gT rfl ?_
          refine y_v rfl (r_mv rfl) gT rfl ?_
          refine XH.splitd 72 rfl (fun hg72 => ?_) (fun hg72 => ?_)
          ·refine y_vg rfl rfl rfl (r_fa fo39_2 rfl) gT rfl ?_
           refine y_vg rfl rfl rfl (r_ld ty3 rfl pK (by rfl)) gT rfl ?_
           refine y_vg rfl rfl rfl (r_eq rfl rfl) gT rfl ?_
           refine y_vg rfl rfl rfl (r_mv rfl) gT rfl ?_
           refine XH.splitd 76 rfl (fun hg76 => ?_) (fun hg76 => ?_)
           ·refine y_un rfl rfl rfl (fun _ h => Gets.own gS h) rfl ?_
            refine y_un rfl rfl rfl (fun _ h => Gets.own gS h) rfl ?_
            refine y_un rfl rfl rfl (fun _ h => Gets.own gS h) rfl ?_
            refine y_unu rfl rfl rfl (fun _ h => Gets.own gS h) rfl ?_
            refine y_unu rfl rfl rfl (fun _ h => Gets.own gS h) rfl ?_
            refine y_unu rfl rfl rfl (fun _ h => Gets.own gS h) rfl ?_
            refine y_unu rfl rfl rfl (fun _ h => Gets.own gS h) rfl ?_
            refine y_unu rfl rfl rfl (fun _ h => Gets.own gS h) rfl ?_
            refine y_unu rfl rfl rfl (fun _ h => Gets.own gS h) rfl ?_
            refine y_unu rfl rfl rfl (fun _ h => Gets.own gS h) rfl ?_
            refine y_unu rfl rfl rfl (fun _ h => Gets.own gS h) rfl ?_
            refine y_unu rfl rfl rfl (fun _ h => Gets.own gS h) rfl ?_
            refine y_un rfl rfl rfl (fun _ h => Gets.own gS h) rfl ?_
            refine y_vg rfl rfl rfl (r_pk_t rfl rfl) gT rfl ?_
            refine y_v rfl (r_pk_t rfl rfl) gT rfl ?_
            refine y_v rfl (r_mv rfl) gT rfl ?_
            refine y_un rfl rfl rfl (fun _ h => Gets.own gS h) rfl ?_
            refine y_un rfl rfl rfl (fun _ h => Gets.own gS h) rfl ?_
            refine y_un rfl rfl rfl (fun _ h => Gets.own gS h) rfl ?_
            refine y_un rfl rfl rfl (fun _ h => Gets.own gS h) rfl ?_
            refine y_v rfl (r_pk_t rfl rfl) gT rfl ?_
            refine y_v rfl (r_mv rfl) gT rfl ?_
            refine y_un rfl rfl rfl (fun _ h => Gets.own gS h) rfl ?_
            refine y_un rfl rfl rfl (fun _ h => Gets.own gS h) rfl ?_
            refine y_un rfl rfl rfl (fun _ h => Gets.own gS h) rfl ?_
            refine y_un rfl rfl rfl (fun _ h => Gets.own gS h) rfl ?_
            refine y_un rfl rfl rfl (fun _ h => Gets.own gS h) rfl ?_
            refine y_unu rfl rfl rfl (fun _ h => Gets.own gS h) rfl ?_
            refine y_unu rfl rfl rfl (fun _ h => Gets.own gS h) rfl ?_
            refine y_unu rfl rfl rfl (fun _ h => Gets.own gS h) rfl ?_
            refine y_un rfl rfl rfl (fun _ h => Gets.own gS h) rfl ?_
            refine y_v rfl (r_pk_t rfl rfl) gT rfl ?_
            refine XH.nil ?_
            refine hK22 _ _ ?_
            refine XC.keep [(1, _), (2, _), (5, _), (108, _)] ⟨rfl, rfl, rfl, rfl, trivial⟩ ?_
            refine XC.cond_t rfl ?_
            refine XC.seq fun K23 hK23 => ?_
            refine XC.region ?_
            refine x_v (r_as rfl) rfl ?_
            refine XL.nil ?_
            refine hK23 _ _ ?_
            refine XC.keep [(4, _)] ⟨rfl, trivial⟩ ?_
            refine XC.ret ?_
            exact fin1 rfl (⟨congrArg Value.bool (by rw [row_of hpl, hg, hfd, go_no (fun h => by obtain ⟨q1, q2, q3, q4⟩ := h; first | omega | (rw [q1] at hg58; cases hg58) | (have := hxp (by omega); omega))]), rfl⟩) gS
           ·refine y_vg rfl rfl rfl (r_mv rfl) gT rfl ?_
            refine y_vg rfl rfl rfl (r_gt rfl rfl) gT rfl ?_
            refine y_vg rfl rfl rfl (r_mv rfl) gT rfl ?_
            refine XH.splitd 79 rfl (fun hg79 => ?_) (fun hg79 => ?_)
            ·refine y_vg rfl rfl rfl (r_fa fo39_3 rfl) gT rfl ?_
             refine y_vg rfl rfl rfl (r_ld ty3 rfl pK (by rfl)) gT rfl ?_
             refine y_vg rfl rfl rfl (r_mv rfl) gT rfl ?_
             refine y_vg rfl rfl rfl (r_mv rfl) gT rfl ?_
             refine y_vg rfl rfl rfl (r_sub rfl rfl (by omega)) gT rfl ?_
             refine y_vg rfl rfl rfl (r_ia (k := i - 1) Try.underlying33 ty39 rfl rfl (by omega) (by omega)) gT rfl ?_
             refine y_vg rfl rfl rfl (r_fa fo39_3 rfl) gT rfl ?_
             refine y_vg rfl rfl rfl (r_ldr ty3 rfl (fun w hw => by rw [Nat.add_assoc]; exact hat w (Gets.own gS hw) _ _ (cells_get odc_len L _ _ (hop (by omega)) 3 _ rfl))) gT rfl ?_
             refine y_vg rfl rfl rfl (r_ne rfl rfl) gT rfl ?_
             refine y_vg rfl rfl rfl (r_pk_t rfl rfl) gT rfl ?_
             refine y_vg rfl rfl rfl (r_pk_f rfl rfl) gT rfl ?_
             refine y_v rfl (r_pk_t rfl rfl) gT rfl ?_
             refine y_v rfl (r_mv rfl) gT rfl ?_
             refine XH.splitd 92 rfl (fun hg92 => ?_) (fun hg92 => ?_)
             ·refine y_un rfl rfl rfl (fun _ h => Gets.own gS h) rfl ?_
              refine y_un rfl rfl rfl (fun _ h => Gets.own gS h) rfl ?_
              refine y_un rfl rfl rfl (fun _ h => Gets.own gS h) rfl ?_
              refine y_un rfl rfl rfl (fun _ h => Gets.own gS h) rfl ?_
              refine y_v rfl (r_pk_t rfl rfl) gT rfl ?_
              refine y_v rfl (r_mv rfl) gT rfl ?_
              refine y_un rfl rfl rfl (fun _ h => Gets.own gS h) rfl ?_
              refine y_un rfl rfl rfl (fun _ h => Gets.own gS h) rfl ?_
              refine y_un rfl rfl rfl (fun _ h => Gets.own gS h) rfl ?_
              refine y_un rfl rfl rfl (fun _ h => Gets.own gS h) rfl ?_
              refine y_un rfl rfl rfl (fun _ h => Gets.own gS h) rfl ?_
              refine y_unu rfl rfl rfl (fun _ h => Gets.own gS h) rfl ?_
              refine y_unu rfl rfl rfl (fun _ h => Gets.own gS h) rfl ?_
              refine y_unu rfl rfl rfl (fun _ h => Gets.own gS h) rfl ?_
              refine y_un rfl rfl rfl (fun _ h => Gets.own gS h) rfl ?_
              refine y_v rfl (r_pk_t rfl rfl) gT rfl ?_
              refine XH.nil ?_
              refine hK22 _ _ ?_
              refine XC.keep [(1, _), (2, _), (5, _), (108, _)] ⟨rfl, rfl, rfl, rfl, trivial⟩ ?_
              refine XC.cond_t rfl ?_
              refine XC.seq fun K24 hK24 => ?_
              refine XC.region ?_
              refine x_v (r_as rfl) rfl ?_
              refine XL.nil ?_
              refine hK24 _ _ ?_
              refine XC.keep [(4, _)] ⟨rfl, trivial⟩ ?_
              refine XC.ret ?_
              exact fin1 rfl (⟨congrArg Value.bool (by rw [row_of hpl, hg, hfd, go_no (fun h => by obtain ⟨q1, q2, q3, q4⟩ := h; first | omega | (rw [q1] at hg58; cases hg58) | (have := hxp (by omega); omega))]), rfl⟩) gS
             ·refine y_vg rfl rfl rfl (r_fa fo39_1 rfl) gT rfl ?_
              refine y_vg rfl rfl rfl (r_ld ty3 rfl pK (by rfl)) gT rfl ?_
              refine y_vg rfl rfl rfl (r_mv rfl) gT rfl ?_
              refine y_vg rfl rfl rfl (r_lt rfl rfl) gT rfl ?_
              refine y_v rfl (r_pk_f rfl rfl) gT rfl ?_
              refine y_v rfl (r_mv rfl) gT rfl ?_
              refine XH.splitd 98 rfl (fun hg98 => ?_) (fun hg98 => ?_)
              ·refine y_un rfl rfl rfl (fun _ h => Gets.own gS h) rfl ?_
               refine y_un rfl rfl rfl (fun _ h => Gets.own gS h) rfl ?_
               refine y_un rfl rfl rfl (fun _ h => Gets.own gS h) rfl ?_
               refine y_un rfl rfl rfl (fun _ h => Gets.own gS h) rfl ?_
               refine y_un rfl rfl rfl (fun _ h => Gets.own gS h) rfl ?_
               refine y_unu rfl rfl rfl (fun _ h => Gets.own gS h) rfl ?_
               refine y_unu rfl rfl rfl (fun _ h => Gets.own gS h) rfl ?_
               refine y_unu rfl rfl rfl (fun _ h => Gets.own gS h) rfl ?_
               refine y_un rfl rfl rfl (fun _ h => Gets.own gS h) rfl ?_
               refine y_v rfl (r_pk_t rfl rfl) gT rfl ?_
               refine XH.nil ?_
               refine hK22 _ _ ?_
               refine XC.keep [(1, _), (2, _), (5, _), (108, _)] ⟨rfl, rfl, rfl, rfl, trivial⟩ ?_
               refine XC.cond_t rfl ?_
               refine XC.seq fun K25 hK25 => ?_
               refine XC.region ?_
               refine x_v (r_as rfl) rfl ?_
               refine XL.nil ?_
               refine hK25 _ _ ?_
               refine XC.keep [(4, _)] ⟨rfl, trivial⟩ ?_
               refine XC.ret ?_
               exact fin1 rfl (⟨congrArg Value.bool (by rw [row_of hpl, hg, hfd, go_no (fun h => by obtain ⟨q1, q2, q3, q4⟩ := h; first | omega | (rw [q1] at hg58; cases hg58) | (have := hxp (by omega); omega))]), rfl⟩) gS
              ·refine y_vg rfl rfl rfl (r_fa fo39_1 rfl) gT rfl ?_
               refine y_vg rfl rfl rfl (r_ld ty3 rfl pK (by rfl)) gT rfl ?_
               refine y_vg rfl rfl rfl (r_mv rfl) gT rfl ?_
               refine y_vg rfl rfl rfl (r_gt rfl rfl) gT rfl ?_
               refine y_vg rfl rfl rfl (r_mv rfl) gT rfl ?_
               refine XH.splitd 103 rfl (fun hg103 => ?_) (fun hg103 => ?_)
               ·refine y_vg rfl rfl rfl (r_fa fo39_2 rfl) gT rfl ?_
                refine y_vg rfl rfl rfl (r_ld ty3 rfl pK (by rfl)) gT rfl ?_
                refine y_vg rfl rfl rfl (r_ne rfl rfl) gT rfl ?_
                refine y_vg rfl rfl rfl (r_pk_t rfl rfl) gT rfl ?_
                refine y_v rfl (r_pk_f rfl rfl) gT rfl ?_
                refine XH.nil ?_
                refine hK22 _ _ ?_
                refine XC.keep [(1, _), (2, _), (5, _), (108, _)] ⟨rfl, rfl, rfl, rfl, trivial⟩ ?_
                refine XC.cond_d rfl (fun hc13 => ?_) (fun hc13 => ?_)
                ·refine XC.seq fun K26 hK26 => ?_
                 refine XC.region ?_
                 refine x_v (r_as rfl) rfl ?_
                 refine XL.nil ?_
                 refine hK26 _ _ ?_
                 refine XC.keep [(4, _)] ⟨rfl, trivial⟩ ?_
                 refine XC.ret ?_
                 exact fin1 rfl (⟨congrArg Value.bool (by rw [row_of hpl, hg, hfd, go_no (fun h => by obtain ⟨q1, q2, q3, q4⟩ := h; first | omega | (rw [q1] at hg58; cases hg58) | (have := hxp (by omega); omega))]), rfl⟩) gS
                ·refine XC.skip ?_
                 refine hK13 _ _ ?_
                 refine XC.keep [(1, _), (2, _), (5, _)] ⟨rfl, rfl, rfl, trivial⟩ ?_
                 refine XC.region ?_
                 refine x_v (r_mv rfl) rfl ?_
                 refine x_v (r_add rfl rfl (by omega)) rfl ?_
                 refine x_v (r_as rfl) rfl ?_
                 refine XL.nil ?_
                 have hst : stepOk (aN + i) xE st o.1 := ⟨hok, by omega, fun h => by omega, fun h => by omega⟩
                 have hb := opOk_b hok
                 refine ⟨(i + 1, o.1.epoch, o.1.site), ?_, ?_, ⟨rfl, rfl, rfl, trivial⟩, gS⟩
                 ·exact ⟨by dsimp only; omega, fun h => (Nat.succ_ne_zero i h).elim, fun j o2 hj ho2 => by (have hj2 : i = j := by dsimp only at hj; omega); subst hj2; rw [hoi] at ho2; injection ho2 with ho2; subst ho2; exact ⟨rfl, rfl, hb.2.2.2.2.1⟩, by dsimp only; rw [hg, hfd, go_yes hst]; congr 1; omega⟩
                 ·dsimp only; omega
               ·refine y_un rfl rfl rfl (fun _ h => Gets.own gS h) rfl ?_
                refine y_un rfl rfl rfl (fun _ h => Gets.own gS h) rfl ?_
                refine y_un rfl rfl rfl (fun _ h => Gets.own gS h) rfl ?_
                refine y_vg rfl rfl rfl (r_pk_f rfl rfl) gT rfl ?_
                refine y_v rfl (r_pk_f rfl rfl) gT rfl ?_
                refine XH.nil ?_
                refine hK22 _ _ ?_
                refine XC.keep [(1, _), (2, _), (5, _), (108, _)] ⟨rfl, rfl, rfl, rfl, trivial⟩ ?_
                refine XC.cond_f rfl ?_
                refine XC.skip ?_
                refine hK13 _ _ ?_
                refine XC.keep [(1, _), (2, _), (5, _)] ⟨rfl, rfl, rfl, trivial⟩ ?_
                refine XC.region ?_
                refine x_v (r_mv rfl) rfl ?_
                refine x_v (r_add rfl rfl (by omega)) rfl ?_
                refine x_v (r_as rfl) rfl ?_
                refine XL.nil ?_
                have hst : stepOk (aN + i) xE st o.1 := ⟨hok, by omega, fun h => by omega, fun h => by omega⟩
                have hb := opOk_b hok
                refine ⟨(i + 1, o.1.epoch, o.1.site), ?_, ?_, ⟨rfl, rfl, rfl, trivial⟩, gS⟩
                ·exact ⟨by dsimp only; omega, fun h => (Nat.succ_ne_zero i h).elim, fun j o2 hj ho2 => by (have hj2 : i = j := by dsimp only at hj; omega); subst hj2; rw [hoi] at ho2; injection ho2 with ho2; subst ho2; exact ⟨rfl, rfl, hb.2.2.2.2.1⟩, by dsimp only; rw [hg, hfd, go_yes hst]; congr 1; omega⟩
                ·dsimp only; omega
            ·refine y_un rfl rfl rfl (fun _ h => Gets.own gS h) rfl ?_
             refine y_un rfl rfl rfl (fun _ h => Gets.own gS h) rfl ?_
             refine y_un rfl rfl rfl (fun _ h => Gets.own gS h) rfl ?_
             refine y_un rfl rfl rfl (fun _ h => Gets.own gS h) rfl ?_
             refine y_un rfl rfl rfl (fun _ h => Gets.own gS h) rfl ?_
             refine y_un rfl rfl rfl (fun _ h => Gets.own gS h) rfl ?_
             refine y_un rfl rfl rfl (fun _ h => Gets.own gS h) rfl ?_
             refine y_un rfl rfl rfl (fun _ h => Gets.own gS h) rfl ?_
             refine y_un rfl rfl rfl (fun _ h => Gets.own gS h) rfl ?_
             refine y_vg rfl rfl rfl (r_pk_f rfl rfl) gT rfl ?_
             refine y_vg rfl rfl rfl (r_pk_f rfl rfl) gT rfl ?_
             refine y_v rfl (r_pk_t rfl rfl) gT rfl ?_
             refine y_v rfl (r_mv rfl) gT rfl ?_
             refine y_vg rfl rfl rfl (r_fa fo39_1 rfl) gT rfl ?_
             refine y_vg rfl rfl rfl (r_ld ty3 rfl pK (by rfl)) gT rfl ?_
             refine y_vg rfl rfl rfl (r_mv rfl) gT rfl ?_
             refine y_vg rfl rfl rfl (r_lt rfl rfl) gT rfl ?_
             refine y_v rfl (r_pk_f rfl rfl) gT rfl ?_
             refine y_v rfl (r_mv rfl) gT rfl ?_
             refine XH.splitd 98 rfl (fun hg98 => ?_) (fun hg98 => ?_)
             ·refine y_un rfl rfl rfl (fun _ h => Gets.own gS h) rfl ?_
              refine y_un rfl rfl rfl (fun _ h => Gets.own gS h) rfl ?_
              refine y_un rfl rfl rfl (fun _ h => Gets.own gS h) rfl ?_
              refine y_un rfl rfl rfl (fun _ h => Gets.own gS h) rfl ?_
              refine y_un rfl rfl rfl (fun _ h => Gets.own gS h) rfl ?_
              refine y_unu rfl rfl rfl (fun _ h => Gets.own gS h) rfl ?_
              refine y_unu rfl rfl rfl (fun _ h => Gets.own gS h) rfl ?_
              refine y_unu rfl rfl rfl (fun _ h => Gets.own gS h) rfl ?_
              refine y_un rfl rfl rfl (fun _ h => Gets.own gS h) rfl ?_
              refine y_v rfl (r_pk_t rfl rfl) gT rfl ?_
              refine XH.nil ?_
              refine hK22 _ _ ?_
              refine XC.keep [(1, _), (2, _), (5, _), (108, _)] ⟨rfl, rfl, rfl, rfl, trivial⟩ ?_
              refine XC.cond_t rfl ?_
              refine XC.seq fun K27 hK27 => ?_
              refine XC.region ?_
              refine x_v (r_as rfl) rfl ?_
              refine XL.nil ?_
              refine hK27 _ _ ?_
              refine XC.keep [(4, _)] ⟨rfl, trivial⟩ ?_
              refine XC.ret ?_
              exact fin1 rfl (⟨congrArg Value.bool (by rw [row_of hpl, hg, hfd, go_no (fun h => by obtain ⟨q1, q2, q3, q4⟩ := h; first | omega | (rw [q1] at hg58; cases hg58) | (have := hxp (by omega); omega))]), rfl⟩) gS
             ·refine y_vg rfl rfl rfl (r_fa fo39_1 rfl) gT rfl ?_
              refine y_vg rfl rfl rfl (r_ld ty3 rfl pK (by rfl)) gT rfl ?_
              refine y_vg rfl rfl rfl (r_mv rfl) gT rfl ?_
              refine y_vg rfl rfl rfl (r_gt rfl rfl) gT rfl ?_
              refine y_vg rfl rfl rfl (r_mv rfl) gT rfl ?_
              refine XH.splitd 103 rfl (fun hg103 => ?_) (fun hg103 => ?_)
              ·refine y_vg rfl rfl rfl (r_fa fo39_2 rfl) gT rfl ?_
               refine y_vg rfl rfl rfl (r_ld ty3 rfl pK (by rfl)) gT rfl ?_
               refine y_vg rfl rfl rfl (r_ne rfl rfl) gT rfl ?_
               refine y_vg rfl rfl rfl (r_pk_t rfl rfl) gT rfl ?_
               refine y_v rfl (r_pk_f rfl rfl) gT rfl ?_
               refine XH.nil ?_
               refine hK22 _ _ ?_
               refine XC.keep [(1, _), (2, _), (5, _), (108, _)] ⟨rfl, rfl, rfl, rfl, trivial⟩ ?_
               refine XC.cond_d rfl (fun hc16 => ?_) (fun hc16 => ?_)
               ·refine XC.seq fun K28 hK28 => ?_
                refine XC.region ?_
                refine x_v (r_as rfl) rfl ?_
                refine XL.nil ?_
                refine hK28 _ _ ?_
                refine XC.keep [(4, _)] ⟨rfl, trivial⟩ ?_
                refine XC.ret ?_
                exact fin1 rfl (⟨congrArg Value.bool (by rw [row_of hpl, hg, hfd, go_no (fun h => by obtain ⟨q1, q2, q3, q4⟩ := h; first | omega | (rw [q1] at hg58; cases hg58) | (have := hxp (by omega); omega))]), rfl⟩) gS
               ·refine XC.skip ?_
                refine hK13 _ _ ?_
                refine XC.keep [(1, _), (2, _), (5, _)] ⟨rfl, rfl, rfl, trivial⟩ ?_
                refine XC.region ?_
                refine x_v (r_mv rfl) rfl ?_
                refine x_v (r_add rfl rfl (by omega)) rfl ?_
                refine x_v (r_as rfl) rfl ?_
                refine XL.nil ?_
                have hst : stepOk (aN + i) xE st o.1 := ⟨hok, by omega, fun h => by omega, fun h => by omega⟩
                have hb := opOk_b hok
                refine ⟨(i + 1, o.1.epoch, o.1.site), ?_, ?_, ⟨rfl, rfl, rfl, trivial⟩, gS⟩
                ·exact ⟨by dsimp only; omega, fun h => (Nat.succ_ne_zero i h).elim, fun j o2 hj ho2 => by (have hj2 : i = j := by dsimp only at hj; omega); subst hj2; rw [hoi] at ho2; injection ho2 with ho2; subst ho2; exact ⟨rfl, rfl, hb.2.2.2.2.1⟩, by dsimp only; rw [hg, hfd, go_yes hst]; congr 1; omega⟩
                ·dsimp only; omega
              ·refine y_un rfl rfl rfl (fun _ h => Gets.own gS h) rfl ?_
               refine y_un rfl rfl rfl (fun _ h => Gets.own gS h) rfl ?_
               refine y_un rfl rfl rfl (fun _ h => Gets.own gS h) rfl ?_
               refine y_vg rfl rfl rfl (r_pk_f rfl rfl) gT rfl ?_
               refine y_v rfl (r_pk_f rfl rfl) gT rfl ?_
               refine XH.nil ?_
               refine hK22 _ _ ?_
               refine XC.keep [(1, _), (2, _), (5, _), (108, _)] ⟨rfl, rfl, rfl, rfl, trivial⟩ ?_
               refine XC.cond_f rfl ?_
               refine XC.skip ?_
               refine hK13 _ _ ?_
               refine XC.keep [(1, _), (2, _), (5, _)] ⟨rfl, rfl, rfl, trivial⟩ ?_
               refine XC.region ?_
               refine x_v (r_mv rfl) rfl ?_
               refine x_v (r_add rfl rfl (by omega)) rfl ?_
               refine x_v (r_as rfl) rfl ?_
               refine XL.nil ?_
               have hst : stepOk (aN + i) xE st o.1 := ⟨hok, by omega, fun h => by omega, fun h => by omega⟩
               have hb := opOk_b hok
               refine ⟨(i + 1, o.1.epoch, o.1.site), ?_, ?_, ⟨rfl, rfl, rfl, trivial⟩, gS⟩
               ·exact ⟨by dsimp only; omega, fun h => (Nat.succ_ne_zero i h).elim, fun j o2 hj ho2 => by (have hj2 : i = j := by dsimp only at hj; omega); subst hj2; rw [hoi] at ho2; injection ho2 with ho2; subst ho2; exact ⟨rfl, rfl, hb.2.2.2.2.1⟩, by dsimp only; rw [hg, hfd, go_yes hst]; congr 1; omega⟩
               ·dsimp only; omega
          ·refine y_un rfl rfl rfl (fun _ h => Gets.own gS h) rfl ?_
           refine y_un rfl rfl rfl (fun _ h => Gets.own gS h) rfl ?_
           refine y_un rfl rfl rfl (fun _ h => Gets.own gS h) rfl ?_
           refine y_un rfl rfl rfl (fun _ h => Gets.own gS h) rfl ?_
           refine y_unu rfl rfl rfl (fun _ h => Gets.own gS h) rfl ?_
           refine y_unu rfl rfl rfl (fun _ h => Gets.own gS h) rfl ?_
           refine y_unu rfl rfl rfl (fun _ h => Gets.own gS h) rfl ?_
           refine y_unu rfl rfl rfl (fun _ h => Gets.own gS h) rfl ?_
           refine y_unu rfl rfl rfl (fun _ h => Gets.own gS h) rfl ?_
           refine y_unu rfl rfl rfl (fun _ h => Gets.own gS h) rfl ?_
           refine y_unu rfl rfl rfl (fun _ h => Gets.own gS h) rfl ?_
           refine y_unu rfl rfl rfl (fun _ h => Gets.own gS h) rfl ?_
           refine y_unu rfl rfl rfl (fun _ h => Gets.own gS h) rfl ?_
           refine y_unu rfl rfl rfl (fun _ h => Gets.own gS h) rfl ?_
           refine y_unu rfl rfl rfl (fun _ h => Gets.own gS h) rfl ?_
           refine y_unu rfl rfl rfl (fun _ h => Gets.own gS h) rfl ?_
           refine y_unu rfl rfl rfl (fun _ h => Gets.own gS h) rfl ?_
           refine y_un rfl rfl rfl (fun _ h => Gets.own gS h) rfl ?_
           refine y_v rfl (r_pk_f rfl rfl) gT rfl ?_
           refine y_v rfl (r_mv rfl) gT rfl ?_
           refine y_vg rfl rfl rfl (r_fa fo39_1 rfl) gT rfl ?_
           refine y_vg rfl rfl rfl (r_ld ty3 rfl pK (by rfl)) gT rfl ?_
           refine y_vg rfl rfl rfl (r_mv rfl) gT rfl ?_
           refine y_vg rfl rfl rfl (r_lt rfl rfl) gT rfl ?_
           refine y_v rfl (r_pk_f rfl rfl) gT rfl ?_
           refine y_v rfl (r_mv rfl) gT rfl ?_
           refine XH.splitd 98 rfl (fun hg98 => ?_) (fun hg98 => ?_)
           ·refine y_un rfl rfl rfl (fun _ h => Gets.own gS h) rfl ?_
            refine y_un rfl rfl rfl (fun _ h => Gets.own gS h) rfl ?_
            refine y_un rfl rfl rfl (fun _ h => Gets.own gS h) rfl ?_
            refine y_un rfl rfl rfl (fun _ h => Gets.own gS h) rfl ?_
            refine y_un rfl rfl rfl (fun _ h => Gets.own gS h) rfl ?_
            refine y_unu rfl rfl rfl (fun _ h => Gets.own gS h) rfl ?_
            refine y_unu rfl rfl rfl (fun _ h => Gets.own gS h) rfl ?_
            refine y_unu rfl rfl rfl (fun _ h => Gets.own gS h) rfl ?_
            refine y_un rfl rfl rfl (fun _ h => Gets.own gS h) rfl ?_
            refine y_v rfl (r_pk_t rfl rfl) gT rfl ?_
            refine XH.nil ?_
            refine hK22 _ _ ?_
            refine XC.keep [(1, _), (2, _), (5, _), (108, _)] ⟨rfl, rfl, rfl, rfl, trivial⟩ ?_
            refine XC.cond_t rfl ?_
            refine XC.seq fun K29 hK29 => ?_
            refine XC.region ?_
            refine x_v (r_as rfl) rfl ?_
            refine XL.nil ?_
            refine hK29 _ _ ?_
            refine XC.keep [(4, _)] ⟨rfl, trivial⟩ ?_
            refine XC.ret ?_
            exact fin1 rfl (⟨congrArg Value.bool (by rw [row_of hpl, hg, hfd, go_no (fun h => by obtain ⟨q1, q2, q3, q4⟩ := h; first | omega | (rw [q1] at hg58; cases hg58) | (have := hxp (by omega); omega))]), rfl⟩) gS
           ·refine y_vg rfl rfl rfl (r_fa fo39_1 rfl) gT rfl ?_
            refine y_vg rfl rfl rfl (r_ld ty3 rfl pK (by rfl)) gT rfl ?_
            refine y_vg rfl rfl rfl (r_mv rfl) gT rfl ?_
            refine y_vg rfl rfl rfl (r_gt rfl rfl) gT rfl ?_
            refine y_vg rfl rfl rfl (r_mv rfl) gT rfl ?_
            refine XH.splitd 103 rfl (fun hg103 => ?_) (fun hg103 => ?_)
            ·refine y_vg rfl rfl rfl (r_fa fo39_2 rfl) gT rfl ?_
             refine y_vg rfl rfl rfl (r_ld ty3 rfl pK (by rfl)) gT rfl ?_
             refine y_vg rfl rfl rfl (r_ne rfl rfl) gT rfl ?_
             refine y_vg rfl rfl rfl (r_pk_t rfl rfl) gT rfl ?_
             refine y_v rfl (r_pk_f rfl rfl) gT rfl ?_
             refine XH.nil ?_
             refine hK22 _ _ ?_
             refine XC.keep [(1, _), (2, _), (5, _), (108, _)] ⟨rfl, rfl, rfl, rfl, trivial⟩ ?_
             refine XC.cond_d rfl (fun hc19 => ?_) (fun hc19 => ?_)
             ·refine XC.seq fun K30 hK30 => ?_
              refine XC.region ?_
              refine x_v (r_as rfl) rfl ?_
              refine XL.nil ?_
              refine hK30 _ _ ?_
              refine XC.keep [(4, _)] ⟨rfl, trivial⟩ ?_
              refine XC.ret ?_
              exact fin1 rfl (⟨congrArg Value.bool (by rw [row_of hpl, hg, hfd, go_no (fun h => by obtain ⟨q1, q2, q3, q4⟩ := h; first | omega | (rw [q1] at hg58; cases hg58) | (have := hxp (by omega); omega))]), rfl⟩) gS
             ·refine XC.skip ?_
              refine hK13 _ _ ?_
              refine XC.keep [(1, _), (2, _), (5, _)] ⟨rfl, rfl, rfl, trivial⟩ ?_
              refine XC.region ?_
              refine x_v (r_mv rfl) rfl ?_
              refine x_v (r_add rfl rfl (by omega)) rfl ?_
              refine x_v (r_as rfl) rfl ?_
              refine XL.nil ?_
              have hst : stepOk (aN + i) xE st o.1 := ⟨hok, by omega, fun h => by omega, fun h => by omega⟩
              have hb := opOk_b hok
              refine ⟨(i + 1, o.1.epoch, o.1.site), ?_, ?_, ⟨rfl, rfl, rfl, trivial⟩, gS⟩
              ·exact ⟨by dsimp only; omega, fun h => (Nat.succ_ne_zero i h).elim, fun j o2 hj ho2 => by (have hj2 : i = j := by dsimp only at hj; omega); subst hj2; rw [hoi] at ho2; injection ho2 with ho2; subst ho2; exact ⟨rfl, rfl, hb.2.2.2.2.1⟩, by dsimp only; rw [hg, hfd, go_yes hst]; congr 1; omega⟩
              ·dsimp only; omega
            ·refine y_un rfl rfl rfl (fun _ h => Gets.own gS h) rfl ?_
             refine y_un rfl rfl rfl (fun _ h => Gets.own gS h) rfl ?_
             refine y_un rfl rfl rfl (fun _ h => Gets.own gS h) rfl ?_
             refine y_vg rfl rfl rfl (r_pk_f rfl rfl) gT rfl ?_
             refine y_v rfl (r_pk_f rfl rfl) gT rfl ?_
             refine XH.nil ?_
             refine hK22 _ _ ?_
             refine XC.keep [(1, _), (2, _), (5, _), (108, _)] ⟨rfl, rfl, rfl, rfl, trivial⟩ ?_
             refine XC.cond_f rfl ?_
             refine XC.skip ?_
             refine hK13 _ _ ?_
             refine XC.keep [(1, _), (2, _), (5, _)] ⟨rfl, rfl, rfl, trivial⟩ ?_
             refine XC.region ?_
             refine x_v (r_mv rfl) rfl ?_
             refine x_v (r_add rfl rfl (by omega)) rfl ?_
             refine x_v (r_as rfl) rfl ?_
             refine XL.nil ?_
             have hst : stepOk (aN + i) xE st o.1 := ⟨hok, by omega, fun h => by omega, fun h => by omega⟩
             have hb := opOk_b hok
             refine ⟨(i + 1, o.1.epoch, o.1.site), ?_, ?_, ⟨rfl, rfl, rfl, trivial⟩, gS⟩
             ·exact ⟨by dsimp only; omega, fun h => (Nat.succ_ne_zero i h).elim, fun j o2 hj ho2 => by (have hj2 : i = j := by dsimp only at hj; omega); subst hj2; rw [hoi] at ho2; injection ho2 with ho2; subst ho2; exact ⟨rfl, rfl, hb.2.2.2.2.1⟩, by dsimp only; rw [hg, hfd, go_yes hst]; congr 1; omega⟩
             ·dsimp only; omega
      ·refine XC.exit rfl ?_
       refine hK9 _ _ ?_
       refine XC.keep [] trivial ?_
       refine XC.seq fun K31 hK31 => ?_
       refine XC.region ?_
       refine x_v (r_as rfl) rfl ?_
       refine XL.nil ?_
       refine hK31 _ _ ?_
       refine XC.keep [(4, _)] ⟨rfl, trivial⟩ ?_
       refine XC.ret ?_
       exact fin1 rfl (⟨congrArg Value.bool (by rw [row_of hpl, hg, List.drop_eq_nil_of_le (by omega)]; rfl), rfl⟩) gS
end Go.Proofs.Ytheilpcbilnadaa

/- Crowns: rows of operations that may be. -/
import Derived.Test.YtheilpcbilnadaaCrown15
namespace Go.Proofs.Ytheilpcbilnadaa
open Go.Sx
set_option linter.unusedVariables false

def stepOk (aN aE st : Int) (o : Pop) : Prop := opOk o = true ∧ o.n = aN + 1 ∧ (o.kind = 3 → aE < o.epoch) ∧ (¬ o.kind = 3 → o.epoch = aE ∧ (st < 0 ∨ o.site = st))
instance (aN aE st : Int) (o : Pop) : Decidable (stepOk aN aE st o) := by unfold stepOk; infer_instance
def rowGo : Int → Int → Int → List Pop → Bool
 | _, _, _, [] => true
 | aN, aE, st, o :: l => decide (stepOk aN aE st o) && rowGo o.n o.epoch o.site l
def rowOk (aN aE : Int) (L : List Pop) : Bool := decide (placeOk aN aE) && rowGo aN aE (-1) L
theorem nbeq_t {p q : Prop} [Decidable p] [Decidable q] (h : (!(decide p == decide q)) = true) : ¬ (p ↔ q) := fun e => by
 have hh : decide p = decide q := decide_eq_decide.2 e
 rw [hh] at h; simp at h
theorem nbeq_f {p q : Prop} [Decidable p] [Decidable q] (h : (!(decide p == decide q)) = false) : p ↔ q := by
 have hh : decide p = decide q := by simpa using h
 exact decide_eq_decide.1 hh
theorem if03n {b : Bool} (h : ¬ (if b = true then (0 : Int) else 3) = 0) : b = false := by cases b; rfl; exact absurd rfl h
theorem if03y {b : Bool} (h : ¬ ¬ (if b = true then (0 : Int) else 3) = 0) : b = true := by cases b; exact absurd (by decide) h; rfl
theorem opOk_b {o : Pop} (h : opOk o = true) : 1 ≤ o.n ∧ o.n ≤ 80 ∧ 1 ≤ o.epoch ∧ o.epoch ≤ 16 ∧ 0 ≤ o.site ∧ o.site < 2 := by
 have : opA o := Decidable.byContradiction fun hn => by rw [opOk_no hn] at h; cases h
 obtain ⟨h1, h2, h3⟩ := this
 unfold Reigned at h3; omega
theorem fst_get {L : List Od} {i : Nat} {o : Od} (h : L[i]? = some o) : fst1 (L.drop i) = o.1 :: fst1 (L.drop (i + 1)) := by
 obtain ⟨h1, h2⟩ := List.getElem?_eq_some_iff.1 h
 unfold fst1; rw [List.drop_eq_getElem_cons h1, List.map_cons, h2]
theorem go_no {aN aE st : Int} {o : Pop} {l : List Pop} (h : ¬ stepOk aN aE st o) : rowGo aN aE st (o :: l) = false := by unfold rowGo; rw [decide_eq_false h]; rfl
theorem go_yes {aN aE st : Int} {o : Pop} {l : List Pop} (h : stepOk aN aE st o) : rowGo aN aE st (o :: l) = rowGo o.n o.epoch o.site l := by rw [rowGo, decide_eq_true h]; rfl
theorem row_of {aN aE : Int} {L : List Pop} (h : placeOk aN aE) : rowOk aN aE L = rowGo aN aE (-1) L := by unfold rowOk; rw [decide_eq_true h]; rfl
theorem row_no {aN aE : Int} {L : List Pop} (h : ¬ placeOk aN aE) : rowOk aN aE L = false := by unfold rowOk; rw [decide_eq_false h]; rfl

theorem row_tr {W0 : World} {Fr : List HP} {k : HP} (aN aE : Int) (A : Option Addr) (c : Nat) (L : List Od) (hr : Rdb W0 [k] A L.length 9 (cells odc L)) (ho : ∀ o ∈ L, RdO W0 k o) (hl : L.length ≤ 1466015503701) :
  Tr W0 Try.prog 69 [.agg #[.int .i64 aN, .int .i64 aE], .slice A L.length c] (k :: Fr) (fun v Rs' => v = .bool (rowOk aN aE (fst1 L)) ∧ Rs' = k :: Fr) := by
 refine Entry.tr (N := 95) (rs := [.tmp 4]) ⟨_, Try.func69, rfl, by kernel_rfl, rfl, rfl⟩ rfl ?_
 refine XC.seq fun K1 hK1 => ?_
 refine XC.region ?_
 refine x_a (r_bx rfl rfl) rfl fun b2 => ?_
 refine x_v (r_as rfl) rfl ?_
 refine XL.nil ?_
 refine hK1 _ _ ?_
 refine XC.keep [(1, _), (2, _)] ⟨rfl, rfl, trivial⟩ ?_
 refine XC.seq fun K2 hK2 => ?_
 refine XC.seq fun K3 hK3 => ?_
 refine XC.region ?_
 refine x_v (r_fa fo31_0 rfl) rfl ?_
 refine x_v (r_ld ty3 rfl pK (by rfl)) rfl ?_
 refine x_v (r_lt rfl rfl) rfl ?_
 refine x_v (r_mv rfl) rfl ?_
 refine XL.splitd 12 rfl (fun hg12 => ?_) (fun hg12 => ?_)
 ·refine x_unwant rfl rfl rfl rfl rfl ?_
  refine x_unwant rfl rfl rfl rfl rfl ?_
  refine x_unwant rfl rfl rfl rfl rfl ?_
  refine x_v (r_pk_t rfl rfl) rfl ?_
  refine x_v (r_mv rfl) rfl ?_
  refine x_unwant rfl rfl rfl rfl rfl ?_
  refine x_unwant rfl rfl rfl rfl rfl ?_
  refine x_unwant rfl rfl rfl rfl rfl ?_
  refine x_v (r_pk_t rfl rfl) rfl ?_
  refine x_v (r_mv rfl) rfl ?_
  refine x_unwant rfl rfl rfl rfl rfl ?_
  refine x_unwant rfl rfl rfl rfl rfl ?_
  refine x_unwant rfl rfl rfl rfl rfl ?_
  refine x_v (r_pk_t rfl rfl) rfl ?_
  refine x_v (r_mv rfl) rfl ?_
  refine x_unwant rfl rfl rfl rfl rfl ?_
  refine x_unwant rfl rfl rfl rfl rfl ?_
  refine x_unwant rfl rfl rfl rfl rfl ?_
  refine x_unwant rfl rfl rfl rfl rfl ?_
  refine x_unwant rfl rfl rfl rfl rfl ?_
  refine x_unwant rfl rfl rfl rfl rfl ?_
  refine x_unwant rfl rfl rfl rfl rfl ?_
  refine x_v (r_pk_t rfl rfl) rfl ?_
  refine XL.nil ?_
  refine hK3 _ _ ?_
  refine XC.keep [(1, _), (2, _), (35, _)] ⟨rfl, rfl, rfl, trivial⟩ ?_
  refine XC.cond_t rfl ?_
  refine XC.seq fun K4 hK4 => ?_
  refine XC.region ?_
  refine x_v (r_as rfl) rfl ?_
  refine XL.nil ?_
  refine hK4 _ _ ?_
  refine XC.keep [(4, _)] ⟨rfl, trivial⟩ ?_
  refine XC.ret ?_
  exact fin1 rfl (⟨congrArg Value.bool (row_no (fun h => by unfold placeOk at h; first | omega | exact absurd h.2.2.2.2 (nbeq_t hc5))).symm, rfl⟩) gS
 ·refine x_want rfl rfl rfl ?_
  refine x_v (r_fa fo31_0 rfl) rfl ?_
  refine x_want rfl rfl rfl ?_
  refine x_v (r_ld ty3 rfl pK (by rfl)) rfl ?_
  refine x_want rfl rfl rfl ?_
  refine x_v (r_gt rfl rfl) rfl ?_
  refine x_v (r_pk_f rfl rfl) rfl ?_
  refine x_v (r_mv rfl) rfl ?_
  refine XL.splitd 17 rfl (fun hg17 => ?_) (fun hg17 => ?_)
  ·refine x_unwant rfl rfl rfl rfl rfl ?_
   refine x_unwant rfl rfl rfl rfl rfl ?_
   refine x_unwant rfl rfl rfl rfl rfl ?_
   refine x_v (r_pk_t rfl rfl) rfl ?_
   refine x_v (r_mv rfl) rfl ?_
   refine x_unwant rfl rfl rfl rfl rfl ?_
   refine x_unwant rfl rfl rfl rfl rfl ?_
   refine x_unwant rfl rfl rfl rfl rfl ?_
   refine x_v (r_pk_t rfl rfl) rfl ?_
   refine x_v (r_mv rfl) rfl ?_
   refine x_unwant rfl rfl rfl rfl rfl ?_
   refine x_unwant rfl rfl rfl rfl rfl ?_
   refine x_unwant rfl rfl rfl rfl rfl ?_
   refine x_unwant rfl rfl rfl rfl rfl ?_
   refine x_unwant rfl rfl rfl rfl rfl ?_
   refine x_unwant rfl rfl rfl rfl rfl ?_
   refine x_unwant rfl rfl rfl rfl rfl ?_
   refine x_v (r_pk_t rfl rfl) rfl ?_
   refine XL.nil ?_
   refine hK3 _ _ ?_
   refine XC.keep [(1, _), (2, _), (35, _)] ⟨rfl, rfl, rfl, trivial⟩ ?_
   refine XC.cond_t rfl ?_
   refine XC.seq fun K5 hK5 => ?_
   refine XC.region ?_
   refine x_v (r_as rfl) rfl ?_
   refine XL.nil ?_
   refine hK5 _ _ ?_
   refine XC.keep [(4, _)] ⟨rfl, trivial⟩ ?_
   refine XC.ret ?_
   exact fin1 rfl (⟨congrArg Value.bool (row_no (fun h => by unfold placeOk at h; first | omega | exact absurd h.2.2.2.2 (nbeq_t hc5))).symm, rfl⟩) gS
  ·refine x_want rfl rfl rfl ?_
   refine x_v (r_fa fo31_1 rfl) rfl ?_
   refine x_want rfl rfl rfl ?_
   refine x_v (r_ld ty3 rfl pK (by rfl)) rfl ?_
   refine x_want rfl rfl rfl ?_
   refine x_v (r_lt rfl rfl) rfl ?_
   refine x_v (r_pk_f rfl rfl) rfl ?_
   refine x_v (r_mv rfl) rfl ?_
   refine XL.splitd 22 rfl (fun hg22 => ?_) (fun hg22 => ?_)
   ·refine x_unwant rfl rfl rfl rfl rfl ?_
    refine x_unwant rfl rfl rfl rfl rfl ?_
    refine x_unwant rfl rfl rfl rfl rfl ?_
    refine x_v (r_pk_t rfl rfl) rfl ?_
    refine x_v (r_mv rfl) rfl ?_
    refine x_unwant rfl rfl rfl rfl rfl ?_
    refine x_unwant rfl rfl rfl rfl rfl ?_
    refine x_unwant rfl rfl rfl rfl rfl ?_
    refine x_unwant rfl rfl rfl rfl rfl ?_
    refine x_unwant rfl rfl rfl rfl rfl ?_
    refine x_unwant rfl rfl rfl rfl rfl ?_
    refine x_unwant rfl rfl rfl rfl rfl ?_
    refine x_v (r_pk_t rfl rfl) rfl ?_
    refine XL.nil ?_
    refine hK3 _ _ ?_
    refine XC.keep [(1, _), (2, _), (35, _)] ⟨rfl, rfl, rfl, trivial⟩ ?_
    refine XC.cond_t rfl ?_
    refine XC.seq fun K6 hK6 => ?_
    refine XC.region ?_
    refine x_v (r_as rfl) rfl ?_
    refine XL.nil ?_
    refine hK6 _ _ ?_
    refine XC.keep [(4, _)] ⟨rfl, trivial⟩ ?_
    refine XC.ret ?_
    exact fin1 rfl (⟨congrArg Value.bool (row_no (fun h => by unfold placeOk at h; first | omega | exact absurd h.2.2.2.2 (nbeq_t hc5))).symm, rfl⟩) gS
   ·refine x_want rfl rfl rfl ?_
    refine x_v (r_fa fo31_1 rfl) rfl ?_
    refine x_want rfl rfl rfl ?_
    refine x_v (r_ld ty3 rfl pK (by rfl)) rfl ?_
    refine x_want rfl rfl rfl ?_
    refine x_v (r_gt rfl rfl) rfl ?_
    refine x_v (r_pk_f rfl rfl) rfl ?_
    refine x_v (r_mv rfl) rfl ?_
    refine XL.splitd 27 rfl (fun hg27 => ?_) (fun hg27 => ?_)
    ·refine x_unwant rfl rfl rfl rfl rfl ?_
     refine x_unwant rfl rfl rfl rfl rfl ?_
     refine x_unwant rfl rfl rfl rfl rfl ?_
     refine x_unwant rfl rfl rfl rfl rfl ?_
     refine x_unwant rfl rfl rfl rfl rfl ?_
     refine x_unwant rfl rfl rfl rfl rfl ?_
     refine x_unwant rfl rfl rfl rfl rfl ?_
     refine x_v (r_pk_t rfl rfl) rfl ?_
     refine XL.nil ?_
     refine hK3 _ _ ?_
     refine XC.keep [(1, _), (2, _), (35, _)] ⟨rfl, rfl, rfl, trivial⟩ ?_
     refine XC.cond_t rfl ?_
     refine XC.seq fun K7 hK7 => ?_
     refine XC.region ?_
     refine x_v (r_as rfl) rfl ?_
     refine XL.nil ?_
     refine hK7 _ _ ?_
     refine XC.keep [(4, _)] ⟨rfl, trivial⟩ ?_
     refine XC.ret ?_
     exact fin1 rfl (⟨congrArg Value.bool (row_no (fun h => by unfold placeOk at h; first | omega | exact absurd h.2.2.2.2 (nbeq_t hc5))).symm, rfl⟩) gS
    ·refine x_want rfl rfl rfl ?_
     refine x_v (r_fa fo31_0 rfl) rfl ?_
     refine x_want rfl rfl rfl ?_
     refine x_v (r_ld ty3 rfl pK (by rfl)) rfl ?_
     refine x_want rfl rfl rfl ?_
     refine x_v (r_eq rfl rfl) rfl ?_
     refine x_want rfl rfl rfl ?_
     refine x_v (r_fa fo31_1 rfl) rfl ?_
     refine x_want rfl rfl rfl ?_
     refine x_v (r_ld ty3 rfl pK (by rfl)) rfl ?_
     refine x_want rfl rfl rfl ?_
     refine x_v (r_eq rfl rfl) rfl ?_
     refine x_want rfl rfl rfl ?_
     refine x_v (r_bne Try.underlying4 rfl rfl) rfl ?_
     refine x_v (r_pk_f rfl rfl) rfl ?_
     refine XL.nil ?_
     refine hK3 _ _ ?_
     refine XC.keep [(1, _), (2, _), (35, _)] ⟨rfl, rfl, rfl, trivial⟩ ?_
     refine XC.cond rfl (fun hc5 => ?_) (fun hc5 => ?_)
     ·refine XC.seq fun K8 hK8 => ?_
      refine XC.region ?_
      refine x_v (r_as rfl) rfl ?_
      refine XL.nil ?_
      refine hK8 _ _ ?_
      refine XC.keep [(4, _)] ⟨rfl, trivial⟩ ?_
      refine XC.ret ?_
      exact fin1 rfl (⟨congrArg Value.bool (row_no (fun h => by unfold placeOk at h; first | omega | exact absurd h.2.2.2.2 (nbeq_t hc5))).symm, rfl⟩) gS
     ·refine XC.skip ?_
      refine hK2 _ _ ?_
      refine XC.keep [(1, _), (2, _)] ⟨rfl, rfl, trivial⟩ ?_
      refine XC.seq fun K9 hK9 => ?_
      have hpl : placeOk aN aE := by (have := nbeq_f hc5; unfold placeOk; omega)
      have hpl2 : 0 ≤ aN ∧ aN ≤ 80 := by unfold placeOk at hpl; omega
      refine XC.region ?_
      refine x_v (r_as rfl) rfl ?_
      refine XL.nil ?_
      refine hK9 _ _ ?_
      refine XC.keep [(1, _), (2, _), (5, _)] ⟨rfl, rfl, rfl, trivial⟩ ?_
      refine XC.seq fun K10 hK10 => ?_
      refine XC.seq fun K11 hK11 => ?_
      refine XC.region ?_
      refine x_v (r_mv rfl) rfl ?_
      refine x_v (r_lensl Try.underlying33 rfl) rfl ?_
      refine x_v (r_mv rfl) rfl ?_
      refine XL.nil ?_
      refine hK11 _ _ ?_
      refine XC.keep [(2, _), (5, _), (36, _), (37, _), (38, _)] ⟨rfl, rfl, rfl, rfl, rfl, trivial⟩ ?_
      refine XC.block ?_
      refine XC.loop (σ := Nat × Int × Int × Int) (fun s => [(2, .pointer (some ⟨b2, 0, none⟩)), (5, .int .i64 s.2.2.2), (36, .slice A L.length c), (37, .int .i64 (L.length : Int)), (38, .int .i64 (s.1 : Int))]) (fun s => blk b2 31 [.int .i64 s.2.1, .int .i64 s.2.2.1] :: k :: Fr) (fun s => s.1 ≤ L.length ∧ 0 ≤ s.2.1 ∧ s.2.1 ≤ 80 ∧ rowGo aN aE (-1) (fst1 L) = rowGo s.2.1 s.2.2.1 s.2.2.2 (fst1 (L.drop s.1))) (fun s => L.length - s.1) (0, aN, aE, -1) ?_ ⟨rfl, rfl, rfl, rfl, rfl, trivial⟩ gS ?_
      ·exact ⟨Nat.zero_le _, hpl2.1, hpl2.2, rfl⟩
      rintro ⟨i, xN, xE, st⟩ ⟨hi, hx0, hx1, hg⟩
      dsimp only at hi hx0 hx1 hg ⊢
      refine XC.seq fun K12 hK12 => ?_
      refine XC.region ?_
      refine x_v (r_lt rfl rfl) rfl ?_
      refine XL.nil ?_
      refine hK12 _ _ ?_
      refine XC.keep [(2, _), (5, _), (36, _), (37, _), (38, _), (39, _)] ⟨rfl, rfl, rfl, rfl, rfl, rfl, trivial⟩ ?_
      refine XC.seq fun K13 hK13 => ?_
      refine XC.cond_d rfl (fun hc6 => ?_) (fun hc6 => ?_)
      ·refine XC.skip ?_
       refine hK13 _ _ ?_
       refine XC.keep [(2, _), (5, _), (36, _), (37, _), (38, _)] ⟨rfl, rfl, rfl, rfl, rfl, trivial⟩ ?_
       refine XC.seq fun K14 hK14 => ?_
       refine XC.block ?_
       refine XC.seq fun K15 hK15 => ?_
       obtain ⟨o, hoi⟩ : ∃ o, L[i]? = some o := ⟨_, List.getElem?_eq_getElem (by omega)⟩
       have hro := ho o (List.mem_of_getElem? hoi)
       have hfd := fst_get hoi
       obtain ⟨ob, oo, rfl, hat⟩ := hr.at_ (by omega)
       refine XC.region ?_
       refine x_v (r_ia (k := i) Try.underlying33 ty39 rfl rfl (by omega) (by omega)) rfl ?_
       refine x_v (r_ldar (l' := odc o) ty39 rfl rfl (fun w hw j u hu => by rw [Nat.add_assoc]; exact hat w (Gets.own gS hw) _ u (cells_get odc_len L _ _ hoi j u hu))) rfl ?_
       rw [odc_def o]
       refine x_a (r_al ty39 rfl) rfl fun b7 => ?_
       refine x_e (r_st ty39 rfl rfl rfl rfl rfl uD oV) ?_
       refine XL.nil ?_
       refine hK15 _ _ ?_
       refine XC.keep [(2, _), (5, _), (7, _), (36, _), (37, _), (38, _)] ⟨rfl, rfl, rfl, rfl, rfl, rfl, trivial⟩ ?_
       refine XC.seq fun K16 hK16 => ?_
       refine XC.region ?_
       refine x_v (r_fa fo39_2 rfl) rfl ?_
       refine x_v (r_ld ty3 rfl pK (by rfl)) rfl ?_
       refine x_v (r_eq rfl rfl) rfl ?_
       refine x_v (r_as rfl) rfl ?_
       refine XL.nil ?_
       refine hK16 _ _ ?_
       refine XC.keep [(2, _), (5, _), (7, _), (8, _), (36, _), (37, _), (38, _)] ⟨rfl, rfl, rfl, rfl, rfl, rfl, rfl, trivial⟩ ?_
       refine XC.seq fun K17 hK17 => ?_
       refine XC.block ?_
       refine XC.seq fun K18 hK18 => ?_
       refine XC.region ?_
       refine x_v (r_lda (l' := [_, _, _, _, _, _, _, _, _]) ty39 rfl pK rfl (Sub.get sU)) rfl ?_
       refine x_c (r_call0 (args := [_]) ⟨rfl, rfl⟩ (checkop_tr (k := k) o hro) gS) rfl ?_
       rintro _ _ ⟨rfl, rfl⟩
       refine x_v (r_ne rfl rfl) rfl ?_
       refine x_v (r_mv rfl) rfl ?_
       refine XL.splitd 49 rfl (fun hg49 => ?_) (fun hg49 => ?_)
       ·refine x_unwant rfl rfl rfl rfl rfl ?_
        refine x_unwant rfl rfl rfl rfl rfl ?_
        refine x_unwant rfl rfl rfl rfl rfl ?_
        refine x_unwant rfl rfl rfl rfl rfl ?_
        refine x_unwant rfl rfl rfl rfl rfl ?_
        refine x_unwant rfl rfl rfl rfl rfl ?_
        refine x_v (r_pk_t rfl rfl) rfl ?_
        refine x_v (r_as rfl) rfl ?_
        refine XL.nil ?_
        refine hK18 _ _ ?_
        refine XC.keep [(2, _), (5, _), (7, _), (8, _), (36, _), (37, _), (38, _), (45, _)] ⟨rfl, rfl, rfl, rfl, rfl, rfl, rfl, rfl, trivial⟩ ?_
        refine XC.cond_t rfl ?_
        refine XC.seq fun K19 hK19 => ?_
        refine XC.region ?_
        refine x_v (r_as rfl) rfl ?_
        refine XL.nil ?_
        refine hK19 _ _ ?_
        refine XC.keep [(4, _)] ⟨rfl, trivial⟩ ?_
        refine XC.ret ?_
        exact fin1 rfl (⟨congrArg Value.bool (by rw [row_of hpl, hg, hfd, go_no (fun h => by obtain ⟨q1, q2, q3, q4⟩ := h; first | omega | (rw [if03n hg49] at q1; cases q1))]), rfl⟩) gS
       ·refine x_want rfl rfl rfl ?_
        refine x_v (r_fa fo39_0 rfl) rfl ?_
        refine x_want rfl rfl rfl ?_
        refine x_v (r_ld ty3 rfl pK (by rfl)) rfl ?_
        refine x_want rfl rfl rfl ?_
        refine x_v (r_fa fo31_0 rfl) rfl ?_
        refine x_want rfl rfl rfl ?_
        refine x_v (r_ld ty3 rfl pK (by rfl)) rfl ?_
        refine x_want rfl rfl rfl ?_
        refine x_v (r_add rfl rfl (by omega)) rfl ?_
        refine x_want rfl rfl rfl ?_
        refine x_v (r_ne rfl rfl) rfl ?_
        refine x_v (r_pk_f rfl rfl) rfl ?_
        refine x_v (r_as rfl) rfl ?_
        refine XL.nil ?_
        refine hK18 _ _ ?_
        refine XC.keep [(2, _), (5, _), (7, _), (8, _), (36, _), (37, _), (38, _), (45, _)] ⟨rfl, rfl, rfl, rfl, rfl, rfl, rfl, rfl, trivial⟩ ?_
        refine XC.cond_d rfl (fun hc8 => ?_) (fun hc8 => ?_)
        ·refine XC.seq fun K20 hK20 => ?_
         refine XC.region ?_
         refine x_v (r_as rfl) rfl ?_
         refine XL.nil ?_
         refine hK20 _ _ ?_
         refine XC.keep [(4, _)] ⟨rfl, trivial⟩ ?_
         refine XC.ret ?_
         exact fin1 rfl (⟨congrArg Value.bool (by rw [row_of hpl, hg, hfd, go_no (fun h => by obtain ⟨q1, q2, q3, q4⟩ := h; first | omega | (rw [if03n hg49] at q1; cases q1))]), rfl⟩) gS
        ·refine XC.seq fun K21 hK21 => ?_
         refine XC.seq fun K22 hK22 => ?_
         refine XC.region ?_
         refine x_v (r_mv rfl) rfl ?_
         refine x_v (r_mv rfl) rfl ?_
         refine XL.splitd 59 rfl (fun hg59 => ?_) (fun hg59 => ?_)
         ·refine x_want rfl rfl rfl ?_
          refine x_v (r_fa fo39_1 rfl) rfl ?_
          refine x_want rfl rfl rfl ?_
          refine x_v (r_ld ty3 rfl pK (by rfl)) rfl ?_
          refine x_want rfl rfl rfl ?_
          refine x_v (r_fa fo31_1 rfl) rfl ?_
          refine x_want rfl rfl rfl ?_
          refine x_v (r_ld ty3 rfl pK (by rfl)) rfl ?_
          refine x_want rfl rfl rfl ?_
          refine x_v (r_le rfl rfl) rfl ?_
          refine x_v (r_pk_t rfl rfl) rfl ?_
          refine x_v (r_as rfl) rfl ?_
          refine XL.nil ?_
          refine hK22 _ _ ?_
          refine XC.keep [(2, _), (5, _), (7, _), (8, _), (36, _), (37, _), (38, _), (57, _)] ⟨rfl, rfl, rfl, rfl, rfl, rfl, rfl, rfl, trivial⟩ ?_
          refine XC.cond_d rfl (fun hc9 => ?_) (fun hc9 => ?_)
          ·refine XC.skip ?_
           refine hK21 _ _ ?_
           refine XC.keep [(2, _), (7, _), (36, _), (37, _), (38, _), (57, _)] ⟨rfl, rfl, rfl, rfl, rfl, rfl, trivial⟩ ?_
           refine XC.cond_d rfl (fun hc10 => ?_) (fun hc10 => ?_)
           ·refine XC.seq fun K23 hK23 => ?_
            refine XC.region ?_
            refine x_v (r_as rfl) rfl ?_
            refine XL.nil ?_
            refine hK23 _ _ ?_
            refine XC.keep [(4, _)] ⟨rfl, trivial⟩ ?_
            refine XC.ret ?_
            exact fin1 rfl (⟨congrArg Value.bool (by rw [row_of hpl, hg, hfd, go_no (fun h => by obtain ⟨q1, q2, q3, q4⟩ := h; first | omega | (rw [if03n hg49] at q1; cases q1))]), rfl⟩) gS
           ·refine XC.skip ?_
            refine hK17 _ _ ?_
            refine XC.keep [(2, _), (7, _), (36, _), (37, _), (38, _)] ⟨rfl, rfl, rfl, rfl, rfl, trivial⟩ ?_
            refine XC.draw [blk b7 39 [.int .i64 o.1.n, .int .i64 o.1.epoch, .int .i64 o.1.kind, .int .i64 o.1.site, .int .i64 o.1.client, .int .i64 o.1.seq, str o.1.name, .int .i64 o.1.size, .slice o.2.1 o.1.hs.length o.2.2]] false [(0, false), (1, false), (2, false), (3, false), (4, false), (5, false), (6, false), (7, true), (8, false)] (by kernel_rfl) (by kernel_rfl) ?_
            refine y_v rfl (r_fa fo39_0 rfl) gT rfl ?_
            refine y_v rfl (r_ld ty3 rfl pK (by rfl)) gT rfl ?_
            refine y_v rfl (r_fa fo39_1 rfl) gT rfl ?_
            refine y_v rfl (r_ld ty3 rfl pK (by rfl)) gT rfl ?_
            refine y_v rfl (r_bd (vs := [_, _]) rfl ⟨rfl, rfl, rfl⟩ (bd31_0_1 _ _)) gT rfl ?_
            refine y_v rfl (r_fa fo39_3 rfl) gT rfl ?_
            refine y_v rfl (r_ld ty3 rfl pK (by rfl)) gT rfl ?_
            refine y_e rfl (r_st ty31 rfl rfl rfl rfl rfl uD oV) (fun _ _ h => Gets.own gS h) ?_
            refine y_v rfl (r_as rfl) gT rfl ?_
            refine XH.nil ?_
            refine hK14 _ _ ?_
            refine XC.keep [(2, _), (5, _), (36, _), (37, _), (38, _)] ⟨rfl, rfl, rfl, rfl, rfl, trivial⟩ ?_
            refine XC.region ?_
            refine x_v (r_add rfl rfl (by omega)) rfl ?_
            refine x_v (r_mv rfl) rfl ?_
            refine XL.nil ?_
            have hst : stepOk xN xE st o.1 := ⟨if03y hg49, by omega, fun h => by omega, fun h => by omega⟩
            have hb := opOk_b (if03y hg49)
            refine ⟨(i + 1, o.1.n, o.1.epoch, o.1.site), ?_, ?_, ⟨rfl, rfl, rfl, rfl, rfl, trivial⟩, gS⟩
            ·exact ⟨by dsimp only; omega, by dsimp only; omega, by dsimp only; omega, by dsimp only; rw [hg, hfd, go_yes hst]⟩
            ·dsimp only; omega
          ·refine XC.seq fun K24 hK24 => ?_
           refine XC.region ?_
           refine x_v (r_mv rfl) rfl ?_
           refine x_v (r_not_d rfl) rfl ?_
           refine x_v (r_mv rfl) rfl ?_
           refine XL.splitd 68 rfl (fun hg68 => ?_) (fun hg68 => ?_)
           ·refine x_want rfl rfl rfl ?_
            refine x_v (r_fa fo39_1 rfl) rfl ?_
            refine x_want rfl rfl rfl ?_
            refine x_v (r_ld ty3 rfl pK (by rfl)) rfl ?_
            refine x_want rfl rfl rfl ?_
            refine x_v (r_fa fo31_1 rfl) rfl ?_
            refine x_want rfl rfl rfl ?_
            refine x_v (r_ld ty3 rfl pK (by rfl)) rfl ?_
            refine x_want rfl rfl rfl ?_
            refine x_v (r_ne rfl rfl) rfl ?_
            refine x_v (r_pk_t rfl rfl) rfl ?_
            refine x_v (r_as rfl) rfl ?_
            refine XL.nil ?_
            refine hK24 _ _ ?_
            refine XC.keep [(2, _), (5, _), (7, _), (8, _), (36, _), (37, _), (38, _), (57, _)] ⟨rfl, rfl, rfl, rfl, rfl, rfl, rfl, rfl, trivial⟩ ?_
            refine XC.cond_d rfl (fun hc11 => ?_) (fun hc11 => ?_)
            ·refine XC.skip ?_
             refine hK21 _ _ ?_
             refine XC.keep [(2, _), (7, _), (36, _), (37, _), (38, _), (57, _)] ⟨rfl, rfl, rfl, rfl, rfl, rfl, trivial⟩ ?_
             refine XC.cond_d rfl (fun hc12 => ?_) (fun hc12 => ?_)
             ·refine XC.seq fun K25 hK25 => ?_
              refine XC.region ?_
              refine x_v (r_as rfl) rfl ?_
              refine XL.nil ?_
              refine hK25 _ _ ?_
              refine XC.keep [(4, _)] ⟨rfl, trivial⟩ ?_
              refine XC.ret ?_
              exact fin1 rfl (⟨congrArg Value.bool (by rw [row_of hpl, hg, hfd, go_no (fun h => by obtain ⟨q1, q2, q3, q4⟩ := h; first | omega | (rw [if03n hg49] at q1; cases q1))]), rfl⟩) gS
             ·refine XC.skip ?_
              refine hK17 _ _ ?_
              refine XC.keep [(2, _), (7, _), (36, _), (37, _), (38, _)] ⟨rfl, rfl, rfl, rfl, rfl, trivial⟩ ?_
              refine XC.draw [blk b7 39 [.int .i64 o.1.n, .int .i64 o.1.epoch, .int .i64 o.1.kind, .int .i64 o.1.site, .int .i64 o.1.client, .int .i64 o.1.seq, str o.1.name, .int .i64 o.1.size, .slice o.2.1 o.1.hs.length o.2.2]] false [(0, false), (1, false), (2, false), (3, false), (4, false), (5, false), (6, false), (7, true), (8, false)] (by kernel_rfl) (by kernel_rfl) ?_
              refine y_v rfl (r_fa fo39_0 rfl) gT rfl ?_
              refine y_v rfl (r_ld ty3 rfl pK (by rfl)) gT rfl ?_
              refine y_v rfl (r_fa fo39_1 rfl) gT rfl ?_
              refine y_v rfl (r_ld ty3 rfl pK (by rfl)) gT rfl ?_
              refine y_v rfl (r_bd (vs := [_, _]) rfl ⟨rfl, rfl, rfl⟩ (bd31_0_1 _ _)) gT rfl ?_
              refine y_v rfl (r_fa fo39_3 rfl) gT rfl ?_
              refine y_v rfl (r_ld ty3 rfl pK (by rfl)) gT rfl ?_
              refine y_e rfl (r_st ty31 rfl rfl rfl rfl rfl uD oV) (fun _ _ h => Gets.own gS h) ?_
              refine y_v rfl (r_as rfl) gT rfl ?_
              refine XH.nil ?_
              refine hK14 _ _ ?_
              refine XC.keep [(2, _), (5, _), (36, _), (37, _), (38, _)] ⟨rfl, rfl, rfl, rfl, rfl, trivial⟩ ?_
              refine XC.region ?_
              refine x_v (r_add rfl rfl (by omega)) rfl ?_
              refine x_v (r_mv rfl) rfl ?_
              refine XL.nil ?_
              have hst : stepOk xN xE st o.1 := ⟨if03y hg49, by omega, fun h => by omega, fun h => by omega⟩
              have hb := opOk_b (if03y hg49)
              refine ⟨(i + 1, o.1.n, o.1.epoch, o.1.site), ?_, ?_, ⟨rfl, rfl, rfl, rfl, rfl, trivial⟩, gS⟩
              ·exact ⟨by dsimp only; omega, by dsimp only; omega, by dsimp only; omega, by dsimp only; rw [hg, hfd, go_yes hst]⟩
              ·dsimp only; omega
            ·refine XC.region ?_
             refine x_v (r_mv rfl) rfl ?_
             refine x_v (r_not_d rfl) rfl ?_
             refine x_v (r_mv rfl) rfl ?_
             refine XL.splitd 77 rfl (fun hg77 => ?_) (fun hg77 => ?_)
             ·refine x_want rfl rfl rfl ?_
              refine x_v (r_mv rfl) rfl ?_
              refine x_want rfl rfl rfl ?_
              refine x_v (r_ge rfl rfl) rfl ?_
              refine x_v (r_pk_t rfl rfl) rfl ?_
              refine x_v (r_mv rfl) rfl ?_
              refine XL.splitd 81 rfl (fun hg81 => ?_) (fun hg81 => ?_)
              ·refine x_want rfl rfl rfl ?_
               refine x_v (r_fa fo39_3 rfl) rfl ?_
               refine x_want rfl rfl rfl ?_
               refine x_v (r_ld ty3 rfl pK (by rfl)) rfl ?_
               refine x_want rfl rfl rfl ?_
               refine x_v (r_mv rfl) rfl ?_
               refine x_want rfl rfl rfl ?_
               refine x_v (r_ne rfl rfl) rfl ?_
               refine x_v (r_pk_t rfl rfl) rfl ?_
               refine x_v (r_as rfl) rfl ?_
               refine XL.nil ?_
               refine hK21 _ _ ?_
               refine XC.keep [(2, _), (7, _), (36, _), (37, _), (38, _), (57, _)] ⟨rfl, rfl, rfl, rfl, rfl, rfl, trivial⟩ ?_
               refine XC.cond_d rfl (fun hc13 => ?_) (fun hc13 => ?_)
               ·refine XC.seq fun K26 hK26 => ?_
                refine XC.region ?_
                refine x_v (r_as rfl) rfl ?_
                refine XL.nil ?_
                refine hK26 _ _ ?_
                refine XC.keep [(4, _)] ⟨rfl, trivial⟩ ?_
                refine XC.ret ?_
                exact fin1 rfl (⟨congrArg Value.bool (by rw [row_of hpl, hg, hfd, go_no (fun h => by obtain ⟨q1, q2, q3, q4⟩ := h; first | omega | (rw [if03n hg49] at q1; cases q1))]), rfl⟩) gS
               ·refine XC.skip ?_
                refine hK17 _ _ ?_
                refine XC.keep [(2, _), (7, _), (36, _), (37, _), (38, _)] ⟨rfl, rfl, rfl, rfl, rfl, trivial⟩ ?_
                refine XC.draw [blk b7 39 [.int .i64 o.1.n, .int .i64 o.1.epoch, .int .i64 o.1.kind, .int .i64 o.1.site, .int .i64 o.1.client, .int .i64 o.1.seq, str o.1.name, .int .i64 o.1.size, .slice o.2.1 o.1.hs.length o.2.2]] false [(0, false), (1, false), (2, false), (3, false), (4, false), (5, false), (6, false), (7, true), (8, false)] (by kernel_rfl) (by kernel_rfl) ?_
                refine y_v rfl (r_fa fo39_0 rfl) gT rfl ?_
                refine y_v rfl (r_ld ty3 rfl pK (by rfl)) gT rfl ?_
                refine y_v rfl (r_fa fo39_1 rfl) gT rfl ?_
                refine y_v rfl (r_ld ty3 rfl pK (by rfl)) gT rfl ?_
                refine y_v rfl (r_bd (vs := [_, _]) rfl ⟨rfl, rfl, rfl⟩ (bd31_0_1 _ _)) gT rfl ?_
                refine y_v rfl (r_fa fo39_3 rfl) gT rfl ?_
                refine y_v rfl (r_ld ty3 rfl pK (by rfl)) gT rfl ?_
                refine y_e rfl (r_st ty31 rfl rfl rfl rfl rfl uD oV) (fun _ _ h => Gets.own gS h) ?_
                refine y_v rfl (r_as rfl) gT rfl ?_
                refine XH.nil ?_
                refine hK14 _ _ ?_
                refine XC.keep [(2, _), (5, _), (36, _), (37, _), (38, _)] ⟨rfl, rfl, rfl, rfl, rfl, trivial⟩ ?_
                refine XC.region ?_
                refine x_v (r_add rfl rfl (by omega)) rfl ?_
                refine x_v (r_mv rfl) rfl ?_
                refine XL.nil ?_
                have hst : stepOk xN xE st o.1 := ⟨if03y hg49, by omega, fun h => by omega, fun h => by omega⟩
                have hb := opOk_b (if03y hg49)
                refine ⟨(i + 1, o.1.n, o.1.epoch, o.1.site), ?_, ?_, ⟨rfl, rfl, rfl, rfl, rfl, trivial⟩, gS⟩
                ·exact ⟨by dsimp only; omega, by dsimp only; omega, by dsimp only; omega, by dsimp only; rw [hg, hfd, go_yes hst]⟩
                ·dsimp only; omega
              ·refine x_unwant rfl rfl rfl rfl rfl ?_
               refine x_unwant rfl rfl rfl rfl rfl ?_
               refine x_unwant rfl rfl rfl rfl rfl ?_
               refine x_unwant rfl rfl rfl rfl rfl ?_
               refine x_v (r_pk_f rfl rfl) rfl ?_
               refine x_v (r_as rfl) rfl ?_
               refine XL.nil ?_
               refine hK21 _ _ ?_
               refine XC.keep [(2, _), (7, _), (36, _), (37, _), (38, _), (57, _)] ⟨rfl, rfl, rfl, rfl, rfl, rfl, trivial⟩ ?_
               refine XC.cond_f rfl ?_
               refine XC.skip ?_
               refine hK17 _ _ ?_
               refine XC.keep [(2, _), (7, _), (36, _), (37, _), (38, _)] ⟨rfl, rfl, rfl, rfl, rfl, trivial⟩ ?_
               refine XC.draw [blk b7 39 [.int .i64 o.1.n, .int .i64 o.1.epoch, .int .i64 o.1.kind, .int .i64 o.1.site, .int .i64 o.1.client, .int .i64 o.1.seq, str o.1.name, .int .i64 o.1.size, .slice o.2.1 o.1.hs.length o.2.2]] false [(0, false), (1, false), (2, false), (3, false), (4, false), (5, false), (6, false), (7, true), (8, false)] (by kernel_rfl) (by kernel_rfl) ?_
               refine y_v rfl (r_fa fo39_0 rfl) gT rfl ?_
               refine y_v rfl (r_ld ty3 rfl pK (by rfl)) gT rfl ?_
               refine y_v rfl (r_fa fo39_1 rfl) gT rfl ?_
               refine y_v rfl (r_ld ty3 rfl pK (by rfl)) gT rfl ?_
               refine y_v rfl (r_bd (vs := [_, _]) rfl ⟨rfl, rfl, rfl⟩ (bd31_0_1 _ _)) gT rfl ?_
               refine y_v rfl (r_fa fo39_3 rfl) gT rfl ?_
               refine y_v rfl (r_ld ty3 rfl pK (by rfl)) gT rfl ?_
               refine y_e rfl (r_st ty31 rfl rfl rfl rfl rfl uD oV) (fun _ _ h => Gets.own gS h) ?_
               refine y_v rfl (r_as rfl) gT rfl ?_
               refine XH.nil ?_
               refine hK14 _ _ ?_
               refine XC.keep [(2, _), (5, _), (36, _), (37, _), (38, _)] ⟨rfl, rfl, rfl, rfl, rfl, trivial⟩ ?_
               refine XC.region ?_
               refine x_v (r_add rfl rfl (by omega)) rfl ?_
               refine x_v (r_mv rfl) rfl ?_
               refine XL.nil ?_
               have hst : stepOk xN xE st o.1 := ⟨if03y hg49, by omega, fun h => by omega, fun h => by omega⟩
               have hb := opOk_b (if03y hg49)
               refine ⟨(i + 1, o.1.n, o.1.epoch, o.1.site), ?_, ?_, ⟨rfl, rfl, rfl, rfl, rfl, trivial⟩, gS⟩
               ·exact ⟨by dsimp only; omega, by dsimp only; omega, by dsimp only; omega, by dsimp only; rw [hg, hfd, go_yes hst]⟩
               ·dsimp only; omega
             ·refine x_unwant rfl rfl rfl rfl rfl ?_
              refine x_unwant rfl rfl rfl rfl rfl ?_
              refine x_v (r_pk_f rfl rfl) rfl ?_
              refine x_v (r_mv rfl) rfl ?_
              refine x_unwant rfl rfl rfl rfl rfl ?_
              refine x_unwant rfl rfl rfl rfl rfl ?_
              refine x_unwant rfl rfl rfl rfl rfl ?_
              refine x_unwant rfl rfl rfl rfl rfl ?_
              refine x_v (r_pk_f rfl rfl) rfl ?_
              refine x_v (r_as rfl) rfl ?_
              refine XL.nil ?_
              refine hK21 _ _ ?_
              refine XC.keep [(2, _), (7, _), (36, _), (37, _), (38, _), (57, _)] ⟨rfl, rfl, rfl, rfl, rfl, rfl, trivial⟩ ?_
              refine XC.cond_f rfl ?_
              refine XC.skip ?_
              refine hK17 _ _ ?_
              refine XC.keep [(2, _), (7, _), (36, _), (37, _), (38, _)] ⟨rfl, rfl, rfl, rfl, rfl, trivial⟩ ?_
              refine XC.draw [blk b7 39 [.int .i64 o.1.n, .int .i64 o.1.epoch, .int .i64 o.1.kind, .int .i64 o.1.site, .int .i64 o.1.client, .int .i64 o.1.seq, str o.1.name, .int .i64 o.1.size, .slice o.2.1 o.1.hs.length o.2.2]] false [(0, false), (1, false), (2, false), (3, false), (4, false), (5, false), (6, false), (7, true), (8, false)] (by kernel_rfl) (by kernel_rfl) ?_
              refine y_v rfl (r_fa fo39_0 rfl) gT rfl ?_
              refine y_v rfl (r_ld ty3 rfl pK (by rfl)) gT rfl ?_
              refine y_v rfl (r_fa fo39_1 rfl) gT rfl ?_
              refine y_v rfl (r_ld ty3 rfl pK (by rfl)) gT rfl ?_
              refine y_v rfl (r_bd (vs := [_, _]) rfl ⟨rfl, rfl, rfl⟩ (bd31_0_1 _ _)) gT rfl ?_
              refine y_v rfl (r_fa fo39_3 rfl) gT rfl ?_
              refine y_v rfl (r_ld ty3 rfl pK (by rfl)) gT rfl ?_
              refine y_e rfl (r_st ty31 rfl rfl rfl rfl rfl uD oV) (fun _ _ h => Gets.own gS h) ?_
              refine y_v rfl (r_as rfl) gT rfl ?_
              refine XH.nil ?_
              refine hK14 _ _ ?_
              refine XC.keep [(2, _), (5, _), (36, _), (37, _), (38, _)] ⟨rfl, rfl, rfl, rfl, rfl, trivial⟩ ?_
              refine XC.region ?_
              refine x_v (r_add rfl rfl (by omega)) rfl ?_
              refine x_v (r_mv rfl) rfl ?_
              refine XL.nil ?_
              have hst : stepOk xN xE st o.1 := ⟨if03y hg49, by omega, fun h => by omega, fun h => by omega⟩
              have hb := opOk_b (if03y hg49)
              refine ⟨(i + 1, o.1.n, o.1.epoch, o.1.site), ?_, ?_, ⟨rfl, rfl, rfl, rfl, rfl, trivial⟩, gS⟩
              ·exact ⟨by dsimp only; omega, by dsimp only; omega, by dsimp only; omega, by dsimp only; rw [hg, hfd, go_yes hst]⟩
              ·dsimp only; omega
           ·refine x_unwant rfl rfl rfl rfl rfl ?_
            refine x_unwant rfl rfl rfl rfl rfl ?_
            refine x_unwant rfl rfl rfl rfl rfl ?_
            refine x_unwant rfl rfl rfl rfl rfl ?_
            refine x_unwant rfl rfl rfl rfl rfl ?_
            refine x_v (r_pk_f rfl rfl) rfl ?_
            refine x_v (r_as rfl) rfl ?_
            refine XL.nil ?_
            refine hK24 _ _ ?_
            refine XC.keep [(2, _), (5, _), (7, _), (8, _), (36, _), (37, _), (38, _), (57, _)] ⟨rfl, rfl, rfl, rfl, rfl, rfl, rfl, rfl, trivial⟩ ?_
            refine XC.cond_f rfl ?_
            refine XC.region ?_
            refine x_v (r_mv rfl) rfl ?_
            refine x_v (r_not_d rfl) rfl ?_
            refine x_v (r_mv rfl) rfl ?_
            refine XL.splitd 77 rfl (fun hg77 => ?_) (fun hg77 => ?_)
            ·refine x_want rfl rfl rfl ?_
             refine x_v (r_mv rfl) rfl ?_
             refine x_want rfl rfl rfl ?_
             refine x_v (r_ge rfl rfl) rfl ?_
             refine x_v (r_pk_t rfl rfl) rfl ?_
             refine x_v (r_mv rfl) rfl ?_
             refine XL.splitd 81 rfl (fun hg81 => ?_) (fun hg81 => ?_)
             ·refine x_want rfl rfl rfl ?_
              refine x_v (r_fa fo39_3 rfl) rfl ?_
              refine x_want rfl rfl rfl ?_
              refine x_v (r_ld ty3 rfl pK (by rfl)) rfl ?_
              refine x_want rfl rfl rfl ?_
              refine x_v (r_mv rfl) rfl ?_
              refine x_want rfl rfl rfl ?_
              refine x_v (r_ne rfl rfl) rfl ?_
              refine x_v (r_pk_t rfl rfl) rfl ?_
              refine x_v (r_as rfl) rfl ?_
              refine XL.nil ?_
              refine hK21 _ _ ?_
              refine XC.keep [(2, _), (7, _), (36, _), (37, _), (38, _), (57, _)] ⟨rfl, rfl, rfl, rfl, rfl, rfl, trivial⟩ ?_
              refine XC.cond_d rfl (fun hc17 => ?_) (fun hc17 => ?_)
              ·refine XC.seq fun K27 hK27 => ?_
               refine XC.region ?_
               refine x_v (r_as rfl) rfl ?_
               refine XL.nil ?_
               refine hK27 _ _ ?_
               refine XC.keep [(4, _)] ⟨rfl, trivial⟩ ?_
               refine XC.ret ?_
               exact fin1 rfl (⟨congrArg Value.bool (by rw [row_of hpl, hg, hfd, go_no (fun h => by obtain ⟨q1, q2, q3, q4⟩ := h; first | omega | (rw [if03n hg49] at q1; cases q1))]), rfl⟩) gS
              ·refine XC.skip ?_
               refine hK17 _ _ ?_
               refine XC.keep [(2, _), (7, _), (36, _), (37, _), (38, _)] ⟨rfl, rfl, rfl, rfl, rfl, trivial⟩ ?_
               refine XC.draw [blk b7 39 [.int .i64 o.1.n, .int .i64 o.1.epoch, .int .i64 o.1.kind, .int .i64 o.1.site, .int .i64 o.1.client, .int .i64 o.1.seq, str o.1.name, .int .i64 o.1.size, .slice o.2.1 o.1.hs.length o.2.2]] false [(0, false), (1, false), (2, false), (3, false), (4, false), (5, false), (6, false), (7, true), (8, false)] (by kernel_rfl) (by kernel_rfl) ?_
               refine y_v rfl (r_fa fo39_0 rfl) gT rfl ?_
               refine y_v rfl (r_ld ty3 rfl pK (by rfl)) gT rfl ?_
               refine y_v rfl (r_fa fo39_1 rfl) gT rfl ?_
               refine y_v rfl (r_ld ty3 rfl pK (by rfl)) gT rfl ?_
               refine y_v rfl (r_bd (vs := [_, _]) rfl ⟨rfl, rfl, rfl⟩ (bd31_0_1 _ _)) gT rfl ?_
               refine y_v rfl (r_fa fo39_3 rfl) gT rfl ?_
               refine y_v rfl (r_ld ty3 rfl pK (by rfl)) gT rfl ?_
               refine y_e rfl (r_st ty31 rfl rfl rfl rfl rfl uD oV) (fun _ _ h => Gets.own gS h) ?_
               refine y_v rfl (r_as rfl) gT rfl ?_
               refine XH.nil ?_
               refine hK14 _ _ ?_
               refine XC.keep [(2, _), (5, _), (36, _), (37, _), (38, _)] ⟨rfl, rfl, rfl, rfl, rfl, trivial⟩ ?_
               refine XC.region ?_
               refine x_v (r_add rfl rfl (by omega)) rfl ?_
               refine x_v (r_mv rfl) rfl ?_
               refine XL.nil ?_
               have hst : stepOk xN xE st o.1 := ⟨if03y hg49, by omega, fun h => by omega, fun h => by omega⟩
               have hb := opOk_b (if03y hg49)
               refine ⟨(i + 1, o.1.n, o.1.epoch, o.1.site), ?_, ?_, ⟨rfl, rfl, rfl, rfl, rfl, trivial⟩, gS⟩
               ·exact ⟨by dsimp only; omega, by dsimp only; omega, by dsimp only; omega, by dsimp only; rw [hg, hfd, go_yes hst]⟩
               ·dsimp only; omega
             ·refine x_unwant rfl rfl rfl rfl rfl ?_
              refine x_unwant rfl rfl rfl rfl rfl ?_
              refine x_unwant rfl rfl rfl rfl rfl ?_
              refine x_unwant rfl rfl rfl rfl rfl ?_
              refine x_v (r_pk_f rfl rfl) rfl ?_
              refine x_v (r_as rfl) rfl ?_
              refine XL.nil ?_
              refine hK21 _ _ ?_
              refine XC.keep [(2, _), (7, _), (36, _), (37, _), (38, _), (57, _)] ⟨rfl, rfl, rfl, rfl, rfl, rfl, trivial⟩ ?_
              refine XC.cond_f rfl ?_
              refine XC.skip ?_
              refine hK17 _ _ ?_
              refine XC.keep [(2, _), (7, _), (36, _), (37, _), (38, _)] ⟨rfl, rfl, rfl, rfl, rfl, trivial⟩ ?_
              refine XC.draw [blk b7 39 [.int .i64 o.1.n, .int .i64 o.1.epoch, .int .i64 o.1.kind, .int .i64 o.1.site, .int .i64 o.1.client, .int .i64 o.1.seq, str o.1.name, .int .i64 o.1.size, .slice o.2.1 o.1.hs.length o.2.2]] false [(0, false), (1, false), (2, false), (3, false), (4, false), (5, false), (6, false), (7, true), (8, false)] (by kernel_rfl) (by kernel_rfl) ?_
              refine y_v rfl (r_fa fo39_0 rfl) gT rfl ?_
              refine y_v rfl (r_ld ty3 rfl pK (by rfl)) gT rfl ?_
              refine y_v rfl (r_fa fo39_1 rfl) gT rfl ?_
              refine y_v rfl (r_ld ty3 rfl pK (by rfl)) gT rfl ?_
              refine y_v rfl (r_bd (vs := [_, _]) rfl ⟨rfl, rfl, rfl⟩ (bd31_0_1 _ _)) gT rfl ?_
              refine y_v rfl (r_fa fo39_3 rfl) gT rfl ?_
              refine y_v rfl (r_ld ty3 rfl pK (by rfl)) gT rfl ?_
              refine y_e rfl (r_st ty31 rfl rfl rfl rfl rfl uD oV) (fun _ _ h => Gets.own gS h) ?_
              refine y_v rfl (r_as rfl) gT rfl ?_
              refine XH.nil ?_
              refine hK14 _ _ ?_
              refine XC.keep [(2, _), (5, _), (36, _), (37, _), (38, _)] ⟨rfl, rfl, rfl, rfl, rfl, trivial⟩ ?_
              refine XC.region ?_
              refine x_v (r_add rfl rfl (by omega)) rfl ?_
              refine x_v (r_mv rfl) rfl ?_
              refine XL.nil ?_
              have hst : stepOk xN xE st o.1 := ⟨if03y hg49, by omega, fun h => by omega, fun h => by omega⟩
              have hb := opOk_b (if03y hg49)
              refine ⟨(i + 1, o.1.n, o.1.epoch, o.1.site), ?_, ?_, ⟨rfl, rfl, rfl, rfl, rfl, trivial⟩, gS⟩
              ·exact ⟨by dsimp only; omega, by dsimp only; omega, by dsimp only; omega, by dsimp only; rw [hg, hfd, go_yes hst]⟩
              ·dsimp only; omega
            ·refine x_unwant rfl rfl rfl rfl rfl ?_
             refine x_unwant rfl rfl rfl rfl rfl ?_
             refine x_v (r_pk_f rfl rfl) rfl ?_
             refine x_v (r_mv rfl) rfl ?_
             refine x_unwant rfl rfl rfl rfl rfl ?_
             refine x_unwant rfl rfl rfl rfl rfl ?_
             refine x_unwant rfl rfl rfl rfl rfl ?_
             refine x_unwant rfl rfl rfl rfl rfl ?_
             refine x_v (r_pk_f rfl rfl) rfl ?_
             refine x_v (r_as rfl) rfl ?_
             refine XL.nil ?_
             refine hK21 _ _ ?_
             refine XC.keep [(2, _), (7, _), (36, _), (37, _), (38, _), (57, _)] ⟨rfl, rfl, rfl, rfl, rfl, rfl, trivial⟩ ?_
             refine XC.cond_f rfl ?_
             refine XC.skip ?_
             refine hK17 _ _ ?_
             refine XC.keep [(2, _), (7, _), (36, _), (37, _), (38, _)] ⟨rfl, rfl, rfl, rfl, rfl, trivial⟩ ?_
             refine XC.draw [blk b7 39 [.int .i64 o.1.n, .int .i64 o.1.epoch, .int .i64 o.1.kind, .int .i64 o.1.site, .int .i64 o.1.client, .int .i64 o.1.seq, str o.1.name, .int .i64 o.1.size, .slice o.2.1 o.1.hs.length o.2.2]] false [(0, false), (1, false), (2, false), (3, false), (4, false), (5, false), (6, false), (7, true), (8, false)] (by kernel_rfl) (by kernel_rfl) ?_
             refine y_v rfl (r_fa fo39_0 rfl) gT rfl ?_
             refine y_v rfl (r_ld ty3 rfl pK (by rfl)) gT rfl ?_
             refine y_v rfl (r_fa fo39_1 rfl) gT rfl ?_
             refine y_v rfl (r_ld ty3 rfl pK (by rfl)) gT rfl ?_
             refine y_v rfl (r_bd (vs := [_, _]) rfl ⟨rfl, rfl, rfl⟩ (bd31_0_1 _ _)) gT rfl ?_
             refine y_v rfl (r_fa fo39_3 rfl) gT rfl ?_
             refine y_v rfl (r_ld ty3 rfl pK (by rfl)) gT rfl ?_
             refine y_e rfl (r_st ty31 rfl rfl rfl rfl rfl uD oV) (fun _ _ h => Gets.own gS h) ?_
             refine y_v rfl (r_as rfl) gT rfl ?_
             refine XH.nil ?_
             refine hK14 _ _ ?_
             refine XC.keep [(2, _), (5, _), (36, _), (37, _), (38, _)] ⟨rfl, rfl, rfl, rfl, rfl, trivial⟩ ?_
             refine XC.region ?_
             refine x_v (r_add rfl rfl (by omega)) rfl ?_
             refine x_v (r_mv rfl) rfl ?_
             refine XL.nil ?_
             have hst : stepOk xN xE st o.1 := ⟨if03y hg49, by omega, fun h => by omega, fun h => by omega⟩
             have hb := opOk_b (if03y hg49)
             refine ⟨(i + 1, o.1.n, o.1.epoch, o.1.site), ?_, ?_, ⟨rfl, rfl, rfl, rfl, rfl, trivial⟩, gS⟩
             ·exact ⟨by dsimp only; omega, by dsimp only; omega, by dsimp only; omega, by dsimp only; rw [hg, hfd, go_yes hst]⟩
             ·dsimp only; omega
         ·refine x_unwant rfl rfl rfl rfl rfl ?_
          refine x_unwant rfl rfl rfl rfl rfl ?_
          refine x_unwant rfl rfl rfl rfl rfl ?_
          refine x_unwant rfl rfl rfl rfl rfl ?_
          refine x_unwant rfl rfl rfl rfl rfl ?_
          refine x_v (r_pk_f rfl rfl) rfl ?_
          refine x_v (r_as rfl) rfl ?_
          refine XL.nil ?_
          refine hK22 _ _ ?_
          refine XC.keep [(2, _), (5, _), (7, _), (8, _), (36, _), (37, _), (38, _), (57, _)] ⟨rfl, rfl, rfl, rfl, rfl, rfl, rfl, rfl, trivial⟩ ?_
          refine XC.cond_f rfl ?_
          refine XC.seq fun K28 hK28 => ?_
          refine XC.region ?_
          refine x_v (r_mv rfl) rfl ?_
          refine x_v (r_not_d rfl) rfl ?_
          refine x_v (r_mv rfl) rfl ?_
          refine XL.splitd 68 rfl (fun hg68 => ?_) (fun hg68 => ?_)
          ·refine x_want rfl rfl rfl ?_
           refine x_v (r_fa fo39_1 rfl) rfl ?_
           refine x_want rfl rfl rfl ?_
           refine x_v (r_ld ty3 rfl pK (by rfl)) rfl ?_
           refine x_want rfl rfl rfl ?_
           refine x_v (r_fa fo31_1 rfl) rfl ?_
           refine x_want rfl rfl rfl ?_
           refine x_v (r_ld ty3 rfl pK (by rfl)) rfl ?_
           refine x_want rfl rfl rfl ?_
           refine x_v (r_ne rfl rfl) rfl ?_
           refine x_v (r_pk_t rfl rfl) rfl ?_
           refine x_v (r_as rfl) rfl ?_
           refine XL.nil ?_
           refine hK28 _ _ ?_
           refine XC.keep [(2, _), (5, _), (7, _), (8, _), (36, _), (37, _), (38, _), (57, _)] ⟨rfl, rfl, rfl, rfl, rfl, rfl, rfl, rfl, trivial⟩ ?_
           refine XC.cond_d rfl (fun hc21 => ?_) (fun hc21 => ?_)
           ·refine XC.skip ?_
            refine hK21 _ _ ?_
            refine XC.keep [(2, _), (7, _), (36, _), (37, _), (38, _), (57, _)] ⟨rfl, rfl, rfl, rfl, rfl, rfl, trivial⟩ ?_
            refine XC.cond_d rfl (fun hc22 => ?_) (fun hc22 => ?_)
            ·refine XC.seq fun K29 hK29 => ?_
             refine XC.region ?_
             refine x_v (r_as rfl) rfl ?_
             refine XL.nil ?_
             refine hK29 _ _ ?_
             refine XC.keep [(4, _)] ⟨rfl, trivial⟩ ?_
             refine XC.ret ?_
             exact fin1 rfl (⟨congrArg Value.bool (by rw [row_of hpl, hg, hfd, go_no (fun h => by obtain ⟨q1, q2, q3, q4⟩ := h; first | omega | (rw [if03n hg49] at q1; cases q1))]), rfl⟩) gS
            ·refine XC.skip ?_
             refine hK17 _ _ ?_
             refine XC.keep [(2, _), (7, _), (36, _), (37, _), (38, _)] ⟨rfl, rfl, rfl, rfl, rfl, trivial⟩ ?_
             refine XC.draw [blk b7 39 [.int .i64 o.1.n, .int .i64 o.1.epoch, .int .i64 o.1.kind, .int .i64 o.1.site, .int .i64 o.1.client, .int .i64 o.1.seq, str o.1.name, .int .i64 o.1.size, .slice o.2.1 o.1.hs.length o.2.2]] false [(0, false), (1, false), (2, false), (3, false), (4, false), (5, false), (6, false), (7, true), (8, false)] (by kernel_rfl) (by kernel_rfl) ?_
             refine y_v rfl (r_fa fo39_0 rfl) gT rfl ?_
             refine y_v rfl (r_ld ty3 rfl pK (by rfl)) gT rfl ?_
             refine y_v rfl (r_fa fo39_1 rfl) gT rfl ?_
             refine y_v rfl (r_ld ty3 rfl pK (by rfl)) gT rfl ?_
             refine y_v rfl (r_bd (vs := [_, _]) rfl ⟨rfl, rfl, rfl⟩ (bd31_0_1 _ _)) gT rfl ?_
             refine y_v rfl (r_fa fo39_3 rfl) gT rfl ?_
             refine y_v rfl (r_ld ty3 rfl pK (by rfl)) gT rfl ?_
             refine y_e rfl (r_st ty31 rfl rfl rfl rfl rfl uD oV) (fun _ _ h => Gets.own gS h) ?_
             refine y_v rfl (r_as rfl) gT rfl ?_
             refine XH.nil ?_
             refine hK14 _ _ ?_
             refine XC.keep [(2, _), (5, _), (36, _), (37, _), (38, _)] ⟨rfl, rfl, rfl, rfl, rfl, trivial⟩ ?_
             refine XC.region ?_
             refine x_v (r_add rfl rfl (by omega)) rfl ?_
             refine x_v (r_mv rfl) rfl ?_
             refine XL.nil ?_
             have hst : stepOk xN xE st o.1 := ⟨if03y hg49, by omega, fun h => by omega, fun h => by omega⟩
             have hb := opOk_b (if03y hg49)
             refine ⟨(i + 1, o.1.n, o.1.epoch, o.1.site), ?_, ?_, ⟨rfl, rfl, rfl, rfl, rfl, trivial⟩, gS⟩
             ·exact ⟨by dsimp only; omega, by dsimp only; omega, by dsimp only; omega, by dsimp only; rw [hg, hfd, go_yes hst]⟩
             ·dsimp only; omega
           ·refine XC.region ?_
            refine x_v (r_mv rfl) rfl ?_
            refine x_v (r_not_d rfl) rfl ?_
            refine x_v (r_mv rfl) rfl ?_
            refine XL.splitd 77 rfl (fun hg77 => ?_) (fun hg77 => ?_)
            ·refine x_want rfl rfl rfl ?_
             refine x_v (r_mv rfl) rfl ?_
             refine x_want rfl rfl rfl ?_
             refine x_v (r_ge rfl rfl) rfl ?_
             refine x_v (r_pk_t rfl rfl) rfl ?_
             refine x_v (r_mv rfl) rfl ?_
             refine XL.splitd 81 rfl (fun hg81 => ?_) (fun hg81 => ?_)
             ·refine x_want rfl rfl rfl ?_
              refine x_v (r_fa fo39_3 rfl) rfl ?_
              refine x_want rfl rfl rfl ?_
              refine x_v (r_ld ty3 rfl pK (by rfl)) rfl ?_
              refine x_want rfl rfl rfl ?_
              refine x_v (r_mv rfl) rfl ?_
              refine x_want rfl rfl rfl ?_
              refine x_v (r_ne rfl rfl) rfl ?_
              refine x_v (r_pk_t rfl rfl) rfl ?_
              refine x_v (r_as rfl) rfl ?_
              refine XL.nil ?_
              refine hK21 _ _ ?_
              refine XC.keep [(2, _), (7, _), (36, _), (37, _), (38, _), (57, _)] ⟨rfl, rfl, rfl, rfl, rfl, rfl, trivial⟩ ?_
              refine XC.cond_d rfl (fun hc23 => ?_) (fun hc23 => ?_)
              ·refine XC.seq fun K30 hK30 => ?_
               refine XC.region ?_
               refine x_v (r_as rfl) rfl ?_
               refine XL.nil ?_
               refine hK30 _ _ ?_
               refine XC.keep [(4, _)] ⟨rfl, trivial⟩ ?_
               refine XC.ret ?_
               exact fin1 rfl (⟨congrArg Value.bool (by rw [row_of hpl, hg, hfd, go_no (fun h => by obtain ⟨q1, q2, q3, q4⟩ := h; first | omega | (rw [if03n hg49] at q1; cases q1))]), rfl⟩) gS
              ·refine XC.skip ?_
               refine hK17 _ _ ?_
               refine XC.keep [(2, _), (7, _), (36, _), (37, _), (38, _)] ⟨rfl, rfl, rfl, rfl, rfl, trivial⟩ ?_
               refine XC.draw [blk b7 39 [.int .i64 o.1.n, .int .i64 o.1.epoch, .int .i64 o.1.kind, .int .i64 o.1.site, .int .i64 o.1.client, .int .i64 o.1.seq, str o.1.name, .int .i64 o.1.size, .slice o.2.1 o.1.hs.length o.2.2]] false [(0, false), (1, false), (2, false), (3, false), (4, false), (5, false), (6, false), (7, true), (8, false)] (by kernel_rfl) (by kernel_rfl) ?_
               refine y_v rfl (r_fa fo39_0 rfl) gT rfl ?_
               refine y_v rfl (r_ld ty3 rfl pK (by rfl)) gT rfl ?_
               refine y_v rfl (r_fa fo39_1 rfl) gT rfl ?_
               refine y_v rfl (r_ld ty3 rfl pK (by rfl)) gT rfl ?_
               refine y_v rfl (r_bd (vs := [_, _]) rfl ⟨rfl, rfl, rfl⟩ (bd31_0_1 _ _)) gT rfl ?_
               refine y_v rfl (r_fa fo39_3 rfl) gT rfl ?_
               refine y_v rfl (r_ld ty3 rfl pK (by rfl)) gT rfl ?_
               refine y_e rfl (r_st ty31 rfl rfl rfl rfl rfl uD oV) (fun _ _ h => Gets.own gS h) ?_
               refine y_v rfl (r_as rfl) gT rfl ?_
               refine XH.nil ?_
               refine hK14 _ _ ?_
               refine XC.keep [(2, _), (5, _), (36, _), (37, _), (38, _)] ⟨rfl, rfl, rfl, rfl, rfl, trivial⟩ ?_
               refine XC.region ?_
               refine x_v (r_add rfl rfl (by omega)) rfl ?_
               refine x_v (r_mv rfl) rfl ?_
               refine XL.nil ?_
               have hst : stepOk xN xE st o.1 := ⟨if03y hg49, by omega, fun h => by omega, fun h => by omega⟩
               have hb := opOk_b (if03y hg49)
               refine ⟨(i + 1, o.1.n, o.1.epoch, o.1.site), ?_, ?_, ⟨rfl, rfl, rfl, rfl, rfl, trivial⟩, gS⟩
               ·exact ⟨by dsimp only; omega, by dsimp only; omega, by dsimp only; omega, by dsimp only; rw [hg, hfd, go_yes hst]⟩
               ·dsimp only; omega
             ·refine x_unwant rfl rfl rfl rfl rfl ?_
              refine x_unwant rfl rfl rfl rfl rfl ?_
              refine x_unwant rfl rfl rfl rfl rfl ?_
              refine x_unwant rfl rfl rfl rfl rfl ?_
              refine x_v (r_pk_f rfl rfl) rfl ?_
              refine x_v (r_as rfl) rfl ?_
              refine XL.nil ?_
              refine hK21 _ _ ?_
              refine XC.keep [(2, _), (7, _), (36, _), (37, _), (38, _), (57, _)] ⟨rfl, rfl, rfl, rfl, rfl, rfl, trivial⟩ ?_
              refine XC.cond_f rfl ?_
              refine XC.skip ?_
              refine hK17 _ _ ?_
              refine XC.keep [(2, _), (7, _), (36, _), (37, _), (38, _)] ⟨rfl, rfl, rfl, rfl, rfl, trivial⟩ ?_
              refine XC.draw [blk b7 39 [.int .i64 o.1.n, .int .i64 o.1.epoch, .int .i64 o.1.kind, .int .i64 o.1.site, .int .i64 o.1.client, .int .i64 o.1.seq, str o.1.name, .int .i64 o.1.size, .slice o.2.1 o.1.hs.length o.2.2]] false [(0, false), (1, false), (2, false), (3, false), (4, false), (5, false), (6, false), (7, true), (8, false)] (by kernel_rfl) (by kernel_rfl) ?_
              refine y_v rfl (r_fa fo39_0 rfl) gT rfl ?_
              refine y_v rfl (r_ld ty3 rfl pK (by rfl)) gT rfl ?_
              refine y_v rfl (r_fa fo39_1 rfl) gT rfl ?_
              refine y_v rfl (r_ld ty3 rfl pK (by rfl)) gT rfl ?_
              refine y_v rfl (r_bd (vs := [_, _]) rfl ⟨rfl, rfl, rfl⟩ (bd31_0_1 _ _)) gT rfl ?_
              refine y_v rfl (r_fa fo39_3 rfl) gT rfl ?_
              refine y_v rfl (r_ld ty3 rfl pK (by rfl)) gT rfl ?_
              refine y_e rfl (r_st ty31 rfl rfl rfl rfl rfl uD oV) (fun _ _ h => Gets.own gS h) ?_
              refine y_v rfl (r_as rfl) gT rfl ?_
              refine XH.nil ?_
              refine hK14 _ _ ?_
              refine XC.keep [(2, _), (5, _), (36, _), (37, _), (38, _)] ⟨rfl, rfl, rfl, rfl, rfl, trivial⟩ ?_
              refine XC.region ?_
              refine x_v (r_add rfl rfl (by omega)) rfl ?_
              refine x_v (r_mv rfl) rfl ?_
              refine XL.nil ?_
              have hst : stepOk xN xE st o.1 := ⟨if03y hg49, by omega, fun h => by omega, fun h => by omega⟩
              have hb := opOk_b (if03y hg49)
              refine ⟨(i + 1, o.1.n, o.1.epoch, o.1.site), ?_, ?_, ⟨rfl, rfl, rfl, rfl, rfl, trivial⟩, gS⟩
              ·exact ⟨by dsimp only; omega, by dsimp only; omega, by dsimp only; omega, by dsimp only; rw [hg, hfd, go_yes hst]⟩
              ·dsimp only; omega
            ·refine x_unwant rfl rfl rfl rfl rfl ?_
             refine x_unwant rfl rfl rfl rfl rfl ?_
             refine x_v (r_pk_f rfl rfl) rfl ?_
             refine x_v (r_mv rfl) rfl ?_
             refine x_unwant rfl rfl rfl rfl rfl ?_
             refine x_unwant rfl rfl rfl rfl rfl ?_
             refine x_unwant rfl rfl rfl rfl rfl ?_
             refine x_unwant rfl rfl rfl rfl rfl ?_
             refine x_v (r_pk_f rfl rfl) rfl ?_
             refine x_v (r_as rfl) rfl ?_
             refine XL.nil ?_
             refine hK21 _ _ ?_
             refine XC.keep [(2, _), (7, _), (36, _), (37, _), (38, _), (57, _)] ⟨rfl, rfl, rfl, rfl, rfl, rfl, trivial⟩ ?_
             refine XC.cond_f rfl ?_
             refine XC.skip ?_
             refine hK17 _ _ ?_
             refine XC.keep [(2, _), (7, _), (36, _), (37, _), (38, _)] ⟨rfl, rfl, rfl, rfl, rfl, trivial⟩ ?_
             refine XC.draw [blk b7 39 [.int .i64 o.1.n, .int .i64 o.1.epoch, .int .i64 o.1.kind, .int .i64 o.1.site, .int .i64 o.1.client, .int .i64 o.1.seq, str o.1.name, .int .i64 o.1.size, .slice o.2.1 o.1.hs.length o.2.2]] false [(0, false), (1, false), (2, false), (3, false), (4, false), (5, false), (6, false), (7, true), (8, false)] (by kernel_rfl) (by kernel_rfl) ?_
             refine y_v rfl (r_fa fo39_0 rfl) gT rfl ?_
             refine y_v rfl (r_ld ty3 rfl pK (by rfl)) gT rfl ?_
             refine y_v rfl (r_fa fo39_1 rfl) gT rfl ?_
             refine y_v rfl (r_ld ty3 rfl pK (by rfl)) gT rfl ?_
             refine y_v rfl (r_bd (vs := [_, _]) rfl ⟨rfl, rfl, rfl⟩ (bd31_0_1 _ _)) gT rfl ?_
             refine y_v rfl (r_fa fo39_3 rfl) gT rfl ?_
             refine y_v rfl (r_ld ty3 rfl pK (by rfl)) gT rfl ?_
             refine y_e rfl (r_st ty31 rfl rfl rfl rfl rfl uD oV) (fun _ _ h => Gets.own gS h) ?_
             refine y_v rfl (r_as rfl) gT rfl ?_
             refine XH.nil ?_
             refine hK14 _ _ ?_
             refine XC.keep [(2, _), (5, _), (36, _), (37, _), (38, _)] ⟨rfl, rfl, rfl, rfl, rfl, trivial⟩ ?_
             refine XC.region ?_
             refine x_v (r_add rfl rfl (by omega)) rfl ?_
             refine x_v (r_mv rfl) rfl ?_
             refine XL.nil ?_
             have hst : stepOk xN xE st o.1 := ⟨if03y hg49, by omega, fun h => by omega, fun h => by omega⟩
             have hb := opOk_b (if03y hg49)
             refine ⟨(i + 1, o.1.n, o.1.epoch, o.1.site), ?_, ?_, ⟨rfl, rfl, rfl, rfl, rfl, trivial⟩, gS⟩
             ·exact ⟨by dsimp only; omega, by dsimp only; omega, by dsimp only; omega, by dsimp only; rw [hg, hfd, go_yes hst]⟩
             ·dsimp only; omega
          ·refine x_unwant rfl rfl rfl rfl rfl ?_
           refine x_unwant rfl rfl rfl rfl rfl ?_
           refine x_unwant rfl rfl rfl rfl rfl ?_
           refine x_unwant rfl rfl rfl rfl rfl ?_
           refine x_unwant rfl rfl rfl rfl rfl ?_
           refine x_v (r_pk_f rfl rfl) rfl ?_
           refine x_v (r_as rfl) rfl ?_
           refine XL.nil ?_
           refine hK28 _ _ ?_
           refine XC.keep [(2, _), (5, _), (7, _), (8, _), (36, _), (37, _), (38, _), (57, _)] ⟨rfl, rfl, rfl, rfl, rfl, rfl, rfl, rfl, trivial⟩ ?_
           refine XC.cond_f rfl ?_
           refine XC.region ?_
           refine x_v (r_mv rfl) rfl ?_
           refine x_v (r_not_d rfl) rfl ?_
           refine x_v (r_mv rfl) rfl ?_
           refine XL.splitd 77 rfl (fun hg77 => ?_) (fun hg77 => ?_)
           ·refine x_want rfl rfl rfl ?_
            refine x_v (r_mv rfl) rfl ?_
            refine x_want rfl rfl rfl ?_
            refine x_v (r_ge rfl rfl) rfl ?_
            refine x_v (r_pk_t rfl rfl) rfl ?_
            refine x_v (r_mv rfl) rfl ?_
            refine XL.splitd 81 rfl (fun hg81 => ?_) (fun hg81 => ?_)
            ·refine x_want rfl rfl rfl ?_
             refine x_v (r_fa fo39_3 rfl) rfl ?_
             refine x_want rfl rfl rfl ?_
             refine x_v (r_ld ty3 rfl pK (by rfl)) rfl ?_
             refine x_want rfl rfl rfl ?_
             refine x_v (r_mv rfl) rfl ?_
             refine x_want rfl rfl rfl ?_
             refine x_v (r_ne rfl rfl) rfl ?_
             refine x_v (r_pk_t rfl rfl) rfl ?_
             refine x_v (r_as rfl) rfl ?_
             refine XL.nil ?_
             refine hK21 _ _ ?_
             refine XC.keep [(2, _), (7, _), (36, _), (37, _), (38, _), (57, _)] ⟨rfl, rfl, rfl, rfl, rfl, rfl, trivial⟩ ?_
             refine XC.cond_d rfl (fun hc27 => ?_) (fun hc27 => ?_)
             ·refine XC.seq fun K31 hK31 => ?_
              refine XC.region ?_
              refine x_v (r_as rfl) rfl ?_
              refine XL.nil ?_
              refine hK31 _ _ ?_
              refine XC.keep [(4, _)] ⟨rfl, trivial⟩ ?_
              refine XC.ret ?_
              exact fin1 rfl (⟨congrArg Value.bool (by rw [row_of hpl, hg, hfd, go_no (fun h => by obtain ⟨q1, q2, q3, q4⟩ := h; first | omega | (rw [if03n hg49] at q1; cases q1))]), rfl⟩) gS
             ·refine XC.skip ?_
              refine hK17 _ _ ?_
              refine XC.keep [(2, _), (7, _), (36, _), (37, _), (38, _)] ⟨rfl, rfl, rfl, rfl, rfl, trivial⟩ ?_
              refine XC.draw [blk b7 39 [.int .i64 o.1.n, .int .i64 o.1.epoch, .int .i64 o.1.kind, .int .i64 o.1.site, .int .i64 o.1.client, .int .i64 o.1.seq, str o.1.name, .int .i64 o.1.size, .slice o.2.1 o.1.hs.length o.2.2]] false [(0, false), (1, false), (2, false), (3, false), (4, false), (5, false), (6, false), (7, true), (8, false)] (by kernel_rfl) (by kernel_rfl) ?_
              refine y_v rfl (r_fa fo39_0 rfl) gT rfl ?_
              refine y_v rfl (r_ld ty3 rfl pK (by rfl)) gT rfl ?_
              refine y_v rfl (r_fa fo39_1 rfl) gT rfl ?_
              refine y_v rfl (r_ld ty3 rfl pK (by rfl)) gT rfl ?_
              refine y_v rfl (r_bd (vs := [_, _]) rfl ⟨rfl, rfl, rfl⟩ (bd31_0_1 _ _)) gT rfl ?_
              refine y_v rfl (r_fa fo39_3 rfl) gT rfl ?_
              refine y_v rfl (r_ld ty3 rfl pK (by rfl)) gT rfl ?_
              refine y_e rfl (r_st ty31 rfl rfl rfl rfl rfl uD oV) (fun _ _ h => Gets.own gS h) ?_
              refine y_v rfl (r_as rfl) gT rfl ?_
              refine XH.nil ?_
              refine hK14 _ _ ?_
              refine XC.keep [(2, _), (5, _), (36, _), (37, _), (38, _)] ⟨rfl, rfl, rfl, rfl, rfl, trivial⟩ ?_
              refine XC.region ?_
              refine x_v (r_add rfl rfl (by omega)) rfl ?_
              refine x_v (r_mv rfl) rfl ?_
              refine XL.nil ?_
              have hst : stepOk xN xE st o.1 := ⟨if03y hg49, by omega, fun h => by omega, fun h => by omega⟩
              have hb := opOk_b (if03y hg49)
              refine ⟨(i + 1, o.1.n, o.1.epoch, o.1.site), ?_, ?_, ⟨rfl, rfl, rfl, rfl, rfl, trivial⟩, gS⟩
              ·exact ⟨by dsimp only; omega, by dsimp only; omega, by dsimp only; omega, by dsimp only; rw [hg, hfd, go_yes hst]⟩
              ·dsimp only; omega
            ·refine x_unwant rfl rfl rfl rfl rfl ?_
             refine x_unwant rfl rfl rfl rfl rfl ?_
             refine x_unwant rfl rfl rfl rfl rfl ?_
             refine x_unwant rfl rfl rfl rfl rfl ?_
             refine x_v (r_pk_f rfl rfl) rfl ?_
             refine x_v (r_as rfl) rfl ?_
             refine XL.nil ?_
             refine hK21 _ _ ?_
             refine XC.keep [(2, _), (7, _), (36, _), (37, _), (38, _), (57, _)] ⟨rfl, rfl, rfl, rfl, rfl, rfl, trivial⟩ ?_
             refine XC.cond_f rfl ?_
             refine XC.skip ?_
             refine hK17 _ _ ?_
             refine XC.keep [(2, _), (7, _), (36, _), (37, _), (38, _)] ⟨rfl, rfl, rfl, rfl, rfl, trivial⟩ ?_
             refine XC.draw [blk b7 39 [.int .i64 o.1.n, .int .i64 o.1.epoch, .int .i64 o.1.kind, .int .i64 o.1.site, .int .i64 o.1.client, .int .i64 o.1.seq, str o.1.name, .int .i64 o.1.size, .slice o.2.1 o.1.hs.length o.2.2]] false [(0, false), (1, false), (2, false), (3, false), (4, false), (5, false), (6, false), (7, true), (8, false)] (by kernel_rfl) (by kernel_rfl) ?_
             refine y_v rfl (r_fa fo39_0 rfl) gT rfl ?_
             refine y_v rfl (r_ld ty3 rfl pK (by rfl)) gT rfl ?_
             refine y_v rfl (r_fa fo39_1 rfl) gT rfl ?_
             refine y_v rfl (r_ld ty3 rfl pK (by rfl)) gT rfl ?_
             refine y_v rfl (r_bd (vs := [_, _]) rfl ⟨rfl, rfl, rfl⟩ (bd31_0_1 _ _)) gT rfl ?_
             refine y_v rfl (r_fa fo39_3 rfl) gT rfl ?_
             refine y_v rfl (r_ld ty3 rfl pK (by rfl)) gT rfl ?_
             refine y_e rfl (r_st ty31 rfl rfl rfl rfl rfl uD oV) (fun _ _ h => Gets.own gS h) ?_
             refine y_v rfl (r_as rfl) gT rfl ?_
             refine XH.nil ?_
             refine hK14 _ _ ?_
             refine XC.keep [(2, _), (5, _), (36, _), (37, _), (38, _)] ⟨rfl, rfl, rfl, rfl, rfl, trivial⟩ ?_
             refine XC.region ?_
             refine x_v (r_add rfl rfl (by omega)) rfl ?_
             refine x_v (r_mv rfl) rfl ?_
             refine XL.nil ?_
             have hst : stepOk xN xE st o.1 := ⟨if03y hg49, by omega, fun h => by omega, fun h => by omega⟩
             have hb := opOk_b (if03y hg49)
             refine ⟨(i + 1, o.1.n, o.1.epoch, o.1.site), ?_, ?_, ⟨rfl, rfl, rfl, rfl, rfl, trivial⟩, gS⟩
             ·exact ⟨by dsimp only; omega, by dsimp only; omega, by dsimp only; omega, by dsimp only; rw [hg, hfd, go_yes hst]⟩
             ·dsimp only; omega
           ·refine x_unwant rfl rfl rfl rfl rfl ?_
            refine x_unwant rfl rfl rfl rfl rfl ?_
            refine x_v (r_pk_f rfl rfl) rfl ?_
            refine x_v (r_mv rfl) rfl ?_
            refine x_unwant rfl rfl rfl rfl rfl ?_
            refine x_unwant rfl rfl rfl rfl rfl ?_
            refine x_unwant rfl rfl rfl rfl rfl ?_
            refine x_unwant rfl rfl rfl rfl rfl ?_
            refine x_v (r_pk_f rfl rfl) rfl ?_
            refine x_v (r_as rfl) rfl ?_
            refine XL.nil ?_
            refine hK21 _ _ ?_
            refine XC.keep [(2, _), (7, _), (36, _), (37, _), (38, _), (57, _)] ⟨rfl, rfl, rfl, rfl, rfl, rfl, trivial⟩ ?_
            refine XC.cond_f rfl ?_
            refine XC.skip ?_
            refine hK17 _ _ ?_
            refine XC.keep [(2, _), (7, _), (36, _), (37, _), (38, _)] ⟨rfl, rfl, rfl, rfl, rfl, trivial⟩ ?_
            refine XC.draw [blk b7 39 [.int .i64 o.1.n, .int .i64 o.1.epoch, .int .i64 o.1.kind, .int .i64 o.1.site, .int .i64 o.1.client, .int .i64 o.1.seq, str o.1.name, .int .i64 o.1.size, .slice o.2.1 o.1.hs.length o.2.2]] false [(0, false), (1, false), (2, false), (3, false), (4, false), (5, false), (6, false), (7, true), (8, false)] (by kernel_rfl) (by kernel_rfl) ?_
            refine y_v rfl (r_fa fo39_0 rfl) gT rfl ?_
            refine y_v rfl (r_ld ty3 rfl pK (by rfl)) gT rfl ?_
            refine y_v rfl (r_fa fo39_1 rfl) gT rfl ?_
            refine y_v rfl (r_ld ty3 rfl pK (by rfl)) gT rfl ?_
            refine y_v rfl (r_bd (vs := [_, _]) rfl ⟨rfl, rfl, rfl⟩ (bd31_0_1 _ _)) gT rfl ?_
            refine y_v rfl (r_fa fo39_3 rfl) gT rfl ?_
            refine y_v rfl (r_ld ty3 rfl pK (by rfl)) gT rfl ?_
            refine y_e rfl (r_st ty31 rfl rfl rfl rfl rfl uD oV) (fun _ _ h => Gets.own gS h) ?_
            refine y_v rfl (r_as rfl) gT rfl ?_
            refine XH.nil ?_
            refine hK14 _ _ ?_
            refine XC.keep [(2, _), (5, _), (36, _), (37, _), (38, _)] ⟨rfl, rfl, rfl, rfl, rfl, trivial⟩ ?_
            refine XC.region ?_
            refine x_v (r_add rfl rfl (by omega)) rfl ?_
            refine x_v (r_mv rfl) rfl ?_
            refine XL.nil ?_
            have hst : stepOk xN xE st o.1 := ⟨if03y hg49, by omega, fun h => by omega, fun h => by omega⟩
            have hb := opOk_b (if03y hg49)
            refine ⟨(i + 1, o.1.n, o.1.epoch, o.1.site), ?_, ?_, ⟨rfl, rfl, rfl, rfl, rfl, trivial⟩, gS⟩
            ·exact ⟨by dsimp only; omega, by dsimp only; omega, by dsimp only; omega, by dsimp only; rw [hg, hfd, go_yes hst]⟩
            ·dsimp only; omega
      ·refine XC.exit rfl ?_
       refine hK10 _ _ ?_
       refine XC.keep [] trivial ?_
       refine XC.seq fun K32 hK32 => ?_
       refine XC.region ?_
       refine x_v (r_as rfl) rfl ?_
       refine XL.nil ?_
       refine hK32 _ _ ?_
       refine XC.keep [(4, _)] ⟨rfl, trivial⟩ ?_
       refine XC.ret ?_
       exact fin1 rfl (⟨congrArg Value.bool (by rw [row_of hpl, hg, List.drop_eq_nil_of_le (by omega)]; rfl), rfl⟩) gS
end Go.Proofs.Ytheilpcbilnadaa

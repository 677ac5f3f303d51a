/- The law's functions: 11 (own), 8 (great). -/
import Derived.Test.YtcmdmhmgffjknaaGreatDoorFacts
import Derived.Test.YtcmdmhmgffjknaaGreatDoorWal27
namespace Go.Proofs.YtcmdmhmgffjknaaGreatDoor
open Go.Sx
set_option linter.unusedVariables false

/-- An act, in memory. -/
structure Ox where
  kind : Int
  A : Option Addr
  c : Nat
  list : List (List UInt8)
  text : List UInt8
  name : List UInt8
  n : Int
  B : Option Addr
  cb : Nat
  keeps : List Int
def oc (o : Ox) : List Value := [.int .i64 o.kind, .slice o.A o.list.length o.c, str o.text, str o.name, .int .i64 o.n, .slice o.B o.keeps.length o.cb]
theorem oc_len (o : Ox) : (oc o).length = 6 := rfl
/-- What an act that is not too great keeps within. -/
def OpB (o : Ox) : Prop := o.text.length ≤ 16384 ∧ o.list.length ≤ 16384 ∧ (∀ r ∈ o.list, r.length ≤ 16384) ∧ o.keeps.length ≤ 16384
theorem own_tr {W0 : World} (A : Option Addr) (c : Nat) (L : List (List UInt8)) (Fr : List HP) (hr : Rdb W0 Fr A L.length 1 (cells sv L)) (hl : L.length ≤ 8000000000000) : Tr W0 Tryz.prog 11 [.slice A L.length c] Fr (fun v Rs' => ∃ A' c', v = .slice A' L.length c' ∧ Rs' = sl A' L.length c' 9 1 (cells sv L) :: Fr) := by
  refine Tr.mono (Post := fun v Rs' => ∃ A' c', v = .slice A' (0 + L.length) c' ∧ Rs' = sl A' (0 + L.length) c' 9 1 ([] ++ cells sv L) :: Fr) ?_ (fun v Rs' ⟨A', c', h1, h2⟩ => ⟨A', c', by rw [h1, Nat.zero_add], by rw [h2, Nat.zero_add]; rfl⟩)
  refine Entry.tr (N := 6) (rs := [.tmp 2]) ⟨_, Tryz.func11, rfl, by kernel_rfl, rfl, rfl⟩ rfl ?_
  refine XC.seq fun K1 hK1 => ?_
  refine XC.region ?_
  refine x_v (r_as rfl) rfl ?_
  refine XL.nil ?_
  refine hK1 _ _ ?_
  refine XC.keep [(0, _)] ⟨rfl, trivial⟩ ?_
  refine XC.seq fun K2 hK2 => ?_
  refine XC.region ?_
  refine x_a (r_bs (vs := []) rfl rfl bs22_0_) rfl fun b3 => ?_
  refine XL.shut_ (g := b3) (n := 0) (c := 0) (sz := 1) (cur := []) (xs := []) pK (Nat.le_refl _) (Nat.zero_le _) rfl rfl ?_
  refine x_v (r_mv rfl) rfl ?_
  refine x_a (r_app Tryz.underlying22 ty9 rfl (by decide) rfl rfl pK (hr.mono (fun w hw => Gets.own gS hw)) (cells_one' sv_one _) (by unfold maxLen; omega) (by omega)) rfl fun ⟨A5, c5⟩ => ?_
  refine x_v (r_as rfl) rfl ?_
  refine XL.nil ?_
  refine hK2 _ _ ?_
  refine XC.keep [(2, _)] ⟨rfl, trivial⟩ ?_
  refine XC.ret ?_
  exact fin1 rfl (⟨A5, c5, rfl, rfl⟩) gS
theorem great_tr {W0 : World} (A : Option Addr) (c : Nat) (L : List Ox) (Fr : List HP) (hr : Rdb W0 Fr A L.length 6 (cells oc L)) (hn : L.length ≤ maxS) (ho : ∀ o ∈ L, Rdb W0 Fr o.A o.list.length 1 (cells sv o.list) ∧ o.list.length ≤ maxS ∧ o.keeps.length ≤ maxS) :
    Tr W0 Tryz.prog 8 [.slice A L.length c] Fr (fun v Rs' => ∃ b, v = .bool b ∧ Rs' = Fr ∧ (b = false → L.length ≤ 100 ∧ ∀ o ∈ L, OpB o)) := by
  have hmax : maxS = 140737488355328 := rfl
  refine Entry.tr (N := 47) (rs := [.tmp 2]) ⟨_, Tryz.func8, rfl, by kernel_rfl, rfl, rfl⟩ rfl ?_
  refine XC.seq fun K1 hK1 => ?_
  refine XC.region ?_
  refine x_v (r_as rfl) rfl ?_
  refine XL.nil ?_
  refine hK1 _ _ ?_
  refine XC.keep [(0, _)] ⟨rfl, trivial⟩ ?_
  refine XC.seq fun K2 hK2 => ?_
  refine XC.region ?_
  refine x_v (r_as rfl) rfl ?_
  refine XL.nil ?_
  refine hK2 _ _ ?_
  refine XC.keep [(0, _), (3, _)] ⟨rfl, rfl, trivial⟩ ?_
  refine XC.seq fun K3 hK3 => ?_
  refine XC.seq fun K4 hK4 => ?_
  refine XC.region ?_
  refine x_v (r_mv rfl) rfl ?_
  refine x_v (r_lensl Tryz.underlying28 rfl) rfl ?_
  refine x_v (r_mv rfl) rfl ?_
  refine XL.nil ?_
  refine hK4 _ _ ?_
  refine XC.keep [(0, _), (3, _), (8, _), (9, _), (10, _)] ⟨rfl, rfl, rfl, rfl, rfl, trivial⟩ ?_
  refine XC.block ?_
  refine XC.loop (σ := Nat × Nat) (fun q => [(0, .slice A L.length c), (3, .int .i64 (q.2 : Int)), (8, .slice A L.length c), (9, .int .i64 (L.length : Int)), (10, .int .i64 (q.1 : Int))]) (fun q => Fr) (fun q => q.1 ≤ L.length ∧ q.2 ≤ 16384 ∧ ∀ o ∈ L.take q.1, OpB o) (fun q => L.length - q.1) (0, 0) ?_ ⟨rfl, rfl, rfl, rfl, rfl, trivial⟩ gS ?_
  · exact ⟨Nat.zero_le _, Nat.zero_le _, by simp⟩
  rintro ⟨i, n⟩ ⟨hi, hn2, hI⟩
  dsimp only at hi hn2 hI ⊢
  refine XC.seq fun K5 hK5 => ?_
  refine XC.region ?_
  refine x_v (r_lt rfl rfl) rfl ?_
  refine XL.nil ?_
  refine hK5 _ _ ?_
  refine XC.keep [(0, _), (3, _), (8, _), (9, _), (10, _), (11, _)] ⟨rfl, rfl, rfl, rfl, rfl, rfl, trivial⟩ ?_
  refine XC.seq fun K6 hK6 => ?_
  refine XC.cond_d rfl (fun hc1 => ?_) (fun hc1 => ?_)
  · refine XC.skip ?_
    refine hK6 _ _ ?_
    refine XC.keep [(0, _), (3, _), (8, _), (9, _), (10, _)] ⟨rfl, rfl, rfl, rfl, rfl, trivial⟩ ?_
    refine XC.seq fun K7 hK7 => ?_
    refine XC.block ?_
    refine XC.seq fun K8 hK8 => ?_
    obtain ⟨o, hx⟩ : ∃ o, L[i]? = some o := ⟨_, List.getElem?_eq_getElem (by omega)⟩
    obtain ⟨hrl, hol, hok⟩ := ho o (List.mem_of_getElem? hx)
    obtain ⟨ob, oo, rfl, hat⟩ := hr.at_ (by omega)
    refine XC.region ?_
    refine x_v (r_ia (k := i) Tryz.underlying28 ty27 rfl rfl (by omega) (by omega)) rfl ?_
    refine x_v (r_ldar (l' := oc o) ty27 rfl rfl (fun w hw j u hu => by rw [Nat.add_assoc]; exact hat w (Gets.own gS hw) (i * 6 + j) u (cells_get oc_len L i o hx j u hu))) rfl ?_
    unfold oc
    refine x_a (r_al ty27 rfl) rfl fun b5 => ?_
    refine x_e (r_st ty27 rfl rfl rfl rfl rfl uD oV) ?_
    refine XL.nil ?_
    refine hK8 _ _ ?_
    refine XC.keep [(0, _), (3, _), (5, _), (8, _), (9, _), (10, _)] ⟨rfl, rfl, rfl, rfl, rfl, rfl, trivial⟩ ?_
    refine XC.seq fun K9 hK9 => ?_
    refine XC.region ?_
    refine x_v (r_mv rfl) rfl ?_
    refine x_v (r_fa fo27_2 rfl) rfl ?_
    refine x_v (r_ld ty9 rfl pK (by rfl)) rfl ?_
    refine x_v (r_lens Tryz.underlying9 rfl) rfl ?_
    refine x_v (r_min rfl rfl) rfl ?_
    refine x_v (r_add rfl rfl (by omega)) rfl ?_
    refine x_v (r_fa fo27_5 rfl) rfl ?_
    refine x_v (r_ld ty25 rfl pK (by rfl)) rfl ?_
    refine x_v (r_lensl Tryz.underlying25 rfl) rfl ?_
    refine x_v (r_add rfl rfl (by omega)) rfl ?_
    refine x_v (r_add rfl rfl (by omega)) rfl ?_
    refine x_v (r_as rfl) rfl ?_
    refine XL.nil ?_
    refine hK9 _ _ ?_
    refine XC.keep [(0, _), (3, _), (5, _), (8, _), (9, _), (10, _)] ⟨rfl, rfl, rfl, rfl, rfl, rfl, trivial⟩ ?_
    refine XC.seq fun K10 hK10 => ?_
    refine XC.seq fun K11 hK11 => ?_
    obtain ⟨n1, hn1⟩ : ∃ n1 : Nat, (n : Int) + (10 + min (o.text.length : Int) 1048576 + (o.keeps.length : Int)) = (n1 : Int) := ⟨n + (10 + min o.text.length 1048576 + o.keeps.length), by omega⟩
    rw [hn1]
    refine XC.region ?_
    refine x_v (r_fa fo27_1 rfl) rfl ?_
    refine x_v (r_ld ty22 rfl pK (by rfl)) rfl ?_
    refine x_v (r_lensl Tryz.underlying22 rfl) rfl ?_
    refine x_v (r_mv rfl) rfl ?_
    refine XL.nil ?_
    refine hK11 _ _ ?_
    refine XC.keep [(0, _), (3, _), (8, _), (9, _), (10, _), (26, _), (27, _), (28, _)] ⟨rfl, rfl, rfl, rfl, rfl, rfl, rfl, rfl, trivial⟩ ?_
    refine XC.block ?_
    refine XC.loop (σ := Nat × Nat) (fun q => [(0, .slice (some ⟨ob, oo, none⟩) L.length c), (3, .int .i64 (q.2 : Int)), (8, .slice (some ⟨ob, oo, none⟩) L.length c), (9, .int .i64 (L.length : Int)), (10, .int .i64 (i : Int)), (26, .slice o.A o.list.length o.c), (27, .int .i64 (o.list.length : Int)), (28, .int .i64 (q.1 : Int))]) (fun q => Fr) (fun q => q.1 ≤ o.list.length ∧ (q.2 ≤ 16384 ∨ q.1 = 0 ∧ q.2 = n1) ∧ n1 + q.1 ≤ q.2 ∧ ∀ r ∈ o.list.take q.1, r.length ≤ 16384) (fun q => o.list.length - q.1) (0, n1) ?_ ⟨rfl, rfl, rfl, rfl, rfl, rfl, rfl, rfl, trivial⟩ gS ?_
    · exact ⟨Nat.zero_le _, .inr ⟨rfl, rfl⟩, Nat.le_refl _, by simp⟩
    rintro ⟨j, n3⟩ ⟨hj, hn3, hn4, hJ⟩
    dsimp only at hj hn3 hn4 hJ ⊢
    refine XC.seq fun K12 hK12 => ?_
    refine XC.region ?_
    refine x_v (r_lt rfl rfl) rfl ?_
    refine XL.nil ?_
    refine hK12 _ _ ?_
    refine XC.keep [(0, _), (3, _), (8, _), (9, _), (10, _), (26, _), (27, _), (28, _), (29, _)] ⟨rfl, rfl, rfl, rfl, rfl, rfl, rfl, rfl, rfl, trivial⟩ ?_
    refine XC.seq fun K13 hK13 => ?_
    refine XC.cond_d rfl (fun hc2 => ?_) (fun hc2 => ?_)
    · refine XC.skip ?_
      refine hK13 _ _ ?_
      refine XC.keep [(0, _), (3, _), (8, _), (9, _), (10, _), (26, _), (27, _), (28, _)] ⟨rfl, rfl, rfl, rfl, rfl, rfl, rfl, rfl, trivial⟩ ?_
      refine XC.seq fun K14 hK14 => ?_
      refine XC.block ?_
      refine XC.seq fun K15 hK15 => ?_
      obtain ⟨y, hy⟩ : ∃ y, o.list[j]? = some y := ⟨_, List.getElem?_eq_getElem (by omega)⟩
      obtain ⟨rb, ro, hAe, hatr⟩ := hrl.at_ (by omega)
      rw [hAe]
      refine XC.region ?_
      refine x_v (r_ia (k := j) Tryz.underlying22 ty9 rfl rfl (by omega) (by omega)) rfl ?_
      refine x_v (r_ldr (v := str y) ty9 rfl (fun w hw => hatr w (Gets.own gS hw) (j * 1) _ (by rw [Nat.mul_one]; exact sv_get hy))) rfl ?_
      refine x_v (r_as rfl) rfl ?_
      refine XL.nil ?_
      refine hK15 _ _ ?_
      refine XC.keep [(0, _), (3, _), (7, _), (8, _), (9, _), (10, _), (26, _), (27, _), (28, _)] ⟨rfl, rfl, rfl, rfl, rfl, rfl, rfl, rfl, rfl, trivial⟩ ?_
      refine XC.seq fun K16 hK16 => ?_
      refine XC.region ?_
      refine x_v (r_mv rfl) rfl ?_
      refine x_v (r_mv rfl) rfl ?_
      refine x_v (r_lens Tryz.underlying9 rfl) rfl ?_
      refine x_v (r_min rfl rfl) rfl ?_
      refine x_v (r_add rfl rfl (by omega)) rfl ?_
      refine x_v (r_add rfl rfl (by omega)) rfl ?_
      refine x_v (r_as rfl) rfl ?_
      refine XL.nil ?_
      refine hK16 _ _ ?_
      refine XC.keep [(0, _), (3, _), (8, _), (9, _), (10, _), (26, _), (27, _), (28, _)] ⟨rfl, rfl, rfl, rfl, rfl, rfl, rfl, rfl, trivial⟩ ?_
      refine XC.seq fun K17 hK17 => ?_
      obtain ⟨n5, hn5⟩ : ∃ n5 : Nat, (n3 : Int) + (1 + min (y.length : Int) 1048576) = (n5 : Int) := ⟨n3 + (1 + min y.length 1048576), by omega⟩
      rw [hn5]
      refine XC.region ?_
      refine x_v (r_mv rfl) rfl ?_
      refine x_v (r_gt rfl rfl) rfl ?_
      refine XL.nil ?_
      refine hK17 _ _ ?_
      refine XC.keep [(0, _), (3, _), (8, _), (9, _), (10, _), (26, _), (27, _), (28, _), (39, _)] ⟨rfl, rfl, rfl, rfl, rfl, rfl, rfl, rfl, rfl, trivial⟩ ?_
      refine XC.cond_d rfl (fun hc3 => ?_) (fun hc3 => ?_)
      · refine XC.seq fun K18 hK18 => ?_
        refine XC.region ?_
        refine x_v (r_as rfl) rfl ?_
        refine XL.nil ?_
        refine hK18 _ _ ?_
        refine XC.keep [(2, _)] ⟨rfl, trivial⟩ ?_
        refine XC.ret ?_
        exact fin1 rfl (⟨true, rfl, rfl, fun h => by cases h⟩) gS
      · refine XC.skip ?_
        refine hK14 _ _ ?_
        refine XC.keep [(0, _), (3, _), (8, _), (9, _), (10, _), (26, _), (27, _), (28, _)] ⟨rfl, rfl, rfl, rfl, rfl, rfl, rfl, rfl, trivial⟩ ?_
        refine XC.region ?_
        refine x_v (r_add rfl rfl (by omega)) rfl ?_
        refine x_v (r_mv rfl) rfl ?_
        refine XL.nil ?_
        rw [← hAe]
        refine ⟨(j + 1, n5), ?_, ?_, ⟨rfl, rfl, rfl, rfl, rfl, rfl, rfl, rfl, trivial⟩, gS⟩
        · exact ⟨by dsimp only; omega, .inl (by dsimp only; omega), by dsimp only; omega, fun p hp => by dsimp only at hp; rw [List.take_add_one, hy] at hp; rcases List.mem_append.1 hp with h | h; exact hJ p h; (simp at h; subst h; omega)⟩
        · dsimp only; omega
    · refine XC.exit rfl ?_
      refine hK10 _ _ ?_
      refine XC.keep [(0, _), (3, _), (8, _), (9, _), (10, _)] ⟨rfl, rfl, rfl, rfl, rfl, trivial⟩ ?_
      refine XC.seq fun K19 hK19 => ?_
      refine XC.region ?_
      refine x_v (r_mv rfl) rfl ?_
      refine x_v (r_gt rfl rfl) rfl ?_
      refine XL.nil ?_
      refine hK19 _ _ ?_
      refine XC.keep [(0, _), (3, _), (8, _), (9, _), (10, _), (42, _)] ⟨rfl, rfl, rfl, rfl, rfl, rfl, trivial⟩ ?_
      refine XC.cond_d rfl (fun hc4 => ?_) (fun hc4 => ?_)
      · refine XC.seq fun K20 hK20 => ?_
        refine XC.region ?_
        refine x_v (r_as rfl) rfl ?_
        refine XL.nil ?_
        refine hK20 _ _ ?_
        refine XC.keep [(2, _)] ⟨rfl, trivial⟩ ?_
        refine XC.ret ?_
        exact fin1 rfl (⟨true, rfl, rfl, fun h => by cases h⟩) gS
      · refine XC.skip ?_
        refine hK7 _ _ ?_
        refine XC.keep [(0, _), (3, _), (8, _), (9, _), (10, _)] ⟨rfl, rfl, rfl, rfl, rfl, trivial⟩ ?_
        refine XC.region ?_
        refine x_v (r_add rfl rfl (by omega)) rfl ?_
        refine x_v (r_mv rfl) rfl ?_
        refine XL.nil ?_
        refine ⟨(i + 1, n3), ?_, ?_, ⟨rfl, rfl, rfl, rfl, rfl, trivial⟩, gS⟩
        · exact ⟨by dsimp only; omega, by dsimp only; omega, fun p hp => by dsimp only at hp; rw [List.take_add_one, hx] at hp; rcases List.mem_append.1 hp with h | h; exact hI p h; (simp at h; subst h; rw [List.take_of_length_le (by omega)] at hJ; exact ⟨by omega, by omega, hJ, by omega⟩)⟩
        · dsimp only; omega
  · refine XC.exit rfl ?_
    refine hK3 _ _ ?_
    refine XC.keep [(0, _)] ⟨rfl, trivial⟩ ?_
    refine XC.seq fun K21 hK21 => ?_
    refine XC.region ?_
    refine x_v (r_mv rfl) rfl ?_
    refine x_v (r_lensl Tryz.underlying28 rfl) rfl ?_
    refine x_v (r_gt rfl rfl) rfl ?_
    refine x_v (r_as rfl) rfl ?_
    refine XL.nil ?_
    refine hK21 _ _ ?_
    refine XC.keep [(2, _)] ⟨rfl, trivial⟩ ?_
    refine XC.ret ?_
    exact fin1 rfl (⟨_, rfl, rfl, fun h => by rw [decide_eq_false_iff_not] at h; rw [List.take_of_length_le (by omega)] at hI; exact ⟨by omega, hI⟩⟩) gS
end Go.Proofs.YtcmdmhmgffjknaaGreatDoor

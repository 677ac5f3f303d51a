/- Crowns: lists in memory of their own. -/
import Derived.Test.YtheilpcbilnadaaCrown3
namespace Go.Proofs.Ytheilpcbilnadaa
open Go.Sx
set_option linter.unusedVariables false

theorem cells_set {α : Type} {f : α → List Value} {m : Nat} (hf : ∀ x, (f x).length = m) {j : Nat} {v : Value} (hj : j < m) : ∀ (L : List α) (i : Nat) (a a' : α), L[i]? = some a → (f a).set j v = f a' → (cells f L).set (i * m + j) v = cells f (L.set i a')
 | [], i, a, a', h, _ => by simp at h
 | y :: L, 0, a, a', h, e => by
  simp at h; subst h
  rw [cells_cons, List.set_cons_zero, cells_cons, Nat.zero_mul, Nat.zero_add, List.set_append_left _ _ (by rw [hf]; exact hj), e]
 | y :: L, i + 1, a, a', h, e => by
  have ih := cells_set hf hj L i a a' (by simpa using h) e
  rw [cells_cons, List.set_cons_succ, cells_cons, List.set_append_right _ _ (by rw [hf, Nat.add_mul]; omega), hf, ← ih]
  congr 2
  rw [Nat.add_mul]; omega
theorem tk_snoc {α : Type} {L : List α} {i : Nat} {x : α} (h : L[i]? = some x) : L.take (i + 1) = L.take i ++ [x] := by
 obtain ⟨h1, h2⟩ := List.getElem?_eq_some_iff.1 h
 rw [← List.take_append_getElem h1, h2]

theorem clones_tr {W0 : World} {Fr : List HP} (XA : Option Addr) (xc : Nat) (L : List (List UInt8)) (hr : Rdb W0 Fr XA L.length 1 (cells sv1 L)) (hl : L.length * 16 ≤ 140737488355328) :
  Tr W0 Try.prog 88 [.slice XA L.length xc] Fr (fun v Rs' => ∃ A2 c2, v = .slice A2 L.length c2 ∧ Rs' = sl A2 L.length c2 9 1 (cells sv1 L) :: Fr) := by
 rcases XA with _ | xa
 ·have hn : L = [] := by
   rcases Nat.eq_zero_or_pos L.length with h | h
   ·exact List.eq_nil_of_length_eq_zero h
   ·obtain ⟨b, o, e, _⟩ := hr.at_ h; cases e
  subst hn
  refine Entry.tr (N := 8) (rs := [.tmp 2]) ⟨_, Try.func88, rfl, by kernel_rfl, rfl, rfl⟩ rfl ?_
  refine XC.seq fun K1 hK1 => ?_
  refine XC.region ?_
  refine x_v (r_as rfl) rfl ?_
  refine XL.nil ?_
  refine hK1 _ _ ?_
  refine XC.keep [(0, _)] ⟨rfl, trivial⟩ ?_
  refine XC.seq fun K2 hK2 => ?_
  refine XC.seq fun K3 hK3 => ?_
  refine XC.region ?_
  refine x_v (r_mv rfl) rfl ?_
  refine x_v (r_sleq Try.underlying29 rfl rfl) rfl ?_
  refine XL.nil ?_
  refine hK3 _ _ ?_
  refine XC.keep [(0, _), (4, _)] ⟨rfl, rfl, trivial⟩ ?_
  refine XC.cond_t rfl ?_
  refine XC.seq fun K4 hK4 => ?_
  refine XC.nil_ 9 1 ?_
  refine XC.region ?_
  refine x_v (r_as rfl) rfl ?_
  refine XL.nil ?_
  refine hK4 _ _ ?_
  refine XC.keep [(2, _)] ⟨rfl, trivial⟩ ?_
  refine XC.ret ?_
  exact fin1 rfl (⟨none, 0, rfl, rfl⟩) gS
 ·refine Entry.tr (N := 8) (rs := [.tmp 2]) ⟨_, Try.func88, rfl, by kernel_rfl, rfl, rfl⟩ rfl ?_
  refine XC.seq fun K1 hK1 => ?_
  refine XC.region ?_
  refine x_v (r_as rfl) rfl ?_
  refine XL.nil ?_
  refine hK1 _ _ ?_
  refine XC.keep [(0, _)] ⟨rfl, trivial⟩ ?_
  refine XC.seq fun K2 hK2 => ?_
  refine XC.seq fun K3 hK3 => ?_
  refine XC.region ?_
  refine x_v (r_mv rfl) rfl ?_
  refine x_v (r_sleq Try.underlying29 rfl rfl) rfl ?_
  refine XL.nil ?_
  refine hK3 _ _ ?_
  refine XC.keep [(0, _), (4, _)] ⟨rfl, rfl, trivial⟩ ?_
  refine XC.cond_f rfl ?_
  refine XC.skip ?_
  refine hK2 _ _ ?_
  refine XC.keep [(0, _)] ⟨rfl, trivial⟩ ?_
  refine XC.seq fun K4 hK4 => ?_
  refine XC.region ?_
  refine x_a (r_bs (vs := []) rfl rfl bs29_0_) rfl fun b5 => ?_
  refine XL.shut_ (n := 0) (c := 0) (sz := 1) (xs := []) pK (Nat.le_refl _) (Nat.zero_le _) rfl rfl ?_
  refine x_v (r_mv rfl) rfl ?_
  refine x_a (r_app Try.underlying29 ty9 rfl (by decide) rfl rfl pK (hr.mono (fun w h => Gets.own gS h)) (cells_one' sv1_one L) (by unfold maxLen; omega) (by omega)) rfl fun ⟨A7, c7⟩ => ?_
  dsimp only
  rw [Nat.zero_add, List.nil_append]
  refine x_v (r_as rfl) rfl ?_
  refine XL.nil ?_
  refine hK4 _ _ ?_
  refine XC.keep [(2, _)] ⟨rfl, trivial⟩ ?_
  refine XC.ret ?_
  exact fin1 rfl (⟨A7, c7, rfl, rfl⟩) gS
theorem cloneo_tr {W0 : World} {Fr : List HP} (XA : Option Addr) (xc : Nat) (L : List Od) (hr : Rdb W0 Fr XA L.length 9 (cells odc L)) (hl : L.length * 96 ≤ 140737488355328) :
  Tr W0 Try.prog 87 [.slice XA L.length xc] Fr (fun v Rs' => ∃ A2 c2, v = .slice A2 L.length c2 ∧ Rs' = sl A2 L.length c2 39 9 (cells odc L) :: Fr) := by
 rcases XA with _ | xa
 ·have hn : L = [] := by
   rcases Nat.eq_zero_or_pos L.length with h | h
   ·exact List.eq_nil_of_length_eq_zero h
   ·obtain ⟨b, o, e, _⟩ := hr.at_ h; cases e
  subst hn
  refine Entry.tr (N := 8) (rs := [.tmp 2]) ⟨_, Try.func87, rfl, by kernel_rfl, rfl, rfl⟩ rfl ?_
  refine XC.seq fun K1 hK1 => ?_
  refine XC.region ?_
  refine x_v (r_as rfl) rfl ?_
  refine XL.nil ?_
  refine hK1 _ _ ?_
  refine XC.keep [(0, _)] ⟨rfl, trivial⟩ ?_
  refine XC.seq fun K2 hK2 => ?_
  refine XC.seq fun K3 hK3 => ?_
  refine XC.region ?_
  refine x_v (r_mv rfl) rfl ?_
  refine x_v (r_sleq Try.underlying33 rfl rfl) rfl ?_
  refine XL.nil ?_
  refine hK3 _ _ ?_
  refine XC.keep [(0, _), (4, _)] ⟨rfl, rfl, trivial⟩ ?_
  refine XC.cond_t rfl ?_
  refine XC.seq fun K4 hK4 => ?_
  refine XC.nil_ 39 9 ?_
  refine XC.region ?_
  refine x_v (r_as rfl) rfl ?_
  refine XL.nil ?_
  refine hK4 _ _ ?_
  refine XC.keep [(2, _)] ⟨rfl, trivial⟩ ?_
  refine XC.ret ?_
  exact fin1 rfl (⟨none, 0, rfl, rfl⟩) gS
 ·refine Entry.tr (N := 8) (rs := [.tmp 2]) ⟨_, Try.func87, rfl, by kernel_rfl, rfl, rfl⟩ rfl ?_
  refine XC.seq fun K1 hK1 => ?_
  refine XC.region ?_
  refine x_v (r_as rfl) rfl ?_
  refine XL.nil ?_
  refine hK1 _ _ ?_
  refine XC.keep [(0, _)] ⟨rfl, trivial⟩ ?_
  refine XC.seq fun K2 hK2 => ?_
  refine XC.seq fun K3 hK3 => ?_
  refine XC.region ?_
  refine x_v (r_mv rfl) rfl ?_
  refine x_v (r_sleq Try.underlying33 rfl rfl) rfl ?_
  refine XL.nil ?_
  refine hK3 _ _ ?_
  refine XC.keep [(0, _), (4, _)] ⟨rfl, rfl, trivial⟩ ?_
  refine XC.cond_f rfl ?_
  refine XC.skip ?_
  refine hK2 _ _ ?_
  refine XC.keep [(0, _)] ⟨rfl, trivial⟩ ?_
  refine XC.seq fun K4 hK4 => ?_
  refine XC.region ?_
  refine x_a (r_bs (vs := []) rfl rfl bs33_0_) rfl fun b5 => ?_
  refine XL.shut_ (n := 0) (c := 0) (sz := 9) (xs := []) pK (Nat.le_refl _) (Nat.zero_le _) rfl rfl ?_
  refine x_v (r_mv rfl) rfl ?_
  refine x_a (r_app Try.underlying33 ty39 rfl (by decide) rfl rfl pK (hr.mono (fun w h => Gets.own gS h)) (cells_one' odc_one L) (by unfold maxLen; omega) (by omega)) rfl fun ⟨A7, c7⟩ => ?_
  dsimp only
  rw [Nat.zero_add, List.nil_append]
  refine x_v (r_as rfl) rfl ?_
  refine XL.nil ?_
  refine hK4 _ _ ?_
  refine XC.keep [(2, _)] ⟨rfl, trivial⟩ ?_
  refine XC.ret ?_
  exact fin1 rfl (⟨A7, c7, rfl, rfl⟩) gS

/-- An operation's hashes can be read in what is laid by. -/
def RdO (W0 : World) (k : HP) (o : Od) : Prop := Rdb W0 [k] o.2.1 o.1.hs.length 1 (cells sv1 o.1.hs) ∧ o.1.hs.length * 16 ≤ 140737488355328
theorem RdO.ex {W0 : World} {k k2 : HP} {o : Od} (h : RdO W0 k o) (e : Ex W0 k k2) : RdO W0 k2 o := ⟨h.1.ex e, h.2⟩
def fst1 (L : List Od) : List Pop := L.map (·.1)
theorem set_fst {Lo : List Od} {i : Nat} {o o2 : Od} (ho : Lo[i]? = some o) (he : o2.1 = o.1) : fst1 (Lo.set i o2) = fst1 Lo := by
 apply List.ext_getElem?
 intro k
 unfold fst1
 rw [List.getElem?_map, List.getElem?_map, List.getElem?_set]
 split
 ·rename_i h; subst h
  have := (List.getElem?_eq_some_iff.1 ho).1
  rw [if_pos this, ho]; simp [he]
 ·rfl

/-- Operations in new memory (the reference's). -/
theorem ownops_tr {W0 : World} {Fr : List HP} {k : HP} (XA : Option Addr) (xc : Nat) (L : List Od) (hr : ∀ k2, Ex W0 k k2 → Rdb W0 (k2 :: Fr) XA L.length 9 (cells odc L)) (ho : ∀ o ∈ L, RdO W0 k o) (hl : L.length * 96 ≤ 140737488355328) :
  Tr W0 Try.prog 36 [.slice XA L.length xc] (k :: Fr) (fun v Rs' => ∃ A2 c2 k2 L2, v = .slice A2 L2.length c2 ∧ Rs' = sl A2 L2.length c2 39 9 (cells odc L2) :: k2 :: Fr ∧ Ex W0 k k2 ∧ fst1 L2 = fst1 L ∧ ∀ o ∈ L2, RdO W0 k2 o) := by
 refine Entry.tr (N := 28) (rs := [.tmp 2]) ⟨_, Try.func36, rfl, by kernel_rfl, rfl, rfl⟩ rfl ?_
 refine XC.seq fun K1 hK1 => ?_
 refine XC.region ?_
 refine x_v (r_as rfl) rfl ?_
 refine XL.nil ?_
 refine hK1 _ _ ?_
 refine XC.keep [(0, _)] ⟨rfl, trivial⟩ ?_
 refine XC.seq fun K2 hK2 => ?_
 refine XC.region ?_
 refine x_v (r_as rfl) rfl ?_
 refine XL.nil ?_
 refine hK2 _ _ ?_
 refine XC.keep [(0, _), (3, _)] ⟨rfl, rfl, trivial⟩ ?_
 refine XC.seq fun K3 hK3 => ?_
 refine XC.seq fun K4 hK4 => ?_
 refine XC.nil_ 39 9 ?_
 refine XC.region ?_
 refine x_v (r_as rfl) rfl ?_
 refine XL.nil ?_
 refine hK4 _ _ ?_
 refine XC.keep [(0, _), (3, _), (4, _)] ⟨rfl, rfl, rfl, trivial⟩ ?_
 refine XC.block ?_
 refine XC.loop (σ := Nat × Option Addr × Nat × HP × List Od) (fun s => [(0, .slice XA L.length xc), (3, .slice s.2.1 s.2.2.2.2.length s.2.2.1), (4, .int .i64 (s.1 : Int))]) (fun s => sl s.2.1 s.2.2.2.2.length s.2.2.1 39 9 (cells odc s.2.2.2.2) :: s.2.2.2.1 :: Fr) (fun s => s.1 ≤ L.length ∧ Ex W0 k s.2.2.2.1 ∧ fst1 s.2.2.2.2 = fst1 (L.take s.1) ∧ ∀ o ∈ s.2.2.2.2, RdO W0 s.2.2.2.1 o) (fun s => L.length - s.1) (0, none, 0, k, []) ?_ ⟨rfl, rfl, rfl, trivial⟩ gS ?_
 ·exact ⟨Nat.zero_le _, Ex.refl W0 k, rfl, fun o h => by cases h⟩
 rintro ⟨i, A3, c3, k3, L3⟩ ⟨hi, hx, hf, hk⟩
 dsimp only at hi hx hf hk ⊢
 have hl3 : L3.length = i := by have := congrArg List.length hf; unfold fst1 at this; rw [List.length_map, List.length_map, List.length_take] at this; omega
 refine XC.seq fun K5 hK5 => ?_
 refine XC.seq fun K6 hK6 => ?_
 refine XC.region ?_
 refine x_v (r_mv rfl) rfl ?_
 refine x_v (r_mv rfl) rfl ?_
 refine x_v (r_lensl Try.underlying33 rfl) rfl ?_
 refine x_v (r_lt rfl rfl) rfl ?_
 refine XL.nil ?_
 refine hK6 _ _ ?_
 refine XC.keep [(0, _), (3, _), (4, _), (9, _)] ⟨rfl, rfl, rfl, rfl, trivial⟩ ?_
 refine XC.cond_d rfl (fun hc1 => ?_) (fun hc1 => ?_)
 ·refine XC.skip ?_
  refine hK5 _ _ ?_
  refine XC.keep [(0, _), (3, _), (4, _)] ⟨rfl, rfl, rfl, trivial⟩ ?_
  refine XC.seq fun K7 hK7 => ?_
  refine XC.block ?_
  refine XC.seq fun K8 hK8 => ?_
  obtain ⟨o, hoi⟩ : ∃ o, L[i]? = some o := ⟨_, List.getElem?_eq_getElem (by omega)⟩
  have hro := ho o (List.mem_of_getElem? hoi)
  have hr3 := hr k3 hx
  obtain ⟨ob, oo, rfl, hat⟩ := hr3.at_ (by omega)
  refine XC.region ?_
  refine x_v (r_mv rfl) rfl ?_
  refine x_v (r_mv rfl) rfl ?_
  refine x_v (r_ia (k := i) Try.underlying33 ty39 rfl rfl (by omega) (by omega)) rfl ?_
  refine x_v (r_ldar (l' := odc o) ty39 rfl rfl (fun w hw j u hu => by rw [Nat.add_assoc]; exact hat w (Gets.own gS hw) _ u (cells_get odc_len L _ _ hoi j u hu))) rfl ?_
  rw [odc_def o]
  refine x_a (r_al ty39 rfl) rfl fun b5 => ?_
  refine x_e (r_st ty39 rfl rfl rfl rfl rfl uD oV) ?_
  refine XL.nil ?_
  refine hK8 _ _ ?_
  refine XC.keep [(0, _), (3, _), (4, _), (5, _)] ⟨rfl, rfl, rfl, rfl, trivial⟩ ?_
  refine XC.seq fun K9 hK9 => ?_
  refine XC.region ?_
  refine x_a (r_bs (vs := []) rfl rfl bs29_0_) rfl fun b16 => ?_
  refine XL.shut_ (n := 0) (c := 0) (sz := 1) (xs := []) pK (Nat.le_refl _) (Nat.zero_le _) rfl rfl ?_
  refine x_v (r_fa fo39_7 rfl) rfl ?_
  refine x_v (r_fa fo37_1 rfl) rfl ?_
  refine x_v (r_ld ty29 rfl pK (by rfl)) rfl ?_
  refine x_a (r_app Try.underlying29 ty9 rfl (by decide) rfl rfl pK ((hro.1.ex hx).mono (fun w h => Gets.own gS h)) (cells_one' sv1_one o.1.hs) (by have := hro.2; unfold maxLen; omega) (by have := hro.2; omega)) rfl fun ⟨A20, c20⟩ => ?_
  dsimp only
  rw [Nat.zero_add, List.nil_append]
  refine x_v (r_fa fo39_7 rfl) rfl ?_
  refine x_v (r_fa fo37_1 rfl) rfl ?_
  refine x_e (r_st ty29 rfl rfl rfl rfl rfl uD oV) ?_
  refine XL.nil ?_
  refine hK9 _ _ ?_
  refine XC.keep [(0, _), (3, _), (4, _), (5, _)] ⟨rfl, rfl, rfl, rfl, trivial⟩ ?_
  refine XC.slnn (A := A20) pK fun _ hA20 => ?_
  obtain ⟨o2, ho2⟩ : ∃ o2 : Od, o2 = (o.1, A20, c20) := ⟨_, rfl⟩
  refine XC.region ?_
  refine x_v (r_mv rfl) rfl ?_
  refine x_v (r_lda (l' := [_, _, _, _, _, _, _, _, _]) ty39 rfl pK rfl (Sub.get sU)) rfl ?_
  refine x_a (r_bs (vs := [_]) rfl ⟨rfl, rfl⟩ (bs33_1_0 _ _ _ _ _ _ _ _ _ _ _)) rfl fun b25 => ?_
  refine x_a (r_app Try.underlying33 ty39 rfl (by decide) rfl rfl pK (Rdb.of_blk (b := b25) (n := 1) (sz := 9) (xs := odc o2) pK 0 rfl (fun _ _ h => by rw [ho2] at h; rw [Nat.zero_add]; exact h)) (odc_one o2) (by unfold maxLen; omega) (by omega)) rfl fun ⟨A26, c26⟩ => ?_
  dsimp only
  rw [show L3.length + 1 = (L3 ++ [o2]).length by simp, ← cells_one odc o2, ← cells_app]
  refine XL.stash (x := sl A20 o.1.hs.length c20 9 1 (cells sv1 o.1.hs)) (k := k3) pK pK ?_
  refine x_v (r_as rfl) rfl ?_
  refine XL.nil ?_
  refine hK7 _ _ ?_
  refine XC.keep [(0, _), (3, _), (4, _)] ⟨rfl, rfl, rfl, trivial⟩ ?_
  refine XC.region ?_
  refine x_v (r_mv rfl) rfl ?_
  refine x_v (r_add rfl rfl (by omega)) rfl ?_
  refine x_v (r_as rfl) rfl ?_
  refine XL.nil ?_
  refine ⟨(i + 1, A26, c26, sep (sl A20 o.1.hs.length c20 9 1 (cells sv1 o.1.hs)) k3, L3 ++ [o2]), ?_, ?_, ⟨rfl, rfl, rfl, trivial⟩, gS⟩
  ·exact ⟨by dsimp only; omega, hx.trans (Ex.on W0 _ _), by dsimp only; unfold fst1 at *; rw [tk_snoc hoi, List.map_append, List.map_append, hf, ho2]; rfl, fun q hq => by (rcases List.mem_append.1 hq with hh | hh; exact (hk q hh).ex (Ex.on W0 _ _); rw [List.mem_singleton.1 hh, ho2]; exact ⟨Rdb.laid k3 (by rw [cells_len sv1_len]) hA20, hro.2⟩)⟩
  ·dsimp only; omega
 ·refine XC.exit rfl ?_
  refine hK3 _ _ ?_
  refine XC.keep [(3, _)] ⟨rfl, trivial⟩ ?_
  refine XC.seq fun K10 hK10 => ?_
  refine XC.region ?_
  refine x_v (r_mv rfl) rfl ?_
  refine x_v (r_as rfl) rfl ?_
  refine XL.nil ?_
  refine hK10 _ _ ?_
  refine XC.keep [(2, _)] ⟨rfl, trivial⟩ ?_
  refine XC.ret ?_
  obtain rfl : i = L.length := by omega
  rw [List.take_length] at hf
  exact fin1 rfl (⟨A3, c3, k3, L3, rfl, rfl, hx, hf, hk⟩) gS
end Go.Proofs.Ytheilpcbilnadaa

/- Crowns: the reference's ledger: the names that live, what they take. -/
import Derived.Test.YtheilpcbilnadaaCrown30
namespace Go.Proofs.Ytheilpcbilnadaa
open Go.Sx
set_option linter.unusedVariables false

theorem live_mem : ∀ (M : List Pop) (s : Fs) (x : List UInt8) (o : Pop), (M.foldl foldR s).live x = some o → s.live x = some o ∨ (o ∈ M ∧ ¬ o.kind = 3 ∧ o.name = x)
 | [], _, _, _, h => .inl h
 | p :: M, s, x, o, h => by
  rcases live_mem M (foldR s p) x o h with h1 | ⟨h1, h2⟩
  ·by_cases h3 : p.kind = 3
   ·rw [live3 h3] at h1; exact .inl h1
   ·by_cases hx : x = p.name
    ·rw [hx, liveY h3] at h1
     split at h1
     ·injection h1 with h1; exact .inr ⟨by rw [← h1]; exact List.mem_cons_self .., by rw [← h1]; exact h3, by rw [← h1, hx]⟩
     ·cases h1
    ·rw [liveN hx] at h1; exact .inl h1
  ·exact .inr ⟨List.mem_cons_of_mem _ h1, h2⟩
theorem live_in {M : List Pop} {x : List UInt8} {o : Pop} (h : (foldOf M).live x = some o) : o ∈ M ∧ ¬ o.kind = 3 ∧ o.name = x := by
 rcases live_mem M fs0 x o h with h | h
 ·cases h
 ·exact h
def sumZ (f : List UInt8 → Option Pop) (N : List (List UInt8)) : Int := (N.map fun x => szo (f x)).sum
theorem sum_cons (f : List UInt8 → Option Pop) (x : List UInt8) (N : List (List UInt8)) : sumZ f (x :: N) = szo (f x) + sumZ f N := by unfold sumZ; rw [List.map_cons, List.sum_cons]
theorem sum_else {f : List UInt8 → Option Pop} {nm : List UInt8} {v : Option Pop} : ∀ {N : List (List UInt8)}, nm ∉ N → sumZ (liveUp f nm v) N = sumZ f N
 | [], _ => rfl
 | x :: N, h => by
  rw [sum_cons, sum_cons, sum_else (fun q => h (List.mem_cons_of_mem _ q))]
  unfold liveUp
  rw [if_neg (fun q => h (by rw [q]; exact List.mem_cons_self ..))]
theorem sum_up {f : List UInt8 → Option Pop} {nm : List UInt8} {v : Option Pop} : ∀ {N : List (List UInt8)}, N.Nodup → nm ∈ N → sumZ (liveUp f nm v) N = sumZ f N - szo (f nm) + szo v
 | x :: N, hd, h => by
  rw [List.nodup_cons] at hd
  rw [sum_cons, sum_cons]
  by_cases hx : x = nm
  ·subst hx
   rw [sum_else hd.1]
   unfold liveUp
   rw [if_pos rfl]; omega
  ·rw [sum_up hd.2 (by rcases List.mem_cons.1 h with q | q; exact absurd q.symm hx; exact q)]
   have : liveUp f nm v x = f x := by unfold liveUp; rw [if_neg hx]
   rw [this]; omega
theorem sum_used : ∀ (M : List Pop) (s : Fs), (∀ N : List (List UInt8), N.Nodup → (∀ x, (s.live x).isSome = true → x ∈ N) → sumZ s.live N = s.used) →
  ∀ N : List (List UInt8), N.Nodup → (∀ x, ((M.foldl foldR s).live x).isSome = true → x ∈ N) → sumZ (M.foldl foldR s).live N = (M.foldl foldR s).used
 | [], _, h => h
 | p :: M, s, h => by
  refine sum_used M (foldR s p) fun N hN hm => ?_
  by_cases h3 : p.kind = 3
  ·have e : (foldR s p).live = s.live := by unfold foldR; rw [if_pos h3]
   have e2 : (foldR s p).used = s.used := by unfold foldR; rw [if_pos h3]
   rw [e, e2]
   exact h N hN (fun x hx => hm x (by rw [e]; exact hx))
  ·have e : (foldR s p).live = liveUp s.live p.name (if p.kind = 1 then some p else none) := by unfold foldR; rw [if_neg h3]
   have e2 : (foldR s p).used = s.used - szo (s.live p.name) + szo (if p.kind = 1 then some p else none) := by
    unfold foldR; rw [if_neg h3]; dsimp only; split <;> rfl
   rw [e] at hm
   rw [e, e2]
   by_cases hp : p.name ∈ N
   ·rw [sum_up hN hp, h N hN (fun x hx => ?_)]
    by_cases hxp : x = p.name
    ·rw [hxp]; exact hp
    ·exact hm x (by unfold liveUp; rw [if_neg hxp]; exact hx)
   ·have h1 : (if p.kind = 1 then some p else none) = none := by
     cases hq : (if p.kind = 1 then some p else none) with
     | none => rfl
     | some q => exact absurd (hm p.name (by unfold liveUp; rw [if_pos rfl, hq]; rfl)) hp
    have h2 := h (p.name :: N) (List.nodup_cons.2 ⟨hp, hN⟩) (fun x hx => by
     by_cases hxp : x = p.name
     ·rw [hxp]; exact List.mem_cons_self ..
     ·exact List.mem_cons_of_mem _ (hm x (by unfold liveUp; rw [if_neg hxp]; exact hx)))
    rw [sum_cons] at h2
    rw [sum_else hp, h1]
    have : szo none = 0 := rfl
    omega
theorem sum_fs0 : ∀ N : List (List UInt8), sumZ fs0.live N = 0
 | [] => rfl
 | x :: N => by rw [sum_cons, sum_fs0 N]; rfl
theorem used_sum {M : List Pop} {N : List (List UInt8)} (hN : N.Nodup) (hm : ∀ x, ((foldOf M).live x).isSome = true → x ∈ N) : sumZ (foldOf M).live N = (foldOf M).used := by
 exact sum_used M fs0 (fun N _ _ => sum_fs0 N) N hN hm
theorem sorted_nodup {N : List (List UInt8)} (h : N.Pairwise (· < ·)) : N.Nodup := h.imp fun {a b} hab e => by rw [e] at hab; exact List.lt_irrefl _ hab

theorem sum_snoc {f : List UInt8 → Option Pop} {N : List (List UInt8)} {i : Nat} {x : List UInt8} (h : N[i]? = some x) : sumZ f (N.take (i + 1)) = sumZ f (N.take i) + szo (f x) := by
 rw [tk_snoc h]; unfold sumZ; rw [List.map_append, List.sum_append]; simp
section
variable {L : List Od} {i : Nat} {o : Od}
theorem nm_yes (ho : L[i]? = some o) (h3 : ¬ o.1.kind = 3) (hl : ((foldOf (fst1 L)).live o.1.name).isSome = true) (x : List UInt8) : (((∃ p ∈ L.take i, ¬ p.1.kind = 3 ∧ p.1.name = x) ∧ ((foldOf (fst1 L)).live x).isSome = true) ∨ x = o.1.name) ↔ ((∃ p ∈ L.take (i + 1), ¬ p.1.kind = 3 ∧ p.1.name = x) ∧ ((foldOf (fst1 L)).live x).isSome = true) := by
 rw [tk_snoc ho]
 constructor
 ·rintro (⟨⟨p, h1, h2⟩, h4⟩ | h)
  ·exact ⟨⟨p, List.mem_append_left _ h1, h2⟩, h4⟩
  ·rw [h]; exact ⟨⟨o, List.mem_append_right _ (List.mem_singleton.2 rfl), h3, rfl⟩, hl⟩
 ·rintro ⟨⟨p, h1, h2⟩, h4⟩
  rcases List.mem_append.1 h1 with h1 | h1
  ·exact .inl ⟨⟨p, h1, h2⟩, h4⟩
  ·rw [List.mem_singleton.1 h1] at h2; exact .inr h2.2.symm
theorem nm_no (ho : L[i]? = some o) (h : o.1.kind = 3 ∨ ((foldOf (fst1 L)).live o.1.name).isSome = false) (x : List UInt8) : ((∃ p ∈ L.take i, ¬ p.1.kind = 3 ∧ p.1.name = x) ∧ ((foldOf (fst1 L)).live x).isSome = true) ↔ ((∃ p ∈ L.take (i + 1), ¬ p.1.kind = 3 ∧ p.1.name = x) ∧ ((foldOf (fst1 L)).live x).isSome = true) := by
 rw [tk_snoc ho]
 constructor
 ·rintro ⟨⟨p, h1, h2⟩, h4⟩
  exact ⟨⟨p, List.mem_append_left _ h1, h2⟩, h4⟩
 ·rintro ⟨⟨p, h1, h2⟩, h4⟩
  rcases List.mem_append.1 h1 with h1 | h1
  ·exact ⟨⟨p, h1, h2⟩, h4⟩
  ·rw [List.mem_singleton.1 h1] at h2
   rcases h with h | h
   ·exact absurd h h2.1
   ·rw [← h2.2, h] at h4; cases h4
theorem nm_all {x : List UInt8} (h : ((foldOf (fst1 L)).live x).isSome = true) : ∃ p ∈ L, ¬ p.1.kind = 3 ∧ p.1.name = x := by
 obtain ⟨q, hq⟩ := Option.isSome_iff_exists.1 h
 obtain ⟨h1, h2⟩ := live_in hq
 unfold fst1 at h1
 obtain ⟨p, h3, h4⟩ := List.mem_map.1 h1
 exact ⟨p, h3, by rw [h4]; exact h2⟩
end
theorem rnames_tr {W0 : World} {Fr : List HP} {r : Rh} (b : Nat) (L : List Od) (hLn : L.length = r.n) (hn : r.n ≤ 10000) : Tr W0 Try.prog 90 [.pointer (some ⟨b, 0, none⟩)] (blk b 93 (rdc r) :: sl r.A r.n r.c 39 9 (cells odc L) :: Fr) (fun v Rs' => ∃ A2 c2 N, v = .slice A2 N.length c2 ∧ Rs' = sl A2 N.length c2 9 1 (cells sv1 N) :: blk b 93 (rdc r) :: sl r.A r.n r.c 39 9 (cells odc L) :: Fr ∧ N.Pairwise (· < ·) ∧ (∀ x, x ∈ N ↔ ((foldOf (fst1 L)).live x).isSome = true) ∧ N.length ≤ r.n) := by
 refine Entry.tr (N := 52) (rs := [.tmp 2]) ⟨_, Try.func90, rfl, by kernel_rfl, rfl, rfl⟩ rfl ?_
 refine XC.seq fun K1 hK1 => ?_
 refine XC.region ?_
 refine x_v (r_as rfl) rfl ?_
 refine XL.nil ?_
 refine hK1 _ _ ?_
 refine XC.keep [(0, _)] ⟨rfl, trivial⟩ ?_
 refine XC.seq fun K2 hK2 => ?_
 refine XC.region ?_
 refine x_v (r_as rfl) rfl ?_
 refine XL.nil ?_
 refine hK2 _ _ ?_
 refine XC.keep [(0, _), (3, _)] ⟨rfl, rfl, trivial⟩ ?_
 refine XC.seq fun K3 hK3 => ?_
 refine XC.seq fun K4 hK4 => ?_
 refine XC.slnn (A := r.A) pK fun hsl hsA => ?_
 have hrd : Rdb W0 [sl r.A r.n r.c 39 9 (cells odc L)] r.A r.n 9 (cells odc L) := Rdb.of_sl (.head _ _) hsl hsA
 refine XC.nil_ 9 1 ?_
 unfold rdc
 refine XC.region ?_
 refine x_v (r_as rfl) rfl ?_
 refine XL.nil ?_
 refine hK4 _ _ ?_
 refine XC.keep [(0, _), (3, _), (4, _)] ⟨rfl, rfl, rfl, trivial⟩ ?_
 refine XC.block ?_
 refine XC.loop (σ := Nat × Option Addr × Nat × List (List UInt8)) (fun s => [(0, .pointer (some ⟨b, 0, none⟩)), (3, .slice s.2.1 s.2.2.2.length s.2.2.1), (4, .int .i64 (s.1 : Int))]) (fun s => sl s.2.1 s.2.2.2.length s.2.2.1 9 1 (cells sv1 s.2.2.2) :: blk b 93 [.slice r.A r.n r.c, .slice r.gA r.gn r.gc, .int .i64 r.fence, .int .i64 r.set, .int .i64 r.quota, .int .i64 r.room] :: sl r.A r.n r.c 39 9 (cells odc L) :: Fr) (fun s => s.1 ≤ r.n ∧ s.2.2.2.Pairwise (· < ·) ∧ (∀ x, x ∈ s.2.2.2 ↔ (∃ o ∈ L.take s.1, ¬ o.1.kind = 3 ∧ o.1.name = x) ∧ ((foldOf (fst1 L)).live x).isSome = true) ∧ s.2.2.2.length ≤ s.1) (fun s => r.n - s.1) (0, none, 0, []) ?_ ⟨rfl, rfl, rfl, trivial⟩ gS ?_
 ·exact ⟨Nat.zero_le _, List.Pairwise.nil, fun x => ⟨fun q => (by cases q), fun q => (by obtain ⟨⟨o, h1, _⟩, _⟩ := q; simp at h1)⟩, Nat.le_refl _⟩
 rintro ⟨i, A3, c3, N⟩ ⟨hi, hs, hm, hln⟩
 dsimp only at hi hs hm hln ⊢
 refine XC.seq fun K5 hK5 => ?_
 refine XC.seq fun K6 hK6 => ?_
 refine XC.region ?_
 refine x_v (r_mv rfl) rfl ?_
 refine x_v (r_mv rfl) rfl ?_
 refine x_v (r_nc rfl) rfl ?_
 refine x_v (r_fa fo93_0 rfl) rfl ?_
 refine x_v (r_ld ty33 rfl pK (by rfl)) rfl ?_
 refine x_v (r_lensl Try.underlying33 rfl) rfl ?_
 refine x_v (r_lt rfl rfl) rfl ?_
 refine XL.nil ?_
 refine hK6 _ _ ?_
 refine XC.keep [(0, _), (3, _), (4, _), (13, _)] ⟨rfl, rfl, rfl, rfl, trivial⟩ ?_
 refine XC.cond_d rfl (fun hc1 => ?_) (fun hc1 => ?_)
 ·refine XC.skip ?_
  refine hK5 _ _ ?_
  refine XC.keep [(0, _), (3, _), (4, _)] ⟨rfl, rfl, rfl, trivial⟩ ?_
  refine XC.seq fun K7 hK7 => ?_
  refine XC.block ?_
  refine XC.seq fun K8 hK8 => ?_
  obtain ⟨o, ho⟩ : ∃ o, L[i]? = some o := ⟨_, List.getElem?_eq_getElem (by omega)⟩
  obtain ⟨sb, so, hpA, hat⟩ := hrd.at_ (by omega)
  refine XC.region ?_
  refine x_v (r_mv rfl) rfl ?_
  refine x_v (r_mv rfl) rfl ?_
  refine x_v (r_nc rfl) rfl ?_
  refine x_v (r_fa fo93_0 rfl) rfl ?_
  refine x_v (r_ld ty33 rfl pK (by rfl)) rfl ?_
  refine x_v (r_mv rfl) rfl ?_
  refine x_v (r_ia (k := i) Try.underlying33 ty39 (by rw [hpA]; rfl) rfl (by omega) (by omega)) rfl ?_
  refine x_v (r_fa fo39_6 rfl) rfl ?_
  refine x_v (r_ldr ty9 rfl (fun w hw => by rw [Nat.add_assoc]; exact hat w (Gets.own gS hw) _ _ (cells_get odc_len L _ _ ho 6 _ rfl))) rfl ?_
  refine x_c (r_call0 (args := [_, _]) ⟨rfl, rfl, rfl⟩ (rsheet_tr (r := r) b L o.1.name hLn (by omega)) gS) rfl ?_
  rintro _ _ ⟨⟨Az, nz, cz, z, rfl, hz⟩, rfl⟩
  unfold rdc
  refine x_v (r_mv rfl) rfl ?_
  refine x_v (r_ex rfl rfl) rfl ?_
  refine x_v (r_ex rfl rfl) rfl ?_
  refine x_a (r_al ty37 rfl) rfl fun b5 => ?_
  refine x_e (r_st ty37 rfl rfl rfl rfl rfl uD oV) ?_
  refine x_v (r_as rfl) rfl ?_
  refine XL.nil ?_
  refine hK8 _ _ ?_
  refine XC.keep [(0, _), (3, _), (4, _), (6, _)] ⟨rfl, rfl, rfl, rfl, trivial⟩ ?_
  refine XC.seq fun K9 hK9 => ?_
  refine XC.region ?_
  refine x_v (r_mv rfl) rfl ?_
  refine x_v (r_nc rfl) rfl ?_
  refine x_v (r_fa fo93_0 rfl) rfl ?_
  refine x_v (r_ld ty33 rfl pK (by rfl)) rfl ?_
  refine x_v (r_mv rfl) rfl ?_
  refine x_v (r_ia (k := i) Try.underlying33 ty39 (by rw [hpA]; rfl) rfl (by omega) (by omega)) rfl ?_
  refine x_v (r_fa fo39_2 rfl) rfl ?_
  refine x_v (r_ldr ty3 rfl (fun w hw => by rw [Nat.add_assoc]; exact hat w (Gets.own gS hw) _ _ (cells_get odc_len L _ _ ho 2 _ rfl))) rfl ?_
  refine x_v (r_ne rfl rfl) rfl ?_
  refine x_v (r_mv rfl) rfl ?_
  refine XL.splitd 38 rfl (fun hg38 => ?_) (fun hg38 => ?_)
  ·refine x_want rfl rfl rfl ?_
   refine x_v (r_mv rfl) rfl ?_
   refine x_v (r_pk_t rfl rfl) rfl ?_
   refine XL.nil ?_
   refine hK9 _ _ ?_
   refine XC.keep [(0, _), (3, _), (4, _), (40, _)] ⟨rfl, rfl, rfl, rfl, trivial⟩ ?_
   refine XC.cond rfl (fun hc2 => ?_) (fun hc2 => ?_)
   ·refine XC.region ?_
    refine x_v (r_mv rfl) rfl ?_
    refine x_v (r_mv rfl) rfl ?_
    refine x_v (r_nc rfl) rfl ?_
    refine x_v (r_fa fo93_0 rfl) rfl ?_
    refine x_v (r_ld ty33 rfl pK (by rfl)) rfl ?_
    refine x_v (r_mv rfl) rfl ?_
    refine x_v (r_ia (k := i) Try.underlying33 ty39 (by rw [hpA]; rfl) rfl (by omega) (by omega)) rfl ?_
    refine x_v (r_fa fo39_6 rfl) rfl ?_
    refine x_v (r_ldr ty9 rfl (fun w hw => by rw [Nat.add_assoc]; exact hat w (Gets.own gS hw) _ _ (cells_get odc_len L _ _ ho 6 _ rfl))) rfl ?_
    refine x_c (r_call0 (args := [_, _]) ⟨rfl, rfl, rfl⟩ (puts_tr A3 c3 N o.1.name (by omega) hs) gS) rfl ?_
    rintro _ _ ⟨A50, c50, N50, rfl, rfl, hs50, hm50, hln50⟩
    refine x_v (r_as rfl) rfl ?_
    refine XL.nil ?_
    refine hK7 _ _ ?_
    refine XC.keep [(0, _), (3, _), (4, _)] ⟨rfl, rfl, rfl, trivial⟩ ?_
    refine XC.region ?_
    refine x_v (r_mv rfl) rfl ?_
    refine x_v (r_add rfl rfl (by omega)) rfl ?_
    refine x_v (r_as rfl) rfl ?_
    refine XL.nil ?_
    refine ⟨(i + 1, A50, c50, N50), ?_, ?_, ⟨rfl, rfl, rfl, trivial⟩, gS⟩
    ·exact ⟨by dsimp only; omega, hs50, fun x => (hm50 x).trans ((or_congr_left (hm x)).trans (nm_yes ho (by assumption) (by assumption) x)), by dsimp only; omega⟩
    ·dsimp only; omega
   ·refine XC.skip ?_
    refine hK7 _ _ ?_
    refine XC.keep [(0, _), (3, _), (4, _)] ⟨rfl, rfl, rfl, trivial⟩ ?_
    refine XC.region ?_
    refine x_v (r_mv rfl) rfl ?_
    refine x_v (r_add rfl rfl (by omega)) rfl ?_
    refine x_v (r_as rfl) rfl ?_
    refine XL.nil ?_
    refine ⟨(i + 1, A3, c3, N), ?_, ?_, ⟨rfl, rfl, rfl, trivial⟩, gS⟩
    ·exact ⟨by dsimp only; omega, hs, fun x => (hm x).trans (nm_no ho (by first | exact .inl (by assumption) | exact .inl (Classical.not_not.1 (by assumption)) | exact .inr (by assumption)) x), by dsimp only; omega⟩
    ·dsimp only; omega
  ·refine x_unwant rfl rfl rfl rfl rfl ?_
   refine x_v (r_pk_f rfl rfl) rfl ?_
   refine XL.nil ?_
   refine hK9 _ _ ?_
   refine XC.keep [(0, _), (3, _), (4, _), (40, _)] ⟨rfl, rfl, rfl, rfl, trivial⟩ ?_
   refine XC.cond_f rfl ?_
   refine XC.skip ?_
   refine hK7 _ _ ?_
   refine XC.keep [(0, _), (3, _), (4, _)] ⟨rfl, rfl, rfl, trivial⟩ ?_
   refine XC.region ?_
   refine x_v (r_mv rfl) rfl ?_
   refine x_v (r_add rfl rfl (by omega)) rfl ?_
   refine x_v (r_as rfl) rfl ?_
   refine XL.nil ?_
   refine ⟨(i + 1, A3, c3, N), ?_, ?_, ⟨rfl, rfl, rfl, trivial⟩, gS⟩
   ·exact ⟨by dsimp only; omega, hs, fun x => (hm x).trans (nm_no ho (by first | exact .inl (by assumption) | exact .inl (Classical.not_not.1 (by assumption)) | exact .inr (by assumption)) x), by dsimp only; omega⟩
   ·dsimp only; omega
 ·refine XC.exit rfl ?_
  refine hK3 _ _ ?_
  refine XC.keep [(3, _)] ⟨rfl, trivial⟩ ?_
  refine XC.seq fun K10 hK10 => ?_
  refine XC.region ?_
  refine x_v (r_mv rfl) rfl ?_
  refine x_v (r_as rfl) rfl ?_
  refine XL.nil ?_
  refine hK10 _ _ ?_
  refine XC.keep [(2, _)] ⟨rfl, trivial⟩ ?_
  refine XC.ret ?_
  obtain rfl : i = r.n := by omega
  rw [List.take_of_length_le (by omega)] at hm
  exact fin1 rfl (⟨A3, c3, N, rfl, rfl, hs, fun x => (hm x).trans ⟨fun q => q.2, fun q => ⟨nm_all q, q⟩⟩, hln⟩) gS
theorem rused_tr {W0 : World} {Fr : List HP} {r : Rh} (b : Nat) (L : List Od) (hLn : L.length = r.n) (hn : r.n ≤ 10000) (hz : ∀ o ∈ fst1 L, 0 ≤ o.size ∧ o.size ≤ 512) : Tr W0 Try.prog 80 [.pointer (some ⟨b, 0, none⟩)] (blk b 93 (rdc r) :: sl r.A r.n r.c 39 9 (cells odc L) :: Fr) (fun v Rs' => v = .int .i64 (foldOf (fst1 L)).used ∧ Rs' = blk b 93 (rdc r) :: sl r.A r.n r.c 39 9 (cells odc L) :: Fr) := by
 refine Entry.tr (N := 30) (rs := [.tmp 2]) ⟨_, Try.func80, rfl, by kernel_rfl, rfl, rfl⟩ rfl ?_
 refine XC.seq fun K1 hK1 => ?_
 refine XC.region ?_
 refine x_v (r_as rfl) rfl ?_
 refine XL.nil ?_
 refine hK1 _ _ ?_
 refine XC.keep [(0, _)] ⟨rfl, trivial⟩ ?_
 refine XC.seq fun K2 hK2 => ?_
 refine XC.region ?_
 refine x_v (r_as rfl) rfl ?_
 refine XL.nil ?_
 refine hK2 _ _ ?_
 refine XC.keep [(0, _), (3, _)] ⟨rfl, rfl, trivial⟩ ?_
 refine XC.seq fun K3 hK3 => ?_
 refine XC.region ?_
 refine x_v (r_mv rfl) rfl ?_
 refine x_c (r_call0 (args := [_]) ⟨rfl, rfl⟩ (rnames_tr (r := r) b L hLn hn) gS) rfl ?_
 rintro _ _ ⟨A9, c9, N, rfl, rfl, hs9, hm9, hln9⟩
 refine x_v (r_as rfl) rfl ?_
 refine XL.nil ?_
 refine hK3 _ _ ?_
 refine XC.keep [(0, _), (3, _), (4, _)] ⟨rfl, rfl, rfl, trivial⟩ ?_
 refine XC.seq fun K4 hK4 => ?_
 refine XC.seq fun K5 hK5 => ?_
 refine XC.slnn (A := A9) pK fun hsl hsA => ?_
 have hrd : Rdb W0 [sl A9 N.length c9 9 1 (cells sv1 N)] A9 N.length 1 (cells sv1 N) := Rdb.of_sl (.head _ _) hsl hsA
 refine XC.region ?_
 refine x_v (r_as rfl) rfl ?_
 refine XL.nil ?_
 refine hK5 _ _ ?_
 refine XC.keep [(0, _), (3, _), (4, _), (5, _)] ⟨rfl, rfl, rfl, rfl, trivial⟩ ?_
 refine XC.block ?_
 refine XC.loop (σ := Nat × Int) (fun s => [(0, .pointer (some ⟨b, 0, none⟩)), (3, .int .i64 s.2), (4, .slice A9 N.length c9), (5, .int .i64 (s.1 : Int))]) (fun s => sl A9 N.length c9 9 1 (cells sv1 N) :: blk b 93 (rdc r) :: sl r.A r.n r.c 39 9 (cells odc L) :: Fr) (fun s => s.1 ≤ N.length ∧ s.2 = sumZ (foldOf (fst1 L)).live (N.take s.1) ∧ 0 ≤ s.2 ∧ s.2 ≤ 512 * (s.1 : Int)) (fun s => N.length - s.1) (0, 0) ?_ ⟨rfl, rfl, rfl, rfl, trivial⟩ gS ?_
 ·exact ⟨Nat.zero_le _, rfl, by decide, by decide⟩
 rintro ⟨i, g⟩ ⟨hi, hg, hg0, hg1⟩
 dsimp only at hi hg hg0 hg1 ⊢
 refine XC.seq fun K6 hK6 => ?_
 refine XC.seq fun K7 hK7 => ?_
 refine XC.region ?_
 refine x_v (r_mv rfl) rfl ?_
 refine x_v (r_mv rfl) rfl ?_
 refine x_v (r_lensl Try.underlying29 rfl) rfl ?_
 refine x_v (r_lt rfl rfl) rfl ?_
 refine XL.nil ?_
 refine hK7 _ _ ?_
 refine XC.keep [(0, _), (3, _), (4, _), (5, _), (13, _)] ⟨rfl, rfl, rfl, rfl, rfl, trivial⟩ ?_
 refine XC.cond_d rfl (fun hc1 => ?_) (fun hc1 => ?_)
 ·refine XC.skip ?_
  refine hK6 _ _ ?_
  refine XC.keep [(0, _), (3, _), (4, _), (5, _)] ⟨rfl, rfl, rfl, rfl, trivial⟩ ?_
  refine XC.seq fun K8 hK8 => ?_
  refine XC.block ?_
  refine XC.seq fun K9 hK9 => ?_
  obtain ⟨x, hx⟩ : ∃ x, N[i]? = some x := ⟨_, List.getElem?_eq_getElem (by omega)⟩
  obtain ⟨sb, so, hpA, hat⟩ := hrd.at_ (by omega)
  obtain ⟨o, ho⟩ := Option.isSome_iff_exists.1 ((hm9 x).1 (List.mem_of_getElem? hx))
  have hzo := hz o (live_in ho).1
  refine XC.region ?_
  refine x_v (r_mv rfl) rfl ?_
  refine x_v (r_mv rfl) rfl ?_
  refine x_v (r_mv rfl) rfl ?_
  refine x_v (r_ia (k := i) Try.underlying29 ty9 (by rw [hpA]; rfl) rfl (by omega) (by omega)) rfl ?_
  refine x_v (r_ldr ty9 rfl (fun w hw => hat w (Gets.own gS hw) _ _ (cells_get sv1_len N _ _ hx 0 _ rfl))) rfl ?_
  refine x_c (r_call0 (args := [_, _]) ⟨rfl, rfl, rfl⟩ (rsheet_tr (r := r) b L x hLn (by omega)) gS) rfl ?_
  rintro _ _ ⟨⟨Az, nz, cz, z, rfl, hzz0⟩, rfl⟩
  have hz1 := hzz0 o ho
  have hzz : z = szo ((foldOf (fst1 L)).live x) := by rw [ho, hz1]; rfl
  refine x_v (r_mv rfl) rfl ?_
  refine x_v (r_ex rfl rfl) rfl ?_
  refine x_v (r_ex rfl rfl) rfl ?_
  refine x_a (r_al ty37 rfl) rfl fun b6 => ?_
  refine x_e (r_st ty37 rfl rfl rfl rfl rfl uD oV) ?_
  refine x_v (r_as rfl) rfl ?_
  refine XL.nil ?_
  refine hK9 _ _ ?_
  refine XC.keep [(0, _), (3, _), (4, _), (5, _), (6, _)] ⟨rfl, rfl, rfl, rfl, rfl, trivial⟩ ?_
  refine XC.region ?_
  refine x_v (r_mv rfl) rfl ?_
  refine x_v (r_fa fo37_0 rfl) rfl ?_
  refine x_v (r_ld ty3 rfl pK (by rfl)) rfl ?_
  refine x_v (r_add rfl rfl (by omega)) rfl ?_
  refine x_v (r_as rfl) rfl ?_
  refine XL.nil ?_
  refine hK8 _ _ ?_
  refine XC.keep [(0, _), (3, _), (4, _), (5, _)] ⟨rfl, rfl, rfl, rfl, trivial⟩ ?_
  refine XC.region ?_
  refine x_v (r_mv rfl) rfl ?_
  refine x_v (r_add rfl rfl (by omega)) rfl ?_
  refine x_v (r_as rfl) rfl ?_
  refine XL.nil ?_
  refine ⟨(i + 1, g + z), ?_, ?_, ⟨rfl, rfl, rfl, rfl, trivial⟩, gS⟩
  ·exact ⟨by dsimp only; omega, by dsimp only; rw [sum_snoc hx, hg, hzz], by dsimp only; omega, by dsimp only; omega⟩
  ·dsimp only; omega
 ·refine XC.exit rfl ?_
  refine hK4 _ _ ?_
  refine XC.keep [(3, _)] ⟨rfl, trivial⟩ ?_
  refine XC.seq fun K10 hK10 => ?_
  refine XC.region ?_
  refine x_v (r_mv rfl) rfl ?_
  refine x_v (r_as rfl) rfl ?_
  refine XL.nil ?_
  refine hK10 _ _ ?_
  refine XC.keep [(2, _)] ⟨rfl, trivial⟩ ?_
  refine XC.ret ?_
  rw [List.take_of_length_le (by omega), used_sum (sorted_nodup hs9) (fun x q => (hm9 x).2 q)] at hg
  rw [hg]
  exact fin1 rfl (⟨rfl, rfl⟩) gS
end Go.Proofs.Ytheilpcbilnadaa

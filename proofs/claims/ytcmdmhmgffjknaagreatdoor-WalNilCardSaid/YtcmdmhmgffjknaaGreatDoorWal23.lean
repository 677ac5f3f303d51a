/- Segments' names and numbers: plain facts. -/
import Derived.Test.YtcmdmhmgffjknaaGreatDoorWal22
namespace Go.Proofs.YtcmdmhmgffjknaaGreatDoor
open Go.Sx
set_option linter.unusedVariables false

theorem parse_app (l r : List UInt8) : ∀ acc v, Lib.parseUint10 acc l = .ok v → Lib.parseUint10 acc (l ++ r) = Lib.parseUint10 v r := by
  induction l with
  | nil => intro acc v h; simp only [Lib.parseUint10] at h; injection h with h; subst h; rfl
  | cons c l ih =>
    intro acc v h
    rw [List.cons_append]
    rw [Lib.parseUint10] at h ⊢
    split at h
    · rename_i h1
      rw [if_pos h1]
      split at h
      · cases h
      · rename_i h2
        rw [if_neg h2]
        split at h
        · cases h
        · rename_i h3
          rw [if_neg h3]
          exact ih _ _ h
    · cases h
theorem dig_nat (k : Nat) (h : k < 10) : (UInt8.ofNat (48 + k)).toNat = 48 + k := by simp; omega
theorem parse_dec : ∀ (n u : Nat), u ≤ n → u < 10000000000000000000 → Lib.parseUint10 0 (Lib.decDigits u) = .ok u := by
  intro n
  induction n with
  | zero =>
    intro u h _
    obtain rfl : u = 0 := by omega
    rw [Lib.decDigits, dif_pos (by omega), Lib.parseUint10, dig_nat 0 (by omega), if_pos (by omega), if_neg (by omega), if_neg (by omega), Lib.parseUint10]
  | succ n ih =>
    intro u h hu
    by_cases h1 : u < 10
    · rw [Lib.decDigits, dif_pos h1, Lib.parseUint10, dig_nat u h1, if_pos (by omega), if_neg (by omega), if_neg (by omega), Lib.parseUint10]
      congr 1; omega
    · rw [Lib.decDigits, dif_neg h1, parse_app _ _ _ _ (ih (u / 10) (by omega) (by omega)), Lib.parseUint10, dig_nat (u % 10) (by omega), if_pos (by omega), if_neg (by omega), if_neg (by omega), Lib.parseUint10]
      congr 1; omega
theorem dec_digit (u : Nat) : ∀ c ∈ Lib.decDigits u, 48 ≤ c.toNat ∧ c.toNat ≤ 57 := by
  induction u using Nat.strongRecOn with
  | _ u ih =>
    intro c hc
    rw [Lib.decDigits] at hc
    split at hc
    · rename_i h; simp only [List.mem_singleton] at hc; subst hc; rw [dig_nat u h]; omega
    · rename_i h
      rcases List.mem_append.1 hc with hc | hc
      · exact ih (u / 10) (by omega) c hc
      · simp only [List.mem_singleton] at hc; subst hc; rw [dig_nat (u % 10) (by omega)]; omega
theorem dec_ne (u : Nat) : Lib.decDigits u ≠ [] := by
  rw [Lib.decDigits]; split <;> simp
theorem itoa_nat (n : Nat) : Lib.itoa (n : Int) = Lib.decDigits n := by unfold Lib.itoa; rw [if_neg (by omega), Int.toNat_natCast]
theorem atoi_itoa (n : Nat) (h : n ≤ 1000000001) : Lib.atoiAll (Lib.itoa (n : Int)) = .ok (n : Int) := by
  rw [itoa_nat]
  have hp := parse_dec n n (Nat.le_refl _) (by omega)
  have hd := dec_digit n
  have hne := dec_ne n
  generalize Lib.decDigits n = l at hp hd hne
  match l, hp, hd, hne with
  | c :: r, hp, hd, _ =>
    have hc := hd c (by simp)
    have hm : Lib.parseMag (c :: r) = .ok n := by unfold Lib.parseMag; rw [if_neg (by simp)]; exact hp
    unfold Lib.atoiAll
    dsimp only
    rw [if_neg (show ¬ (c.toNat = 43 ∨ c.toNat = 45) by omega), hm]
    dsimp only
    rw [if_neg (by omega), if_neg (by omega), if_neg (show ¬ c.toNat = 45 by omega)]
theorem name_inj {a b : Nat} (ha : a ≤ 1000000001) (hb : b ≤ 1000000001) (h : nameB a = nameB b) : a = b := by
  have h1 : Lib.itoa (a : Int) = Lib.itoa (b : Int) := List.append_cancel_left h
  have h2 := atoi_itoa a ha
  rw [h1, atoi_itoa b hb] at h2
  injection h2 with h2; omega
theorem pre_log (s : List UInt8) : Lib.hasPrefix (logP ++ s) logP = true := by
  unfold Lib.hasPrefix; simp [logP]
theorem trim_log (s : List UInt8) : Lib.trimPrefix (logP ++ s) logP = s := by
  unfold Lib.trimPrefix; rw [if_pos (pre_log s)]; simp [logP]
theorem num_name (n : Nat) (h1 : 1 ≤ n) (h2 : n ≤ 999999999) : numB (nameB n) = n := by
  unfold numB nameB
  rw [trim_log, atoi_itoa n (by omega)]
  dsimp only
  rw [if_neg (by rintro (h | h | h); omega; omega; exact h rfl)]
  omega
theorem num_is {f : List UInt8} (hp : Lib.hasPrefix f logP = true) (hn : numB f ≠ 0) : f = nameB (numB f) ∧ 1 ≤ numB f ∧ numB f ≤ 999999999 := by
  obtain ⟨s, rfl⟩ : ∃ s, f = logP ++ s := by
    unfold Lib.hasPrefix at hp
    exact ⟨_, (List.prefix_iff_eq_append.1 (List.isPrefixOf_iff_prefix.1 hp)).symm⟩
  unfold numB at *
  rw [trim_log] at *
  rcases ends3 (Lib.atoiAll s) with ⟨v, h⟩ | h | h
  · rw [h] at hn
    rw [h]
    dsimp only at hn ⊢
    split at hn
    · exact absurd rfl hn
    · rename_i hv
      rw [if_neg hv]
      have h3 : ¬ v < 1 := fun h => hv (.inl h)
      have h4 : ¬ 999999999 < v := fun h => hv (.inr (.inl h))
      have h5 : Lib.itoa v = s := Decidable.not_not.1 fun h => hv (.inr (.inr h))
      refine ⟨?_, by omega, by omega⟩
      unfold nameB
      rw [show ((v.toNat : Nat) : Int) = v by omega, h5]
  · rw [h] at hn; exact absurd rfl hn
  · rw [h] at hn; exact absurd rfl hn
theorem numB_le (f : List UInt8) : numB f ≤ 999999999 := by
  unfold numB
  split
  · split
    · omega
    · rename_i v hq hv; have : ¬ (999999999 : Int) < v := fun h => hv (.inr (.inl h)); omega
  · omega
/-! how a log is opened -/
def zeroSg : Sg := ⟨[], 0, [], 0⟩
def stepF (D : Dk) (q : Nat × Sg) (f : List UInt8) : Nat × Sg := if q.1 < numB f ∧ (readS (readD D f).1).kind = 1 then (numB f, readS (readD D f).1) else q
def firstL (D : Dk) (N : List (List UInt8)) : Nat × Sg := N.foldl (stepF D) (0, zeroSg)
def chainL (D : Dk) : Nat → Nat → Sg → List (List UInt8) → Nat × Sg × List (List UInt8)
  | 0, n, a, r => (n, a, r)
  | k + 1, n, a, r => match followsF (readS (readD D (nameB (n + 1))).1) a with
    | none => (n, a, r)
    | some L => chainL D k (n + 1) (readS (readD D (nameB (n + 1))).1) (r ++ L)
def cleanL (a b : Nat) : List (List UInt8) → Dk → Int × Dk
  | [], D => (0, D)
  | f :: r, D => if numB f = 0 ∨ numB f < a ∨ b < numB f then (if (removeD D f).1 ≠ 0 then removeD D f else cleanL a b r (removeD D f).2) else cleanL a b r D
/-- The last segment, behind which it goes on. -/
def chainD (D : Dk) : Nat × Sg × List (List UInt8) := if 0 < (firstL D (namesD D logP)).1 then chainL D (999999999 - (firstL D (namesD D logP)).1) (firstL D (namesD D logP)).1 (firstL D (namesD D logP)).2 [] else (0, zeroSg, [])
def tailD (D : Dk) : List (List UInt8) × Nat × Bool := if 0 < (firstL D (namesD D logP)).1 then ((chainD D).2.2 ++ (scanF (chainD D).2.1.bytes).1.tail, (scanF (chainD D).2.1.bytes).2, decide ((scanF (chainD D).2.1.bytes).2 < (chainD D).2.1.bytes.length)) else ([], 0, false)
def openL (D : Dk) : Int × Option (Lg × List UInt8 × List (List UInt8)) × Dk :=
  if D.off = true then (50, none, D) else
  if (cleanL (firstL D (namesD D logP)).1 (chainD D).1 (namesD D logP) D).1 ≠ 0 then ((cleanL (firstL D (namesD D logP)).1 (chainD D).1 (namesD D logP) D).1, none, (cleanL (firstL D (namesD D logP)).1 (chainD D).1 (namesD D logP) D).2)
  else (0, some (⟨(chainD D).1, (tailD D).2.1, (tailD D).2.2, (firstL D (namesD D logP)).1⟩, (firstL D (namesD D logP)).2.base, (tailD D).1), (cleanL (firstL D (namesD D logP)).1 (chainD D).1 (namesD D logP) D).2)
theorem openF_nil : openF [] = none := by
  have hn : numR (([], false) : Rd) = (0, [], true) := rfl
  unfold openF
  rw [hn]
  unfold openQ
  rw [if_neg (by simp)]
theorem readS_kind {b : List UInt8} (h : (readS b).kind ≠ 0) : ∃ p q, openF b = some (p, q) := by
  cases hO : openF b with
  | none => unfold readS at h; rw [hO] at h; exact absurd rfl h
  | some x => exact ⟨x.1, x.2, rfl⟩
theorem readS_bytes (b : List UInt8) : (readS b).bytes = b := by
  unfold readS; split
  · rfl
  · split
    · rfl
    · split <;> rfl
def AtOk (a : Sg) : Prop := a.bytes.length ≤ 1048576 ∧ (a.kind ≠ 0 → 0 < (scanF a.bytes).1.length)
theorem readS_ok {D : Dk} (h : DkOk D) (f : List UInt8) : AtOk (readS (readD D f).1) := by
  refine ⟨by rw [readS_bytes]; exact readD_len h f, fun hk => ?_⟩
  obtain ⟨p, q, hO⟩ := readS_kind hk
  rw [readS_bytes, scanF_some hO]; simp
theorem scanF_len : ∀ (n : Nat) (s : List UInt8), s.length ≤ n → (scanF s).1.length ≤ s.length
  | 0, s, h => by
    have : s = [] := List.eq_nil_of_length_eq_zero (by omega)
    subst this
    rw [scanF_none openF_nil]; simp
  | n + 1, s, h => by
    cases hO : openF s with
    | none => rw [scanF_none hO]; simp
    | some x =>
      obtain ⟨p, r⟩ := x
      have hlt := openF_lt hO
      rw [scanF_some hO]
      have := scanF_len n r (by omega)
      simp only [List.length_cons]; omega
theorem follows_kind {s a : Sg} {L : List (List UInt8)} (h : followsF s a = some L) : s.kind = 2 ∧ L.length ≤ a.bytes.length := by
  unfold followsF at h
  split at h
  · cases h
  · rename_i h1
    split at h
    · cases h
    · injection h with h
      refine ⟨Decidable.not_not.1 fun hk => h1 (.inl hk), ?_⟩
      have := scanF_len _ (a.bytes.take s.behind.toNat) (Nat.le_refl _)
      rw [← h, List.length_tail]
      rw [List.length_take] at this; omega
theorem mem_len {K N : List (List UInt8)} (hk : K.Nodup) (hn : N.Nodup) (h : ∀ x ∈ K, x ∈ N) : K.length ≤ N.length := by
  have hp : K.Perm (N.filter (fun x => decide (x ∈ K))) := by
    refine (List.perm_ext_iff_of_nodup hk (hn.filter _)).2 fun x => ?_
    rw [List.mem_filter, decide_eq_true_iff]
    exact ⟨fun hx => ⟨h x hx, hx⟩, fun hx => hx.2⟩
  rw [hp.length_eq]
  exact List.length_filter_le _ _
/-- As many segments as are found stand on the drive. -/
theorem chain_bound {D : Dk} (hD : DkOk D) {a m : Nat} (ha : a + m ≤ 999999999) (h : ∀ k, a < k → k ≤ a + m → getF D.files (nameB k) ≠ none) : m ≤ D.files.length := by
  have hnd : (D.files.map (·.1)).Nodup := List.pairwise_map.2 (hD.srt.imp fun h e => by rw [e] at h; exact List.lt_irrefl _ h)
  have hK : ((List.range m).map fun i => nameB (a + 1 + i)).Nodup := by
    rw [List.Nodup, List.pairwise_map]
    refine List.Pairwise.imp_of_mem (fun {i j} hi hj hij e => ?_) (List.nodup_range (n := m))
    have hi' := List.mem_range.1 hi
    have hj' := List.mem_range.1 hj
    have := name_inj (by omega) (by omega) e
    omega
  have := mem_len hK hnd fun x hx => by
    obtain ⟨i, hi, rfl⟩ := List.mem_map.1 hx
    have hi' := List.mem_range.1 hi
    obtain ⟨y, hy⟩ := Option.ne_none_iff_exists'.1 (h (a + 1 + i) (by omega) (by omega))
    exact List.mem_map.2 ⟨_, getF_mem hy, rfl⟩
  simpa using this
theorem follows_there {D : Dk} {n : List UInt8} {a : Sg} {L : List (List UInt8)} (h : followsF (readS (readD D n).1) a = some L) : getF D.files n ≠ none := fun hn => by
  have hk := (follows_kind h).1
  have hr : (readD D n).1 = [] := by unfold readD; split; rfl; rw [hn]
  rw [hr] at hk
  unfold readS at hk
  rw [openF_nil] at hk
  exact absurd hk (by decide)
end Go.Proofs.YtcmdmhmgffjknaaGreatDoor

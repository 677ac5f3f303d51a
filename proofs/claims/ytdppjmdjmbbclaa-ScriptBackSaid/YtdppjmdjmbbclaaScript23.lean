/- Scripts: acts written and read again; scripts cut off (plain). -/
import Derived.Test.YtdppjmdjmbbclaaScript22
namespace Go.Proofs.Ytdppjmdjmbbclaa
open Go.Sx
set_option linter.unusedVariables false

theorem readT_flat : ∀ (l : List Av), (∀ a ∈ l, Good a) → ∀ (rest : List UInt8) (acc : List Av) (f : Nat), (l.flatMap actB ++ rest).length ≤ f → acc.length + l.length ≤ 4000 → ∃ f', rest.length ≤ f' ∧ readT f (l.flatMap actB ++ rest, false) acc = readT f' (rest, false) (acc ++ l)
  | [], _, rest, acc, f, hf, _ => ⟨f, by simpa using hf, by simp⟩
  | a :: l, hg, rest, acc, f, hf, hl => by
    have hga := hg a (List.mem_cons_self ..)
    have hk := good_kd hga
    have hb := good_bytes hga
    have hc := (canon_iff hk).2 hga
    rw [List.flatMap_cons, List.append_assoc] at hf ⊢
    have h1 := act_app hk (l.flatMap actB ++ rest)
    rw [hb, hc] at h1
    have h0 : 1 ≤ (actB a).length := by unfold actB; simp
    rw [List.length_append] at hf
    simp only [List.length_cons] at hl
    rw [readT_go (by omega) (by unfold actB; simp) (by omega) (by rw [h1]; simp), h1]
    obtain ⟨f', h2, h3⟩ := readT_flat l (fun x hx => hg x (List.mem_cons_of_mem _ hx)) rest (acc ++ [a]) (f - 1) (by omega) (by simp; omega)
    exact ⟨f', h2, by rw [h3]; simp⟩

theorem readR_fuel (s : List UInt8) : ∀ (f g a : Nat), s.length - a ≤ f → s.length - a ≤ g → readR s f a = readR s g a
  | 0, 0, a, _, _ => rfl
  | 0, g + 1, a, h1, _ => by
    unfold readR
    rw [List.getElem?_eq_none (by omega)]
  | f + 1, 0, a, _, h2 => by
    unfold readR
    rw [List.getElem?_eq_none (by omega)]
  | f + 1, g + 1, a, h1, h2 => by
    unfold readR
    cases hb : s[a]? with
    | none => rfl
    | some b =>
      cases h : oneF s a with
      | none => rfl
      | some st =>
        have := oneF_le hb h
        dsimp only
        rw [readR_fuel s f g st.1 (by omega) (by omega)]

theorem readF_of_small {s : List UInt8} (h : s.length ≤ 16384) : readF s = (readR s s.length 0).take 4000 := by
  rw [read_same]; unfold refReadF
  have : s.take 16384 = s := List.take_of_length_le (by omega)
  rw [this]

theorem read_app {l : List Av} (hg : ∀ a ∈ l, Good a) {more : List UInt8} (hs : (l.flatMap actB ++ more).length ≤ 16384) (hl : l.length + (readF more).length ≤ 4000) : readF (l.flatMap actB ++ more) = l ++ readF more := by
  have hm : more.length ≤ 16384 := by rw [List.length_append] at hs; omega
  rw [readF_of_small hm] at hl ⊢
  unfold readF
  have : (l.flatMap actB ++ more).take 16384 = l.flatMap actB ++ more := List.take_of_length_le (by omega)
  rw [this]
  obtain ⟨f', h1, h2⟩ := readT_flat l hg more [] (l.flatMap actB ++ more).length (Nat.le_refl _) (by simp; omega)
  rw [h2, List.nil_append]
  have h3 := readT_R more f' 0 l
  rw [show at_ more 0 = (more, false) from rfl] at h3
  rw [h3, readR_fuel more f' more.length 0 (by omega) (by omega)]
  generalize readR more more.length 0 = R at hl ⊢
  rw [List.length_take] at hl
  rw [List.take_append, List.take_of_length_le (by omega)]
  congr 1
  by_cases h : R.length ≤ 4000
  · rw [List.take_of_length_le (by omega), List.take_of_length_le h]
  · have : l.length = 0 := by omega
    rw [this]
theorem read_back {l : List Av} (hg : ∀ a ∈ l, Good a) (hs : (l.flatMap actB).length ≤ 16384) (hl : l.length ≤ 4000) : readF (l.flatMap actB) = l := by
  have e : readF [] = [] := by decide
  have := read_app hg (more := []) (by simpa using hs) (by rw [e]; simpa using hl)
  rw [e] at this
  simpa using this

theorem take_get {s : List UInt8} {k i : Nat} {b : UInt8} (h : (s.take k)[i]? = some b) : s[i]? = some b := by
  rw [List.getElem?_take] at h
  split at h
  · exact h
  · cases h
theorem valAt_cut {s : List UInt8} {k q a : Nat} {r : Nat × Nat} (h : valAt (s.take k) q a = some r) : valAt s q a = some r := by
  unfold valAt at h ⊢
  cases h1 : (s.take k)[a]? with
  | none => rw [h1] at h; cases h
  | some b =>
    rw [h1] at h
    rw [take_get h1]
    dsimp only at h ⊢
    split
    · rename_i hq
      rw [if_pos hq] at h
      cases h2 : (s.take k)[a + 1]? with
      | none => rw [h2] at h; cases h
      | some b2 => rw [h2] at h; rw [take_get h2]; exact h
    · rename_i hq
      rw [if_neg hq] at h
      exact h
theorem stp_cut {s : List UInt8} {k : Nat} {st st' : OneT} {c : UInt8} (h : stp (s.take k) st c = some st') : stp s st c = some st' := by
  unfold stp at h ⊢
  cases h1 : valAt (s.take k) c.toNat st.1 with
  | none => rw [h1] at h; cases h
  | some r =>
    rw [h1] at h
    rw [valAt_cut h1]
    obtain ⟨n, a2⟩ := r
    dsimp only at h ⊢
    cases h2 : sizeOf_ c.toNat n with
    | none => rw [h2] at h; exact h
    | some z =>
      rw [h2] at h
      dsimp only at h ⊢
      split at h
      · cases h
      · rename_i hz
        rw [List.length_take] at hz
        rw [if_neg (by omega)]
        rw [← h, List.drop_take, List.take_take, Nat.min_eq_left (by omega)]
theorem fold_cut {s : List UInt8} {k : Nat} : ∀ (r : List UInt8) {st st' : OneT}, r.foldlM (stp (s.take k)) st = some st' → r.foldlM (stp s) st = some st'
  | [], st, st', h => h
  | c :: r, st, st', h => by
    rw [List.foldlM_cons] at h ⊢
    cases h1 : stp (s.take k) st c with
    | none => rw [h1] at h; cases h
    | some st1 =>
      rw [h1] at h
      rw [stp_cut h1]
      exact fold_cut r h
theorem readR_cut (s : List UInt8) (k : Nat) : ∀ (f a g : Nat), s.length - a ≤ g → readR (s.take k) f a <+: readR s g a
  | 0, a, g, _ => List.nil_prefix
  | f + 1, a, g, hg => by
    conv => lhs; unfold readR
    cases hb : (s.take k)[a]? with
    | none => exact List.nil_prefix
    | some b =>
      cases h : oneF (s.take k) a with
      | none => exact List.nil_prefix
      | some st =>
        have hb' := take_get hb
        have h' : oneF s a = some st := by
          unfold oneF at h ⊢
          rw [hb] at h; rw [hb']
          exact fold_cut _ h
        have hle := oneF_le hb' h'
        have hal := (List.getElem?_eq_some_iff.1 hb').1
        obtain ⟨g', rfl⟩ : ∃ g', g = g' + 1 := ⟨g - 1, by omega⟩
        conv => rhs; unfold readR
        rw [hb']
        dsimp only
        rw [h']
        dsimp only
        exact (List.prefix_append_right_inj _).2 (readR_cut s k f st.1 g' (by omega))
theorem read_cut (s : List UInt8) (k : Nat) : readF (s.take k) <+: readF s := by
  rw [read_same, read_same]
  unfold refReadF
  have e : (s.take k).take 16384 = (s.take 16384).take k := by rw [List.take_take, List.take_take, Nat.min_comm]
  rw [e]
  obtain ⟨t, ht⟩ := readR_cut (s.take 16384) k ((s.take 16384).take k).length 0 _ (Nat.sub_le _ _)
  rw [← ht, List.take_append]
  exact List.prefix_append _ _
end Go.Proofs.Ytdppjmdjmbbclaa

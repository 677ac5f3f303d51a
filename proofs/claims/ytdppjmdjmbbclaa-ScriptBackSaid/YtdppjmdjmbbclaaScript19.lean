/- Scripts: the bytes of acts, read again. -/
import Derived.Test.YtdppjmdjmbbclaaScript18
namespace Go.Proofs.Ytdppjmdjmbbclaa
open Go.Sx
set_option linter.unusedVariables false

/-- A kind that acts have. -/
def Kd (k : Int) : Prop := k = 1 ∨ (k = 2 ∨ k = 3 ∨ k = 4 ∨ k = 9) ∨ k = 5 ∨ (k = 6 ∨ k = 7) ∨ k = 8 ∨ k = 10
/-- The reference's bytes of an act. -/
def refB (a : Av) : List UInt8 := byteOf a.kind ::
  if a.kind = 1 then [byteOf a.node, byteOf a.q.kind, byteOf a.q.client, byteOf a.q.seq, byteOf a.q.mode, byteOf a.q.lag, byteOf ((a.q.name.length : Int) % 32)] ++ (a.q.name.take (a.q.name.length % 32) ++ ([byteOf ((a.q.data.length : Int) % 1024), byteOf ((a.q.data.length : Int) % 1024 / 256)] ++ a.q.data.take (a.q.data.length % 1024)))
  else if a.kind = 2 ∨ a.kind = 3 ∨ a.kind = 4 ∨ a.kind = 9 then [byteOf a.k]
  else if a.kind = 5 then [byteOf a.node, byteOf a.draw]
  else if a.kind = 6 ∨ a.kind = 7 then [byteOf a.node, byteOf ((a.ks.length : Int) % 8)] ++ (a.ks.take (a.ks.length % 8)).map byteOf
  else if a.kind = 8 then [byteOf a.node, byteOf a.k]
  else if a.kind = 10 then [byteOf a.node, byteOf a.k, byteOf (a.draw.tmod 65536), byteOf ((a.draw.tmod 65536).tdiv 256)]
  else []
/-- What these bytes are read as. -/
def canon (a : Av) : Av :=
  if a.kind = 1 then ⟨1, a.node % 256, 0, 0, [], ⟨a.q.kind % 256, a.q.client % 256, a.q.seq % 256, a.q.name.take (a.q.name.length % 32), a.q.data.take (a.q.data.length % 1024), a.q.mode % 256, a.q.lag % 256⟩⟩
  else if a.kind = 2 ∨ a.kind = 3 ∨ a.kind = 4 ∨ a.kind = 9 then ⟨a.kind, 0, a.k % 256, 0, [], zq⟩
  else if a.kind = 5 then ⟨5, a.node % 256, 0, a.draw % 256, [], zq⟩
  else if a.kind = 6 ∨ a.kind = 7 then ⟨a.kind, a.node % 256, 0, 0, (a.ks.take (a.ks.length % 8)).map (· % 256), zq⟩
  else if a.kind = 8 then ⟨8, a.node % 256, a.k % 256, 0, [], zq⟩
  else ⟨10, a.node % 256, a.k % 256, (a.draw.tmod 65536) % 256 + 256 * ((a.draw.tmod 65536).tdiv 256 % 256), [], zq⟩

theorem oneV_cons (b : UInt8) (r : List UInt8) (s : Bool) : oneV (b :: r, s) = b.toNat := rfl
theorem oneS_cons (b : UInt8) (r : List UInt8) (s : Bool) : oneS (b :: r, s) = (r, s) := rfl
theorem text_app {p r : List UInt8} {s : Bool} {z : Nat} (h : z = p.length) : textV (p ++ r, s) z = p ∧ textS (p ++ r, s) z = (r, s) := by
  subst h
  unfold textV textS
  have : ¬ (p ++ r).length < p.length := by simp
  simp only [this, if_false]
  simp
theorem byteOf_lt (i : Int) : (byteOf i).toNat < 256 := UInt8.toNat_lt _

theorem act_app {a : Av} (hk : Kd a.kind) (rest : List UInt8) : actT (oneV (refB a ++ rest, false) % 16) (oneS (refB a ++ rest, false)) = ([canon a], (rest, false)) := by
  unfold refB
  rw [List.cons_append, oneV_cons, oneS_cons]
  have h0 := byteOf_nat a.kind
  have hn := byteOf_nat
  rcases hk with h | h | h | h | h | h
  · rw [h] at h0 ⊢
    have e : (byteOf 1).toNat % 16 = 1 := by decide
    rw [e, if_pos rfl]
    unfold actT canon
    rw [if_pos rfl, if_pos h]
    simp only [List.cons_append, List.nil_append, List.append_assoc, oneV_cons, oneS_cons]
    have h1 : (byteOf ((a.q.name.length : Int) % 32)).toNat % 32 = (a.q.name.take (a.q.name.length % 32)).length := by
      have := hn ((a.q.name.length : Int) % 32); rw [List.length_take]; omega
    obtain ⟨e1, e2⟩ := text_app (r := byteOf ((a.q.data.length : Int) % 1024) :: byteOf ((a.q.data.length : Int) % 1024 / 256) :: (a.q.data.take (a.q.data.length % 1024) ++ rest)) (s := false) h1
    rw [e1, e2]
    have h2 : pairV (byteOf ((a.q.data.length : Int) % 1024) :: byteOf ((a.q.data.length : Int) % 1024 / 256) :: (a.q.data.take (a.q.data.length % 1024) ++ rest), false) % 1024 = (a.q.data.take (a.q.data.length % 1024)).length := by
      unfold pairV; rw [oneV_cons, oneS_cons, oneV_cons]
      have := hn ((a.q.data.length : Int) % 1024); have := hn ((a.q.data.length : Int) % 1024 / 256); rw [List.length_take]; omega
    have h3 : pairS (byteOf ((a.q.data.length : Int) % 1024) :: byteOf ((a.q.data.length : Int) % 1024 / 256) :: (a.q.data.take (a.q.data.length % 1024) ++ rest), false) = (a.q.data.take (a.q.data.length % 1024) ++ rest, false) := rfl
    rw [h3]
    obtain ⟨e3, e4⟩ := text_app (r := rest) (s := false) h2
    rw [e3, e4]
    simp only [hn]
  · have e : (byteOf a.kind).toNat % 16 = a.kind.toNat := by omega
    have n1 : ¬ a.kind = 1 := by omega
    have m1 : ¬ a.kind.toNat = 1 := by omega
    have m2 : a.kind.toNat = 2 ∨ a.kind.toNat = 3 ∨ a.kind.toNat = 4 ∨ a.kind.toNat = 9 := by omega
    rw [e, if_neg n1, if_pos h]
    unfold actT canon
    rw [if_neg m1, if_pos m2, if_neg n1, if_pos h]
    simp only [List.cons_append, List.nil_append, oneV_cons, oneS_cons, hn]
    rw [show ((a.kind.toNat : Nat) : Int) = a.kind by omega]
  · rw [h] at h0 ⊢
    have e : (byteOf 5).toNat % 16 = 5 := by decide
    rw [e]
    unfold actT canon
    simp [h, oneV_cons, oneS_cons, hn]
  · have e : (byteOf a.kind).toNat % 16 = a.kind.toNat := by omega
    have n1 : ¬ a.kind = 1 := by omega
    have n2 : ¬ (a.kind = 2 ∨ a.kind = 3 ∨ a.kind = 4 ∨ a.kind = 9) := by omega
    have n5 : ¬ a.kind = 5 := by omega
    have m1 : ¬ a.kind.toNat = 1 := by omega
    have m2 : ¬ (a.kind.toNat = 2 ∨ a.kind.toNat = 3 ∨ a.kind.toNat = 4 ∨ a.kind.toNat = 9) := by omega
    have m5 : ¬ a.kind.toNat = 5 := by omega
    have m6 : a.kind.toNat = 6 ∨ a.kind.toNat = 7 := by omega
    rw [e, if_neg n1, if_neg n2, if_neg n5, if_pos h]
    unfold actT canon
    rw [if_neg m1, if_neg m2, if_neg m5, if_pos m6, if_neg n1, if_neg n2, if_neg n5, if_pos h]
    simp only [List.cons_append, List.nil_append, oneV_cons, oneS_cons]
    have h1 : (byteOf ((a.ks.length : Int) % 8)).toNat % 8 = ((a.ks.take (a.ks.length % 8)).map byteOf).length := by
      have := hn ((a.ks.length : Int) % 8); rw [List.length_map, List.length_take]; omega
    obtain ⟨e1, e2⟩ := text_app (r := rest) (s := false) h1
    rw [e1, e2, hn]
    have e3 : kz ((a.ks.take (a.ks.length % 8)).map byteOf) = (a.ks.take (a.ks.length % 8)).map (· % 256) := by
      unfold kz; rw [List.map_map]; exact List.map_congr_left fun x _ => hn x
    rw [e3, show ((a.kind.toNat : Nat) : Int) = a.kind by omega]
  · rw [h] at h0 ⊢
    have e : (byteOf 8).toNat % 16 = 8 := by decide
    rw [e]
    unfold actT canon
    simp [h, oneV_cons, oneS_cons, hn]
  · rw [h] at h0 ⊢
    have e : (byteOf 10).toNat % 16 = 10 := by decide
    rw [e]
    unfold actT canon
    simp [h, oneV_cons, oneS_cons, hn, pairV, pairS]

theorem refB_len (a : Av) : (refB a).length ≤ 1100 := by
  unfold refB
  have := Nat.mod_lt a.q.name.length (show 0 < 32 by decide)
  have := Nat.mod_lt a.q.data.length (show 0 < 1024 by decide)
  have := Nat.mod_lt a.ks.length (show 0 < 8 by decide)
  rw [List.length_cons]
  split
  · simp; omega
  split
  · simp
  split
  · simp
  split
  · simp; omega
  split
  · simp
  split
  · simp
  · simp

theorem refRead_one {a : Av} (hk : Kd a.kind) : refReadF (refB a) = [canon a] := by
  rw [← read_same]
  have hl := refB_len a
  unfold readF
  have e16 : (refB a).take 16384 = refB a := List.take_of_length_le (by omega)
  rw [e16]
  have h1 := act_app hk []
  rw [List.append_nil] at h1
  obtain ⟨n, hn⟩ : ∃ n, (refB a).length = n + 1 := ⟨(refB a).length - 1, by unfold refB; simp⟩
  rw [hn, readT_go (by omega) (by unfold refB; simp) (by simp) (by rw [h1]; simp), h1, readT_stop (.inl rfl)]
  rfl

theorem canon_iff {a : Av} (hk : Kd a.kind) : canon a = a ↔ Good a := by
  obtain ⟨kind, node, k, draw, ks, q⟩ := a
  have m8 : ∀ i : Int, i % 256 = i ↔ B8 i := fun i => by unfold B8; omega
  have tk : ∀ (l : List UInt8) (m : Nat), 0 < m → (l.take (l.length % m) = l ↔ l.length < m) := fun l m hm => by
    constructor
    · intro h
      have := congrArg List.length h
      rw [List.length_take] at this
      have := Nat.mod_lt l.length hm
      omega
    · intro h
      rw [Nat.mod_eq_of_lt h, List.take_length]
  have e0 : ([] = ks) ↔ ks.length = 0 := by rw [eq_comm, List.length_eq_zero_iff]
  have eq : (zq = q) ↔ (q = zq) := eq_comm
  have ek : ((ks.take (ks.length % 8)).map (· % 256) = ks) ↔ (ks.length < 8 ∧ ∀ x ∈ ks, B8 x) := by
    have hm := Nat.mod_lt ks.length (show 0 < 8 by decide)
    constructor
    · intro h
      have hl := congrArg List.length h
      rw [List.length_map, List.length_take] at hl
      have h8 : ks.length < 8 := by omega
      rw [Nat.mod_eq_of_lt h8, List.take_length] at h
      refine ⟨h8, fun x hx => (m8 x).1 ?_⟩
      obtain ⟨i, hi, rfl⟩ := List.getElem_of_mem hx
      have h2 : (ks.map (· % 256))[i]? = ks[i]? := by rw [h]
      rw [List.getElem?_map, List.getElem?_eq_getElem hi] at h2
      simpa using h2
    · rintro ⟨h8, hx⟩
      rw [Nat.mod_eq_of_lt h8, List.take_length]
      conv => rhs; rw [← List.map_id ks]
      exact List.map_congr_left fun x h => (m8 x).2 (hx x h)
  dsimp only at hk
  unfold canon Good
  dsimp only
  rcases hk with h | h | h | h | h | h
  · subst h
    obtain ⟨qk, qc, qs, nm, dt, md, lg⟩ := q
    simp only [if_true, Av.mk.injEq, Qs.mk.injEq, m8, tk nm 32 (by decide), tk dt 1024 (by decide), true_and, e0]
    generalize ((⟨qk, qc, qs, nm, dt, md, lg⟩ : Qs) = zq) = Q
    generalize (∀ x ∈ ks, B8 x) = P
    unfold B8
    by_cases hQ : Q <;> by_cases hP : P <;> simp only [hQ, hP, and_true, and_false, false_and, true_and, or_false, false_or, eq_self, false_iff, iff_false, true_iff, iff_true, not_false_eq_true] <;> omega
  · rw [if_neg (by omega), if_pos h]
    simp only [Av.mk.injEq, m8, e0, eq]
    generalize (q = zq) = Q
    generalize (∀ x ∈ ks, B8 x) = P
    unfold B8
    by_cases hQ : Q <;> by_cases hP : P <;> simp only [hQ, hP, and_true, and_false, false_and, true_and, or_false, false_or, eq_self, false_iff, iff_false, true_iff, iff_true, not_false_eq_true] <;> omega
  · rw [if_neg (by omega), if_neg (by omega), if_pos h]
    simp only [Av.mk.injEq, m8, e0, eq]
    generalize (q = zq) = Q
    generalize (∀ x ∈ ks, B8 x) = P
    unfold B8
    by_cases hQ : Q <;> by_cases hP : P <;> simp only [hQ, hP, and_true, and_false, false_and, true_and, or_false, false_or, eq_self, false_iff, iff_false, true_iff, iff_true, not_false_eq_true] <;> omega
  · rw [if_neg (by omega), if_neg (by omega), if_neg (by omega), if_pos h]
    simp only [Av.mk.injEq, m8, ek, eq]
    generalize (q = zq) = Q
    generalize (∀ x ∈ ks, B8 x) = P
    unfold B8
    by_cases hQ : Q <;> by_cases hP : P <;> simp only [hQ, hP, and_true, and_false, false_and, true_and, or_false, false_or, eq_self, false_iff, iff_false, true_iff, iff_true, not_false_eq_true] <;> omega
  · rw [if_neg (by omega), if_neg (by omega), if_neg (by omega), if_neg (by omega), if_pos h]
    simp only [Av.mk.injEq, m8, e0, eq]
    generalize (q = zq) = Q
    generalize (∀ x ∈ ks, B8 x) = P
    unfold B8
    by_cases hQ : Q <;> by_cases hP : P <;> simp only [hQ, hP, and_true, and_false, false_and, true_and, or_false, false_or, eq_self, false_iff, iff_false, true_iff, iff_true, not_false_eq_true] <;> omega
  · rw [if_neg (by omega), if_neg (by omega), if_neg (by omega), if_neg (by omega), if_neg (by omega)]
    have ed : draw.tmod 65536 % 256 + 256 * ((draw.tmod 65536).tdiv 256 % 256) = draw ↔ (0 ≤ draw ∧ draw ≤ 65535) := by
      constructor
      · intro h; omega
      · rintro ⟨h1, h2⟩
        rw [Int.tmod_eq_emod_of_nonneg h1, Int.tdiv_eq_ediv_of_nonneg (by omega)]
        omega
    simp only [Av.mk.injEq, m8, e0, eq, ed]
    generalize (q = zq) = Q
    generalize (∀ x ∈ ks, B8 x) = P
    unfold B8
    by_cases hQ : Q <;> by_cases hP : P <;> simp only [hQ, hP, and_true, and_false, false_and, true_and, or_false, false_or, eq_self, false_iff, iff_false, true_iff, iff_true, not_false_eq_true] <;> omega

theorem good_kd {a : Av} (h : Good a) : Kd a.kind := by
  unfold Good at h; unfold Kd; omega
theorem good_bytes {a : Av} (h : Good a) : refB a = actB a := by
  unfold refB actB
  have hk := good_kd h
  congr 1
  rcases hk with k | k | k | k | k | k
  · have h1 : a.q.name.length < 32 := by unfold Good at h; omega
    have h2 : a.q.data.length < 1024 := by unfold Good at h; omega
    rw [if_pos k, if_pos k, Nat.mod_eq_of_lt h1, Nat.mod_eq_of_lt h2, List.take_length, List.take_length, show (a.q.name.length : Int) % 32 = min (a.q.name.length : Int) 255 by omega, show (a.q.data.length : Int) % 1024 = min (a.q.data.length : Int) 65535 by omega]
    simp
  · rw [if_neg (by omega), if_pos k, if_neg (by omega), if_pos k]
  · rw [if_neg (by omega), if_neg (by omega), if_pos k, if_neg (by omega), if_neg (by omega), if_pos k]
  · have h1 : a.ks.length < 8 := by unfold Good at h; omega
    rw [if_neg (by omega), if_neg (by omega), if_neg (by omega), if_pos k, if_neg (by omega), if_neg (by omega), if_neg (by omega), if_pos k, Nat.mod_eq_of_lt h1, List.take_length, show (a.ks.length : Int) % 8 = min (a.ks.length : Int) 255 by omega]
  · rw [if_neg (by omega), if_neg (by omega), if_neg (by omega), if_neg (by omega), if_pos k, if_neg (by omega), if_neg (by omega), if_neg (by omega), if_neg (by omega), if_pos k]
  · have h1 : 0 ≤ a.draw ∧ a.draw ≤ 65535 := by unfold Good at h; omega
    rw [if_neg (by omega), if_neg (by omega), if_neg (by omega), if_neg (by omega), if_neg (by omega), if_pos k, if_neg (by omega), if_neg (by omega), if_neg (by omega), if_neg (by omega), if_neg (by omega), if_pos k]
    rw [Int.tmod_eq_emod_of_nonneg h1.1, Int.tdiv_eq_ediv_of_nonneg (by omega), show a.draw % 65536 = a.draw by omega]

/-- What both printings answer. -/
def printF (l : List Av) : List UInt8 × Int := if 4000 < l.length then ([], 1) else if ∀ a ∈ l, Good a then (if 16384 < (l.flatMap actB).length then ([], 4) else (l.flatMap actB, 0)) else ([], 1)
theorem printF_bad {l : List Av} {a : Av} (h : a ∈ l) (hb : ¬ Good a) : printF l = ([], 1) := by
  unfold printF; split
  · rfl
  · rw [if_neg fun h2 => hb (h2 a h)]
end Go.Proofs.Ytdppjmdjmbbclaa

/- Scripts: the readings as plain functions on bytes. -/
import Derived.Test.YtdppjmdjmbbclaaScript5
namespace Go.Proofs.Ytdppjmdjmbbclaa
open Go.Sx
set_option linter.unusedVariables false

def isN (q : UInt8) : Bool := decide (¬ (q.toNat = 110 ∨ q.toNat = 100 ∨ q.toNat = 107))
theorem valAt_le {s : List UInt8} {q a n b : Nat} (h : valAt s q a = some (n, b)) : a < b ∧ b ≤ s.length := by
  unfold valAt at h
  split at h
  · cases h
  · rename_i b1 h1
    have h1' := (List.getElem?_eq_some_iff.1 h1).1
    split at h
    · split at h
      · cases h
      · rename_i b2 h2
        have h2' := (List.getElem?_eq_some_iff.1 h2).1
        simp only [Option.some.injEq, Prod.mk.injEq] at h
        omega
    · simp only [Option.some.injEq, Prod.mk.injEq] at h
      omega
theorem stp_len {s : List UInt8} {st st' : OneT} {q : UInt8} (h : stp s st q = some st') : st.1 < st'.1 ∧ st'.1 ≤ s.length ∧ st'.2.1.length = st.2.1.length + (if isN q then 1 else 0) ∧ st'.2.2.length = st.2.2.length + (if isN q then 0 else 1) := by
  unfold stp at h
  split at h
  · cases h
  · rename_i n a2 hv
    have hl := valAt_le hv
    split at h
    · rename_i hz
      have hq : isN q = true := by
        unfold sizeOf_ at hz; unfold isN
        split at hz
        · cases hz
        · split at hz
          · cases hz
          · split at hz
            · cases hz
            · simp only [decide_eq_true_eq]; omega
      simp only [Option.some.injEq] at h; subst h
      simp [hq]; omega
    · rename_i z hz
      have hq : isN q = false := by
        unfold sizeOf_ at hz; unfold isN
        simp only [decide_eq_false_iff_not, Decidable.not_not]
        split at hz
        · omega
        · split at hz
          · omega
          · split at hz
            · omega
            · cases hz
      split at h
      · cases h
      · simp only [Option.some.injEq] at h; subst h
        simp [hq]; omega
theorem fold_len {s : List UInt8} : ∀ (r : List UInt8) {st st' : OneT}, r.foldlM (stp s) st = some st' → st.1 ≤ st'.1 ∧ (st.1 ≤ s.length → st'.1 ≤ s.length) ∧ st'.2.1.length = st.2.1.length + (r.filter isN).length ∧ st'.2.2.length = st.2.2.length + (r.filter fun q => !isN q).length
  | [], st, st', h => by
    have e : st = st' := by simpa using h
    subst e; simp
  | q :: r, st, st', h => by
    rw [List.foldlM_cons] at h
    cases h1 : stp s st q with
    | none => rw [h1] at h; simp at h
    | some st1 =>
      rw [h1] at h
      have h2 := stp_len h1
      have h3 := fold_len r (st := st1) (st' := st') (by simpa using h)
      cases hq : isN q <;> simp [hq] at h2 ⊢ <;> refine ⟨by omega, fun _ => h3.2.1 h2.2.1, by omega, by omega⟩

def zq : Qs := ⟨0, 0, 0, [], [], 0, 0⟩
/-- What the reference makes of a place's numbers and texts. -/
def actsOf (kind : Nat) (n : List Int) (t : List (List UInt8)) : List Av :=
  if kind = 1 then [⟨1, n.getD 0 0, 0, 0, [], ⟨n.getD 1 0, n.getD 2 0, n.getD 3 0, t.getD 0 [], t.getD 1 [], n.getD 4 0, n.getD 5 0⟩⟩]
  else if kind = 2 ∨ kind = 3 ∨ kind = 4 ∨ kind = 9 then [⟨kind, 0, n.getD 0 0, 0, [], zq⟩]
  else if kind = 5 then [⟨5, n.getD 0 0, 0, n.getD 1 0, [], zq⟩]
  else if kind = 6 ∨ kind = 7 then [⟨kind, n.getD 0 0, 0, 0, kz (t.getD 0 []), zq⟩]
  else if kind = 8 then [⟨8, n.getD 0 0, n.getD 1 0, 0, [], zq⟩]
  else if kind = 10 then [⟨10, n.getD 0 0, n.getD 1 0, n.getD 2 0, [], zq⟩]
  else if kind = 11 then (List.range 6).map fun (i : Nat) => ⟨5, (i : Int), 0, (i : Int), [], zq⟩
  else if kind = 12 then List.replicate (n.getD 0 0).toNat ⟨2, 0, 0, 0, [], zq⟩
  else []
def readR (s : List UInt8) : Nat → Nat → List Av
  | 0, _ => []
  | f + 1, a => match s[a]? with
    | none => []
    | some b => match oneF s a with
      | none => []
      | some st => actsOf (b.toNat % 16) st.2.1 st.2.2 ++ readR s f st.1
def refReadF (s : List UInt8) : List Av := (readR (s.take 16384) (s.take 16384).length 0).take 4000
end Go.Proofs.Ytdppjmdjmbbclaa

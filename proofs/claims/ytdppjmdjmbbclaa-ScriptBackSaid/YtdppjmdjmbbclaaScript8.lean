/- Scripts: both readings give the same acts. -/
import Derived.Test.YtdppjmdjmbbclaaScript7
namespace Go.Proofs.Ytdppjmdjmbbclaa
open Go.Sx
set_option linter.unusedVariables false

def readT : Nat → Tp → List Av → List Av
  | 0, _, acc => acc
  | f + 1, t, acc => if t.1 = [] ∨ 4000 ≤ acc.length then acc else
    if (actT (oneV t % 16) (oneS t)).2.2 = true then acc else readT f (actT (oneV t % 16) (oneS t)).2 (acc ++ (actT (oneV t % 16) (oneS t)).1)
def readF (s : List UInt8) : List Av := (readT (s.take 16384).length (s.take 16384, false) []).take 4000

theorem readT_R (s : List UInt8) : ∀ (f a : Nat) (acc : List Av), (readT f (at_ s a) acc).take 4000 = (acc ++ readR s f a).take 4000
  | 0, a, acc => by simp [readT, readR]
  | f + 1, a, acc => by
    unfold readT readR
    cases h : s[a]? with
    | none =>
      have e : (at_ s a).1 = [] := List.drop_of_length_le (by rw [List.getElem?_eq_none_iff] at h; exact h)
      rw [if_pos (Or.inl e)]; simp
    | some b =>
      obtain ⟨h1, h2⟩ := List.getElem?_eq_some_iff.1 h
      have e : (at_ s a).1 ≠ [] := by
        unfold at_; simp only [ne_eq, List.drop_eq_nil_iff]; omega
      by_cases hl : 4000 ≤ acc.length
      · rw [if_pos (Or.inr hl), List.take_append_of_le_length hl]
      · rw [if_neg (by rintro (x | x); exact e x; exact hl x)]
        obtain ⟨o1, o2⟩ := one_some h
        rw [o1, o2]
        rcases act_one h with ⟨q1, q2⟩ | ⟨st, q1, q2, q3⟩
        · rw [if_pos q2, q1]; simp
        · have : ¬ (actT (b.toNat % 16) (at_ s (a + 1))).2.2 = true := by rw [q3]; simp [at_]
          rw [if_neg this, q1, q2, q3, readT_R s f st.1]
          simp

/-- ScriptReads, the plain law. -/
theorem read_same (s : List UInt8) : readF s = refReadF s := by
  unfold readF refReadF
  have := readT_R (s.take 16384) (s.take 16384).length 0 []
  simpa [at_] using this
end Go.Proofs.Ytdppjmdjmbbclaa

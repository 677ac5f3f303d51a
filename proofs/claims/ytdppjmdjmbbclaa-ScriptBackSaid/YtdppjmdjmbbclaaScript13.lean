/- Scripts: a cell of an act in a row, written. -/
import Derived.Test.YtdppjmdjmbbclaaScript12
namespace Go.Proofs.Ytdppjmdjmbbclaa
open Go.Sx
set_option linter.unusedVariables false

theorem cells_set {α : Type} {f : α → List Value} {m : Nat} (hf : ∀ x, (f x).length = m) {j : Nat} {v : Value} (hj : j < m) : ∀ (L : List α) (i : Nat) (a a' : α), L[i]? = some a → (f a).set j v = f a' → (cells f L).set (i * m + j) v = cells f (L.set i a')
  | [], i, a, a', h, _ => by simp at h
  | y :: L, 0, a, a', h, e => by
    simp at h; subst h
    rw [cells_cons, List.set_cons_zero, cells_cons, Nat.zero_mul, Nat.zero_add, List.set_append_left _ _ (by rw [hf]; exact hj), e]
  | y :: L, i + 1, a, a', h, e => by
    have ih := cells_set hf hj L i a a' (by simpa using h) e
    rw [cells_cons, List.set_cons_succ, cells_cons, List.set_append_right _ _ (by rw [hf, Nat.add_mul]; omega), hf, ← ih]
    congr 2
    rw [Nat.add_mul]; omega
end Go.Proofs.Ytdppjmdjmbbclaa

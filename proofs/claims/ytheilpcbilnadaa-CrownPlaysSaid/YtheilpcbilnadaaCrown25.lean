/- Crowns: ledgers: operations that were shipped (plain). -/
import Derived.Test.YtheilpcbilnadaaCrown24
namespace Go.Proofs.Ytheilpcbilnadaa
open Go.Sx
set_option linter.unusedVariables false

def HasB (ops : List Pop) (n e : Int) : Bool := decide (n = 0) || (decide (n ≤ ops.length) && match ops[(n - 1).toNat]? with
 | some o => decide (o.epoch = e)
 | none => false)
theorem has_b {ops : List Pop} {n e : Int} : HasL ops n e ↔ HasB ops n e = true := by
 unfold HasL HasB
 rw [Bool.or_eq_true, Bool.and_eq_true, decide_eq_true_eq, decide_eq_true_eq]
 constructor
 ·rintro (h | ⟨h1, o, h2, h3⟩)
  ·exact .inl h
  ·exact .inr ⟨h1, by rw [h2]; exact decide_eq_true h3⟩
 ·rintro (h | ⟨h1, h2⟩)
  ·exact .inl h
  ·cases ho : ops[(n - 1).toNat]? with
   | none => rw [ho] at h2; cases h2
   | some o => rw [ho] at h2; exact .inr ⟨h1, o, rfl, of_decide_eq_true h2⟩
theorem has_le {ops : List Pop} {n e : Int} (h : HasB ops n e = true) : n ≤ ops.length := by
 rcases has_b.2 h with h | ⟨h, _⟩ <;> omega
/-- The operations that are not there. -/
def restL (ops : List Pop) (L : List Pop) : List Pop := L.dropWhile fun o => HasB ops o.n o.epoch
theorem rest_yes {ops L : List Pop} {o : Pop} {r : List Pop} (h : L = o :: r) (hb : HasB ops o.n o.epoch = true) : restL ops L = restL ops r := by
 rw [h]; unfold restL; exact List.dropWhile_cons_of_pos (p := fun o : Pop => HasB ops o.n o.epoch) hb
theorem rest_no {ops L : List Pop} {o : Pop} {r : List Pop} (h : L = o :: r) (hb : HasB ops o.n o.epoch = false) : restL ops L = o :: r := by
 rw [h]; unfold restL; exact List.dropWhile_cons_of_neg (p := fun o : Pop => HasB ops o.n o.epoch) (by rw [hb]; decide)
theorem row_at : ∀ (L : List Pop) (aN aE st : Int), rowGo aN aE st L = true → ∀ (j : Nat) p, L[j]? = some p → p.n = aN + 1 + j ∧ opOk p = true
 | [], _, _, _, _, j, p, hp => by simp at hp
 | o :: l, aN, aE, st, h, j, p, hp => by
  unfold rowGo at h
  rw [Bool.and_eq_true, decide_eq_true_eq] at h
  obtain ⟨⟨q1, q2, _, _⟩, hr⟩ := h
  cases j with
  | zero => simp at hp; subst hp; exact ⟨by omega, q1⟩
  | succ j =>
   have := row_at l _ _ _ hr j p (by simpa using hp)
   exact ⟨by omega, this.2⟩
theorem rest_fact (ops : List Pop) : ∀ (L : List Pop) (aN aE st : Int), rowGo aN aE st L = true → 0 ≤ aN → aN ≤ ops.length → (aN = 0 → aE = 0) → ∀ o r, restL ops L = o :: r → 1 ≤ o.n ∧ o.n ≤ ops.length + 1 ∧ (¬ o.kind = 3 → 2 ≤ o.n) ∧ ∀ (j : Nat) p, (o :: r)[j]? = some p → p.n = o.n + j ∧ opOk p = true
 | [], _, _, _, _, _, _, _, o, r, h => by cases h
 | x :: l, aN, aE, st, h, h0, h1, hz, o, r, hr => by
  have hat := row_at (x :: l) aN aE st h
  have h' := h
  unfold rowGo at h'
  rw [Bool.and_eq_true, decide_eq_true_eq] at h'
  obtain ⟨⟨q1, q2, q3, q4⟩, hg⟩ := h'
  have hb := opOk_b q1
  cases hh : HasB ops x.n x.epoch with
  | true =>
   rw [rest_yes rfl hh] at hr
   exact rest_fact ops l x.n x.epoch x.site hg (by omega) (has_le hh) (fun q => by omega) o r hr
  | false =>
   rw [rest_no rfl hh] at hr
   injection hr with e1 e2
   subst e1 e2
   refine ⟨by omega, by omega, fun hk => ?_, fun j p hp => ?_⟩
   ·have := (q4 hk).1
    have : aN ≠ 0 := fun q => by have := hz q; omega
    omega
   ·have := hat j p hp; exact ⟨by omega, this.2⟩
def siteAt (ops : List Pop) (i : Int) (s : Int) : Bool := match ops[i.toNat]? with
 | some p => decide (p.site = s)
 | none => false
def shipL (l : Ls) (c : Cm) : Ls :=
 if c.epoch < l.fence ∨ (c.epoch = (foldOf l.ops).hold.1 ∧ ¬ c.site = (foldOf l.ops).hold.2) then l
 else if HasB l.ops c.after c.since = false then { l with fence := c.epoch }
 else match restL l.ops (fst1 c.ops) with
  | [] => { l with fence := c.epoch }
  | o :: r => if ¬ o.kind = 3 ∧ siteAt l.ops (o.n - 2) o.site = false then { l with fence := c.epoch } else { l with fence := c.epoch, ops := l.ops.take (o.n - 1).toNat ++ (o :: r) }
theorem LP.ship {l : Ls} (h : LP l) {o : Pop} {r : List Pop} {f : Int} (h1 : 1 ≤ o.n) (h2 : o.n ≤ l.ops.length + 1) (h3 : ∀ (j : Nat) p, (o :: r)[j]? = some p → p.n = o.n + j ∧ opOk p = true) : LP { l with fence := f, ops := l.ops.take (o.n - 1).toNat ++ (o :: r) } := by
 have hlen := h.len
 have htl : (l.ops.take (o.n - 1).toNat).length = (o.n - 1).toNat := by rw [List.length_take]; omega
 refine ⟨fun i x hx => ?_, ?_⟩
 ·dsimp only at hx
  by_cases hi : i < (o.n - 1).toNat
  ·rw [List.getElem?_append_left (by omega), List.getElem?_take, if_pos hi] at hx; exact h.at_ i x hx
  ·rw [List.getElem?_append_right (by omega), htl] at hx
   have := h3 _ x hx
   exact ⟨by omega, this.2⟩
 ·dsimp only
  rw [List.length_append, htl]
  obtain ⟨z, hz⟩ : ∃ z, (o :: r)[(o :: r).length - 1]? = some z := ⟨_, List.getElem?_eq_getElem (by simp)⟩
  have q := h3 _ z hz
  have := opOk_b q.2
  have hl : 1 ≤ (o :: r).length := by simp
  omega
end Go.Proofs.Ytheilpcbilnadaa

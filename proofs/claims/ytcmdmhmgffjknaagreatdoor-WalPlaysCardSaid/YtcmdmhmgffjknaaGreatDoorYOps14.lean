/- Texts compared by order; rows cut at a place and put together anew. -/
import Derived.Test.YtcmdmhmgffjknaaGreatDoorYOps13
import Derived.Deep.Upon
namespace Go.Sx
open Go
set_option linter.unusedVariables false
section
variable {C : Cx} {e : Env} {Rs : List HP} {x y : Operand} {ty : TypeId} {T T2 : TypeId}
theorem bytesLess_dec : ∀ (x y : List UInt8), Op.bytesLess x y = decide (x < y)
  | [], [] => by simp [Op.bytesLess]
  | _ :: _, [] => by simp [Op.bytesLess]
  | [], _ :: _ => by simp [Op.bytesLess]
  | a :: x, b :: y => by
    rw [Op.bytesLess, bytesLess_dec x y]
    simp only [List.cons_lt_cons_iff]
    by_cases h1 : a < b <;> by_cases h2 : a = b <;> by_cases h3 : x < y <;> simp [h1, h2, h3]
theorem r_slt {p q : List UInt8} (hx : ev e x = some (str p)) (hy : ev e y = some (str q)) : Yld C e Rs (.binOp .lss T x y T2) ty (.bool (decide (p < q))) :=
  r_bin hx hy (fun w => by simp [eqGuard, binOp, Op.stringOp, ByteArray.toList_eq, bytesLess_dec])
/-- 's[:b:b]'. -/
theorem r_slf {A : Option Addr} {n c E sz by_ : Nat} {zv : Value} {hi mx : Option Operand} {ag : Bool} (b : Nat) (hT : C.P.underlying T = some (.slice E)) (hE : Ty C.P E sz by_ zv ag) (hx : ev e x = some (.slice A n c)) (hhi : ∃ o kd, hi = some o ∧ ev e o = some (.int kd (b : Int))) (hmx : ∃ o kd, mx = some o ∧ ev e o = some (.int kd (b : Int))) (h3 : b ≤ c) :
    Yld C e Rs (.slice T x none hi mx) ty (.slice A b b) := by
  have h := r_sl3 (Rs := Rs) (ty := ty) (lo := none) 0 b b hT hE hx rfl hhi hmx (Nat.zero_le _) (Nat.le_refl _) h3
  have e2 : (if b = 0 then A else A.map (·.add (0 * sz))) = A := by
    split
    · rfl
    · rw [Nat.zero_mul]; cases A <;> simp [Addr.add]
  rw [e2] at h
  exact h
/-- append(s, xs...), s full, read anywhere: a new row. -/
theorem r_appf {A A2 : Option Addr} {n m c2 E sz by_ : Nat} {zv : Value} {t : TypeId} {xs news : List Value} (hT : C.P.underlying t = some (.slice E)) {ag : Bool} (hE : Ty C.P E sz by_ zv ag) (hz : zv.cells.size = sz) (hsz : 0 < sz)
    (hx : ev e x = some (.slice A n n)) (hy : ev e y = some (.slice A2 m c2)) (ho : Rdb C.W0 Rs A n sz xs) (hr : Rdb C.W0 Rs A2 m sz news) (hm : 0 < m) (h63 : n + m ≤ maxLen) (hb : (n + m) * by_ ≤ 140737488355328) :
    Acts C e Rs (.call { callee := .builtin .append, args := #[x, y], argTypes := #[t, t] }) ty (fun q : Option Addr × Nat => .slice q.1 (n + m) q.2) (fun q => sl q.1 (n + m) q.2 E sz (xs ++ news) :: Rs) := by
  intro a w ha hw
  obtain ⟨i, i1, i2, i3, i4⟩ := hE.get
  obtain ⟨b2, o2, rfl, hat⟩ := hr.at_ hm
  have hsmall : n + m ≤ 9223372036854775807 := by simp only [maxLen] at h63; omega
  have hlen : (xs ++ news).length = (n + m) * sz := by rw [List.length_append, ho.len, hr.len, Nat.add_mul]
  have hge := grownCap_ge w (n + m) n E
  have hge0 := grownCap_ge w (n + m) 0 E
  have grown : ∀ old, old < n + m → (w.drew.alloc (.cells (xs.toArray ++ news.toArray ++ Builtin.zeroCells zv.cells (grownCap w (n + m) old E - (n + m))) E)).ownsRow C.W0.heap.size E sz
        (.slice (some ⟨w.heap.size, 0, none⟩) (n + m) (grownCap w (n + m) old E)) (n + m) (xs ++ news) ∧
      w.grownBy (w.drew.alloc (.cells (xs.toArray ++ news.toArray ++ Builtin.zeroCells zv.cells (grownCap w (n + m) old E - (n + m))) E)) (Value.slice none 0 0).ownBlock := by
    intro old ho2
    have hge := grownCap_ge w (n + m) old E
    have hcm : grownCap w (n + m) old E ≤ maxLen := grownCap_le_maxLen w (n + m) old E h63
    refine ⟨⟨hlen, .inr ⟨w.heap.size, _, _, rfl, hw.size, heap_alloc_new w.drew _, hge, hcm, ?_, ?_⟩⟩, ⟨rfl, rfl, rfl, by simp, fun k hk _ => heap_alloc_old w.drew _ hk⟩⟩
    · simp only [Array.size_append, List.size_toArray, size_zeroCells, hz, ho.len, hr.len, ← Nat.add_mul]
      congr 1
      omega
    · simp only [Array.toList_append, List.append_assoc]
      rw [← List.append_assoc, ← hlen]
      exact List.take_left
  have hh2 : ∀ j u, news[j]? = some u → w.cell? ((⟨b2, o2, none⟩ : Addr).add j) = some u := fun j u hu => by rw [add_lit]; exact hat w hw j u hu
  suffices hsf : ∃ old, old < n + m ∧ (Builtin.append_ #[t, t] ty #[.slice A n n, .slice (some ⟨b2, o2, none⟩) m c2]).run C.P w =
      .ok (.slice (some ⟨w.heap.size, 0, none⟩) (n + m) (grownCap w (n + m) old E)) (w.drew.alloc (.cells (xs.toArray ++ news.toArray ++ Builtin.zeroCells zv.cells (grownCap w (n + m) old E - (n + m))) E)) by
    obtain ⟨old, hold, hrun⟩ := hsf
    obtain ⟨h2, h3⟩ := grown old hold
    obtain ⟨A', c', e1, ho⟩ := (hw.nil E sz).sl_new h2 h3 (.inr rfl)
    refine ⟨(A', c'), _, ?_, ho⟩
    simp [execOp, resolve, invoke, builtin, ha.ev hx, ha.ev hy, hrun, e1]
  rcases A with _ | ⟨b1, o1, p1⟩
  · have hn : n = 0 := by
      rcases Nat.eq_zero_or_pos n with h | h
      · exact h
      · obtain ⟨_, _, e1, _⟩ := ho.at_ h; cases e1
    subst hn
    have hx0 : xs = [] := List.eq_nil_of_length_eq_zero (by simpa using ho.len)
    subst hx0
    have hrun := run_append_nil (P := C.P) w t ty E i zv hT i1 i4 ⟨b2, o2, none⟩ m c2 news (by rw [i2]; exact hr.len) hh2 (by omega) (by omega) (by rw [i3]; simp only [Nat.zero_add] at hb; omega)
    exact ⟨0, by omega, by simpa using hrun⟩
  · have holds : ∀ j u, xs[j]? = some u → w.cell? ((⟨b1, o1, p1⟩ : Addr).add j) = some u := by
      intro j u hu
      rcases Nat.eq_zero_or_pos n with h | h
      · have hx0 : xs = [] := List.eq_nil_of_length_eq_zero (by rw [ho.len, h, Nat.zero_mul])
        subst hx0; simp at hu
      · obtain ⟨b', o', e1, k⟩ := ho.at_ h
        injection e1 with e1
        rw [e1, add_lit]
        exact k w hw j u hu
    have hrun := run_append_grow (P := C.P) w t ty E i zv hT i1 i4 ⟨b1, o1, p1⟩ n n xs (by rw [i2]; exact ho.len) holds ⟨b2, o2, none⟩ m c2 news (by rw [i2]; exact hr.len) hh2 (by omega) (by omega) (growslice_fits (by omega) (by rw [i3]; exact hb))
    exact ⟨n, by omega, hrun⟩
end
end Go.Sx

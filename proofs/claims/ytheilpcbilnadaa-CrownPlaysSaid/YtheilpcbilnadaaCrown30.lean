/- Crowns: the reference's ledger: rising lists of texts. -/
import Derived.Test.YtheilpcbilnadaaCrown29
namespace Go.Sx
open Go
set_option linter.unusedVariables false
section
variable {C : Cx} {e : Env} {Rs : List HP} {x y : Operand} {ty : TypeId} {T T2 : TypeId}
theorem bytesLess_dec : ∀ (x y : List UInt8), Op.bytesLess x y = decide (x < y)
 | [], [] => by simp [Op.bytesLess]
 | _ :: _, [] => by simp [Op.bytesLess]
 | [], _ :: _ => by simp [Op.bytesLess]
 | a :: x, b :: y => by
  rw [Op.bytesLess, bytesLess_dec x y]
  simp only [List.cons_lt_cons_iff]
  by_cases h1 : a < b <;> by_cases h2 : a = b <;> by_cases h3 : x < y <;> simp [h1, h2, h3]
theorem r_slt {p q : List UInt8} (hx : ev e x = some (str p)) (hy : ev e y = some (str q)) : Yld C e Rs (.binOp .lss T x y T2) ty (.bool (decide (p < q))) :=
 r_bin hx hy (fun w => by simp [eqGuard, binOp, Op.stringOp, ByteArray.toList_eq, bytesLess_dec])
/-- 's[:b:b]'. -/
theorem r_slf {A : Option Addr} {n c E sz by_ : Nat} {zv : Value} {hi mx : Option Operand} {ag : Bool} (b : Nat) (hT : C.P.underlying T = some (.slice E)) (hE : Ty C.P E sz by_ zv ag) (hx : ev e x = some (.slice A n c)) (hhi : ∃ o kd, hi = some o ∧ ev e o = some (.int kd (b : Int))) (hmx : ∃ o kd, mx = some o ∧ ev e o = some (.int kd (b : Int))) (h3 : b ≤ c) :
  Yld C e Rs (.slice T x none hi mx) ty (.slice A b b) := by
 have h := r_sl3 (Rs := Rs) (ty := ty) (lo := none) 0 b b hT hE hx rfl hhi hmx (Nat.zero_le _) (Nat.le_refl _) h3
 have e2 : (if b = 0 then A else A.map (·.add (0 * sz))) = A := by
  split
  ·rfl
  ·rw [Nat.zero_mul]; cases A <;> simp [Addr.add]
 rw [e2] at h
 exact h
/-- append(s, xs...), s full, read anywhere: a new row. -/
theorem r_appf {A A2 : Option Addr} {n m c2 E sz by_ : Nat} {zv : Value} {t : TypeId} {xs news : List Value} (hT : C.P.underlying t = some (.slice E)) {ag : Bool} (hE : Ty C.P E sz by_ zv ag) (hz : zv.cells.size = sz) (hsz : 0 < sz)
  (hx : ev e x = some (.slice A n n)) (hy : ev e y = some (.slice A2 m c2)) (ho : Rdb C.W0 Rs A n sz xs) (hr : Rdb C.W0 Rs A2 m sz news) (hm : 0 < m) (h63 : n + m ≤ maxLen) (hb : (n + m) * by_ ≤ 140737488355328) :
  Acts C e Rs (.call { callee := .builtin .append, args := #[x, y], argTypes := #[t, t] }) ty (fun q : Option Addr × Nat => .slice q.1 (n + m) q.2) (fun q => sl q.1 (n + m) q.2 E sz (xs ++ news) :: Rs) := by
 intro a w ha hw
 obtain ⟨i, i1, i2, i3, i4⟩ := hE.get
 obtain ⟨b2, o2, rfl, hat⟩ := hr.at_ hm
 have hsmall : n + m ≤ 9223372036854775807 := by simp only [maxLen] at h63; omega
 have hlen : (xs ++ news).length = (n + m) * sz := by rw [List.length_append, ho.len, hr.len, Nat.add_mul]
 have hge := grownCap_ge w (n + m) n E
 have hge0 := grownCap_ge w (n + m) 0 E
 have grown : ∀ old, old < n + m → (w.drew.alloc (.cells (xs.toArray ++ news.toArray ++ Builtin.zeroCells zv.cells (grownCap w (n + m) old E - (n + m))) E)).ownsRow C.W0.heap.size E sz
    (.slice (some ⟨w.heap.size, 0, none⟩) (n + m) (grownCap w (n + m) old E)) (n + m) (xs ++ news) ∧
   w.grownBy (w.drew.alloc (.cells (xs.toArray ++ news.toArray ++ Builtin.zeroCells zv.cells (grownCap w (n + m) old E - (n + m))) E)) (Value.slice none 0 0).ownBlock := by
  intro old ho2
  have hge := grownCap_ge w (n + m) old E
  have hcm : grownCap w (n + m) old E ≤ maxLen := grownCap_le_maxLen w (n + m) old E h63
  refine ⟨⟨hlen, .inr ⟨w.heap.size, _, _, rfl, hw.size, heap_alloc_new w.drew _, hge, hcm, ?_, ?_⟩⟩, ⟨rfl, rfl, rfl, by simp, fun k hk _ => heap_alloc_old w.drew _ hk⟩⟩
  ·simp only [Array.size_append, List.size_toArray, size_zeroCells, hz, ho.len, hr.len, ← Nat.add_mul]
   congr 1
   omega
  ·simp only [Array.toList_append, List.append_assoc]
   rw [← List.append_assoc, ← hlen]
   exact List.take_left
 have hh2 : ∀ j u, news[j]? = some u → w.cell? ((⟨b2, o2, none⟩ : Addr).add j) = some u := fun j u hu => by rw [add_lit]; exact hat w hw j u hu
 suffices hsf : ∃ old, old < n + m ∧ (Builtin.append_ #[t, t] ty #[.slice A n n, .slice (some ⟨b2, o2, none⟩) m c2]).run C.P w =
   .ok (.slice (some ⟨w.heap.size, 0, none⟩) (n + m) (grownCap w (n + m) old E)) (w.drew.alloc (.cells (xs.toArray ++ news.toArray ++ Builtin.zeroCells zv.cells (grownCap w (n + m) old E - (n + m))) E)) by
  obtain ⟨old, hold, hrun⟩ := hsf
  obtain ⟨h2, h3⟩ := grown old hold
  obtain ⟨A', c', e1, ho⟩ := (hw.nil E sz).sl_new h2 h3 (.inr rfl)
  refine ⟨(A', c'), _, ?_, ho⟩
  simp [execOp, resolve, invoke, builtin, ha.ev hx, ha.ev hy, hrun, e1]
 rcases A with _ | ⟨b1, o1, p1⟩
 ·have hn : n = 0 := by
   rcases Nat.eq_zero_or_pos n with h | h
   ·exact h
   ·obtain ⟨_, _, e1, _⟩ := ho.at_ h; cases e1
  subst hn
  have hx0 : xs = [] := List.eq_nil_of_length_eq_zero (by simpa using ho.len)
  subst hx0
  have hrun := run_append_nil (P := C.P) w t ty E i zv hT i1 i4 ⟨b2, o2, none⟩ m c2 news (by rw [i2]; exact hr.len) hh2 (by omega) (by omega) (by rw [i3]; simp only [Nat.zero_add] at hb; omega)
  exact ⟨0, by omega, by simpa using hrun⟩
 ·have holds : ∀ j u, xs[j]? = some u → w.cell? ((⟨b1, o1, p1⟩ : Addr).add j) = some u := by
   intro j u hu
   rcases Nat.eq_zero_or_pos n with h | h
   ·have hx0 : xs = [] := List.eq_nil_of_length_eq_zero (by rw [ho.len, h, Nat.zero_mul])
    subst hx0; simp at hu
   ·obtain ⟨b', o', e1, k⟩ := ho.at_ h
    injection e1 with e1
    rw [e1, add_lit]
    exact k w hw j u hu
  have hrun := run_append_grow (P := C.P) w t ty E i zv hT i1 i4 ⟨b1, o1, p1⟩ n n xs (by rw [i2]; exact ho.len) holds ⟨b2, o2, none⟩ m c2 news (by rw [i2]; exact hr.len) hh2 (by omega) (by omega) (growslice_fits (by omega) (by rw [i3]; exact hb))
  exact ⟨n, by omega, hrun⟩
end
end Go.Sx
namespace Go.Proofs.Ytheilpcbilnadaa
open Go.Sx
set_option linter.unusedVariables false
theorem rd_dropg {α : Type} {f : α → List Value} {m : Nat} (hf : ∀ x, (f x).length = m) {W0 : World} {Fr : List HP} {A : Option Addr} {L : List α} {c : Nat} (h : Rdb W0 Fr A L.length m (cells f L)) (hc : L.length ≤ c) {j : Nat} (hj : j ≤ L.length) : Rdb W0 Fr (if c = j then A else A.map (·.add (j * m))) (L.drop j).length m (cells f (L.drop j)) := by
 have h1 := h.cut (lo := j) (hi := L.length) (cap := c) hj (Nat.le_refl _) hc
 have hl : (L.drop j).length = L.length - j := List.length_drop ..
 rw [hl]
 rw [cells_drop hf, show ((L.length - j) * m) = (L.drop j).length * m by rw [hl], List.take_of_length_le (by rw [cells_len hf]; exact Nat.le_refl _)] at h1
 exact h1
/-- A text put into a rising list. -/
theorem ins_sorted {N : List (List UInt8)} {s : List UInt8} {i : Nat} (hs : N.Pairwise (· < ·)) (h1 : ∀ x ∈ N.take i, x < s) (h2 : ∀ x, N[i]? = some x → s < x) : ((N.take i ++ [s]) ++ N.drop i).Pairwise (· < ·) := by
 have hd : ∀ x ∈ N.drop i, s < x := by
  intro x hx
  cases hq : N.drop i with
  | nil => rw [hq] at hx; cases hx
  | cons y r =>
   have hy : N[i]? = some y := by
    have := List.getElem?_drop (xs := N) (i := i) (j := 0)
    rw [hq] at this; simpa using this.symm
   have hp : (N.drop i).Pairwise (· < ·) := hs.sublist (List.drop_sublist i N)
   rw [hq] at hp hx
   rcases List.mem_cons.1 hx with rfl | hx
   ·exact h2 _ hy
   ·exact List.lt_trans (h2 _ hy) ((List.pairwise_cons.1 hp).1 x hx)
 have hs2 : (N.take i ++ N.drop i).Pairwise (· < ·) := by rw [List.take_append_drop]; exact hs
 rw [List.pairwise_append] at hs2
 rw [List.append_assoc, List.pairwise_append]
 refine ⟨hs2.1, ?_, fun a ha b hb => ?_⟩
 ·rw [List.singleton_append, List.pairwise_cons]; exact ⟨hd, hs2.2.1⟩
 ·rw [List.singleton_append] at hb
  rcases List.mem_cons.1 hb with rfl | hb
  ·exact h1 a ha
  ·exact hs2.2.2 a ha b hb
theorem ins_mem {N : List (List UInt8)} {s : List UInt8} {i : Nat} (x : List UInt8) : x ∈ (N.take i ++ [s]) ++ N.drop i ↔ x ∈ N ∨ x = s := by
 have : x ∈ N ↔ x ∈ N.take i ∨ x ∈ N.drop i := by
  rw [← List.mem_append, List.take_append_drop]
 rw [List.mem_append, List.mem_append, List.mem_singleton, this]
 constructor
 ·rintro ((h | h) | h); exact .inl (.inl h); exact .inr h; exact .inl (.inr h)
 ·rintro ((h | h) | h); exact .inl (.inl h); exact .inr h; exact .inl (.inr h)
theorem not_lt_ne : ∀ {a b : List UInt8}, ¬ a < b → ¬ a = b → b < a
 | [], [], _, h => absurd rfl h
 | [], y :: b, h, _ => absurd (List.nil_lt_cons ..) h
 | x :: a, [], _, _ => List.nil_lt_cons ..
 | x :: a, y :: b, h1, h2 => by
  rw [List.cons_lt_cons_iff] at h1 ⊢
  by_cases hxy : x = y
  ·subst hxy
   exact .inr ⟨rfl, not_lt_ne (fun q => h1 (.inr ⟨rfl, q⟩)) (fun q => h2 (by rw [q]))⟩
  ·refine .inl ?_
   have h3 : ¬ x < y := fun q => h1 (.inl q)
   rw [UInt8.lt_iff_toNat_lt] at h3 ⊢
   have h4 : x.toNat ≠ y.toNat := fun q => hxy (UInt8.toNat_inj.1 q)
   omega
theorem rd_takei {α : Type} {f : α → List Value} {m : Nat} (hf : ∀ x, (f x).length = m) {W0 : World} {Fr : List HP} {A : Option Addr} {L : List α} (h : Rdb W0 Fr A L.length m (cells f L)) {j : Nat} (hj : j ≤ L.length) : Rdb W0 Fr A j m (cells f (L.take j)) := by
 have := rd_take hf h hj
 rwa [show (L.take j).length = j by rw [List.length_take]; omega] at this
set_option maxHeartbeats 1000000 in
theorem puts_tr {W0 : World} {Fr : List HP} (A : Option Addr) (c : Nat) (N : List (List UInt8)) (s : List UInt8) (hN : N.length ≤ 100000) (hs : N.Pairwise (· < ·)) :
  Tr W0 Try.prog 94 [.slice A N.length c, str s] (sl A N.length c 9 1 (cells sv1 N) :: Fr) (fun v Rs' => ∃ A2 c2 N2, v = .slice A2 N2.length c2 ∧ Rs' = sl A2 N2.length c2 9 1 (cells sv1 N2) :: Fr ∧ N2.Pairwise (· < ·) ∧ (∀ x, x ∈ N2 ↔ x ∈ N ∨ x = s) ∧ N2.length ≤ N.length + 1) := by
 refine Entry.tr (N := 48) (rs := [.tmp 4]) ⟨_, Try.func94, rfl, by kernel_rfl, rfl, rfl⟩ rfl ?_
 refine XC.seq fun K1 hK1 => ?_
 refine XC.region ?_
 refine x_v (r_as rfl) rfl ?_
 refine XL.nil ?_
 refine hK1 _ _ ?_
 refine XC.keep [(0, _), (1, _)] ⟨rfl, rfl, trivial⟩ ?_
 refine XC.seq fun K2 hK2 => ?_
 refine XC.sllen pK fun hl1 hl2 hl3 => ?_
 refine XC.slnn (A := A) pK fun hsl hsA => ?_
 have hrd : Rdb W0 [sl A N.length c 9 1 (cells sv1 N)] A N.length 1 (cells sv1 N) := Rdb.of_sl (.head _ _) hsl hsA
 refine XC.region ?_
 refine x_v (r_as rfl) rfl ?_
 refine XL.nil ?_
 refine hK2 _ _ ?_
 refine XC.keep [(0, _), (1, _), (5, _)] ⟨rfl, rfl, rfl, trivial⟩ ?_
 refine XC.seqcut (σ := Nat) (fun i => [(0, .slice A N.length c), (1, str s), (5, .int .i64 (i : Int))]) (fun i => sl A N.length c 9 1 (cells sv1 N) :: Fr) (fun i => i ≤ N.length ∧ (∀ x ∈ N.take i, x < s) ∧ ∀ x, N[i]? = some x → ¬ x < s) ?_ ?_
 ·refine XC.block ?_
  refine XC.loop (σ := Nat) (fun i => [(0, .slice A N.length c), (1, str s), (5, .int .i64 (i : Int))]) (fun i => sl A N.length c 9 1 (cells sv1 N) :: Fr) (fun i => i ≤ N.length ∧ ∀ x ∈ N.take i, x < s) (fun i => N.length - i) 0 ?_ ⟨rfl, rfl, rfl, trivial⟩ gS ?_
  ·exact ⟨Nat.zero_le _, fun x hx => by simp at hx⟩
  rintro i ⟨hi, hlt⟩
  refine XC.seq fun K4 hK4 => ?_
  refine XC.seq fun K5 hK5 => ?_
  refine XC.region ?_
  refine x_v (r_mv rfl) rfl ?_
  refine x_v (r_mv rfl) rfl ?_
  refine x_v (r_lensl Try.underlying29 rfl) rfl ?_
  refine x_v (r_lt rfl rfl) rfl ?_
  refine x_v (r_mv rfl) rfl ?_
  refine XL.splitd 11 rfl (fun hg11 => ?_) (fun hg11 => ?_)
  ·refine x_want rfl rfl rfl ?_
   obtain ⟨x, hx⟩ : ∃ x, N[i]? = some x := ⟨_, List.getElem?_eq_getElem (by omega)⟩
   obtain ⟨sb, so, hpA, hat⟩ := hrd.at_ (by omega)
   refine x_v (r_mv rfl) rfl ?_
   refine x_want rfl rfl rfl ?_
   refine x_v (r_mv rfl) rfl ?_
   refine x_want rfl rfl rfl ?_
   refine x_v (r_ia (k := i) Try.underlying29 ty9 (by rw [hpA]; rfl) rfl (by omega) (by omega)) rfl ?_
   refine x_want rfl rfl rfl ?_
   refine x_v (r_ldr ty9 rfl (fun w hw => hat w (Gets.own gS hw) _ _ (cells_get sv1_len N _ _ hx 0 _ rfl))) rfl ?_
   refine x_want rfl rfl rfl ?_
   refine x_v (r_mv rfl) rfl ?_
   refine x_want rfl rfl rfl ?_
   refine x_v (r_slt rfl rfl) rfl ?_
   refine x_v (r_pk_t rfl rfl) rfl ?_
   refine XL.nil ?_
   refine hK5 _ _ ?_
   refine XC.keep [(0, _), (1, _), (5, _), (18, _)] ⟨rfl, rfl, rfl, rfl, trivial⟩ ?_
   refine XC.cond_d rfl (fun hc1 => ?_) (fun hc1 => ?_)
   ·refine XC.skip ?_
    refine hK4 _ _ ?_
    refine XC.keep [(0, _), (1, _), (5, _)] ⟨rfl, rfl, rfl, trivial⟩ ?_
    refine XC.block ?_
    refine XC.region ?_
    refine x_v (r_mv rfl) rfl ?_
    refine x_v (r_add rfl rfl (by omega)) rfl ?_
    refine x_v (r_as rfl) rfl ?_
    refine XL.nil ?_
    refine ⟨i + 1, ?_, ?_, ⟨rfl, rfl, rfl, trivial⟩, gS⟩
    ·exact ⟨by omega, fun y hy => by (rw [tk_snoc hx, List.mem_append, List.mem_singleton] at hy; rcases hy with hy | hy; exact hlt y hy; rw [hy]; assumption)⟩
    ·omega
   ·refine XC.exit rfl ?_
    exact ⟨i, ⟨hi, hlt, fun y hy => by (rw [hx] at hy; injection hy with hy; rw [← hy]; assumption)⟩, ⟨rfl, rfl, rfl, trivial⟩, gS⟩
  ·refine x_unwant rfl rfl rfl rfl rfl ?_
   refine x_unwant rfl rfl rfl rfl rfl ?_
   refine x_unwant rfl rfl rfl rfl rfl ?_
   refine x_unwant rfl rfl rfl rfl rfl ?_
   refine x_unwant rfl rfl rfl rfl rfl ?_
   refine x_unwant rfl rfl rfl rfl rfl ?_
   refine x_v (r_pk_f rfl rfl) rfl ?_
   refine XL.nil ?_
   refine hK5 _ _ ?_
   refine XC.keep [(0, _), (1, _), (5, _), (18, _)] ⟨rfl, rfl, rfl, rfl, trivial⟩ ?_
   refine XC.cond_f rfl ?_
   refine XC.exit rfl ?_
   exact ⟨i, ⟨hi, hlt, fun y hy => by (have := (List.getElem?_eq_some_iff.1 hy).1; omega)⟩, ⟨rfl, rfl, rfl, trivial⟩, gS⟩
 ·rintro i ⟨hi, hlt, hge⟩
  refine XC.seqcut (σ := Unit) (fun u => [(0, .slice A N.length c), (1, str s), (5, .int .i64 (i : Int))]) (fun u => sl A N.length c 9 1 (cells sv1 N) :: Fr) (fun u => ∀ x, N[i]? = some x → s < x) ?_ ?_
  ·refine XC.seq fun K7 hK7 => ?_
   refine XC.region ?_
   refine x_v (r_mv rfl) rfl ?_
   refine x_v (r_mv rfl) rfl ?_
   refine x_v (r_lensl Try.underlying29 rfl) rfl ?_
   refine x_v (r_lt rfl rfl) rfl ?_
   refine x_v (r_mv rfl) rfl ?_
   refine XL.splitd 25 rfl (fun hg25 => ?_) (fun hg25 => ?_)
   ·refine x_want rfl rfl rfl ?_
    obtain ⟨x, hx⟩ : ∃ x, N[i]? = some x := ⟨_, List.getElem?_eq_getElem (by omega)⟩
    obtain ⟨sb, so, hpA, hat⟩ := hrd.at_ (by omega)
    refine x_v (r_mv rfl) rfl ?_
    refine x_want rfl rfl rfl ?_
    refine x_v (r_mv rfl) rfl ?_
    refine x_want rfl rfl rfl ?_
    refine x_v (r_ia (k := i) Try.underlying29 ty9 (by rw [hpA]; rfl) rfl (by omega) (by omega)) rfl ?_
    refine x_want rfl rfl rfl ?_
    refine x_v (r_ldr ty9 rfl (fun w hw => hat w (Gets.own gS hw) _ _ (cells_get sv1_len N _ _ hx 0 _ rfl))) rfl ?_
    refine x_want rfl rfl rfl ?_
    refine x_v (r_mv rfl) rfl ?_
    refine x_want rfl rfl rfl ?_
    refine x_v (r_seq rfl rfl) rfl ?_
    refine x_v (r_pk_t rfl rfl) rfl ?_
    refine XL.nil ?_
    refine hK7 _ _ ?_
    refine XC.keep [(0, _), (1, _), (5, _), (32, _)] ⟨rfl, rfl, rfl, rfl, trivial⟩ ?_
    refine XC.cond_d rfl (fun hc3 => ?_) (fun hc3 => ?_)
    ·refine XC.seq fun K8 hK8 => ?_
     refine XC.region ?_
     refine x_v (r_mv rfl) rfl ?_
     refine x_v (r_as rfl) rfl ?_
     refine XL.nil ?_
     refine hK8 _ _ ?_
     refine XC.keep [(4, _)] ⟨rfl, trivial⟩ ?_
     refine XC.ret ?_
     have hxs : x = s := by assumption
     rw [hxs] at hx
     exact fin1 rfl (⟨A, c, N, rfl, rfl, hs, fun y => ⟨.inl, fun q => q.elim id fun q => by rw [q]; exact List.mem_of_getElem? hx⟩, by omega⟩) gS
    ·refine XC.skip ?_
     exact ⟨(), fun y hy => by (rw [hx] at hy; injection hy with hy; have := hge _ hx; rw [← hy]; exact not_lt_ne this (by assumption)), ⟨rfl, rfl, rfl, trivial⟩, gS⟩
   ·refine x_unwant rfl rfl rfl rfl rfl ?_
    refine x_unwant rfl rfl rfl rfl rfl ?_
    refine x_unwant rfl rfl rfl rfl rfl ?_
    refine x_unwant rfl rfl rfl rfl rfl ?_
    refine x_unwant rfl rfl rfl rfl rfl ?_
    refine x_unwant rfl rfl rfl rfl rfl ?_
    refine x_v (r_pk_f rfl rfl) rfl ?_
    refine XL.nil ?_
    refine hK7 _ _ ?_
    refine XC.keep [(0, _), (1, _), (5, _), (32, _)] ⟨rfl, rfl, rfl, rfl, trivial⟩ ?_
    refine XC.cond_f rfl ?_
    refine XC.skip ?_
    exact ⟨(), fun y hy => by (have := (List.getElem?_eq_some_iff.1 hy).1; omega), ⟨rfl, rfl, rfl, trivial⟩, gS⟩
  ·rintro _ hgt
   refine XC.seq fun K9 hK9 => ?_
   refine XC.region ?_
   refine x_a (r_bs (vs := []) rfl rfl bs29_0_) rfl fun b34 => ?_
   refine XL.shut_ (n := 0) (c := 0) (sz := 1) (xs := []) pK (Nat.le_refl _) (Nat.zero_le _) rfl rfl ?_
   refine x_v (r_mv rfl) rfl ?_
   refine x_v (r_mv rfl) rfl ?_
   refine x_v (r_sll (i) (N.length) Try.underlying29 ty9 rfl ⟨_, by rfl⟩ rfl (by omega) (by omega)) rfl ?_
   have hdl : N.length - i = (N.drop i).length := (List.length_drop ..).symm
   rw [hdl]
   refine x_a (r_app Try.underlying29 ty9 rfl (by decide) rfl rfl pK ((rd_dropg sv1_len hrd hl2 hi).mono (fun w h => Gets.own gS h)) (cells_one' sv1_one _) (by unfold maxLen; omega) (by omega)) rfl fun ⟨A38, c38⟩ => ?_
   dsimp only
   rw [Nat.zero_add, List.nil_append]
   refine x_v (r_as rfl) rfl ?_
   refine XL.nil ?_
   refine hK9 _ _ ?_
   refine XC.keep [(0, _), (1, _), (5, _), (6, _)] ⟨rfl, rfl, rfl, rfl, trivial⟩ ?_
   refine XC.seq fun K10 hK10 => ?_
   refine XC.slnn (A := A38) pK fun hsl38 hsA38 => ?_
   refine XC.region ?_
   refine x_v (r_mv rfl) rfl ?_
   refine x_v (r_mv rfl) rfl ?_
   refine x_v (r_mv rfl) rfl ?_
   refine x_v (r_slf i Try.underlying29 ty9 rfl ⟨_, _, rfl, rfl⟩ ⟨_, _, rfl, rfl⟩ (by omega)) rfl ?_
   refine x_v (r_mv rfl) rfl ?_
   refine x_a (r_bs (vs := [_]) rfl ⟨rfl, rfl⟩ (bs29_1_0 _)) rfl fun b44 => ?_
   refine x_a (r_appf (xs := cells sv1 (N.take i)) (news := cells sv1 [s]) Try.underlying29 ty9 rfl (by decide) rfl rfl ((rd_takei sv1_len hrd hi).mono (fun w h => Gets.own gS h)) (Rdb.of_blk pK 0 rfl (fun _ _ h => by rw [Nat.zero_add]; exact h)) (by decide) (by unfold maxLen; omega) (by omega)) rfl fun ⟨A45, c45⟩ => ?_
   dsimp only
   rw [← cells_app]
   refine x_v (r_mv rfl) rfl ?_
   refine x_a (r_app Try.underlying29 ty9 rfl (by decide) rfl rfl pK (Rdb.of_sl pK hsl38 hsA38) (cells_one' sv1_one _) (by unfold maxLen; omega) (by omega)) rfl fun ⟨A47, c47⟩ => ?_
   dsimp only
   rw [← cells_app]
   refine x_v (r_as rfl) rfl ?_
   refine XL.nil ?_
   refine hK10 _ _ ?_
   refine XC.keep [(4, _)] ⟨rfl, trivial⟩ ?_
   refine XC.ret ?_
   have hln : i + 1 + (N.drop i).length = ((N.take i ++ [s]) ++ N.drop i).length := by (rw [List.length_append, List.length_append, List.length_take]; simp; omega)
   rw [hln]
   exact fin1 rfl (⟨A47, c47, _, rfl, rfl, ins_sorted hs hlt hgt, ins_mem, by rw [← hln]; rw [List.length_drop]; omega⟩) gS
end Go.Proofs.Ytheilpcbilnadaa

/- A call seen alone: what lay beside it stays; contracts that leave all that was there; numbers as bits. -/
import Derived.Test.YtcmdmhmgffjknaaGreatDoorYOps9
import Derived.Below
namespace Go.Sx
open Go.RowKit
set_option linter.unusedVariables false

theorem stars_app : ∀ {Rs Ss : List HP} {h1 h2 : Heap}, stars Rs h1 → stars Ss h2 → (∀ k, h1 k = none ∨ h2 k = none) → stars (Rs ++ Ss) (fun k => (h1 k).or (h2 k))
  | [], Ss, h1, h2, a, b, _ => by
    have e : (fun k => (h1 k).or (h2 k)) = h2 := by funext k; rw [a k]; rfl
    rw [e]; exact b
  | R :: Rs, Ss, h1, h2, ⟨g1, g2, r, s, d, u⟩, b, dis => by
    have d2 : ∀ k, g2 k = none ∨ h2 k = none := fun k => by
      rcases dis k with h | h
      · rw [u k] at h; left
        cases e1 : g1 k <;> cases e2 : g2 k <;> simp_all
      · exact .inr h
    refine ⟨g1, fun k => (g2 k).or (h2 k), r, stars_app s b d2, fun k => ?_, fun k => ?_⟩
    · rcases d k with h | h
      · exact .inl h
      · rcases dis k with h3 | h3
        · rw [u k, h] at h3; left
          cases e1 : g1 k <;> simp_all
        · right; show (g2 k).or (h2 k) = none; rw [h, h3]; rfl
    · show (h1 k).or (h2 k) = (g1 k).or ((g2 k).or (h2 k)); rw [u k]; cases g1 k <;> rfl
/-- A world in which all that was there is as it was. -/
theorem Own.of_below {W0 w w' : World} {Rs : List HP} (H : Own W0 w Rs) (h : Below w.heap.size w w') : Own W0 w' Rs := by
  have hs := H.size
  refine ⟨h.os.trans H.os, h.tape.trans H.tape, h.output.trans H.output, Nat.le_trans hs h.size, fun k hk => (h.block k (by omega)).trans (H.old k hk), ?_⟩
  obtain ⟨g, a, b⟩ := H.own
  refine ⟨g, a, fun k o e => ⟨(b k o e).1, ?_⟩⟩
  have hk := (b k o e).2
  rw [h.block k (heap_set_lt hk)]; exact hk
/-- What a part of the run owns, and what lay there before it. -/
theorem Own.frame {W0 w w' : World} {Fr Rs : List HP} (H : Own W0 w Fr) (h : Own w w' Rs) : Own W0 w' (Rs ++ Fr) := by
  have hs := H.size; have hs2 := h.size
  refine ⟨h.os.trans H.os, h.tape.trans H.tape, h.output.trans H.output, Nat.le_trans hs h.size, fun k hk => (h.old k (by omega)).trans (H.old k hk), ?_⟩
  obtain ⟨g, a, b⟩ := H.own
  obtain ⟨g2, a2, b2⟩ := h.own
  have lt : ∀ k o, g k = some o → k < w.heap.size := fun k o e => heap_set_lt (b k o e).2
  refine ⟨fun k => (g2 k).or (g k), stars_app a2 a fun k => ?_, fun k o e => ?_⟩
  · cases e1 : g2 k with
    | none => exact .inl rfl
    | some o =>
      right
      cases e2 : g k with
      | none => rfl
      | some o' => have := lt k o' e2; have := (b2 k o e1).1; omega
  · cases e1 : g2 k with
    | some o' =>
      simp [e1] at e; subst e
      exact ⟨by have := (b2 k o' e1).1; omega, (b2 k o' e1).2⟩
    | none =>
      simp [e1] at e
      exact ⟨(b k o e).1, by rw [h.old k (lt k o e)]; exact (b k o e).2⟩
/-- A call proved from no memory at all leaves what it is handed beside. -/
theorem Tr.frame {W0 : World} {P : Program} {f : FuncId} {args : List Value} {Fr : List HP} {Post : Value → List HP → Prop} (hth : ∃ fn c, P.funcs[f]? = some fn ∧ (fn.name == "runtime.NumGoroutine") = false ∧ fn.body = some c)
    (h : ∀ w, Own W0 w Fr → Tr w P f args [] Post) : Tr W0 P f args Fr (fun v Rs' => ∃ R1, Post v R1 ∧ Rs' = R1 ++ Fr) :=
  ⟨hth, fun w hw => ((h w hw).calls w (Own.start w)).mono fun e w' ⟨v, R1, p, he, o⟩ => ⟨v, R1 ++ Fr, ⟨R1, p, rfl⟩, he, hw.frame o⟩⟩
/-- A contract of the library that leaves all that was there. -/
theorem Tr.of_below {W0 : World} {P : Program} {f : FuncId} {args : List Value} {Rs : List HP} {Q : Value → Prop} (hth : ∃ fn c, P.funcs[f]? = some fn ∧ (fn.name == "runtime.NumGoroutine") = false ∧ fn.body = some c)
    (h : ∀ w, Own W0 w Rs → Calls P f args.toArray w fun e w' => ∃ v, Q v ∧ e = .returned v ∧ Below w.heap.size w w') : Tr W0 P f args Rs (fun v Rs' => Q v ∧ Rs' = Rs) :=
  ⟨hth, fun w hw => (h w hw).mono fun e w' ⟨v, q, he, b⟩ => ⟨v, Rs, ⟨q, rfl⟩, he, hw.of_below b⟩⟩
theorem Tr.there_of {P : Program} {f N : Nat} {rs : List ResultVar} {c : Code} (hE : Entry P f N rs c) : ∃ fn c, P.funcs[f]? = some fn ∧ (fn.name == "runtime.NumGoroutine") = false ∧ fn.body = some c := hE.there
/-- What could be read still can, in a later part of the run. -/
theorem Rdb.later {W0 w : World} {Fr : List HP} {A : Option Addr} {n sz : Nat} {xs : List Value} (hsz : 0 < sz) (h : Rdb W0 Fr A n sz xs) (H : Own W0 w Fr) (Gr : List HP) : Rdb w Gr A n sz xs := by
  refine Rdb.old h.len (fun hn => ?_) Gr
  obtain ⟨b, o, e, k⟩ := h.at_ hn
  have k' := k w H
  refine ⟨b, o, e, ?_, k'⟩
  have hx : 0 < xs.length := by rw [h.len]; exact Nat.mul_pos hn hsz
  have h0 := k' 0 _ (List.getElem?_eq_getElem hx)
  by_cases hb : b < w.heap.size
  · exact hb
  · have : w.heap[b]? = none := Array.getElem?_eq_none (by omega)
    simp [World.cell?, this] at h0

/-! ### numbers as bits -/
section ops
variable {C : Cx} {ops : Array Oper} {l : List Oper} {κ : Kt} {e : Env} {Rs : List HP}
variable {d : Nat} {x y z : Operand} {ty : TypeId} {pos : String} {aft : Array Edge} {v : Value} {T T2 : TypeId} {kd : IntKind} {i j : Int}
theorem ofInt_toNat {n : Nat} (p : BitVec n) : BitVec.ofInt n (p.toNat : Int) = p := by
  rw [BitVec.ofInt_natCast, BitVec.ofNat_toNat, BitVec.setWidth_eq]
theorem wrap_bv {k : IntKind} (hk : k.signed = false) (p : BitVec k.bits) : k.wrap (p.toNat : Int) = p.toNat := by
  unfold IntKind.wrap
  simp only [hk, Bool.false_and, Bool.false_eq_true, if_false]
  have h := p.isLt
  have e : ((2 : Int) ^ k.bits) = ((2 ^ k.bits : Nat) : Int) := by simp
  rw [e]; exact Int.emod_eq_of_lt (by omega) (by omega)
theorem r_bxor {k : IntKind} (hk : k.signed = false) (p q : BitVec k.bits) (hx : ev e x = some (.int k (p.toNat : Int))) (hy : ev e y = some (.int k (q.toNat : Int))) : Yld C e Rs (.binOp .xor T x y T2) ty (.int k ((p ^^^ q).toNat : Int)) :=
  r_bin hx hy (fun w => by
    have := wrap_bv hk (p ^^^ q)
    simp only [eqGuard, binOp, Op.intBits, ofInt_toNat, this]
    simp)
theorem r_band {k : IntKind} (hk : k.signed = false) (p q : BitVec k.bits) (hx : ev e x = some (.int k (p.toNat : Int))) (hy : ev e y = some (.int k (q.toNat : Int))) : Yld C e Rs (.binOp .and T x y T2) ty (.int k ((p &&& q).toNat : Int)) :=
  r_bin hx hy (fun w => by
    have := wrap_bv hk (p &&& q)
    simp only [eqGuard, binOp, Op.intBits, ofInt_toNat, this]
    simp)
theorem r_bor {k : IntKind} (hk : k.signed = false) (p q : BitVec k.bits) (hx : ev e x = some (.int k (p.toNat : Int))) (hy : ev e y = some (.int k (q.toNat : Int))) : Yld C e Rs (.binOp .or T x y T2) ty (.int k ((p ||| q).toNat : Int)) :=
  r_bin hx hy (fun w => by
    have := wrap_bv hk (p ||| q)
    simp only [eqGuard, binOp, Op.intBits, ofInt_toNat, this]
    simp)
theorem pow_cast (n : Nat) : ((2 : Int) ^ n) = ((2 ^ n : Nat) : Int) := by simp
theorem r_bshr {k k2 : IntKind} (n : Nat) (hn : n ≤ k.bits) (p : BitVec k.bits) (hx : ev e x = some (.int k (p.toNat : Int))) (hy : ev e y = some (.int k2 (n : Int))) : Yld C e Rs (.binOp .shr T x y T2) ty (.int k ((p >>> n).toNat : Int)) :=
  r_bin hx hy (fun w => by
    have e1 : min ((n : Int)).toNat k.bits = n := by omega
    have e2 : ((p.toNat : Int)).fdiv (2 ^ n) = ((p >>> n).toNat : Int) := by
      rw [BitVec.toNat_ushiftRight, Nat.shiftRight_eq_div_pow, pow_cast, Int.fdiv_eq_ediv_of_nonneg _ (Int.natCast_nonneg _), ← Int.natCast_ediv]
    have e3 : ¬ ((n : Int) < 0) := by omega
    show Sem.run C.P (Op.shift .shr k (p.toNat : Int) k2 (n : Int)) w = _
    simp only [Op.shift, if_neg e3, e1, e2]
    rfl)
theorem r_bshl {k k2 : IntKind} (hk : k.signed = false) (n : Nat) (hn : n ≤ k.bits) (p : BitVec k.bits) (hx : ev e x = some (.int k (p.toNat : Int))) (hy : ev e y = some (.int k2 (n : Int))) : Yld C e Rs (.binOp .shl T x y T2) ty (.int k ((p <<< n).toNat : Int)) :=
  r_bin hx hy (fun w => by
    have e1 : min ((n : Int)).toNat k.bits = n := by omega
    have e2 : k.wrap ((p.toNat : Int) * 2 ^ n) = ((p <<< n).toNat : Int) := by
      unfold IntKind.wrap
      simp only [hk, Bool.false_and, Bool.false_eq_true, if_false]
      rw [BitVec.toNat_shiftLeft, Nat.shiftLeft_eq, pow_cast, pow_cast, ← Int.natCast_mul, ← Int.natCast_emod]
    have e3 : ¬ ((n : Int) < 0) := by omega
    show Sem.run C.P (Op.shift .shl k (p.toNat : Int) k2 (n : Int)) w = _
    simp only [Op.shift, if_neg e3, e1, e2]
    rfl)
theorem r_bneg {k : IntKind} (hk : k.signed = false) (p : BitVec k.bits) (hx : ev e x = some (.int k (p.toNat : Int))) : Yld C e Rs (.unOp .neg T x) ty (.int k ((-p).toNat : Int)) := by
  intro a w ha _
  have e2 : k.wrap (0 - (p.toNat : Int)) = ((-p).toNat : Int) := by
    unfold IntKind.wrap
    simp only [hk, Bool.false_and, Bool.false_eq_true, if_false]
    rw [BitVec.toNat_neg, pow_cast]
    have h := p.isLt
    rw [show (0 - (p.toNat : Int)) = ((2 ^ k.bits - p.toNat : Nat) : Int) - ((2 ^ k.bits : Nat) : Int) by omega, Int.sub_emod_right, Int.natCast_emod]
  have e3 : (execOp a.eval ⟨none, .unOp .neg T x, ty, "", #[], none⟩) = (do let v ← Op.unary .neg (a.eval x); pure (.value v)) := rfl
  rw [e3, ha.ev hx]
  show Sem.run C.P (do let v ← Op.intArith .sub k 0 (p.toNat : Int); pure (Next.value v)) w = _
  simp only [Op.intArith, e2]
  rfl
theorem r_bnot32 (p : BitVec 32) (hx : ev e x = some (.int .u32 (p.toNat : Int))) : Yld C e Rs (.unOp .xor T x) ty (.int .u32 ((~~~p).toNat : Int)) := by
  intro a w ha _
  have e1 : BitVec.ofInt 32 (IntKind.max .u32) = BitVec.allOnes 32 := by decide
  have e2 : BitVec.ofInt 32 (p.toNat : Int) = p := ofInt_toNat p
  have e4 : IntKind.u32.wrap ((~~~p : BitVec 32).toNat : Int) = ((~~~p : BitVec 32).toNat : Int) := wrap_bv (k := .u32) rfl (~~~p)
  have e3 : (execOp a.eval ⟨none, .unOp .xor T x, ty, "", #[], none⟩) = (do let v ← Op.unary .xor (a.eval x); pure (.value v)) := rfl
  rw [e3, ha.ev hx]
  show Sem.run C.P (do let v ← (pure (.int .u32 (IntKind.u32.wrap ((BitVec.ofInt 32 (IntKind.max .u32) ^^^ BitVec.ofInt 32 (p.toNat : Int)).toNat : Int))) : Sem Value); pure (Next.value v)) w = _
  rw [e1, e2, ← BitVec.not_def, e4]
  rfl
/-- From one unsigned kind to another one. -/
theorem r_bcv {k k' : IntKind} {s t : TypeId} {D : TypeDesc} (hk : k'.signed = false) (p : BitVec k.bits) (hs : C.P.underlying s = some D) (ht : C.P.underlying t = some (.int k')) (hx : ev e x = some (.int k (p.toNat : Int))) : Yld C e Rs (.convert s t x) ty (.int k' ((p.setWidth k'.bits).toNat : Int)) := by
  have h := r_cvi (C := C) (Rs := Rs) (ty := ty) hs ht hx
  have e2 : k'.wrap (p.toNat : Int) = ((p.setWidth k'.bits).toNat : Int) := by
    unfold IntKind.wrap
    simp only [hk, Bool.false_and, Bool.false_eq_true, if_false]
    rw [BitVec.toNat_setWidth, pow_cast, ← Int.natCast_emod]
  rw [e2] at h; exact h
end ops
end Go.Sx

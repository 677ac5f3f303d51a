/- Still more rules: nil tests, conversions, function values, division. -/
import Derived.Test.YtcmdmhmgffjknaaGreatDoorYOps3
namespace Go.Sx
section ops
variable {C : Cx} {e : Env} {Rs : List HP}
variable {d : Nat} {x y z : Operand} {ty : TypeId} {v : Value} {T : TypeId} {T2 : TypeId} {kd : IntKind} {i j : Int}

theorem r_peq_some {p : Addr} {E : TypeId} (hT : C.P.underlying T = some (.pointer E)) (hx : ev e x = some (.pointer (some p))) (hy : ev e y = some (.pointer none)) : Yld C e Rs (.binOp .eql T x y T2) ty (.bool false) := r_peq hT hx hy
theorem r_peq_nil {E : TypeId} (hT : C.P.underlying T = some (.pointer E)) (hx : ev e x = some (.pointer none)) (hy : ev e y = some (.pointer none)) : Yld C e Rs (.binOp .eql T x y T2) ty (.bool true) := r_peq hT hx hy
theorem r_pne_some {p : Addr} {E : TypeId} (hT : C.P.underlying T = some (.pointer E)) (hx : ev e x = some (.pointer (some p))) (hy : ev e y = some (.pointer none)) : Yld C e Rs (.binOp .neq T x y T2) ty (.bool true) := r_pne hT hx hy
theorem r_pne_nil {E : TypeId} (hT : C.P.underlying T = some (.pointer E)) (hx : ev e x = some (.pointer none)) (hy : ev e y = some (.pointer none)) : Yld C e Rs (.binOp .neq T x y T2) ty (.bool false) := r_pne hT hx hy

theorem r_mfv {fn : Fn} {cap : List Operand} {cs : List Value} (hv : evs e cap cs) : Yld C e Rs (.makeFunc fn #[] cap.toArray) ty (.func fn #[] cs.toArray) := by
  intro a w ha _
  have h1 := evs_map ha cap cs hv
  simp [execOp, Instr.makeFunc, h1]

theorem r_cvi {s t : TypeId} {D : TypeDesc} {k : IntKind} (hs : C.P.underlying s = some D) (ht : C.P.underlying t = some (.int k)) (hx : ev e x = some (.int kd i)) : Yld C e Rs (.convert s t x) ty (.int k (k.wrap i)) := by
  intro a w ha _
  simp [execOp, ha.ev hx, convert, run_underlying hs, run_underlying ht, Conv.intToInt]
theorem r_cvn {s t : TypeId} {D : TypeDesc} {k : IntKind} (hs : C.P.underlying s = some D) (ht : C.P.underlying t = some (.int k)) (hx : ev e x = some (.int kd i)) (h : k.wrap i = i) : Yld C e Rs (.convert s t x) ty (.int k i) := by
  have := r_cvi (Rs := Rs) (ty := ty) hs ht hx
  rwa [h] at this
theorem r_cvs {s t : TypeId} {p : List UInt8} (hs : C.P.underlying s = some .string) (ht : C.P.underlying t = some .string) (hx : ev e x = some (str p)) : Yld C e Rs (.convert s t x) ty (str p) := by
  intro a w ha _
  simp [execOp, ha.ev hx, convert, run_underlying hs, run_underlying ht]

theorem r_quo (hx : ev e x = some (.int .i64 i)) (hy : ev e y = some (.int .i64 j)) (hb : 0 ≤ i ∧ i < 9223372036854775808 ∧ 1 ≤ j) : Yld C e Rs (.binOp .quo T x y T2) ty (.int .i64 (i / j)) :=
  r_bin hx hy (fun w => by
    have h1 : ¬ j = 0 := by omega
    have h2 : i.tdiv j = i / j := by rw [Int.tdiv_eq_ediv_of_nonneg hb.1]
    have h3 : 0 ≤ i / j := Int.ediv_nonneg hb.1 (by omega)
    have h4 : i / j ≤ i := Int.ediv_le_self _ hb.1
    have h5 : IntKind.i64.wrap (i / j) = i / j := IntWalk.i64_in _ (by omega)
    simp [eqGuard, binOp, Op.intDiv, h1, h2, h5])
theorem r_rem (hx : ev e x = some (.int .i64 i)) (hy : ev e y = some (.int .i64 j)) (hb : 0 ≤ i ∧ 1 ≤ j) : Yld C e Rs (.binOp .rem T x y T2) ty (.int .i64 (i % j)) :=
  r_bin hx hy (fun w => by
    have h1 : ¬ j = 0 := by omega
    have h2 : i.tmod j = i % j := Int.tmod_eq_emod_of_nonneg hb.1
    simp [eqGuard, binOp, Op.intDiv, h1, h2])
theorem r_remt (hx : ev e x = some (.int kd i)) (hy : ev e y = some (.int kd j)) (hb : ¬ j = 0) : Yld C e Rs (.binOp .rem T x y T2) ty (.int kd (i.tmod j)) :=
  r_bin hx hy (fun w => by simp [eqGuard, binOp, Op.intDiv, hb])
theorem r_quot (hx : ev e x = some (.int kd i)) (hy : ev e y = some (.int kd j)) (hb : ¬ j = 0) : Yld C e Rs (.binOp .quo T x y T2) ty (.int kd (kd.wrap (i.tdiv j))) :=
  r_bin hx hy (fun w => by simp [eqGuard, binOp, Op.intDiv, hb])

theorem r_sl3 {A : Option Addr} {n c E sz by_ : Nat} {zv : Value} {lo hi mx : Option Operand} {ag : Bool} (a b m : Nat) (hT : C.P.underlying T = some (.slice E)) (hE : Ty C.P E sz by_ zv ag) (hx : ev e x = some (.slice A n c)) (hlo : loOf e lo a) (hhi : ∃ o kd, hi = some o ∧ ev e o = some (.int kd (b : Int))) (hmx : ∃ o kd, mx = some o ∧ ev e o = some (.int kd (m : Int))) (h1 : a ≤ b) (h2 : b ≤ m) (h3 : m ≤ c) :
    Yld C e Rs (.slice T x lo hi mx) ty (.slice (if m = a then A else A.map (·.add (a * sz))) (b - a) (m - a)) := by
  obtain ⟨j, i1, i2, _, _⟩ := hE.get
  obtain ⟨oh, kh, rfl, hh⟩ := hhi
  obtain ⟨om, km, rfl, hm⟩ := hmx
  intro act w ha _
  cases lo with
  | none =>
    simp only [loOf] at hlo; subst hlo
    simp [execOp, ha.ev hx, ha.ev hh, ha.ev hm, Instr.sliceAt, Instr.slice, Instr.sliceBounds, Instr.sliceBound, asIntOf, run_underlying hT, h2, h3, sizeOf, typeInfo, i1, i2]
  | some r =>
    obtain ⟨kr, hr⟩ := hlo
    simp [execOp, ha.ev hx, ha.ev hh, ha.ev hm, ha.ev hr, Instr.sliceAt, Instr.slice, Instr.sliceBounds, Instr.sliceBound, asIntOf, run_underlying hT, h1, h2, h3, sizeOf, typeInfo, i1, i2]

theorem r_min3 {u1 u2 u3 : TypeId} {m : Int} (hx : ev e x = some (.int kd i)) (hy : ev e y = some (.int kd j)) (hz : ev e z = some (.int kd m)) :
    Yld C e Rs (.call { callee := .builtin .min, args := #[x, y, z], argTypes := #[u1, u2, u3] }) ty (.int kd (min (min i j) m)) := by
  intro a w ha _
  have h : (if j < i then j else i) = min i j := by rw [Int.min_def]; split <;> split <;> omega
  have h2 : ∀ q : Int, (if m < q then m else q) = min q m := fun q => by rw [Int.min_def]; split <;> split <;> omega
  simp [execOp, resolve, invoke, builtin, Builtin.min_, Builtin.min2, ha.ev hx, ha.ev hy, ha.ev hz, h, h2]
theorem r_max3 {u1 u2 u3 : TypeId} {m : Int} (hx : ev e x = some (.int kd i)) (hy : ev e y = some (.int kd j)) (hz : ev e z = some (.int kd m)) :
    Yld C e Rs (.call { callee := .builtin .max, args := #[x, y, z], argTypes := #[u1, u2, u3] }) ty (.int kd (max (max i j) m)) := by
  intro a w ha _
  have h : (if i < j then j else i) = max i j := by rw [Int.max_def]; split <;> split <;> omega
  have h2 : ∀ q : Int, (if q < m then m else q) = max q m := fun q => by rw [Int.max_def]; split <;> split <;> omega
  simp [execOp, resolve, invoke, builtin, Builtin.max_, Builtin.max2, ha.ev hx, ha.ev hy, ha.ev hz, h, h2]

/-! cells of a list of things, each of 'm' cells -/
theorem Over.mk {cs : List Value} (o : Nat) (vs : List Value) (h : o + vs.length ≤ cs.length) : Over cs o vs (cs.take o ++ vs ++ cs.drop (o + vs.length)) := by
  induction cs generalizing o vs with
  | nil => simp at h; obtain ⟨rfl, rfl⟩ := h; exact .nil _
  | cons c cs ih =>
    cases o with
    | zero => cases vs with
      | nil => simpa using Over.nil (c :: cs)
      | cons v vs => simpa using Over.put c v (ih 0 vs (by simp at h ⊢; omega))
    | succ o =>
      have := ih o vs (by simp at h; omega)
      have e : o + 1 + vs.length = (o + vs.length) + 1 := by omega
      simpa [e] using Over.skip c this

def cells {α : Type} (f : α → List Value) (L : List α) : List Value := L.flatMap f
theorem cells_nil {α : Type} (f : α → List Value) : cells f [] = [] := rfl
theorem cells_app {α : Type} (f : α → List Value) (L M : List α) : cells f (L ++ M) = cells f L ++ cells f M := by simp [cells]
theorem cells_cons {α : Type} (f : α → List Value) (x : α) (L : List α) : cells f (x :: L) = f x ++ cells f L := by simp [cells]
theorem cells_one {α : Type} (f : α → List Value) (x : α) : cells f [x] = f x := by simp [cells]
theorem cells_len {α : Type} {f : α → List Value} {m : Nat} (hf : ∀ x, (f x).length = m) : ∀ L : List α, (cells f L).length = L.length * m
  | [] => by simp [cells]
  | x :: L => by rw [cells_cons, List.length_append, hf, cells_len hf L, List.length_cons, Nat.add_mul]; omega
theorem cells_get {α : Type} {f : α → List Value} {m : Nat} (hf : ∀ x, (f x).length = m) : ∀ (L : List α) (k : Nat) (x : α), L[k]? = some x → ∀ j u, (f x)[j]? = some u → (cells f L)[k * m + j]? = some u
  | [], k, x, h, _, _, _ => by simp at h
  | y :: L, 0, x, h, j, u, hu => by
    simp at h; subst h
    rw [cells_cons, Nat.zero_mul, Nat.zero_add, List.getElem?_append_left (List.getElem?_eq_some_iff.1 hu).1]; exact hu
  | y :: L, k + 1, x, h, j, u, hu => by
    rw [cells_cons, List.getElem?_append_right (by rw [hf, Nat.add_mul]; omega), hf, show (k + 1) * m + j - m = k * m + j by rw [Nat.add_mul]; omega]
    exact cells_get hf L k x (by simpa using h) j u hu
theorem cells_take {α : Type} {f : α → List Value} {m : Nat} (hf : ∀ x, (f x).length = m) (L : List α) (k : Nat) : (cells f L).take (k * m) = cells f (L.take k) := by
  induction L generalizing k with
  | nil => simp [cells]
  | cons x L ih => cases k with
    | zero => simp [cells]
    | succ k =>
      rw [List.take_succ_cons, cells_cons, cells_cons, ← ih k, List.take_append, hf, show (k + 1) * m - m = k * m by rw [Nat.add_mul]; omega, List.take_of_length_le (by rw [hf, Nat.add_mul]; omega)]
theorem cells_drop {α : Type} {f : α → List Value} {m : Nat} (hf : ∀ x, (f x).length = m) (L : List α) (k : Nat) : (cells f L).drop (k * m) = cells f (L.drop k) := by
  induction L generalizing k with
  | nil => simp [cells]
  | cons x L ih => cases k with
    | zero => simp [cells]
    | succ k =>
      rw [List.drop_succ_cons, cells_cons, ← ih k, List.drop_append, hf, show (k + 1) * m - m = k * m by rw [Nat.add_mul]; omega, List.drop_of_length_le (by rw [hf, Nat.add_mul]; omega), List.nil_append]
theorem cells_one' {α : Type} {f : α → List Value} (hf : ∀ x, (f x).all (·.oneCell') = true) (L : List α) : (cells f L).all (·.oneCell') = true := by
  simp only [cells, List.all_flatMap]
  exact List.all_eq_true.2 fun x _ => hf x
end ops
end Go.Sx

/- More rules: strings, slices, guards, calls, builtins. -/
import Derived.Test.YtcmdmhmgffjknaaGreatDoorYOps
import Derived.WalkSpells
import Derived.WalkLawsBesides
import Derived.Maps.AppendAt
import Derived.Lib.Strings
namespace Go.Sx

/-- A slice over the head of a block that is owned: its first cells are 'xs'. -/
def sl (A : Option Addr) (n c : Nat) (E sz : TypeId) (xs : List Value) : HP := fun h => xs.length = n * sz ∧
  ((A = none ∧ n = 0 ∧ c = 0 ∧ emp h) ∨ ∃ g cur, A = some ⟨g, 0, none⟩ ∧ n ≤ c ∧ c ≤ maxLen ∧ cur.length = c * sz ∧ cur.take (n * sz) = xs ∧ blk g E cur h)

theorem Own.imp {W0 w : World} {R R' : HP} {Rs : List HP} (H : Own W0 w (R :: Rs)) (h : ∀ h, R h → R' h) : Own W0 w (R' :: Rs) :=
  ⟨H.os, H.tape, H.output, H.size, H.old, let ⟨g, a, b⟩ := H.own; ⟨g, sep_mono h (fun _ x => x) a, b⟩⟩
theorem Own.fact {W0 w : World} {R : HP} {Rs : List HP} {p : Prop} (H : Own W0 w (R :: Rs)) (h : ∀ h, R h → p) : p := by
  obtain ⟨g, ⟨h1, _, r, _⟩, _⟩ := H.own
  exact h h1 r
theorem sl_nil (E sz : Nat) {h : Heap} (he : emp h) : sl none 0 0 E sz [] h := ⟨by simp, .inl ⟨rfl, rfl, rfl, he⟩⟩
/-- A nil slice is owned for nothing. -/
theorem Own.nil {W0 w : World} {Rs : List HP} (H : Own W0 w Rs) (E sz : Nat) : Own W0 w (sl none 0 0 E sz [] :: Rs) :=
  ⟨H.os, H.tape, H.output, H.size, H.old, let ⟨g, a, b⟩ := H.own; ⟨g, ⟨fun _ => none, g, sl_nil E sz (fun _ => rfl), a, fun _ => .inl rfl, fun k => by simp⟩, b⟩⟩
theorem Own.sl_len {W0 w : World} {Rs : List HP} {A : Option Addr} {n c E sz : Nat} {xs : List Value} (H : Own W0 w (sl A n c E sz xs :: Rs)) : xs.length = n * sz ∧ n ≤ c ∧ c ≤ maxLen :=
  H.fact fun h ⟨a, b⟩ => ⟨a, by
    rcases b with ⟨_, b, c, _⟩ | ⟨g, cur, _, b, c, _⟩
    · subst b; subst c; simp
    · exact ⟨b, c⟩⟩
/-- It is nil, or a block's head. -/
theorem Own.sl_open {W0 w : World} {Rs : List HP} {A : Option Addr} {n c E sz : Nat} {xs : List Value} (H : Own W0 w (sl A n c E sz xs :: Rs)) :
    (A = none ∧ n = 0 ∧ c = 0 ∧ xs = [] ∧ Own W0 w Rs) ∨ ∃ g cur, A = some ⟨g, 0, none⟩ ∧ n ≤ c ∧ c ≤ maxLen ∧ cur.length = c * sz ∧ cur.take (n * sz) = xs ∧ Own W0 w (blk g E cur :: Rs) := by
  obtain ⟨h, ⟨h1, h2, ⟨hl, r⟩, s, d, u⟩, k⟩ := H.own
  rcases r with ⟨rfl, rfl, rfl, _⟩ | ⟨g, cur, a1, a2, a3, a4, a5, a6⟩
  · exact .inl ⟨rfl, rfl, rfl, List.eq_nil_of_length_eq_zero (by simpa using hl), H.tail⟩
  · exact .inr ⟨g, cur, a1, a2, a3, a4, a5, H.os, H.tape, H.output, H.size, H.old, h, ⟨h1, h2, a6, s, d, u⟩, k⟩
theorem Own.sl_shut {W0 w : World} {Rs : List HP} {g n c E sz : Nat} {cur xs : List Value} (H : Own W0 w (blk g E cur :: Rs)) (h1 : n ≤ c) (h2 : c ≤ maxLen) (h3 : cur.length = c * sz) (h4 : cur.take (n * sz) = xs) : Own W0 w (sl (some ⟨g, 0, none⟩) n c E sz xs :: Rs) :=
  H.imp fun h hb => ⟨by rw [← h4, List.length_take, h3, Nat.min_eq_left (Nat.mul_le_mul_right _ h1)], .inr ⟨g, cur, rfl, h1, h2, h3, h4, hb⟩⟩

/-- Whatever has memory 'Fr' can read these cells behind the address. -/
structure Rdb (W0 : World) (Fr : List HP) (A : Option Addr) (n sz : Nat) (xs : List Value) : Prop where
  len : xs.length = n * sz
  at_ : 0 < n → ∃ b o, A = some ⟨b, o, none⟩ ∧ ∀ w, Own W0 w Fr → ∀ j u, xs[j]? = some u → w.cell? ⟨b, o + j, none⟩ = some u

theorem Rdb.nil (W0 : World) (Fr : List HP) (sz : Nat) : Rdb W0 Fr Option.none 0 sz [] := ⟨by simp, fun h => absurd h (by omega)⟩
/-- 'Fr' is 'Rs' without some of its first ones. -/
inductive Suf : List HP → List HP → Prop
  | refl (Rs : List HP) : Suf Rs Rs
  | cons (R : HP) {Rs Fr : List HP} (h : Suf Fr Rs) : Suf Fr (R :: Rs)
theorem Suf.own {W0 w : World} {Fr Rs : List HP} (h : Suf Fr Rs) : Own W0 w Rs → Own W0 w Fr := by
  induction h with
  | refl => exact id
  | cons R h ih => exact fun H => ih H.tail
theorem Rdb.suf {W0 : World} {Fr Rs : List HP} {A : Option Addr} {n sz : Nat} {xs : List Value} (h : Rdb W0 Fr A n sz xs) (s : Suf Fr Rs) : Rdb W0 Rs A n sz xs :=
  ⟨h.len, fun hn => let ⟨b, o, e, k⟩ := h.at_ hn; ⟨b, o, e, fun w hw => k w (s.own hw)⟩⟩
theorem Rdb.mono {W0 : World} {Fr Rs : List HP} {A : Option Addr} {n sz : Nat} {xs : List Value} (h : Rdb W0 Fr A n sz xs) (s : ∀ w, Own W0 w Rs → Own W0 w Fr) : Rdb W0 Rs A n sz xs :=
  ⟨h.len, fun hn => let ⟨b, o, e, k⟩ := h.at_ hn; ⟨b, o, e, fun w hw => k w (s w hw)⟩⟩
/-- What lay there when all began. -/
theorem Rdb.old {W0 : World} {A : Option Addr} {n sz : Nat} {xs : List Value} (hl : xs.length = n * sz) (h : 0 < n → ∃ b o, A = some ⟨b, o, none⟩ ∧ b < W0.heap.size ∧ ∀ j u, xs[j]? = some u → W0.cell? ⟨b, o + j, none⟩ = some u) (Fr : List HP) : Rdb W0 Fr A n sz xs :=
  ⟨hl, fun hn => let ⟨b, o, e, hb, k⟩ := h hn; ⟨b, o, e, fun w hw j u hu => by
    have := k j u hu
    simpa [World.cell?, hw.old b hb] using this⟩⟩
theorem Rdb.of_blk {W0 : World} {Rs Fr : List HP} {b T n sz : Nat} {cs xs : List Value} (hp : Pick Rs (blk b T cs) Fr) (o : Nat) (hl : xs.length = n * sz) (h : ∀ j u, xs[j]? = some u → cs[o + j]? = some u) : Rdb W0 Rs (some ⟨b, o, none⟩) n sz xs :=
  ⟨hl, fun _ => ⟨b, o, rfl, fun w hw j u hu => by simp [World.cell?, (hw.pick hp).cells, h j u hu]⟩⟩
theorem Rdb.of_sl {W0 : World} {Rs Fr : List HP} {A : Option Addr} {n c E sz : Nat} {xs : List Value} (hp : Pick Rs (sl A n c E sz xs) Fr) (hl : xs.length = n * sz) (hA : 0 < n → ∃ g, A = some ⟨g, 0, none⟩) : Rdb W0 Rs A n sz xs :=
  ⟨hl, fun hn => by
    obtain ⟨g, rfl⟩ := hA hn
    refine ⟨g, 0, rfl, fun w hw j u hu => ?_⟩
    rcases (hw.pick hp).sl_open with ⟨h, _⟩ | ⟨g', cur, h, _, _, _, h5, hb⟩
    · cases h
    · simp only [Option.some.injEq, Addr.mk.injEq, and_true] at h
      subst h
      rw [← h5, List.getElem?_take] at hu
      split at hu
      · simp [World.cell?, hb.cells, hu]
      · cases hu⟩
theorem Rdb.cut {W0 : World} {Fr : List HP} {A : Option Addr} {n sz : Nat} {xs : List Value} (h : Rdb W0 Fr A n sz xs) {lo hi cap : Nat} (h1 : lo ≤ hi) (h2 : hi ≤ n) (h3 : n ≤ cap) :
    Rdb W0 Fr (if cap = lo then A else A.map (·.add (lo * sz))) (hi - lo) sz ((xs.drop (lo * sz)).take ((hi - lo) * sz)) := by
  refine ⟨by rw [List.length_take, List.length_drop, h.len, ← Nat.sub_mul, Nat.min_eq_left (Nat.mul_le_mul_right _ (by omega))], fun hn => ?_⟩
  obtain ⟨b, o, rfl, k⟩ := h.at_ (by omega)
  rw [if_neg (by omega)]
  refine ⟨b, o + lo * sz, by simp [add_lit], fun w hw j u hu => ?_⟩
  rw [List.getElem?_take] at hu
  split at hu
  · rw [Nat.add_assoc]; exact k w hw _ u (by simpa using hu)
  · cases hu

theorem str_size (p : List UInt8) : (⟨p.toArray⟩ : ByteArray).size = p.length := rfl
theorem beq_dec (p q : List UInt8) : (p == q) = decide (p = q) := by
  by_cases h : p = q <;> simp [h]

section ops
variable {C : Cx} {ops : Array Oper} {l : List Oper} {κ : Kt} {e : Env} {Rs : List HP}
variable {d : Nat} {x y z : Operand} {ty : TypeId} {pos : String} {aft : Array Edge} {v : Value} {T : TypeId} {T2 : TypeId} {kd : IntKind} {i j : Int}

/-! opening memory on the way -/
theorem XL.open_ {A : Option Addr} {n c E sz : Nat} {xs : List Value} {Fr : List HP} (hp : Pick Rs (sl A n c E sz xs) Fr) (hn : 0 < n) (k : ∀ g cur, A = some ⟨g, 0, none⟩ → n ≤ c → c ≤ maxLen → cur.length = c * sz → cur.take (n * sz) = xs → XL C ops l κ e (blk g E cur :: Fr)) : XL C ops l κ e Rs := by
  intro a w ha hw
  rcases (hw.pick hp).sl_open with ⟨_, h, _⟩ | ⟨g, cur, h1, h2, h3, h4, h5, hb⟩
  · omega
  · exact k g cur h1 h2 h3 h4 h5 a w ha hb
theorem XC.open_ {cd : Code} {A : Option Addr} {n c E sz : Nat} {xs : List Value} {Fr : List HP} (hp : Pick Rs (sl A n c E sz xs) Fr) (h0 : A = none → n = 0 → c = 0 → xs = [] → XC C cd κ e Fr)
    (k : ∀ g cur, A = some ⟨g, 0, none⟩ → n ≤ c → c ≤ maxLen → cur.length = c * sz → cur.take (n * sz) = xs → XC C cd κ e (blk g E cur :: Fr)) : XC C cd κ e Rs := by
  intro a w ha hw
  rcases (hw.pick hp).sl_open with ⟨h1, h2, h3, h4, hb⟩ | ⟨g, cur, h1, h2, h3, h4, h5, hb⟩
  · exact h0 h1 h2 h3 h4 a w ha hb
  · exact k g cur h1 h2 h3 h4 h5 a w ha hb
theorem XL.fact {R : HP} {Fr : List HP} {p : Prop} (hp : Pick Rs R Fr) (hf : ∀ w, Own C.W0 w (R :: Fr) → p) (k : p → XL C ops l κ e Rs) : XL C ops l κ e Rs := fun a w ha hw => k (hf w (hw.pick hp)) a w ha hw
theorem XC.fact {cd : Code} {R : HP} {Fr : List HP} {p : Prop} (hp : Pick Rs R Fr) (hf : ∀ w, Own C.W0 w (R :: Fr) → p) (k : p → XC C cd κ e Rs) : XC C cd κ e Rs := fun a w ha hw => k (hf w (hw.pick hp)) a w ha hw
theorem Tr.fact {W0 : World} {P : Program} {f : FuncId} {args : List Value} {Post : Value → List HP → Prop} {p : Prop} (hth : ∃ fn c, P.funcs[f]? = some fn ∧ (fn.name == "runtime.NumGoroutine") = false ∧ fn.body = some c) (hf : ∀ w, Own W0 w Rs → p) (k : p → Tr W0 P f args Rs Post) : Tr W0 P f args Rs Post :=
  ⟨hth, fun w hw => (k (hf w hw)).calls w hw⟩

/-- A cell that can be read, whoever has it. -/
theorem r_ldr {n by_ : Nat} {z : Value} {b o : Nat} (hT : Ty C.P T n by_ z false) (hx : ev e x = some (.pointer (some ⟨b, o, none⟩))) (hv : ∀ w, Own C.W0 w Rs → w.cell? ⟨b, o, none⟩ = some v) 
     : Yld C e Rs (.load T x) ty (v) := by
  intro a w ha hw
  have hagg := hT.agg w
  simp [execOp, ha.ev hx, Instr.loadAt, Instr.sureAddr, loadVar, hagg, load, Sem.run, hv w hw]
theorem r_ldar {n by_ : Nat} {z : Value} {b o : Nat} {l' : List Value} (hT : Ty C.P T n by_ z true) (hx : ev e x = some (.pointer (some ⟨b, o, none⟩))) (hl : l'.length = n) (hv : ∀ w, Own C.W0 w Rs → ∀ j u, l'[j]? = some u → w.cell? ⟨b, o + j, none⟩ = some u) 
     : Yld C e Rs (.load T x) ty (.agg l'.toArray) := by
  obtain ⟨j, h1, h2, _, _⟩ := hT.get
  intro a w ha hw
  have hagg := hT.agg w
  have hc := run_loadCells_list (P := C.P) w ⟨b, o, none⟩ l' (fun j u hu => by rw [add_lit]; exact hv w hw j u hu)
  rw [hl] at hc
  simp [execOp, ha.ev hx, Instr.loadAt, Instr.sureAddr, loadVar, hagg, sizeOf, typeInfo, h1, h2, hc]

/-! strings -/
theorem r_seq {p q : List UInt8} (hx : ev e x = some (str p)) (hy : ev e y = some (str q))   : Yld C e Rs (.binOp .eql T x y T2) ty (.bool (decide (p = q))) :=
  r_bin hx hy (fun w => by simp [eqGuard, binOp, Op.stringOp, ByteArray.toList_eq, Bool.beq_eq_decide_eq, beq_dec])

theorem r_sne {p q : List UInt8} (hx : ev e x = some (str p)) (hy : ev e y = some (str q))   : Yld C e Rs (.binOp .neq T x y T2) ty (.bool (decide (¬ p = q))) :=
  r_bin hx hy (fun w => by simp [eqGuard, binOp, Op.stringOp, ByteArray.toList_eq, Bool.beq_eq_decide_eq, beq_dec])

theorem r_cat {p q : List UInt8} (hx : ev e x = some (str p)) (hy : ev e y = some (str q)) (hl : p.length + q.length ≤ 9223372036854775807)   : Yld C e Rs (.binOp .add T x y T2) ty (str (p ++ q)) :=
  r_bin hx hy (fun w => by
    have h : ¬ IntKind.i64.max < ((p.length + q.length : Nat) : Int) := by simp [IntKind.max, IntKind.signed, IntKind.bits]; omega
    have e2 : (⟨p.toArray⟩ : ByteArray) ++ ⟨q.toArray⟩ = ⟨(p ++ q).toArray⟩ := by
      apply WideShapes.bytes_inj; simp [ByteArray.data_append]
    have h5 : (⟨p.toArray⟩ : ByteArray).size = p.length := rfl
    have h6 : (⟨q.toArray⟩ : ByteArray).size = q.length := rfl
    simp only [eqGuard, binOp, Op.stringOp, h5, h6]
    rw [if_neg h, e2]
    simp)

theorem r_lens {p : List UInt8} {u : TypeId} (hT : C.P.underlying u = some .string) (hx : ev e x = some (str p))   :
    Yld C e Rs (.call { callee := .builtin .len, args := #[x], argTypes := #[u] }) ty (.int .i64 (p.length : Int)) :=
  fun a w ha _ => by simp [execOp, resolve, invoke, builtin, Builtin.len_, ha.ev hx, run_underlying hT, goInt, str_size]
theorem r_lensl {A : Option Addr} {n c E : Nat} {u : TypeId} (hT : C.P.underlying u = some (.slice E)) (hx : ev e x = some (.slice A n c))   :
    Yld C e Rs (.call { callee := .builtin .len, args := #[x], argTypes := #[u] }) ty (.int .i64 (n : Int)) :=
  fun a w ha _ => by simp [execOp, resolve, invoke, builtin, Builtin.len_, ha.ev hx, run_underlying hT, goInt]
theorem r_six {p : List UInt8} {c : UInt8} {k : Nat} (hT : C.P.underlying T = some .string) (hx : ev e x = some (str p)) (hy : ev e y = some (.int kd i)) (hi : i = (k : Int)) (hc : p[k]? = some c)   :
    Yld C e Rs (.index T x y) ty (.int .u8 (c.toNat : Int)) := by
  subst hi
  intro a w ha _
  have h2 : (⟨p.toArray⟩ : ByteArray)[k]? = some c := by
    obtain ⟨hl, he⟩ := List.getElem?_eq_some_iff.1 hc
    rw [getElem?_pos (⟨p.toArray⟩ : ByteArray) k (by simpa [ByteArray.size] using hl)]
    congr 1
  simp [execOp, ha.ev hx, ha.ev hy, Instr.index, asIntOf, run_underlying hT, h2]

def loOf (e : Env) (lo : Option Operand) (m : Nat) : Prop := match lo with | none => m = 0 | some o => ∃ kd, ev e o = some (.int kd (m : Int))
def hiOf (e : Env) (hi : Option Operand) (m n : Nat) : Prop := match hi with | none => m = n | some o => ∃ kd, ev e o = some (.int kd (m : Int))

theorem r_ssl {p : List UInt8} {lo hi : Option Operand} (a b : Nat) (hT : C.P.underlying T = some .string) (hx : ev e x = some (str p)) (hlo : loOf e lo a) (hhi : hiOf e hi b p.length) (h1 : a ≤ b) (h2 : b ≤ p.length)   :
    Yld C e Rs (.slice T x lo hi none) ty (str ((p.drop a).take (b - a))) := by
  intro act w ha _
  have e2 : (⟨p.toArray⟩ : ByteArray).extract a b = ⟨((p.drop a).take (b - a)).toArray⟩ := by
    apply WideShapes.bytes_inj; rw [Lib.extract_data]
  have g1 : (a : Int) ≤ (b : Int) := by omega
  have g2 : (b : Int) ≤ (p.length : Int) := by omega
  have hs := str_size p
  cases lo with
  | none =>
    simp only [loOf] at hlo; subst hlo
    cases hi with
    | none => simp only [hiOf] at hhi; subst hhi; simp [execOp, ha.ev hx, Instr.sliceAt, Instr.slice, Instr.sliceBounds, Instr.sliceBound, asIntOf, run_underlying hT, hs] at e2 ⊢; try exact e2
    | some q => obtain ⟨kq, hq⟩ := hhi; simp [execOp, ha.ev hx, ha.ev hq, Instr.sliceAt, Instr.slice, Instr.sliceBounds, Instr.sliceBound, asIntOf, run_underlying hT, hs, h2] at e2 ⊢; try exact e2
  | some r =>
    obtain ⟨kr, hr⟩ := hlo
    cases hi with
    | none => simp only [hiOf] at hhi; subst hhi; simp [execOp, ha.ev hx, ha.ev hr, Instr.sliceAt, Instr.slice, Instr.sliceBounds, Instr.sliceBound, asIntOf, run_underlying hT, hs, h1] at e2 ⊢; try exact e2
    | some q => obtain ⟨kq, hq⟩ := hhi; simp [execOp, ha.ev hx, ha.ev hq, ha.ev hr, Instr.sliceAt, Instr.slice, Instr.sliceBounds, Instr.sliceBound, asIntOf, run_underlying hT, hs, h1, h2] at e2 ⊢; try exact e2

theorem r_sll {A : Option Addr} {n c E sz by_ : Nat} {zv : Value} {lo hi : Option Operand} (a b : Nat) (hT : C.P.underlying T = some (.slice E)) {ag : Bool} (hE : Ty C.P E sz by_ zv ag) (hx : ev e x = some (.slice A n c)) (hlo : loOf e lo a) (hhi : hiOf e hi b n) (h1 : a ≤ b) (h2 : b ≤ c) 
     : Yld C e Rs (.slice T x lo hi none) ty (.slice (if c = a then A else A.map (·.add (a * sz))) (b - a) (c - a)) := by
  obtain ⟨j, i1, i2, _, _⟩ := hE.get
  intro act w ha _
  have g1 : (a : Int) ≤ (b : Int) := by omega
  have g2 : (b : Int) ≤ (c : Int) := by omega
  cases lo with
  | none =>
    simp only [loOf] at hlo; subst hlo
    cases hi with
    | none => simp only [hiOf] at hhi; subst hhi; simp [execOp, ha.ev hx, Instr.sliceAt, Instr.slice, Instr.sliceBounds, Instr.sliceBound, asIntOf, run_underlying hT, sizeOf, typeInfo, i1, i2]
    | some q => obtain ⟨kq, hq⟩ := hhi; simp [execOp, ha.ev hx, ha.ev hq, Instr.sliceAt, Instr.slice, Instr.sliceBounds, Instr.sliceBound, asIntOf, run_underlying hT, h2, sizeOf, typeInfo, i1, i2]
  | some r =>
    obtain ⟨kr, hr⟩ := hlo
    cases hi with
    | none => simp only [hiOf] at hhi; subst hhi; simp [execOp, ha.ev hx, ha.ev hr, Instr.sliceAt, Instr.slice, Instr.sliceBounds, Instr.sliceBound, asIntOf, run_underlying hT, h1, sizeOf, typeInfo, i1, i2]
    | some q => obtain ⟨kq, hq⟩ := hhi; simp [execOp, ha.ev hx, ha.ev hq, ha.ev hr, Instr.sliceAt, Instr.slice, Instr.sliceBounds, Instr.sliceBound, asIntOf, run_underlying hT, h1, h2, sizeOf, typeInfo, i1, i2]

/-! min, max -/
theorem r_min {u1 u2 : TypeId} (hx : ev e x = some (.int kd i)) (hy : ev e y = some (.int kd j))   :
    Yld C e Rs (.call { callee := .builtin .min, args := #[x, y], argTypes := #[u1, u2] }) ty (.int kd (min i j)) :=
  fun a w ha _ => by
    have h : (if j < i then j else i) = min i j := by rw [Int.min_def]; split <;> split <;> omega
    simp [execOp, resolve, invoke, builtin, Builtin.min_, Builtin.min2, ha.ev hx, ha.ev hy, h]
theorem r_max {u1 u2 : TypeId} (hx : ev e x = some (.int kd i)) (hy : ev e y = some (.int kd j))   :
    Yld C e Rs (.call { callee := .builtin .max, args := #[x, y], argTypes := #[u1, u2] }) ty (.int kd (max i j)) :=
  fun a w ha _ => by
    have h : (if i < j then j else i) = max i j := by rw [Int.max_def]; split <;> split <;> omega
    simp [execOp, resolve, invoke, builtin, Builtin.max_, Builtin.max2, ha.ev hx, ha.ev hy, h]
/-! guards -/
theorem x_want {o : Oper} {g : Nat} {b : Bool} {t : Nat} (hg : o.guard = some (g, b)) (hj : (ops[g]?).bind (·.dst) = some t) (ht : look e t = some (.bool b)) (k : XL C ops ({ o with guard := none } :: l) κ e Rs) : XL C ops (o :: l) κ e Rs := by
  intro a w ha hw
  have h := k a w ha hw
  have hy : yielded ops a.tmps g = some b := by simp only [yielded, hj, Option.bind_some, ha.at_ t _ ht]
  unfold wpList at h ⊢
  rw [if_pos (by simp [Region.wanted])] at h
  rw [if_pos (by simp [Region.wanted, hg, hy])]
  exact h
theorem x_unwant {o : Oper} {g : Nat} {b : Bool} {t : Nat} (hg : o.guard = some (g, b)) (hj : (ops[g]?).bind (·.dst) = some t) (ht : look e t = some (.bool (!b))) (hd : o.dst = some d) (hN : Nat.blt d C.N = true) (k : XL C ops l κ ((d, undef) :: e) Rs) : XL C ops (o :: l) κ e Rs := by
  intro a w ha hw
  have hy : yielded ops a.tmps g = some (!b) := by simp only [yielded, hj, Option.bind_some, ha.at_ t _ ht]
  unfold wpList
  rw [if_neg (by simp [Region.wanted, hg, hy])]
  rw [hd]
  exact k _ w (ha.put d hN _) hw
theorem x_unwant0 {o : Oper} {g : Nat} {b : Bool} {t : Nat} (hg : o.guard = some (g, b)) (hj : (ops[g]?).bind (·.dst) = some t) (ht : look e t = some (.bool (!b))) (hd : o.dst = none) (k : XL C ops l κ e Rs) : XL C ops (o :: l) κ e Rs := by
  intro a w ha hw
  have hy : yielded ops a.tmps g = some (!b) := by simp only [yielded, hj, Option.bind_some, ha.at_ t _ ht]
  unfold wpList
  rw [if_neg (by simp [Region.wanted, hg, hy])]
  rw [hd]
  exact k _ w ha hw

theorem Agree.same {N : Nat} {e : Env} {a : Act} (h : Agree N e a) {t : Nat} {v : Value} (ht : look e t = some v) : Agree N ((t, v) :: e) a :=
  ⟨h.defers, h.size, fun i u hu => by
    simp only [look] at hu
    by_cases hi : t = i
    · subst hi; simp at hu; subst hu; exact h.at_ t v ht
    · rw [beq_no hi] at hu; exact h.at_ i u hu⟩
/-- A slot that holds a bool: both cases. -/
theorem XL.split {b : Bool} (t : Nat) (ht : look e t = some (.bool b)) (h1 : b = true → XL C ops l κ ((t, .bool true) :: e) Rs) (h2 : b = false → XL C ops l κ ((t, .bool false) :: e) Rs) : XL C ops l κ e Rs := by
  intro a w ha hw
  cases b
  · exact h2 rfl a w (ha.same ht) hw
  · exact h1 rfl a w (ha.same ht) hw
theorem XL.splitd {p : Prop} [Decidable p] (t : Nat) (ht : look e t = some (.bool (decide p))) (h1 : p → XL C ops l κ ((t, .bool true) :: e) Rs) (h2 : ¬ p → XL C ops l κ ((t, .bool false) :: e) Rs) : XL C ops l κ e Rs :=
  XL.split t ht (fun h => h1 (of_decide_eq_true h)) (fun h => h2 (of_decide_eq_false h))
theorem XC.cond_d {p : Prop} [Decidable p] {t f : Code} (hx : ev e x = some (.bool (decide p))) (ht : p → XC C t κ e Rs) (hf : ¬ p → XC C f κ e Rs) : XC C (.cond x t f) κ e Rs :=
  XC.cond hx (fun h => ht (of_decide_eq_true h)) (fun h => hf (of_decide_eq_false h))

/-! calls -/
def evs (e : Env) : List Operand → List Value → Prop
  | [], vs => vs = []
  | x :: xs, v :: vs => ev e x = some v ∧ evs e xs vs
  | _ :: _, [] => False
theorem evs_map {N : Nat} {e : Env} {a : Act} (ha : Agree N e a) : ∀ (xs : List Operand) (vs : List Value), evs e xs vs → xs.map a.eval = vs
  | [], vs, h => by simp only [evs] at h; subst h; rfl
  | x :: xs, v :: vs, h => by simp [ha.ev h.1, evs_map ha xs vs h.2]
  | _ :: _, [], h => h.elim

theorem run_callFunc {P : Program} {f : FuncId} (h : ∃ fn c, P.funcs[f]? = some fn ∧ (fn.name == "runtime.NumGoroutine") = false ∧ fn.body = some c) (args : Array Value) (w : World) : (callFunc f args).run P w = .ok (.enter f args) w := by
  obtain ⟨fn, c, hf, hn, hb⟩ := h
  have h1 : fn.name ≠ "runtime.NumGoroutine" := by simpa using hn
  simp [callFunc, hf, h1, hb]

theorem r_call {f : Operand} {fid : FuncId} {fst cap : List Value} {xs : List Operand} {vs args : List Value} {tys : Array TypeId} {Rs1 : List HP} {Post : Value → List HP → Prop} (hf : ev e f = some (.func (.func fid) fst.toArray cap.toArray)) (hv : evs e xs vs) (hargs : fst ++ vs ++ cap = args)
    (hc : Tr C.W0 C.P fid args Rs1 Post) (hm : Gets Rs Rs1) : Cls C e Rs (.call { callee := .value f, args := xs.toArray, argTypes := tys }) ty Post := by
  intro a w ha hw
  have h1 := evs_map ha xs vs hv
  have h2 := run_callFunc hc.there args.toArray w
  have h4 : fst.toArray ++ vs.toArray ++ cap.toArray = args.toArray := by simp [← hargs]
  refine ⟨fid, args.toArray, ?_, hc.calls w (hm.own hw)⟩
  simp only [execOp, resolve, ha.ev hf, Deferred.ofValue, Sem.run_bind, Sem.run_pure, Result.andThen_ok, invoke, List.map_toArray, h1, h4]
  exact h2
theorem r_call0 {fid : FuncId} {xs : List Operand} {args : List Value} {tys : Array TypeId} {Rs1 : List HP} {Post : Value → List HP → Prop} (hv : evs e xs args)
    (hc : Tr C.W0 C.P fid args Rs1 Post) (hm : Gets Rs Rs1) : Cls C e Rs (.call { callee := .value (.func fid), args := xs.toArray, argTypes := tys }) ty Post :=
  r_call (fst := []) (cap := []) rfl hv (by simp) hc hm
end ops
end Go.Sx

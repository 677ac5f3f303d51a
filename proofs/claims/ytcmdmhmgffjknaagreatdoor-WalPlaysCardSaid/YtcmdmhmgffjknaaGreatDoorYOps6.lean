/- Rules for texts and bytes: a text turned to bytes, bytes turned to a text, a text behind bytes; a slice that is made. -/
import Derived.Test.YtcmdmhmgffjknaaGreatDoorYOps5
import Derived.Laws.IdiomStrings
import Derived.Lib.AppendStr
import Derived.Laws.MakeOwn
namespace Go.Sx

/-- Bytes, a cell each. -/
def bv (l : List UInt8) : List Value := l.map fun b => .int .u8 (b.toNat : Int)
theorem bv_len (l : List UInt8) : (bv l).length = l.length := by simp [bv]
theorem bv_one (l : List UInt8) : (bv l).all (·.oneCell') = true := by simp [bv, Value.oneCell']
theorem bv_app (l m : List UInt8) : bv (l ++ m) = bv l ++ bv m := by simp [bv]
theorem bv_get {l : List UInt8} {k : Nat} {x : UInt8} (h : l[k]? = some x) : (bv l)[k]? = some (.int .u8 (x.toNat : Int)) := by simp [bv, h]
theorem strCells_bv (l : List UInt8) : Go.Lib.strCells ⟨l.toArray⟩ = bv l := by simp [Go.Lib.strCells, bv]

theorem Own.drew' {W0 w : World} {Rs : List HP} (H : Own W0 w Rs) : Own W0 w.drew Rs := ⟨H.os, H.tape, H.output, H.size, H.old, H.own⟩
theorem Own.laid {W0 w : World} {Rs : List HP} (H : Own W0 w Rs) (E : TypeId) (cs : Array Value) : Own W0 (w.alloc (.cells cs E)) (blk w.heap.size E cs.toList :: Rs) := by
  have h := H.new (.cells cs E (0, 0))
  have e : blk w.heap.size E cs.toList = ob w.heap.size (.cells cs E (0, 0)) := by unfold blk; rw [Array.toArray_toList]
  rw [e]
  exact h

/-- Memory that is only read: a row under whatever mark. -/
def rob (b : Nat) (E : TypeId) (cs : List Value) : HP := fun h => ∃ fz, ob b (.cells cs.toArray E fz) h
theorem Rdb.of_rob {W0 : World} {Rs Fr : List HP} {b E n sz : Nat} {cs xs : List Value} (hp : Pick Rs (rob b E cs) Fr) (hl : xs.length = n * sz) (h : ∀ (j : Nat) (u : Value), xs[j]? = some u → cs[j]? = some u) : Rdb W0 Rs (some ⟨b, 0, none⟩) n sz xs :=
  ⟨hl, fun _ => ⟨b, 0, rfl, fun w hw j u hu => by
    have h1 := hw.pick hp
    obtain ⟨fz, h2⟩ : ∃ fz, Own W0 w (ob b (.cells cs.toArray E fz) :: Fr) := by
      obtain ⟨g, ⟨g1, g2, ⟨fz, r⟩, s, d, u⟩, k⟩ := h1.own
      exact ⟨fz, h1.os, h1.tape, h1.output, h1.size, h1.old, g, ⟨g1, g2, r, s, d, u⟩, k⟩
    simp [World.cell?, h2.head.2, h j u hu]⟩⟩

theorem x_unwantu {C : Cx} {ops : Array Oper} {l : List Oper} {κ : Kt} {e : Env} {Rs : List HP} {d : Nat} {o : Oper} {g : Nat} {b : Bool} {t : Nat} (hg : o.guard = some (g, b)) (hj : (ops[g]?).bind (·.dst) = some t) (ht : look e t = some undef) (hd : o.dst = some d) (hN : Nat.blt d C.N = true) (k : XL C ops l κ ((d, undef) :: e) Rs) : XL C ops (o :: l) κ e Rs := by
  intro a w ha hw
  have hy : yielded ops a.tmps g = none := by simp only [yielded, hj, Option.bind_some, ha.at_ t _ ht]; rfl
  unfold wpList
  rw [if_neg (by simp [Region.wanted, hg, hy])]
  rw [hd]
  exact k _ w (ha.put d hN _) hw
theorem x_unwantu0 {C : Cx} {ops : Array Oper} {l : List Oper} {κ : Kt} {e : Env} {Rs : List HP} {o : Oper} {g : Nat} {b : Bool} {t : Nat} (hg : o.guard = some (g, b)) (hj : (ops[g]?).bind (·.dst) = some t) (ht : look e t = some undef) (hd : o.dst = none) (k : XL C ops l κ e Rs) : XL C ops (o :: l) κ e Rs := by
  intro a w ha hw
  have hy : yielded ops a.tmps g = none := by simp only [yielded, hj, Option.bind_some, ha.at_ t _ ht]; rfl
  unfold wpList
  rw [if_neg (by simp [Region.wanted, hg, hy])]
  rw [hd]
  exact k _ w ha hw

section ops
variable {C : Cx} {ops : Array Oper} {l : List Oper} {κ : Kt} {e : Env} {Rs : List HP}
variable {d : Nat} {x y z : Operand} {ty : TypeId} {T : TypeId} {T2 : TypeId} {kd : IntKind} {i j : Int}

theorem r_bytes {p : List UInt8} {s t E : TypeId} (hs : C.P.underlying s = some .string) (ht : C.P.underlying t = some (.slice E)) (hE : C.P.underlying E = some (.int .u8)) (hx : ev e x = some (str p)) :
    Acts C e Rs (.convert s t x) ty (fun q : Nat × Nat => .slice (some ⟨q.1, 0, none⟩) p.length q.2) (fun q => rob q.1 E (bv p ++ List.replicate (q.2 - p.length) (.int .u8 0)) :: Rs) := by
  intro a w ha hw
  have hr := run_bytes_of_string (P := C.P) w s t E ⟨p.toArray⟩ hs ht hE
  have h := hw.drew'.new (.cells (bytesRow ⟨p.toArray⟩ (grownCap w p.length 0 E)) E ((bytesRow ⟨p.toArray⟩ (grownCap w p.length 0 E)).size, (bytesRow ⟨p.toArray⟩ (grownCap w p.length 0 E)).size + 1))
  have e1 : (bv p ++ List.replicate (grownCap w p.length 0 E - p.length) (Value.int .u8 0)).toArray = bytesRow ⟨p.toArray⟩ (grownCap w p.length 0 E) := by
    unfold bytesRow bv
    apply Array.ext'
    simp [ByteArray.size]
  refine ⟨(w.heap.size, grownCap w p.length 0 E), _, by
    simp only [execOp, ha.ev hx, Sem.run_bind]
    rw [hr]
    rfl, ?_⟩
  exact Own.imp (R := ob w.heap.size (.cells (bytesRow ⟨p.toArray⟩ (grownCap w p.length 0 E)) E ((bytesRow ⟨p.toArray⟩ (grownCap w p.length 0 E)).size, (bytesRow ⟨p.toArray⟩ (grownCap w p.length 0 E)).size + 1))) h fun g hg => ⟨((bytesRow ⟨p.toArray⟩ (grownCap w p.length 0 E)).size, (bytesRow ⟨p.toArray⟩ (grownCap w p.length 0 E)).size + 1), by rw [e1]; exact hg⟩

theorem r_text {l : List UInt8} {A : Option Addr} {c : Nat} {s t E : TypeId} (hs : C.P.underlying s = some (.slice E)) (hE : C.P.underlying E = some (.int .u8)) (ht : C.P.underlying t = some .string) (hx : ev e x = some (.slice A l.length c)) (hr : Rdb C.W0 Rs A l.length 1 (bv l)) :
    Yld C e Rs (.convert s t x) ty (str l) := by
  intro a w ha hw
  simp only [execOp, ha.ev hx, Sem.run_bind]
  rcases Nat.eq_zero_or_pos l.length with h0 | h0
  · have hl : l = [] := List.eq_nil_of_length_eq_zero h0
    subst hl
    have := run_convert_bytes_string (P := C.P) w s t E A 0 c hs hE ht
    simp only [List.length_nil]
    rw [this]
    cases A <;> simp [Conv.bytesToString, loadCells, loadCellsFrom]
    all_goals rfl
  · obtain ⟨b, o, rfl, hat⟩ := hr.at_ h0
    rw [run_convert_bytes_back (P := C.P) w s t E ⟨b, o, none⟩ c l hs hE ht (fun j hj => by rw [add_lit]; exact hat w hw j _ (by simp [bv, hj]))]
    rfl

theorem bsize (p : List UInt8) : (⟨p.toArray⟩ : ByteArray).size = p.length := by simp [ByteArray.size]

theorem r_apps {A : Option Addr} {n c E : Nat} {t u : TypeId} {xs : List Value} {p : List UInt8} {Fr : List HP} {ag : Bool} (hT : C.P.underlying t = some (.slice E)) (hU : C.P.underlying u = some .string) (hE : Ty C.P E 1 1 (.int .u8 0) ag)
    (hx : ev e x = some (.slice A n c)) (hy : ev e y = some (str p)) (hp : Pick Rs (sl A n c E 1 xs) Fr) (hb : n + p.length ≤ 140737488355328) :
    Acts C e Rs (.call { callee := .builtin .append, args := #[x, y], argTypes := #[t, u] }) ty (fun q : Option Addr × Nat => .slice q.1 (n + p.length) q.2) (fun q => sl q.1 (n + p.length) q.2 E 1 (xs ++ bv p) :: Fr) := by
  intro a w ha hw
  obtain ⟨i, i1, i2, i3, i4⟩ := hE.get
  have hw1 := hw.pick hp
  have hmax : maxLen = 9223372036854775807 := rfl
  suffices h : ∃ A' c' w', (Builtin.append_ #[t, u] ty #[.slice A n c, str p]).run C.P w = .ok (.slice A' (n + p.length) c') w' ∧ Own C.W0 w' (sl A' (n + p.length) c' E 1 (xs ++ bv p) :: Fr) by
    obtain ⟨A', c', w', hrun, ho⟩ := h
    exact ⟨(A', c'), w', by simp [execOp, resolve, invoke, builtin, ha.ev hx, ha.ev hy, hrun], ho⟩
  have hlx := hw1.sl_len.1
  have grown : ∀ (w1 : World), w1 = w.drew → ∀ cap, n + p.length ≤ cap → cap ≤ maxLen → ∀ cs : Array Value, cs = xs.toArray ++ (bv p).toArray ++ Builtin.zeroCells (Value.int .u8 0).cells (cap - (n + p.length)) → ∀ Fr', Own C.W0 w Fr' →
      Own C.W0 (w1.alloc (.cells cs E)) (sl (some ⟨w.heap.size, 0, none⟩) (n + p.length) cap E 1 (xs ++ bv p) :: Fr') := by
    intro w1 e1 cap h1 h2 cs hcs Fr' hf
    subst e1
    refine (hf.drew'.laid E cs).sl_shut h1 h2 ?_ ?_
    · subst hcs
      have : (Value.int IntKind.u8 0).cells.size = 1 := rfl
      simp [size_zeroCells, this, bv_len]
      omega
    · subst hcs
      simp only [Array.toList_append]
      exact List.take_left' (by simp [bv_len]; omega)
  rcases hw1.sl_open with ⟨rfl, rfl, rfl, rfl, hf⟩ | ⟨g, cur, rfl, h1, h2, h3, h4, hf⟩
  · rcases Nat.eq_zero_or_pos p.length with h0 | h0
    · have hp0 : p = [] := List.eq_nil_of_length_eq_zero h0
      subst hp0
      refine ⟨none, 0, w, ?_, by simpa [bv] using hw1⟩
      have hfc := Go.Lib.run_firstCells_string (P := C.P) w 1 ⟨#[]⟩
      simp [Builtin.append_, run_underlying hT, run_underlying hU, sizeOf, typeInfo, i1, i2, Builtin.lenOf, Builtin.firstCells]
      have e0 : ({ data := #[] } : ByteArray) = ByteArray.empty := rfl
      rw [if_pos e0]
      rfl
    · have hr := run_append_nil_string (P := C.P) w t u ty E i (.int .u8 0) hT hU i1 i4 ⟨p.toArray⟩ (by rw [bsize]; exact h0) (by rw [bsize]; omega) (by rw [bsize, i3]; omega)
      rw [bsize] at hr
      simp only [Nat.zero_add, List.nil_append]
      refine ⟨_, _, _, hr, ?_⟩
      have := grown _ rfl (grownCap w p.length 0 E) (by have := grownCap_ge w p.length 0 E; omega) (grownCap_le_maxLen w p.length 0 E (by omega)) _ rfl _ hf
      simp only [Nat.zero_add, List.nil_append] at this
      have e1 : ((⟨p.toArray⟩ : ByteArray).data.map fun b => Value.int .u8 (b.toNat : Int)) = (bv p).toArray := by simp [bv]
      rw [e1]
      simpa using this
  · by_cases hroom : n + p.length ≤ c
    · have hc : cur.toArray.size = c := by simpa using h3
      have hr := Go.Lib.run_append_room_string (P := C.P) (ty := ty) w t u E i hT hU i1 i2 g n c cur.toArray hf.cells ⟨p.toArray⟩ (by rw [bsize]; exact hroom) (by rw [bsize, hc]; exact hroom)
      rw [bsize, strCells_bv] at hr
      refine ⟨_, _, _, hr, ?_⟩
      refine (hf.setRow (.head _ _ _)).sl_shut hroom h2 ?_ ?_
      · simp [bv_len] at h3 ⊢; omega
      · have h4' : cur.take n = xs := by simpa using h4
        simp only [h4']
        exact List.take_left' (by simp [bv_len]; omega)
    · have hr := Go.Lib.run_append_grow_string (P := C.P) (ty := ty) w t u E i (.int .u8 0) hT hU i1 i4 ⟨g, 0, none⟩ n c xs (by rw [i2]; simpa using hlx) (fun j v hj => by
          rw [add_lit]
          have hv : cur[j]? = some v := by rw [← h4, List.getElem?_take] at hj; split at hj; exact hj; cases hj
          simp [World.cell?, hf.cells, hv]) ⟨p.toArray⟩ (by rw [bsize]; omega) (by rw [bsize]; omega) (by rw [bsize, i3]; exact growslice_fits (by omega) (by omega))
      rw [bsize, strCells_bv] at hr
      refine ⟨_, _, _, hr, ?_⟩
      exact grown _ rfl _ (grownCap_ge w _ _ E) (grownCap_le_maxLen w _ _ E (by omega)) _ rfl _ hf.tail

/-- make([]T, n). -/
theorem r_mk {n E sz by_ : Nat} {zv : Value} {ag : Bool} {k k' : IntKind} (hT : C.P.underlying T = some (.slice E)) (hE : Ty C.P E sz by_ zv ag) (hz : zv.cells.size = sz) (hx : ev e x = some (.int k (n : Int))) (hy : ev e y = some (.int k' (n : Int))) (hb : by_ * n ≤ 281474976710656) (h63 : n ≤ 9223372036854775807) :
    Acts C e Rs (.makeSlice T x y) ty (fun b : Nat => .slice (some ⟨b, 0, none⟩) n n) (fun b => sl (some ⟨b, 0, none⟩) n n E sz (madeCells zv.cells (n * sz)).toList :: Rs) := by
  intro a w ha hw
  obtain ⟨i, i1, i2, i3, i4⟩ := hE.get
  have hr := run_make (P := C.P) (w := w) T E i zv hT i1 i4 k k' n n (by omega) (by omega) (by rw [i3, ← Int.natCast_mul]; omega) (by omega)
  refine ⟨w.heap.size, _, by
    simp only [execOp, ha.ev hx, ha.ev hy, Sem.run_bind]
    rw [hr]
    rfl, ?_⟩
  simp only [Int.toNat_natCast, i2]
  refine (hw.laid E _).sl_shut (Nat.le_refl _) (by have : maxLen = 9223372036854775807 := rfl; omega) ?_ ?_
  · simp [size_madeCells]
  · exact List.take_of_length_le (by simp [size_madeCells])
end ops
end Go.Sx

/- Rules for slices in the midst: cut from the front, appended to in place, cleared; memory opened and shut. -/
import Derived.Test.YtcmdmhmgffjknaaGreatDoorYOps4
import Derived.Laws.StructEq
namespace Go.Sx

theorem pick_upd {Rs Fr : List HP} {R : HP} (h : Pick Rs R Fr) (R' : HP) : ∃ Rs', Upd Rs R R' Rs' := by
  induction h with
  | head => exact ⟨_, .head _ _ _⟩
  | tail S h ih => obtain ⟨q, hq⟩ := ih; exact ⟨_, .tail S hq⟩

theorem zeroCells_len (z : Array Value) (m : Nat) : (Builtin.zeroCells z m).toList.length = m * z.size := by simp [Builtin.zeroCells]
theorem zeroCells_one (z : Array Value) (m : Nat) (h : z.all (·.oneCell') = true) : ∀ v ∈ (Builtin.zeroCells z m).toList, v.oneCell' = true := by
  intro v hv
  simp only [Builtin.zeroCells, Array.mem_toList_iff, Array.mem_map] at hv
  obtain ⟨i, hi, rfl⟩ := hv
  have hi' : i < m * z.size := by simpa using hi
  have hp : 0 < z.size := by
    rcases Nat.eq_zero_or_pos z.size with h0 | h0
    · rw [h0] at hi'; omega
    · exact h0
  have hlt : i % z.size < z.size := Nat.mod_lt _ hp
  rw [getElem!_pos z _ hlt]
  exact (Array.all_eq_true.1 h) _ hlt

section ops
variable {C : Cx} {ops : Array Oper} {l : List Oper} {κ : Kt} {e : Env} {Rs : List HP}
variable {d : Nat} {x y z : Operand} {ty : TypeId} {v : Value} {T : TypeId} {T2 : TypeId} {kd : IntKind} {i j : Int}

theorem XL.shut_ {g n c E sz : Nat} {cur xs : List Value} {Fr : List HP} (hp : Pick Rs (blk g E cur) Fr) (h1 : n ≤ c) (h2 : c ≤ maxLen) (h3 : cur.length = c * sz) (h4 : cur.take (n * sz) = xs) (k : XL C ops l κ e (sl (some ⟨g, 0, none⟩) n c E sz xs :: Fr)) : XL C ops l κ e Rs :=
  fun a w ha hw => k a w ha ((hw.pick hp).sl_shut h1 h2 h3 h4)
theorem XH.shut_ {Sb : List HP} {lz : Bool} {r : List (Nat × Bool)} {g n c E sz : Nat} {cur xs : List Value} {Fr : List HP} (hp : Pick Rs (blk g E cur) Fr) (h1 : n ≤ c) (h2 : c ≤ maxLen) (h3 : cur.length = c * sz) (h4 : cur.take (n * sz) = xs) (k : XH C ops Sb lz r κ e (sl (some ⟨g, 0, none⟩) n c E sz xs :: Fr)) : XH C ops Sb lz r κ e Rs :=
  fun a w ha hw => k a w ha ((hw.pick hp).sl_shut h1 h2 h3 h4)
theorem XH.open_ {Sb : List HP} {lz : Bool} {r : List (Nat × Bool)} {A : Option Addr} {n c E sz : Nat} {xs : List Value} {Fr : List HP} (hp : Pick Rs (sl A n c E sz xs) Fr) (hn : 0 < n) (k : ∀ g cur, A = some ⟨g, 0, none⟩ → n ≤ c → c ≤ maxLen → cur.length = c * sz → cur.take (n * sz) = xs → XH C ops Sb lz r κ e (blk g E cur :: Fr)) : XH C ops Sb lz r κ e Rs := by
  intro a w ha hw
  rcases (hw.pick hp).sl_open with ⟨_, h, _⟩ | ⟨g, cur, h1, h2, h3, h4, h5, hb⟩
  · omega
  · exact k g cur h1 h2 h3 h4 h5 a w ha hb
theorem XH.nil_ {Sb : List HP} {lz : Bool} {r : List (Nat × Bool)} (E sz : Nat) (k : XH C ops Sb lz r κ e (sl none 0 0 E sz [] :: Rs)) : XH C ops Sb lz r κ e Rs := fun a w ha hw => k a w ha (hw.nil E sz)
theorem XC.shut_ {cd : Code} {g n c E sz : Nat} {cur xs : List Value} {Fr : List HP} (hp : Pick Rs (blk g E cur) Fr) (h1 : n ≤ c) (h2 : c ≤ maxLen) (h3 : cur.length = c * sz) (h4 : cur.take (n * sz) = xs) (k : XC C cd κ e (sl (some ⟨g, 0, none⟩) n c E sz xs :: Fr)) : XC C cd κ e Rs :=
  fun a w ha hw => k a w ha ((hw.pick hp).sl_shut h1 h2 h3 h4)
theorem XC.openp {cd : Code} {A : Option Addr} {n c E sz : Nat} {xs : List Value} {Fr : List HP} (hp : Pick Rs (sl A n c E sz xs) Fr) (hn : 0 < n) (k : ∀ g cur, A = some ⟨g, 0, none⟩ → n ≤ c → c ≤ maxLen → cur.length = c * sz → cur.take (n * sz) = xs → XC C cd κ e (blk g E cur :: Fr)) : XC C cd κ e Rs := by
  intro a w ha hw
  rcases (hw.pick hp).sl_open with ⟨_, h, _⟩ | ⟨g, cur, h1, h2, h3, h4, h5, hb⟩
  · omega
  · exact k g cur h1 h2 h3 h4 h5 a w ha hb
theorem XC.sllen {cd : Code} {A : Option Addr} {n c E sz : Nat} {xs : List Value} {Fr : List HP} (hp : Pick Rs (sl A n c E sz xs) Fr) (k : xs.length = n * sz → n ≤ c → c ≤ maxLen → XC C cd κ e Rs) : XC C cd κ e Rs :=
  fun a w ha hw => let ⟨h1, h2, h3⟩ := (hw.pick hp).sl_len; k h1 h2 h3 a w ha hw
/-- A nil slice that is to be appended to. -/
theorem XC.nil_ {cd : Code} (E sz : Nat) (k : XC C cd κ e (sl none 0 0 E sz [] :: Rs)) : XC C cd κ e Rs := fun a w ha hw => k a w ha (hw.nil E sz)
theorem XL.nil_ (E sz : Nat) (k : XL C ops l κ e (sl none 0 0 E sz [] :: Rs)) : XL C ops l κ e Rs := fun a w ha hw => k a w ha (hw.nil E sz)

/-- The first code ends in one of the states told; from each of them the second goes on. -/
theorem XC.seqcut {σ : Type} {n q : St} {xs : List (Nat × St)} {cx cy : Code} (E : σ → Env) (R : σ → List HP) (φ : σ → Prop) (hx : XC C cx ⟨fun e Rs => ∃ s, φ s ∧ Keeps e (E s) ∧ Gets Rs (R s), xs, q⟩ e Rs) (hy : ∀ s, φ s → XC C cy ⟨n, xs, q⟩ (E s) (R s)) : XC C (.seq cx cy) ⟨n, xs, q⟩ e Rs :=
  XC.seq fun K hK a w ha hw => wp_mono (hx a w ha hw) fun x a w h => by
    cases x with
    | normal =>
      obtain ⟨e', Rs', h1, h2, s, hs, hk, hg⟩ := h
      exact ⟨E s, R s, h1.keep hk, hg.own h2, hK _ _ (hy s hs)⟩
    | exit id => exact h
    | goto l => exact h
    | ret => exact h
    | panic c => exact h
    | outgrown => exact h
theorem XH.slnn {ops : Array Oper} {Sb : List HP} {lz : Bool} {r : List (Nat × Bool)} {A : Option Addr} {n c E sz : Nat} {xs : List Value} {Fr : List HP} (hp : Pick Rs (sl A n c E sz xs) Fr) (k : xs.length = n * sz → (0 < n → ∃ g, A = some ⟨g, 0, none⟩) → XH C ops Sb lz r κ e Rs) : XH C ops Sb lz r κ e Rs := fun a w ha hw =>
  k (hw.pick hp).sl_len.1 (fun hn => by
    rcases (hw.pick hp).sl_open with ⟨_, h, _⟩ | ⟨g, cur, h1, _⟩
    · omega
    · exact ⟨g, h1⟩) a w ha hw
theorem XL.slnn {ops : Array Oper} {l : List Oper} {A : Option Addr} {n c E sz : Nat} {xs : List Value} {Fr : List HP} (hp : Pick Rs (sl A n c E sz xs) Fr) (k : xs.length = n * sz → (0 < n → ∃ g, A = some ⟨g, 0, none⟩) → XL C ops l κ e Rs) : XL C ops l κ e Rs := fun a w ha hw =>
  k (hw.pick hp).sl_len.1 (fun hn => by
    rcases (hw.pick hp).sl_open with ⟨_, h, _⟩ | ⟨g, cur, h1, _⟩
    · omega
    · exact ⟨g, h1⟩) a w ha hw
/-- Where a slice that is owned has elements, its address is a block's head. -/
theorem XC.slnn {cd : Code} {A : Option Addr} {n c E sz : Nat} {xs : List Value} {Fr : List HP} (hp : Pick Rs (sl A n c E sz xs) Fr) (k : xs.length = n * sz → (0 < n → ∃ g, A = some ⟨g, 0, none⟩) → XC C cd κ e Rs) : XC C cd κ e Rs := fun a w ha hw =>
  k (hw.pick hp).sl_len.1 (fun hn => by
    rcases (hw.pick hp).sl_open with ⟨_, h, _⟩ | ⟨g, cur, h1, _⟩
    · omega
    · exact ⟨g, h1⟩) a w ha hw

theorem r_sll0 {A : Option Addr} {n c E sz by_ : Nat} {zv : Value} {hi : Option Operand} {ag : Bool} (b : Nat) (hT : C.P.underlying T = some (.slice E)) (hE : Ty C.P E sz by_ zv ag) (hx : ev e x = some (.slice A n c)) (hhi : hiOf e hi b n) (h2 : b ≤ c) :
    Yld C e Rs (.slice T x none hi none) ty (.slice A b c) := by
  have h := r_sll (Rs := Rs) (ty := ty) (lo := none) 0 b hT hE hx rfl hhi (Nat.zero_le _) h2
  have e2 : (if c = 0 then A else A.map (·.add (0 * sz))) = A := by
    split
    · rfl
    · rw [Nat.zero_mul]; cases A <;> simp [Addr.add]
  rw [e2] at h
  exact h
/-- 's[a:b]' of a slice whose address is known, 'a' ahead of the capacity's end. -/
theorem r_slla {bl o n c E sz by_ : Nat} {zv : Value} {lo hi : Option Operand} {ag : Bool} (a b : Nat) (hT : C.P.underlying T = some (.slice E)) (hE : Ty C.P E sz by_ zv ag) (hx : ev e x = some (.slice (some ⟨bl, o, none⟩) n c)) (hlo : loOf e lo a) (hhi : hiOf e hi b n) (h1 : a ≤ b) (h2 : b ≤ c) (h3 : a < c) :
    Yld C e Rs (.slice T x lo hi none) ty (.slice (some ⟨bl, o + a * sz, none⟩) (b - a) (c - a)) := by
  have h := r_sll (Rs := Rs) (ty := ty) a b hT hE hx hlo hhi h1 h2
  rw [if_neg (by omega)] at h
  simpa [add_lit] using h

/-- append(s[:i], xs...) where there is room. -/
theorem r_appr {g n c m c2 E sz by_ : Nat} {A2 : Option Addr} {zv : Value} {ag : Bool} {t : TypeId} {cur cur' news : List Value} {Rs' : List HP} (hT : C.P.underlying t = some (.slice E)) (hE : Ty C.P E sz by_ zv ag)
    (hx : ev e x = some (.slice (some ⟨g, 0, none⟩) n c)) (hy : ev e y = some (.slice A2 m c2)) (hr : Rdb C.W0 Rs A2 m sz news) (h1 : news.all (·.oneCell') = true) (hroom : n + m ≤ c) (hu : Upd Rs (blk g E cur) (blk g E cur') Rs') (ho : Over cur (n * sz) news cur') :
    Acts C e Rs (.call { callee := .builtin .append, args := #[x, y], argTypes := #[t, t] }) ty (fun _ : Unit => .slice (some ⟨g, 0, none⟩) (n + m) c) (fun _ => Rs') := by
  intro a w ha hw
  obtain ⟨j, i1, i2, _, _⟩ := hE.get
  obtain ⟨Fr, p1, p2⟩ := hu.perm
  have hb := (hw.perm p1).cells
  obtain ⟨a1, a2⟩ := ho.is
  refine ⟨(), w.setRow g cur'.toArray, ?_, hw.setRow hu⟩
  rcases Nat.eq_zero_or_pos m with rfl | hm
  · have hn : news = [] := List.eq_nil_of_length_eq_zero (by simpa using hr.len)
    subst hn
    have hc : cur' = cur := by rw [a2]; simp
    subst hc
    have hw' : w.setRow g cur'.toArray = w := setRow_self w g _ E (0, 0) hb
    rw [hw']
    rcases A2 with _ | ad
    · simp [execOp, resolve, invoke, builtin, ha.ev hx, ha.ev hy, Builtin.append_, run_underlying hT, sizeOf, typeInfo, i1, Builtin.lenOf, Builtin.firstCells, storeCells, show n ≤ c by omega]
    · have hl0 : ∀ w, (loadCells ad 0).run C.P w = .ok #[] w := fun w => by simp [loadCells, loadCellsFrom]
      simp [execOp, resolve, invoke, builtin, ha.ev hx, ha.ev hy, Builtin.append_, run_underlying hT, sizeOf, typeInfo, i1, Builtin.lenOf, Builtin.firstCells, storeCells, show n ≤ c by omega, hl0]
  · obtain ⟨b, o, rfl, hat⟩ := hr.at_ hm
    have hrun := run_append_room (P := C.P) w t ty E j hT i1 g n c cur.toArray hb ⟨b, o, none⟩ m c2 news (by rw [i2]; exact hr.len) (fun j u hu => by rw [add_lit]; exact hat w hw j u hu) (by simpa using h1) hroom (by rw [i2]; simpa using a1)
    rw [i2] at hrun
    simp only [execOp, resolve, invoke, builtin, Sem.run_bind, Sem.run_pure, Result.andThen_ok, List.map_toArray, List.map_cons, List.map_nil, ha.ev hx, ha.ev hy, hrun]
    rw [a2]

/-- structs that are held against each other -/
theorem r_steq {a b : Array Value} {p : Prop} [Decidable p] (hg : C.P.eqGuardType C.P.depth T = false) (h : ∀ w, (Op.equalIn 10000 T (.agg a) (.agg b)).run C.P w = .ok (decide p) w) (hx : ev e x = some (.agg a)) (hy : ev e y = some (.agg b)) : Yld C e Rs (.binOp .eql T x y T2) ty (.bool (decide p)) := by
  intro act w ha _
  simp [execOp, ha.ev hx, ha.ev hy, run_eqGuard_agg w _ _ _ _ _ _ hg, run_eql_struct, h]
theorem r_stne {a b : Array Value} {p : Prop} [Decidable p] (hg : C.P.eqGuardType C.P.depth T = false) (h : ∀ w, (Op.equalIn 10000 T (.agg a) (.agg b)).run C.P w = .ok (decide p) w) (hx : ev e x = some (.agg a)) (hy : ev e y = some (.agg b)) : Yld C e Rs (.binOp .neq T x y T2) ty (.bool (decide (¬ p))) := by
  intro act w ha _
  simp [execOp, ha.ev hx, ha.ev hy, run_eqGuard_agg w _ _ _ _ _ _ hg, run_neq_struct, h]

/-- clear(s) -/
theorem r_clear {g o m c E sz by_ : Nat} {zv : Value} {ag : Bool} {t : TypeId} {cur cur' : List Value} {Rs' : List HP} (hT : C.P.underlying t = some (.slice E)) (hE : Ty C.P E sz by_ zv ag) (hz1 : zv.cells.all (·.oneCell') = true)
    (hx : ev e x = some (.slice (some ⟨g, o, none⟩) m c)) (hu : Upd Rs (blk g E cur) (blk g E cur') Rs') (ho : Over cur o (Builtin.zeroCells zv.cells m).toList cur') :
    Effs C e Rs (.call { callee := .builtin .clear, args := #[x], argTypes := #[t] }) ty Rs' := by
  intro a w ha hw
  obtain ⟨j, i1, i2, _, i4⟩ := hE.get
  obtain ⟨Fr, p1, p2⟩ := hu.perm
  have hb := (hw.perm p1).cells
  obtain ⟨a1, a2⟩ := ho.is
  refine ⟨w.setRow g cur'.toArray, .value (.tuple #[]), .inr ⟨_, rfl⟩, ?_, hw.setRow hu⟩
  rcases Nat.eq_zero_or_pos m with rfl | hm
  · have hc : cur' = cur := by rw [a2]; simp [Builtin.zeroCells]
    subst hc
    have hw' : w.setRow g cur'.toArray = w := setRow_self w g _ E (0, 0) hb
    rw [hw']
    simp [execOp, resolve, invoke, builtin, ha.ev hx, Builtin.clear_, run_underlying hT]
  · obtain ⟨m', rfl⟩ : ∃ m', m = m' + 1 := ⟨m - 1, by omega⟩
    have hs := run_storeCells_at C.P g o E (Builtin.zeroCells zv.cells (m' + 1)).toList 0 cur.toArray w hb (by simpa using a1) (zeroCells_one _ _ hz1)
    simp only [Nat.add_zero, ← a2] at hs
    simp [execOp, resolve, invoke, builtin, ha.ev hx, Builtin.clear_, run_underlying hT, zeroValue, typeInfo, i1, i4, hs]
/-- clear of nothing -/
theorem r_clear0 {A : Option Addr} {c E : Nat} {t : TypeId} (hT : C.P.underlying t = some (.slice E)) (hx : ev e x = some (.slice A 0 c)) : Effs C e Rs (.call { callee := .builtin .clear, args := #[x], argTypes := #[t] }) ty Rs := by
  intro a w ha hw
  refine ⟨w, .value (.tuple #[]), .inr ⟨_, rfl⟩, ?_, hw⟩
  cases A <;> simp [execOp, resolve, invoke, builtin, ha.ev hx, Builtin.clear_, run_underlying hT]
end ops

/-- 'vs' in the place of what stood behind 'o' places. -/
def over (cs : List Value) (o : Nat) (vs : List Value) : List Value := cs.take o ++ vs ++ cs.drop (o + vs.length)
theorem Over.over {cs : List Value} {o : Nat} {vs : List Value} (h : o + vs.length ≤ cs.length) : Over cs o vs (Sx.over cs o vs) := Over.mk o vs h
theorem over_length {cs : List Value} {o : Nat} {vs : List Value} (h : o + vs.length ≤ cs.length) : (over cs o vs).length = cs.length := by
  simp [over, List.length_take, List.length_drop]; omega
theorem over_take_le {cs : List Value} {o : Nat} {vs : List Value} (h : o ≤ cs.length) {k : Nat} (hk : k ≤ o) : (over cs o vs).take k = cs.take k := by
  unfold over
  rw [List.append_assoc, List.take_append_of_le_length (by rw [List.length_take]; omega), List.take_take, Nat.min_eq_left hk]
theorem over_take_eq {cs : List Value} {o : Nat} {vs : List Value} (h : o + vs.length ≤ cs.length) : (over cs o vs).take (o + vs.length) = cs.take o ++ vs := by
  unfold over
  have hl : (cs.take o ++ vs).length = o + vs.length := by rw [List.length_append, List.length_take]; omega
  rw [← hl, List.take_left']
  rfl

theorem over_drop {cs : List Value} {o : Nat} {vs : List Value} (h : o + vs.length ≤ cs.length) {k : Nat} (hk : o + vs.length ≤ k) : (over cs o vs).drop k = cs.drop k := by
  unfold over
  have hl : (cs.take o ++ vs).length = o + vs.length := by rw [List.length_append, List.length_take]; omega
  rw [List.drop_append, hl, List.drop_of_length_le (by omega), List.nil_append, List.drop_drop]
  congr 1; omega

/-- integers -/
def iv (ns : List Int) : List Value := ns.map (.int .i64)
theorem iv_get {ns : List Int} {k : Nat} {x : Int} (h : ns[k]? = some x) : (iv ns)[k]? = some (.int .i64 x) := by simp [iv, h]
theorem iv_one (ns : List Int) : (iv ns).all (·.oneCell') = true := by simp [iv, Value.oneCell']

/-- an element of a list of things that lies in a row -/
theorem elem_at {α : Type} {f : α → List Value} {m n : Nat} (hf : ∀ x, (f x).length = m) {L : List α} {cur : List Value} (h : cur.take (n * m) = cells f L) {k : Nat} {x : α} (hk : L[k]? = some x) : ∀ j u, (f x)[j]? = some u → cur[0 + k * m + j]? = some u := by
  intro j u hu
  have h1 := cells_get hf L k x hk j u hu
  rw [← h, List.getElem?_take] at h1
  split at h1
  · rw [Nat.zero_add]; exact h1
  · cases h1
end Go.Sx

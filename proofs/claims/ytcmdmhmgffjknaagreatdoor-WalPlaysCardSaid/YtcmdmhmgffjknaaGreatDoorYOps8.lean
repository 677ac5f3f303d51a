/- What is laid by for good; maps; walks over maps. -/
import Derived.Test.YtcmdmhmgffjknaaGreatDoorYOps7
import Derived.MapKept
import Derived.Maps.RangeRun
namespace Go.Sx
open Go.MapKept
set_option linter.unusedVariables false

/-! ### Laid by -/
theorem sep_assoc {R S T : HP} {h : Heap} (H : sep R (sep S T) h) : sep (sep R S) T h := by
  obtain ⟨h1, h2, r, ⟨h3, h4, s, t, d2, u2⟩, d1, u1⟩ := H
  refine ⟨fun k => (h1 k).or (h3 k), h4, ⟨h1, h3, r, s, fun k => ?_, fun _ => rfl⟩, t, fun k => ?_, fun k => ?_⟩
  · have a := d1 k; have b := d2 k; have c := u2 k
    cases e1 : h1 k <;> cases e2 : h2 k <;> cases e3 : h3 k <;> cases e4 : h4 k <;> simp_all
  · have a := d1 k; have b := d2 k; have c := u2 k
    cases e1 : h1 k <;> cases e2 : h2 k <;> cases e3 : h3 k <;> cases e4 : h4 k <;> simp_all
  · have a := d1 k; have b := d2 k; have c := u2 k; have d := u1 k
    cases e1 : h1 k <;> cases e2 : h2 k <;> cases e3 : h3 k <;> cases e4 : h4 k <;> simp_all
theorem sep_comm {R S : HP} {h : Heap} (H : sep R S h) : sep S R h := by
  obtain ⟨h1, h2, r, s, d, u⟩ := H
  refine ⟨h2, h1, s, r, fun k => (d k).symm, fun k => ?_⟩
  have a := d k; have b := u k
  cases e1 : h1 k <;> cases e2 : h2 k <;> simp_all
theorem sep_unassoc {R S T : HP} {h : Heap} (H : sep (sep R S) T h) : sep R (sep S T) h := sep_comm (sep_assoc (sep_comm (sep_assoc (sep_comm H))))

theorem Own.stash {W0 w : World} {x k : HP} {Rs : List HP} (H : Own W0 w (x :: k :: Rs)) : Own W0 w (sep x k :: Rs) :=
  ⟨H.os, H.tape, H.output, H.size, H.old, let ⟨h, a, b⟩ := H.own; ⟨h, sep_assoc a, b⟩⟩
theorem Own.unstash {W0 w : World} {x k : HP} {Rs : List HP} (H : Own W0 w (sep x k :: Rs)) : Own W0 w (x :: k :: Rs) :=
  ⟨H.os, H.tape, H.output, H.size, H.old, let ⟨h, a, b⟩ := H.own; ⟨h, sep_unassoc a, b⟩⟩
/-- 'k2' has what 'k' has. -/
def Ex (W0 : World) (k k2 : HP) : Prop := ∀ w, Own W0 w [k2] → Own W0 w [k]
theorem Ex.refl (W0 : World) (k : HP) : Ex W0 k k := fun _ h => h
theorem Ex.trans {W0 : World} {a b c : HP} (h1 : Ex W0 a b) (h2 : Ex W0 b c) : Ex W0 a c := fun w h => h1 w (h2 w h)
theorem Ex.on (W0 : World) (x k : HP) : Ex W0 k (sep x k) := fun w h => h.unstash.tail
theorem Ex.here (W0 : World) (x k : HP) : Ex W0 x (sep x k) := fun w h => Gets.own (.step (.head _ _) (.all _)) h.unstash
theorem Rdb.ex {W0 : World} {k k2 : HP} {A : Option Addr} {n sz : Nat} {xs : List Value} (h : Rdb W0 [k] A n sz xs) (e : Ex W0 k k2) : Rdb W0 [k2] A n sz xs := h.mono e
section
variable {C : Cx} {ops : Array Oper} {l : List Oper} {κ : Kt} {e : Env} {Rs : List HP}
theorem XC.stash {c : Code} {x k : HP} {R1 R2 : List HP} (h1 : Pick Rs x R1) (h2 : Pick R1 k R2) (g : XC C c κ e (sep x k :: R2)) : XC C c κ e Rs :=
  XC.mem _ (fun w hw => ((hw.perm (h1.perm.trans (h2.perm.cons x)))).stash) g
theorem XL.stash {x k : HP} {R1 R2 : List HP} (h1 : Pick Rs x R1) (h2 : Pick R1 k R2) (g : XL C ops l κ e (sep x k :: R2)) : XL C ops l κ e Rs :=
  XL.mem _ (fun w hw => ((hw.perm (h1.perm.trans (h2.perm.cons x)))).stash) g
theorem XH.mem {Sb : List HP} {lz : Bool} {r : List (Nat × Bool)} (Rs' : List HP) (hm : ∀ w, Own C.W0 w Rs → Own C.W0 w Rs') (h : XH C ops Sb lz r κ e Rs') : XH C ops Sb lz r κ e Rs := fun a w ha hw => h a w ha (hm w hw)
theorem XH.fact {Sb : List HP} {lz : Bool} {r : List (Nat × Bool)} {R : HP} {Fr : List HP} {p : Prop} (hp : Pick Rs R Fr) (hf : ∀ w, Own C.W0 w (R :: Fr) → p) (k : p → XH C ops Sb lz r κ e Rs) : XH C ops Sb lz r κ e Rs := fun a w ha hw => k (hf w (hw.pick hp)) a w ha hw
theorem XH.stash {Sb : List HP} {lz : Bool} {r : List (Nat × Bool)} {x k : HP} {R1 R2 : List HP} (h1 : Pick Rs x R1) (h2 : Pick R1 k R2) (g : XH C ops Sb lz r κ e (sep x k :: R2)) : XH C ops Sb lz r κ e Rs :=
  XH.mem _ (fun w hw => ((hw.perm (h1.perm.trans (h2.perm.cons x)))).stash) g
/-- A slice that is owned is laid by: whoever has what is laid by can read it. -/
theorem Rdb.laid {W0 : World} {A : Option Addr} {n c E sz : Nat} {xs : List Value} (k : HP) (hl : xs.length = n * sz) (hA : 0 < n → ∃ g, A = some ⟨g, 0, none⟩) : Rdb W0 [sep (sl A n c E sz xs) k] A n sz xs :=
  (Rdb.of_sl (.head _ _) hl hA : Rdb W0 [sl A n c E sz xs] A n sz xs).mono (Ex.here W0 _ k)
end

/-! ### Maps -/
structure MIs (d : TypeDesc) (es : Array MapEntry) (clock : Nat) (f : Value → Option Value) : Prop where
  keys : ∀ x ∈ es.toList, IsKey d x.key
  stamped : Stamped es clock
  is : ∀ k v, f k = some v ↔ ∃ x ∈ es.toList, x.key = k ∧ x.val = v
/-- A map in block 'b'. -/
def mpf (b : Nat) (d : TypeDesc) (f : Value → Option Value) : HP := fun h => ∃ es clock, MIs d es clock f ∧ ob b (.map es clock) h

theorem Own.exi {W0 w : World} {Rs : List HP} {α : Type} {R : α → HP} (H : Own W0 w ((fun h => ∃ a, R a h) :: Rs)) : ∃ a, Own W0 w (R a :: Rs) := by
  obtain ⟨h, ⟨h1, h2, ⟨a, r⟩, s, d, u⟩, k⟩ := H.own
  exact ⟨a, H.os, H.tape, H.output, H.size, H.old, h, ⟨h1, h2, r, s, d, u⟩, k⟩
theorem Own.mpf_open {W0 w : World} {Rs : List HP} {b : Nat} {d : TypeDesc} {f : Value → Option Value} (H : Own W0 w (mpf b d f :: Rs)) : ∃ es clock, MIs d es clock f ∧ Own W0 w (ob b (.map es clock) :: Rs) := by
  obtain ⟨h, ⟨h1, h2, ⟨es, clock, m, r⟩, s, dd, u⟩, k⟩ := H.own
  exact ⟨es, clock, m, H.os, H.tape, H.output, H.size, H.old, h, ⟨h1, h2, r, s, dd, u⟩, k⟩
theorem Own.mpf_shut {W0 w : World} {Rs : List HP} {b : Nat} {d : TypeDesc} {f : Value → Option Value} {es : Array MapEntry} {clock : Nat} (m : MIs d es clock f) (H : Own W0 w (ob b (.map es clock) :: Rs)) : Own W0 w (mpf b d f :: Rs) :=
  H.imp fun h r => ⟨es, clock, m, r⟩
theorem MIs.none (d : TypeDesc) : MIs d #[] 0 (fun _ => none) := ⟨by simp, stamped_empty 0, by simp⟩
theorem nodup_idx {l : List Value} (h : l.Nodup) {i j : Nat} (hi : i < l.length) (hj : j < l.length) (e : l[i] = l[j]) : i = j := by
  rcases Nat.lt_trichotomy i j with h1 | h1 | h1
  · exact absurd e (List.pairwise_iff_getElem.1 h i j hi hj h1)
  · exact h1
  · exact absurd e.symm (List.pairwise_iff_getElem.1 h j i hj hi h1)
theorem keyOne {es : Array MapEntry} {clock : Nat} (h : Stamped es clock) {x y : MapEntry} (hx : x ∈ es.toList) (hy : y ∈ es.toList) (hk : x.key = y.key) : x = y := by
  obtain ⟨i, hi, rfl⟩ := List.getElem_of_mem hx
  obtain ⟨j, hj, rfl⟩ := List.getElem_of_mem hy
  have : i = j := nodup_idx h.2.2 (by simpa using hi) (by simpa using hj) (by simpa using hk)
  subst this; rfl
theorem heap_set_lt {w : World} {b : Nat} {o : Obj} (h : w.heap[b]? = some o) : b < w.heap.size := (Array.getElem?_eq_some_iff.1 h).1
theorem Own.setOb {W0 w : World} {b : Nat} {o : Obj} {Rs : List HP} (H : Own W0 w (ob b o :: Rs)) (o' : Obj) : Own W0 { w with heap := w.heap.setIfInBounds b o' } (ob b o' :: Rs) := by
  have hb := heap_set_lt H.head.2
  refine H.put rfl rfl rfl (by simp) (by simp [hb]) (fun k hk => by simp [Array.getElem?_setIfInBounds_ne (Ne.symm hk)])

theorem run_mapUpdate_mis {P : Program} {W0 w : World} {Rs : List HP} {T kt et : TypeId} {d : TypeDesc} {b : Nat} {f f' : Value → Option Value} {k v : Value} (ht : P.underlying T = some (.map kt et)) (hd : P.underlying kt = some d) (hk : IsKey d k)
    (h1 : f' k = some v) (h2 : ∀ x, x ≠ k → f' x = f x) (H : Own W0 w (mpf b d f :: Rs)) : ∃ w', (Instr.mapUpdate T (.map (some b)) k v).run P w = .ok () w' ∧ Own W0 w' (mpf b d f' :: Rs) := by
  obtain ⟨es, clock, m, Ho⟩ := H.mpf_open
  have hb := Ho.head.2
  rcases findNow_spec hk es.toList 0 m.keys with ⟨q1, q2⟩ | ⟨j, x, q1, q2, q3⟩
  · refine ⟨_, by simp [Instr.mapUpdate, run_underlying ht, MapKept.run_getObj_map hb, MapKept.run_checkKey hd hk, MapKept.run_findKey hd q1, MapKept.run_setObj_map _ hb, Result.andThen]; rfl, ?_⟩
    refine Own.mpf_shut ?_ (Ho.setOb _)
    refine ⟨fun x hx => ?_, stamped_push m.stamped q2, fun k' v' => ?_⟩
    · simp only [Array.toList_push, List.mem_append, List.mem_singleton] at hx
      rcases hx with hx | rfl
      · exact m.keys x hx
      · exact hk
    · simp only [Array.toList_push, List.mem_append, List.mem_singleton]
      by_cases hkk : k' = k
      · subst hkk
        rw [h1]
        constructor
        · intro h; cases h; exact ⟨_, .inr rfl, rfl, rfl⟩
        · rintro ⟨x, hx | rfl, h3, h4⟩
          · exact absurd h3 (q2 x hx)
          · exact congrArg some h4
      · rw [h2 k' hkk, m.is]
        constructor
        · rintro ⟨x, hx, h3⟩; exact ⟨x, .inl hx, h3⟩
        · rintro ⟨x, hx | rfl, h3, h4⟩
          · exact ⟨x, hx, h3, h4⟩
          · exact absurd h3.symm hkk
  · have hj : j < es.size := by have := (List.getElem?_eq_some_iff.1 q2).1; simpa using this
    have hx : es[j]? = some x := by rw [← q2]; simp
    have hkx : (((es[j]?).map (·.key)).getD k) = k := by rw [hx]; exact q3
    refine ⟨_, by
      simp only [Instr.mapUpdate, Sem.run_bind, run_underlying ht, Result.andThen, MapKept.run_getObj_map hb, MapKept.run_checkKey hd hk, MapKept.run_findKey hd q1, Nat.zero_add, hkx, run_keyThatStays hk]
      rw [MapKept.run_setObj_map _ hb], ?_⟩
    refine Own.mpf_shut ?_ (Ho.setOb _)
    have hmem : ∀ y, y ∈ (es.modify j fun e => { e with key := k, val := v }).toList ↔ (∃ i, i ≠ j ∧ es[i]? = some y) ∨ y = { x with key := k, val := v } := fun y => by
      rw [List.mem_iff_getElem?]
      constructor
      · rintro ⟨i, hi⟩
        rw [Array.getElem?_toList, Array.getElem?_modify] at hi
        split at hi
        · rename_i hij; subst hij; rw [hx] at hi; simp at hi; exact .inr hi.symm
        · rename_i hij; exact .inl ⟨i, fun h => hij h.symm, hi⟩
      · rintro (⟨i, hij, hi⟩ | rfl)
        · exact ⟨i, by rw [Array.getElem?_toList, Array.getElem?_modify, if_neg (fun h => hij h.symm)]; exact hi⟩
        · exact ⟨j, by rw [Array.getElem?_toList, Array.getElem?_modify, if_pos rfl, hx]; rfl⟩
    have hkeys : (es.modify j fun e => { e with key := k, val := v }).toList.map (·.key) = es.toList.map (·.key) := by
      apply List.ext_getElem?
      intro i
      rw [List.getElem?_map, List.getElem?_map, Array.getElem?_toList, Array.getElem?_toList, Array.getElem?_modify]
      split
      · rename_i h; subst h; rw [hx]; simp [q3]
      · rfl
    have hborn : (es.modify j fun e => { e with key := k, val := v }).toList.map (·.born) = es.toList.map (·.born) := by
      apply List.ext_getElem?
      intro i
      rw [List.getElem?_map, List.getElem?_map, Array.getElem?_toList, Array.getElem?_toList, Array.getElem?_modify]
      split
      · rename_i h; subst h; rw [hx]; rfl
      · rfl
    have hin : ∀ {i : Nat} {y : MapEntry}, es[i]? = some y → y ∈ es.toList := fun {i y} h => List.mem_of_getElem? (by rw [Array.getElem?_toList]; exact h)
    refine ⟨fun y hy => ?_, ⟨fun y hy => ?_, by rw [hborn]; exact m.stamped.2.1, by rw [hkeys]; exact m.stamped.2.2⟩, fun k' v' => ?_⟩
    · rcases (hmem y).1 hy with ⟨i, _, hi⟩ | rfl
      · exact m.keys y (hin hi)
      · exact hk
    · rcases (hmem y).1 hy with ⟨i, _, hi⟩ | rfl
      · exact m.stamped.1 y (hin hi)
      · exact m.stamped.1 x (hin hx)
    · by_cases hkk : k' = k
      · subst hkk
        rw [h1]
        constructor
        · intro h; cases h; exact ⟨_, (hmem _).2 (.inr rfl), rfl, rfl⟩
        · rintro ⟨y, hy, h3, h4⟩
          rcases (hmem y).1 hy with ⟨i, hij, hi⟩ | rfl
          · exfalso
            have e1 := keyOne m.stamped (hin hi) (hin hx) (h3.trans q3.symm)
            have hlt := (Array.getElem?_eq_some_iff.1 hi).1
            have h5 : i = j := nodup_idx m.stamped.2.2 (by simpa using hlt) (by simpa using hj) (by
              have a1 : es[i] = y := (Array.getElem?_eq_some_iff.1 hi).2
              have a2 : es[j] = x := (Array.getElem?_eq_some_iff.1 hx).2
              simp [a1, a2, e1])
            exact hij h5
          · exact congrArg some h4
      · rw [h2 k' hkk, m.is]
        constructor
        · rintro ⟨y, hy, h3, h4⟩
          obtain ⟨i, hi⟩ := List.mem_iff_getElem?.1 hy
          rw [Array.getElem?_toList] at hi
          refine ⟨y, (hmem y).2 (.inl ⟨i, fun h => ?_, hi⟩), h3, h4⟩
          subst h; rw [hx] at hi; cases hi; exact hkk (h3.symm.trans q3)
        · rintro ⟨y, hy, h3, h4⟩
          rcases (hmem y).1 hy with ⟨i, _, hi⟩ | rfl
          · exact ⟨y, hin hi, h3, h4⟩
          · exact absurd h3.symm hkk

section
variable {C : Cx} {ops : Array Oper} {l : List Oper} {κ : Kt} {e : Env} {Rs : List HP}
variable {x y z : Operand} {ty T : TypeId} {v k : Value}
theorem r_mm (d : TypeDesc) : Acts C e Rs (.makeMap T none) ty (fun b : Nat => .map (some b)) (fun b => mpf b d (fun _ => none) :: Rs) := by
  intro a w ha hw
  refine ⟨w.heap.size, _, ?_, Own.mpf_shut (MIs.none d) (hw.new (.map #[] 0))⟩
  simp [execOp, Instr.makeMap, newObj, Sem.run]
theorem r_mu {kt et : TypeId} {d : TypeDesc} {b : Nat} {f : Value → Option Value} (f' : Value → Option Value) {Rs' : List HP} (ht : C.P.underlying T = some (.map kt et)) (hd : C.P.underlying kt = some d) (hx : ev e x = some (.map (some b))) (hy : ev e y = some k) (hz : ev e z = some v) (hk : IsKey d k)
    (h1 : f' k = some v) (h2 : ∀ x, x ≠ k → f' x = f x) (hu : Upd Rs (mpf b d f) (mpf b d f') Rs') : Effs C e Rs (.mapUpdate T x y z) ty Rs' := by
  intro a w ha hw
  obtain ⟨Fr, p1, p2⟩ := hu.perm
  obtain ⟨w', hr, ho⟩ := run_mapUpdate_mis (P := C.P) ht hd hk h1 h2 (hw.perm p1)
  exact ⟨w', .skip, .inl rfl, by simp [execOp, ha.ev hx, ha.ev hy, ha.ev hz, hr], ho.perm p2.symm⟩
theorem r_ins {kt et : TypeId} {d : TypeDesc} {b : Nat} {f : Value → Option Value} (f' : Value → Option Value) {Rs' : List HP} (ht : C.P.underlying T = some (.map kt et)) (hd : C.P.underlying kt = some d) (hx : ev e x = some (.map (some b))) (hy : ev e y = some k) (hz : ev e z = some v) (hk : IsKey d k)
    (h1 : f' k = some v) (h2 : ∀ x, x ≠ k → f' x = f x) (hu : Upd Rs (mpf b d f) (mpf b d f') Rs') : Effs C e Rs (.insert T x y z) ty Rs' := by
  intro a w ha hw
  obtain ⟨Fr, p1, p2⟩ := hu.perm
  obtain ⟨w', hr, ho⟩ := run_mapUpdate_mis (P := C.P) ht hd hk h1 h2 (hw.perm p1)
  exact ⟨w', .skip, .inl rfl, by simp [execOp, ha.ev hx, ha.ev hy, ha.ev hz, hr], ho.perm p2.symm⟩
/-- A map, whatever it holds. -/
def vmp (b : Nat) (d : TypeDesc) : HP := fun h => ∃ f, mpf b d f h
theorem Own.vmp_open {W0 w : World} {Rs : List HP} {b : Nat} {d : TypeDesc} (H : Own W0 w (vmp b d :: Rs)) : ∃ f, Own W0 w (mpf b d f :: Rs) := H.exi
theorem Own.vmp_shut {W0 w : World} {Rs : List HP} {b : Nat} {d : TypeDesc} {f : Value → Option Value} (H : Own W0 w (mpf b d f :: Rs)) : Own W0 w (vmp b d :: Rs) := H.imp fun h r => ⟨f, r⟩
theorem r_muv {kt et : TypeId} {d : TypeDesc} {b : Nat} {Fr : List HP} (ht : C.P.underlying T = some (.map kt et)) (hd : C.P.underlying kt = some d) (hx : ev e x = some (.map (some b))) (hy : ev e y = some k) (hz : ev e z = some v) (hk : IsKey d k)
    (hp : Pick Rs (vmp b d) Fr) : Effs C e Rs (.mapUpdate T x y z) ty (vmp b d :: Fr) := by
  classical
  intro a w ha hw
  obtain ⟨f, ho⟩ := (hw.pick hp).vmp_open
  obtain ⟨w', hr, ho'⟩ := run_mapUpdate_mis (P := C.P) (f' := fun x => if x = k then some v else f x) (v := v) ht hd hk (by simp) (fun x hx => by simp [hx]) ho
  exact ⟨w', .skip, .inl rfl, by simp [execOp, ha.ev hx, ha.ev hy, ha.ev hz, hr], ho'.vmp_shut⟩
theorem r_insv {kt et : TypeId} {d : TypeDesc} {b : Nat} {Fr : List HP} (ht : C.P.underlying T = some (.map kt et)) (hd : C.P.underlying kt = some d) (hx : ev e x = some (.map (some b))) (hy : ev e y = some k) (hz : ev e z = some v) (hk : IsKey d k)
    (hp : Pick Rs (vmp b d) Fr) : Effs C e Rs (.insert T x y z) ty (vmp b d :: Fr) := by
  classical
  intro a w ha hw
  obtain ⟨f, ho⟩ := (hw.pick hp).vmp_open
  obtain ⟨w', hr, ho'⟩ := run_mapUpdate_mis (P := C.P) (f' := fun x => if x = k then some v else f x) (v := v) ht hd hk (by simp) (fun x hx => by simp [hx]) ho
  exact ⟨w', .skip, .inl rfl, by simp [execOp, ha.ev hx, ha.ev hy, ha.ev hz, hr], ho'.vmp_shut⟩
theorem r_mmv (d : TypeDesc) : Acts C e Rs (.makeMap T none) ty (fun b : Nat => .map (some b)) (fun b => vmp b d :: Rs) := by
  intro a w ha hw
  obtain ⟨b, w', hr, ho⟩ := r_mm (T := T) (ty := ty) d a w ha hw
  exact ⟨b, w', hr, ho.vmp_shut⟩
theorem run_lookup_mis {P : Program} {W0 w : World} {kt et n by_ : Nat} {d : TypeDesc} {b : Nat} {f : Value → Option Value} {zv : Value} {ag : Bool} (ok : Bool) (ht : P.underlying T = some (.map kt et)) (hd : P.underlying kt = some d) (hE : Ty P et n by_ zv ag) (hk : IsKey d k)
    (H : Own W0 w (mpf b d f :: Rs)) : (Instr.lookup T (.map (some b)) k ok).run P w = .ok (if ok then .tuple #[(f k).getD zv, .bool (f k).isSome] else (f k).getD zv) w := by
  obtain ⟨i, i1, i2, i3, i4⟩ := hE.get
  obtain ⟨es, clock, m, Ho⟩ := H.mpf_open
  have hb := Ho.head.2
  rcases findNow_spec hk es.toList 0 m.keys with ⟨q1, q2⟩ | ⟨j, x, q1, q2, q3⟩
  · have hf : f k = none := by
      cases h : f k with
      | none => rfl
      | some v => obtain ⟨x, hx, h3, _⟩ := (m.is k v).1 h; exact absurd h3 (q2 x hx)
    rw [hf]
    cases ok <;> simp [Instr.lookup, run_underlying ht, MapKept.run_getObj_map hb, MapKept.run_checkKey hd hk, MapKept.run_findKey hd q1, Result.andThen, zeroValue, typeInfo, i1, i4]
  · have hf : f k = some x.val := (m.is k x.val).2 ⟨x, List.mem_of_getElem? q2, q3, rfl⟩
    rw [hf]
    cases ok <;> simp [Instr.lookup, run_underlying ht, MapKept.run_getObj_map hb, MapKept.run_checkKey hd hk, MapKept.run_findKey hd q1, Result.andThen]
theorem r_lk {kt et n by_ : Nat} {d : TypeDesc} {b : Nat} {f : Value → Option Value} {zv : Value} {ag : Bool} {Fr : List HP} (ht : C.P.underlying T = some (.map kt et)) (hd : C.P.underlying kt = some d) (hE : Ty C.P et n by_ zv ag) (hx : ev e x = some (.map (some b))) (hy : ev e y = some k) (hk : IsKey d k)
    (hp : Pick Rs (mpf b d f) Fr) : Yld C e Rs (.lookup T x y true) ty (.tuple [(f k).getD zv, .bool (f k).isSome].toArray) := by
  intro a w ha hw
  have := run_lookup_mis (P := C.P) true ht hd hE hk (hw.pick hp)
  simp [execOp, ha.ev hx, ha.ev hy, this]
theorem r_lk1 {kt et n by_ : Nat} {d : TypeDesc} {b : Nat} {f : Value → Option Value} {zv : Value} {ag : Bool} {Fr : List HP} (ht : C.P.underlying T = some (.map kt et)) (hd : C.P.underlying kt = some d) (hE : Ty C.P et n by_ zv ag) (hx : ev e x = some (.map (some b))) (hy : ev e y = some k) (hk : IsKey d k)
    (hp : Pick Rs (mpf b d f) Fr) : Yld C e Rs (.lookup T x y false) ty ((f k).getD zv) := by
  intro a w ha hw
  have := run_lookup_mis (P := C.P) false ht hd hE hk (hw.pick hp)
  simp [execOp, ha.ev hx, ha.ev hy, this]
/-- An element, of one cell, of an array that is a value. -/
theorem r_aix {E len j by_ : Nat} {zv : Value} {cs : Array Value} {kd : IntKind} {i : Int} (hT : C.P.underlying T = some (.array len E)) (hE : Ty C.P E 1 by_ zv false) (hx : ev e x = some (.agg cs)) (hy : ev e y = some (.int kd i)) (hi : i = (j : Int)) (hj : j < len) (hv : cs[j]? = some v) : Yld C e Rs (.index T x y) ty v := by
  obtain ⟨q, i1, i2, i3, i4⟩ := hE.get
  subst hi
  intro a w ha hw
  have hag := hE.agg w
  simp [execOp, ha.ev hx, ha.ev hy, Instr.index, asIntOf, run_underlying hT, hj, sizeOf, typeInfo, i1, i2, part, hag, hv]
end
end Go.Sx

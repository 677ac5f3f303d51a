/- Walks over maps: 'range', 'next', 'entry', the map not written meanwhile. -/
import Derived.Test.YtcmdmhmgffjknaaGreatDoorYOps8
namespace Go.Sx
open Go.MapKept Go.ChangeMaps
set_option linter.unusedVariables false

/-- A map that is being walked by the iterator in block 'r'; at most 'n' entries are left. -/
def mit (r b : Nat) (d : TypeDesc) (f : Value → Option Value) (n : Nat) : HP := fun h => ∃ es clock since seen c0, (MIs d es clock f ∧ (∀ x ∈ es.toList, x.born < since) ∧ since ≤ c0 ∧ since ≤ clock ∧ (leftOf es seen).size ≤ n) ∧ sep (ob b (.map es clock)) (ob r (.mapIter (some b) since seen c0)) h
/-- As 'mit', and the entry (k, v) has just come out. -/
def mie (r b : Nat) (d : TypeDesc) (f : Value → Option Value) (n : Nat) (k v : Value) : HP := fun h => ∃ es clock since seen e, (MIs d es clock f ∧ (∀ x ∈ es.toList, x.born < since) ∧ since ≤ clock ∧ (leftOf es seen).size ≤ n ∧ e ∈ (leftOf es seen).toList ∧ e.key = k ∧ e.val = v) ∧ sep (ob b (.map es clock)) (ob r (.mapIter (some b) since (seen.push e.born) clock)) h
theorem Own.first {W0 w : World} {Rs : List HP} {R : HP} {p : Prop} {S T : HP} (H : Own W0 w (R :: Rs)) (h : ∀ g, R g → p ∧ sep S T g) : p ∧ Own W0 w (S :: T :: Rs) := by
  obtain ⟨g, ⟨h1, h2, a, s, d, u⟩, k⟩ := H.own
  refine ⟨(h h1 a).1, ?_⟩
  have : Own W0 w (sep S T :: Rs) := ⟨H.os, H.tape, H.output, H.size, H.old, g, ⟨h1, h2, (h h1 a).2, s, d, u⟩, k⟩
  exact this.unstash
theorem Own.mit_open {W0 w : World} {Rs : List HP} {r b n : Nat} {d : TypeDesc} {f : Value → Option Value} (H : Own W0 w (mit r b d f n :: Rs)) :
    ∃ es clock since seen c0, (MIs d es clock f ∧ (∀ x ∈ es.toList, x.born < since) ∧ since ≤ c0 ∧ since ≤ clock ∧ (leftOf es seen).size ≤ n) ∧ Own W0 w (ob b (.map es clock) :: ob r (.mapIter (some b) since seen c0) :: Rs) := by
  obtain ⟨g, ⟨h1, h2, ⟨es, clock, since, seen, c0, p, q⟩, s, dd, u⟩, k⟩ := H.own
  have : Own W0 w (sep (ob b (.map es clock)) (ob r (.mapIter (some b) since seen c0)) :: Rs) := ⟨H.os, H.tape, H.output, H.size, H.old, g, ⟨h1, h2, q, s, dd, u⟩, k⟩
  exact ⟨es, clock, since, seen, c0, p, this.unstash⟩
theorem Own.mie_open {W0 w : World} {Rs : List HP} {r b n : Nat} {d : TypeDesc} {f : Value → Option Value} {kk v : Value} (H : Own W0 w (mie r b d f n kk v :: Rs)) :
    ∃ es clock since seen e, (MIs d es clock f ∧ (∀ x ∈ es.toList, x.born < since) ∧ since ≤ clock ∧ (leftOf es seen).size ≤ n ∧ e ∈ (leftOf es seen).toList ∧ e.key = kk ∧ e.val = v) ∧ Own W0 w (ob b (.map es clock) :: ob r (.mapIter (some b) since (seen.push e.born) clock) :: Rs) := by
  obtain ⟨g, ⟨h1, h2, ⟨es, clock, since, seen, e, p, q⟩, s, dd, u⟩, k⟩ := H.own
  have : Own W0 w (sep (ob b (.map es clock)) (ob r (.mapIter (some b) since (seen.push e.born) clock)) :: Rs) := ⟨H.os, H.tape, H.output, H.size, H.old, g, ⟨h1, h2, q, s, dd, u⟩, k⟩
  exact ⟨es, clock, since, seen, e, p, this.unstash⟩
theorem Own.mit_shut {W0 w : World} {Rs : List HP} {r b n : Nat} {d : TypeDesc} {f : Value → Option Value} {es : Array MapEntry} {clock since c0 : Nat} {seen : Array Nat} (p : MIs d es clock f ∧ (∀ x ∈ es.toList, x.born < since) ∧ since ≤ c0 ∧ since ≤ clock ∧ (leftOf es seen).size ≤ n) (H : Own W0 w (ob b (.map es clock) :: ob r (.mapIter (some b) since seen c0) :: Rs)) : Own W0 w (mit r b d f n :: Rs) :=
  H.stash.imp fun h q => ⟨es, clock, since, seen, c0, p, q⟩
theorem Own.mie_shut {W0 w : World} {Rs : List HP} {r b n : Nat} {d : TypeDesc} {f : Value → Option Value} {kk v : Value} {es : Array MapEntry} {clock since : Nat} {seen : Array Nat} {e : MapEntry} (p : MIs d es clock f ∧ (∀ x ∈ es.toList, x.born < since) ∧ since ≤ clock ∧ (leftOf es seen).size ≤ n ∧ e ∈ (leftOf es seen).toList ∧ e.key = kk ∧ e.val = v) (H : Own W0 w (ob b (.map es clock) :: ob r (.mapIter (some b) since (seen.push e.born) clock) :: Rs)) : Own W0 w (mie r b d f n kk v :: Rs) :=
  H.stash.imp fun h q => ⟨es, clock, since, seen, e, p, q⟩
theorem Own.mie_fact {W0 w : World} {Rs : List HP} {r b n : Nat} {d : TypeDesc} {f : Value → Option Value} {kk v : Value} (H : Own W0 w (mie r b d f n kk v :: Rs)) : f kk = some v ∧ 0 < n ∧ IsKey d kk := by
  obtain ⟨es, clock, since, seen, e, ⟨m, _, _, h1, h2, rfl, rfl⟩, _⟩ := H.mie_open
  have h3 := (mem_left h2).1
  refine ⟨(m.is _ _).2 ⟨e, h3, rfl, rfl⟩, ?_, m.keys e h3⟩
  have : 0 < (leftOf es seen).size := Array.size_pos_of_mem (Array.mem_toList_iff.1 h2)
  omega
theorem Own.mie_mit {W0 w : World} {Rs : List HP} {r b n : Nat} {d : TypeDesc} {f : Value → Option Value} {kk v : Value} (H : Own W0 w (mie r b d f n kk v :: Rs)) : Own W0 w (mit r b d f (n - 1) :: Rs) := by
  obtain ⟨es, clock, since, seen, e, ⟨m, h0, h4, h1, h2, _, _⟩, Ho⟩ := H.mie_open
  have h3 := left_shrinks es seen e h2
  exact Own.mit_shut ⟨m, h0, h4, h4, by omega⟩ Ho
theorem Own.mit_map {W0 w : World} {Rs : List HP} {r b n : Nat} {d : TypeDesc} {f : Value → Option Value} (H : Own W0 w (mit r b d f n :: Rs)) : Own W0 w (mpf b d f :: Rs) := by
  obtain ⟨es, clock, since, seen, c0, ⟨m, _⟩, Ho⟩ := H.mit_open
  exact Own.mpf_shut m (Gets.own (.step (.head _ _) (.drop _ (.done _))) Ho)
section
variable {C : Cx} {e : Env} {Rs : List HP} {x : Operand} {ty T : TypeId}
theorem r_rg {kt et : TypeId} {d : TypeDesc} {b : Nat} {f : Value → Option Value} {Fr : List HP} (ht : C.P.underlying T = some (.map kt et)) (hx : ev e x = some (.map (some b))) (hp : Pick Rs (mpf b d f) Fr) :
    Acts C e Rs (.range T x) ty (fun q : Nat × Nat => .pointer (some ⟨q.1, 0, none⟩)) (fun q => mit q.1 b d f q.2 :: Fr) := by
  intro a w ha hw
  obtain ⟨es, clock, m, Ho⟩ := (hw.pick hp).mpf_open
  refine ⟨(w.heap.size, (leftOf es #[]).size), _, by simp [execOp, ha.ev hx, run_range_map w T kt et b es clock ht Ho.head.2]; rfl, ?_⟩
  exact Own.mit_shut (c0 := clock) (since := clock) ⟨m, m.stamped.1, Nat.le_refl _, Nat.le_refl _, Nat.le_refl _⟩ ((Ho.new (.mapIter (some b) clock #[] clock)).perm (.swap _ _ _))
theorem r_nx {d : TypeDesc} {r b n : Nat} {f : Value → Option Value} {Fr : List HP} (hx : ev e x = some (.pointer (some ⟨r, 0, none⟩))) (hp : Pick Rs (mit r b d f n) Fr) :
    Acts C e Rs (.next x false) ty (fun q : Option (Value × Value) => match q with | none => .tuple #[.bool false] | some p => .tuple #[.bool true, p.1, p.2]) (fun q => match q with | none => mit r b d f n :: Fr | some p => mie r b d f n p.1 p.2 :: Fr) := by
  intro a w ha hw
  obtain ⟨es, clock, since, seen, c0, ⟨m, h1, h2, h3, h4⟩, Ho⟩ := (hw.pick hp).mit_open
  have hr := (Ho.perm (.swap _ _ _)).head.2
  rcases run_next_at (P := C.P) w ty r b since c0 seen es clock hr Ho.head.2 h1 h2 with ⟨_, q⟩ | ⟨en, hen, w1, hw1, q⟩
  · exact ⟨none, w, by simp [execOp, ha.ev hx, q], Own.mit_shut ⟨m, h1, h2, h3, h4⟩ Ho⟩
  · have Ho1 : Own C.W0 w1 (ob b (.map es clock) :: ob r (.mapIter (some b) since seen c0) :: Fr) := by
      rcases hw1 with rfl | rfl
      · exact Ho
      · exact Ho.drew _
    exact ⟨some (en.key, en.val), _, by simp [execOp, ha.ev hx, q, setBlock], Own.mie_shut ⟨m, h1, h3, h4, hen, rfl, rfl⟩ ((Ho1.perm (.swap _ _ _)).setOb _ |>.perm (.swap _ _ _))⟩
theorem r_en {d : TypeDesc} {r b n : Nat} {f : Value → Option Value} {k v : Value} {Fr : List HP} (hx : ev e x = some (.pointer (some ⟨r, 0, none⟩))) (hp : Pick Rs (mie r b d f n k v) Fr) : Yld C e Rs (.entry x) ty (.tuple [k, v].toArray) := by
  intro a w ha hw
  obtain ⟨es, clock, since, seen, en, ⟨m, h1, h2, h3, h4, rfl, rfl⟩, Ho⟩ := (hw.pick hp).mie_open
  have hr := (Ho.perm (.swap _ _ _)).head.2
  have := run_entry_at (P := C.P) w r b since seen es clock en hr Ho.head.2 (mem_left h4).1 m.stamped.2.1
  simp [execOp, ha.ev hx, this]
end
/-! Skipped operations of a drawn region whose guard was itself skipped. -/
theorem y_unu {C : Cx} {ops : Array Oper} {Sb : List HP} {lz : Bool} {r : List (Nat × Bool)} {κ : Kt} {e : Env} {Rs : List HP} {d i : Nat} {ty : TypeId} {pos : String} {aft : Array Edge} {op : Op} {g : Nat} {b : Bool} {t : Nat} (ho : ops[i]? = some ⟨some d, op, ty, pos, aft, some (g, b)⟩) (hj : (ops[g]?).bind (·.dst) = some t) (ht : look e t = some undef) (hS : ∀ w, Own C.W0 w Rs → Own C.W0 w Sb) (hN : Nat.blt d C.N = true) (k : XH C ops Sb lz r κ ((d, undef) :: e) Rs) : XH C ops Sb lz ((i, false) :: r) κ e Rs := by
  intro a w ha hw
  have hy : yielded ops a.tmps g = none := by simp only [yielded, hj, Option.bind_some, ha.at_ t _ ht]; rfl
  exact ⟨_, undef, ho, .inr ⟨by simp [Region.wanted, hy], rfl⟩, hS w hw, k _ w (ha.put d hN _) hw⟩
theorem y_unlu {C : Cx} {ops : Array Oper} {Sb : List HP} {lz : Bool} {r : List (Nat × Bool)} {κ : Kt} {e : Env} {Rs : List HP} {d i : Nat} {ty : TypeId} {pos : String} {aft : Array Edge} {op : Op} {g : Nat} {b : Bool} {t : Nat} (ho : ops[i]? = some ⟨some d, op, ty, pos, aft, some (g, b)⟩) (hj : (ops[g]?).bind (·.dst) = some t) (ht : look e t = some undef) (hS : ∀ w, Own C.W0 w Rs → Own C.W0 w Sb) (hN : Nat.blt d C.N = true) (k : XH C ops Sb lz r κ ((d, undef) :: e) Rs) : XH C ops Sb lz ((i, true) :: r) κ e Rs := by
  intro a w ha hw
  have hy : yielded ops a.tmps g = none := by simp only [yielded, hj, Option.bind_some, ha.at_ t _ ht]; rfl
  have hwt : Region.wanted (⟨some d, op, ty, pos, aft, some (g, b)⟩ : Oper) (yielded ops a.tmps) = false := by simp [Region.wanted, hy]
  simp only [wpH, wpOp, ho, hwt]
  exact ⟨fun _ => hS w hw, k _ w (ha.put d hN _) hw⟩
/-! Entries taken out of a map. -/
theorem run_delete_mis {P : Program} {W0 w : World} {Rs : List HP} {T kt et ty : TypeId} {d : TypeDesc} {b : Nat} {f f' : Value → Option Value} {k : Value} (ht : P.underlying T = some (.map kt et)) (hd : P.underlying kt = some d) (hk : IsKey d k)
    (h1 : f' k = none) (h2 : ∀ x, x ≠ k → f' x = f x) (H : Own W0 w (mpf b d f :: Rs)) : ∃ w', (Builtin.delete_ #[T, kt] ty #[.map (some b), k]).run P w = .ok (.tuple #[]) w' ∧ Own W0 w' (mpf b d f' :: Rs) := by
  obtain ⟨es, clock, m, Ho⟩ := H.mpf_open
  have hb := Ho.head.2
  rcases findNow_spec hk es.toList 0 m.keys with ⟨q1, q2⟩ | ⟨j, x, q1, q2, q3⟩
  · refine ⟨_, by simp [Builtin.delete_, run_underlying ht, MapKept.run_getObj_map hb, MapKept.run_checkKey hd hk, MapKept.run_findKey hd q1, MapKept.run_setObj_map _ hb, Result.andThen]; rfl, ?_⟩
    refine Own.mpf_shut ?_ (Ho.setOb _)
    refine ⟨m.keys, m.stamped, fun k' v' => ?_⟩
    by_cases hkk : k' = k
    · subst hkk
      rw [h1]
      constructor
      · intro h; cases h
      · rintro ⟨x, hx, h3, _⟩; exact absurd h3 (q2 x hx)
    · rw [h2 k' hkk]; exact m.is k' v'
  · have hj : j < es.size := by have := (List.getElem?_eq_some_iff.1 q2).1; simpa using this
    refine ⟨_, by simp [Builtin.delete_, run_underlying ht, MapKept.run_getObj_map hb, MapKept.run_checkKey hd hk, MapKept.run_findKey hd q1, MapKept.run_setObj_map _ hb, Result.andThen]; rfl, ?_⟩
    refine Own.mpf_shut ?_ (Ho.setOb _)
    have hl : (es.eraseIdxIfInBounds j).toList = es.toList.eraseIdx j := by
      unfold Array.eraseIdxIfInBounds
      rw [dif_pos (by omega), Array.toList_eraseIdx]
    have hin : ∀ {y : MapEntry}, y ∈ es.toList.eraseIdx j → y ∈ es.toList := fun h => (List.eraseIdx_sublist _ _).subset h
    refine ⟨fun y hy => m.keys y (hin (hl ▸ hy)), stamped_erase m.stamped _, fun k' v' => ?_⟩
    rw [hl]
    by_cases hkk : k' = k
    · subst hkk
      rw [h1]
      constructor
      · intro h; cases h
      · rintro ⟨y, hy, h3, _⟩
        exfalso
        obtain ⟨i, hij, hi⟩ := List.mem_eraseIdx_iff_getElem?.1 hy
        have e1 := keyOne m.stamped (List.mem_of_getElem? hi) (List.mem_of_getElem? q2) (h3.trans q3.symm)
        have hlt := (List.getElem?_eq_some_iff.1 hi).1
        have hlj := (List.getElem?_eq_some_iff.1 q2).1
        have h5 : i = j := nodup_idx m.stamped.2.2 (by simpa using hlt) (by simpa using hlj) (by
          have a1 : es.toList[i] = y := (List.getElem?_eq_some_iff.1 hi).2
          have a2 : es.toList[j] = x := (List.getElem?_eq_some_iff.1 q2).2
          rw [List.getElem_map, List.getElem_map, a1, a2, e1])
        exact hij h5
    · rw [h2 k' hkk, m.is]
      constructor
      · rintro ⟨y, hy, h3, h4⟩
        obtain ⟨i, hi⟩ := List.mem_iff_getElem?.1 hy
        refine ⟨y, List.mem_eraseIdx_iff_getElem?.2 ⟨i, fun h => ?_, hi⟩, h3, h4⟩
        subst h; rw [q2] at hi; cases hi; exact hkk (h3.symm.trans q3)
      · rintro ⟨y, hy, h3, h4⟩; exact ⟨y, hin hy, h3, h4⟩
theorem r_del {C : Cx} {e : Env} {Rs : List HP} {x y : Operand} {ty T : TypeId} {k : Value} {kt et : TypeId} {d : TypeDesc} {b : Nat} {f : Value → Option Value} (f' : Value → Option Value) {Rs' : List HP} (ht : C.P.underlying T = some (.map kt et)) (hd : C.P.underlying kt = some d) (hx : ev e x = some (.map (some b))) (hy : ev e y = some k) (hk : IsKey d k)
    (h1 : f' k = none) (h2 : ∀ x, x ≠ k → f' x = f x) (hu : Upd Rs (mpf b d f) (mpf b d f') Rs') : Effs C e Rs (.call { callee := .builtin .delete, args := #[x, y], argTypes := #[T, kt] }) ty Rs' := by
  intro a w ha hw
  obtain ⟨Fr, p1, p2⟩ := hu.perm
  obtain ⟨w', hr, ho⟩ := run_delete_mis (P := C.P) (ty := ty) ht hd hk h1 h2 (hw.perm p1)
  exact ⟨w', .value (.tuple #[]), .inr ⟨_, rfl⟩, by simp [execOp, resolve, invoke, builtin, ha.ev hx, ha.ev hy, hr], ho.perm p2.symm⟩
/-- A map in which one key has something else. -/
noncomputable def updV (f : Value → Option Value) (k : Value) (v : Option Value) : Value → Option Value := fun x => by
  classical exact if x = k then v else f x
theorem updV_at (f : Value → Option Value) (k : Value) (v : Option Value) : updV f k v k = v := by unfold updV; exact if_pos rfl
theorem updV_else (f : Value → Option Value) (k : Value) (v : Option Value) : ∀ x, x ≠ k → updV f k v x = f x := fun x h => by unfold updV; exact if_neg h
end Go.Sx

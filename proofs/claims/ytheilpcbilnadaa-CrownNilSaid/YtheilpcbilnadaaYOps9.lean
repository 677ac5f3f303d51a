/- Walks over maps: 'range', 'next', 'entry', the map not written meanwhile. -/
import Derived.Test.YtheilpcbilnadaaYOps8
namespace Go.Sx
open Go.MapKept Go.ChangeMaps
set_option linter.unusedVariables false

/-- A map that is being walked by the iterator in block 'r'; at most 'n' entries are left. -/
def mit (r b : Nat) (d : TypeDesc) (f : Value → Option Value) (n : Nat) : HP := fun h => ∃ es clock since seen c0, (MIs d es clock f ∧ (∀ x ∈ es.toList, x.born < since) ∧ since ≤ c0 ∧ since ≤ clock ∧ (leftOf es seen).size ≤ n) ∧ sep (ob b (.map es clock)) (ob r (.mapIter (some b) since seen c0)) h
/-- As 'mit', and the entry (k, v) has just come out. -/
def mie (r b : Nat) (d : TypeDesc) (f : Value → Option Value) (n : Nat) (k v : Value) : HP := fun h => ∃ es clock since seen e, (MIs d es clock f ∧ (∀ x ∈ es.toList, x.born < since) ∧ since ≤ clock ∧ (leftOf es seen).size ≤ n ∧ e ∈ (leftOf es seen).toList ∧ e.key = k ∧ e.val = v) ∧ sep (ob b (.map es clock)) (ob r (.mapIter (some b) since (seen.push e.born) clock)) h
theorem Own.first {W0 w : World} {Rs : List HP} {R : HP} {p : Prop} {S T : HP} (H : Own W0 w (R :: Rs)) (h : ∀ g, R g → p ∧ sep S T g) : p ∧ Own W0 w (S :: T :: Rs) := by
  obtain ⟨g, ⟨h1, h2, a, s, d, u⟩, k⟩ := H.own
  refine ⟨(h h1 a).1, ?_⟩
  have : Own W0 w (sep S T :: Rs) := ⟨H.os, H.tape, H.output, H.size, H.old, g, ⟨h1, h2, (h h1 a).2, s, d, u⟩, k⟩
  exact this.unstash
theorem Own.mit_open {W0 w : World} {Rs : List HP} {r b n : Nat} {d : TypeDesc} {f : Value → Option Value} (H : Own W0 w (mit r b d f n :: Rs)) :
    ∃ es clock since seen c0, (MIs d es clock f ∧ (∀ x ∈ es.toList, x.born < since) ∧ since ≤ c0 ∧ since ≤ clock ∧ (leftOf es seen).size ≤ n) ∧ Own W0 w (ob b (.map es clock) :: ob r (.mapIter (some b) since seen c0) :: Rs) := by
  obtain ⟨g, ⟨h1, h2, ⟨es, clock, since, seen, c0, p, q⟩, s, dd, u⟩, k⟩ := H.own
  have : Own W0 w (sep (ob b (.map es clock)) (ob r (.mapIter (some b) since seen c0)) :: Rs) := ⟨H.os, H.tape, H.output, H.size, H.old, g, ⟨h1, h2, q, s, dd, u⟩, k⟩
  exact ⟨es, clock, since, seen, c0, p, this.unstash⟩
theorem Own.mie_open {W0 w : World} {Rs : List HP} {r b n : Nat} {d : TypeDesc} {f : Value → Option Value} {kk v : Value} (H : Own W0 w (mie r b d f n kk v :: Rs)) :
    ∃ es clock since seen e, (MIs d es clock f ∧ (∀ x ∈ es.toList, x.born < since) ∧ since ≤ clock ∧ (leftOf es seen).size ≤ n ∧ e ∈ (leftOf es seen).toList ∧ e.key = kk ∧ e.val = v) ∧ Own W0 w (ob b (.map es clock) :: ob r (.mapIter (some b) since (seen.push e.born) clock) :: Rs) := by
  obtain ⟨g, ⟨h1, h2, ⟨es, clock, since, seen, e, p, q⟩, s, dd, u⟩, k⟩ := H.own
  have : Own W0 w (sep (ob b (.map es clock)) (ob r (.mapIter (some b) since (seen.push e.born) clock)) :: Rs) := ⟨H.os, H.tape, H.output, H.size, H.old, g, ⟨h1, h2, q, s, dd, u⟩, k⟩
  exact ⟨es, clock, since, seen, e, p, this.unstash⟩
theorem Own.mit_shut {W0 w : World} {Rs : List HP} {r b n : Nat} {d : TypeDesc} {f : Value → Option Value} {es : Array MapEntry} {clock since c0 : Nat} {seen : Array Nat} (p : MIs d es clock f ∧ (∀ x ∈ es.toList, x.born < since) ∧ since ≤ c0 ∧ since ≤ clock ∧ (leftOf es seen).size ≤ n) (H : Own W0 w (ob b (.map es clock) :: ob r (.mapIter (some b) since seen c0) :: Rs)) : Own W0 w (mit r b d f n :: Rs) :=
  H.stash.imp fun h q => ⟨es, clock, since, seen, c0, p, q⟩
theorem Own.mie_shut {W0 w : World} {Rs : List HP} {r b n : Nat} {d : TypeDesc} {f : Value → Option Value} {kk v : Value} {es : Array MapEntry} {clock since : Nat} {seen : Array Nat} {e : MapEntry} (p : MIs d es clock f ∧ (∀ x ∈ es.toList, x.born < since) ∧ since ≤ clock ∧ (leftOf es seen).size ≤ n ∧ e ∈ (leftOf es seen).toList ∧ e.key = kk ∧ e.val = v) (H : Own W0 w (ob b (.map es clock) :: ob r (.mapIter (some b) since (seen.push e.born) clock) :: Rs)) : Own W0 w (mie r b d f n kk v :: Rs) :=
  H.stash.imp fun h q => ⟨es, clock, since, seen, e, p, q⟩
theorem Own.mie_fact {W0 w : World} {Rs : List HP} {r b n : Nat} {d : TypeDesc} {f : Value → Option Value} {kk v : Value} (H : Own W0 w (mie r b d f n kk v :: Rs)) : f kk = some v ∧ 0 < n ∧ IsKey d kk := by
  obtain ⟨es, clock, since, seen, e, ⟨m, _, _, h1, h2, rfl, rfl⟩, _⟩ := H.mie_open
  have h3 := (mem_left h2).1
  refine ⟨(m.is _ _).2 ⟨e, h3, rfl, rfl⟩, ?_, m.keys e h3⟩
  have : 0 < (leftOf es seen).size := Array.size_pos_of_mem (Array.mem_toList_iff.1 h2)
  omega
theorem Own.mie_mit {W0 w : World} {Rs : List HP} {r b n : Nat} {d : TypeDesc} {f : Value → Option Value} {kk v : Value} (H : Own W0 w (mie r b d f n kk v :: Rs)) : Own W0 w (mit r b d f (n - 1) :: Rs) := by
  obtain ⟨es, clock, since, seen, e, ⟨m, h0, h4, h1, h2, _, _⟩, Ho⟩ := H.mie_open
  have h3 := left_shrinks es seen e h2
  exact Own.mit_shut ⟨m, h0, h4, h4, by omega⟩ Ho
theorem Own.mit_map {W0 w : World} {Rs : List HP} {r b n : Nat} {d : TypeDesc} {f : Value → Option Value} (H : Own W0 w (mit r b d f n :: Rs)) : Own W0 w (mpf b d f :: Rs) := by
  obtain ⟨es, clock, since, seen, c0, ⟨m, _⟩, Ho⟩ := H.mit_open
  exact Own.mpf_shut m (Gets.own (.step (.head _ _) (.drop _ (.done _))) Ho)
section
variable {C : Cx} {e : Env} {Rs : List HP} {x : Operand} {ty T : TypeId}
theorem r_rg {kt et : TypeId} {d : TypeDesc} {b : Nat} {f : Value → Option Value} {Fr : List HP} (ht : C.P.underlying T = some (.map kt et)) (hx : ev e x = some (.map (some b))) (hp : Pick Rs (mpf b d f) Fr) :
    Acts C e Rs (.range T x) ty (fun q : Nat × Nat => .pointer (some ⟨q.1, 0, none⟩)) (fun q => mit q.1 b d f q.2 :: Fr) := by
  intro a w ha hw
  obtain ⟨es, clock, m, Ho⟩ := (hw.pick hp).mpf_open
  refine ⟨(w.heap.size, (leftOf es #[]).size), _, by simp [execOp, ha.ev hx, run_range_map w T kt et b es clock ht Ho.head.2]; rfl, ?_⟩
  exact Own.mit_shut (c0 := clock) (since := clock) ⟨m, m.stamped.1, Nat.le_refl _, Nat.le_refl _, Nat.le_refl _⟩ ((Ho.new (.mapIter (some b) clock #[] clock)).perm (.swap _ _ _))
theorem r_nx {d : TypeDesc} {r b n : Nat} {f : Value → Option Value} {Fr : List HP} (hx : ev e x = some (.pointer (some ⟨r, 0, none⟩))) (hp : Pick Rs (mit r b d f n) Fr) :
    Acts C e Rs (.next x false) ty (fun q : Option (Value × Value) => match q with | none => .tuple #[.bool false] | some p => .tuple #[.bool true, p.1, p.2]) (fun q => match q with | none => mit r b d f n :: Fr | some p => mie r b d f n p.1 p.2 :: Fr) := by
  intro a w ha hw
  obtain ⟨es, clock, since, seen, c0, ⟨m, h1, h2, h3, h4⟩, Ho⟩ := (hw.pick hp).mit_open
  have hr := (Ho.perm (.swap _ _ _)).head.2
  rcases run_next_at (P := C.P) w ty r b since c0 seen es clock hr Ho.head.2 h1 h2 with ⟨_, q⟩ | ⟨en, hen, w1, hw1, q⟩
  · exact ⟨none, w, by simp [execOp, ha.ev hx, q], Own.mit_shut ⟨m, h1, h2, h3, h4⟩ Ho⟩
  · have Ho1 : Own C.W0 w1 (ob b (.map es clock) :: ob r (.mapIter (some b) since seen c0) :: Fr) := by
      rcases hw1 with rfl | rfl
      · exact Ho
      · exact Ho.drew _
    exact ⟨some (en.key, en.val), _, by simp [execOp, ha.ev hx, q, setBlock], Own.mie_shut ⟨m, h1, h3, h4, hen, rfl, rfl⟩ ((Ho1.perm (.swap _ _ _)).setOb _ |>.perm (.swap _ _ _))⟩
theorem r_en {d : TypeDesc} {r b n : Nat} {f : Value → Option Value} {k v : Value} {Fr : List HP} (hx : ev e x = some (.pointer (some ⟨r, 0, none⟩))) (hp : Pick Rs (mie r b d f n k v) Fr) : Yld C e Rs (.entry x) ty (.tuple [k, v].toArray) := by
  intro a w ha hw
  obtain ⟨es, clock, since, seen, en, ⟨m, h1, h2, h3, h4, rfl, rfl⟩, Ho⟩ := (hw.pick hp).mie_open
  have hr := (Ho.perm (.swap _ _ _)).head.2
  have := run_entry_at (P := C.P) w r b since seen es clock en hr Ho.head.2 (mem_left h4).1 m.stamped.2.1
  simp [execOp, ha.ev hx, this]
end
end Go.Sx

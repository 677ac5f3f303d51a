/- The row's step, for whatever program: what came in reads again; slices of structs come in. -/
import Derived.Test.YtcmdmhmgffjknaaGreatDoorYOps5
import Derived.Below
import Derived.ChangeSame
import Derived.ReadAgain
import Derived.ChangeReads
import Derived.Deep.Slices
import Derived.Handed
import Derived.SizedLaws
import Derived.WalkKit
import Derived.ProofKit
import Derived.OpenShut
namespace Go.Sx
open Go.ChangeShapes Go.WideShapes Go.RowKit
set_option linter.unusedVariables false

section
variable {H : Type} {enc : TypeId × Value → H} {P : Program}

theorem Own.below {W w : World} {Rs : List HP} (h : Own W w Rs) : Below W.heap.size W w := ⟨h.os, h.tape, h.output, h.size, h.old⟩

theorem trodAll_carry {w w' : World} {base : Nat} {spare : Nat → Bool} {held : Bool} : ∀ {ts : List TypeId} {vs : List Value} {ds : List (DataW H)} {ps : List MemPlace}, DataW.TrodAll enc P w base spare held ts vs ds ps → (∀ p ∈ ps, w.sameAt w' p) → DataW.TrodAll enc P w' base spare held ts vs ds ps
  | [], [], [], _, h, _ => h
  | _ :: _, _ :: _, _ :: _, _, ⟨p, q, ⟨n, h1⟩, h2, e⟩, hs => ⟨p, q, ⟨n, DataW.trod_carry n _ _ _ h1 (fun x hx => hs x (by rw [e]; exact List.mem_append_left _ hx))⟩, trodAll_carry h2 (fun x hx => hs x (by rw [e]; exact List.mem_append_right _ hx)), e⟩

/-- A law that answers true and leaves what came in as it was. -/
theorem post_true (K : Kids P (· < P.types.size)) (full : ∀ t e, t < P.types.size → P.underlying t = some (.slice e) → 0 < P.cellsOf e) {f : Func} {s : ChangeSpec} {apart fresh handsOn again : Bool} {W W' : World} {args : Array Value} {ds gs : List (DataW H)} {before : List MemPlace} {tb : TypeId}
    (hpt : ∀ t ∈ f.params.toList, t < P.types.size) (hv : s.vars = []) (hr : f.resultTypes = #[tb]) (hb : P.underlying tb = some .bool)
    (hfn : s.fn H ds = { results := [.lit (.bool true)], args := ds })
    (hW : DataW.Whole enc P f.params.toList s.vars apart W args.toList ds gs before) (hbel : Below W.heap.size W W') :
    s.post enc P f apart fresh handsOn again W args (.bool true) W' := by
  have hW' := hW
  obtain ⟨p, q, hA, hV, rfl, hfz, hnd⟩ := hW
  rw [hv] at hV
  obtain ⟨rfl, rfl⟩ := trodVars_none hV
  have hlt : ∀ x ∈ p, x.block < W.heap.size := fun x hx => hW'.lt x (by simpa using hx)
  have hgo : s.fn H (ds ++ []) = { results := [.lit (.bool true)], args := ds } := by rw [List.append_nil]; exact hfn
  have hcar : DataW.TrodAll enc P W' 0 (fun _ => true) true f.params.toList args.toList ds p := trodAll_carry hA fun x hx => hbel.same (hlt x hx)
  refine ⟨ds, [], p ++ [], [], p, [], hW', ?_, ?_, ?_, World.keptBut_mono (fun x hx => ⟨hx, ?_⟩) (hbel.frame (· ∈ p ++ [])), fun _ => ?_⟩
  · rw [hgo, hr]; exact trodAll_cons_mk (shut_bool hb true) trodAll_mk0
  · rw [hgo]; exact DataW.TrodAll.respare K full hpt hcar fun x hx => by simpa using hlt x hx
  · rw [hgo, hv]; rfl
  · exact Or.inr (by simpa using hx)
  · refine ⟨?_, ?_⟩
    · exact ok_one hr rfl (okWide_bool_mk hb true)
    · refine ⟨[.lit (.bool true)] ++ ds, [], ([] ++ p) ++ [], ⟨[] ++ p, [], trodAll_append hcar (by rw [hr]; exact trodAll_cons_mk (p := []) (p' := []) (shut_bool hb true) trodAll_mk0), by rw [hv]; rfl, rfl, ?_, ?_⟩, ?_⟩
      · intro b off hp
        have hin : MemPlace.cell b off ∈ p ++ [] := by simpa using hp
        rw [hbel.frozen (by have := hlt (.cell b off) (by simpa using hin); exact this)]
        exact hfz b off hin
      · intro ha
        simpa using hnd ha
      · intro x hx _
        simpa using hx

theorem exists_list {α : Type} {R : Nat → α → Prop} : ∀ n, (∀ i, i < n → ∃ a, R i a) → ∃ L : List α, L.length = n ∧ ∀ i a, L[i]? = some a → R i a
  | 0, _ => ⟨[], rfl, fun i a h => by simp at h⟩
  | n + 1, h => by
    obtain ⟨L, hl, hL⟩ := exists_list n fun i hi => h i (by omega)
    obtain ⟨a, ha⟩ := h n (by omega)
    refine ⟨L ++ [a], by simp [hl], fun i b hb => ?_⟩
    by_cases hi : i < n
    · rw [List.getElem?_append_left (by omega)] at hb; exact hL i b hb
    · have : i < (L ++ [a]).length := (List.getElem?_eq_some_iff.1 hb).1
      simp only [List.length_append, List.length_singleton] at this
      obtain rfl : i = n := by omega
      rw [List.getElem?_append_right (by omega), hl, Nat.sub_self] at hb
      simp at hb; subst hb; exact ha

theorem cells_at {α : Type} {f : α → List Value} {m : Nat} (hf : ∀ x, (f x).length = m) : ∀ (L : List α) (j : Nat) (u : Value), (cells f L)[j]? = some u → ∃ k a r, L[k]? = some a ∧ (f a)[r]? = some u ∧ j = k * m + r
  | [], j, u, h => by simp [cells] at h
  | y :: L, j, u, h => by
    rw [cells_cons] at h
    by_cases hj : j < m
    · rw [List.getElem?_append_left (by rw [hf]; exact hj)] at h
      exact ⟨0, y, j, rfl, h, by omega⟩
    · rw [List.getElem?_append_right (by rw [hf]; omega), hf] at h
      obtain ⟨k, a, r, h1, h2, h3⟩ := cells_at hf L _ u h
      exact ⟨k + 1, a, r, by simpa using h1, h2, by rw [Nat.add_mul]; omega⟩

theorem cell_lt {w : World} {a : Addr} {u : Value} (h : w.cell? a = some u) : a.block < w.heap.size := by
  unfold World.cell? at h
  by_cases hb : a.block < w.heap.size
  · exact hb
  · rw [Array.getElem?_eq_none (by omega)] at h; cases h

/-- What a reading weighs, everywhere, is within the form's reach. -/
def Wt (P : Program) (t : TypeId) (d : DataW H) : Prop := ∀ n ∈ d.weights P t, n ≤ 140737488355328

theorem mem_weightsAll {e : TypeId} {d : DataW H} {n : Nat} : ∀ {ds : List (DataW H)}, d ∈ ds → n ∈ d.weights P e → n ∈ DataW.weightsAll P e ds
  | [], h, _ => by cases h
  | y :: ds, h, hn => by
    simp only [DataW.weightsAll, List.mem_append]
    rcases List.mem_cons.1 h with rfl | h'
    · exact Or.inl hn
    · exact Or.inr (mem_weightsAll h' hn)

theorem slice_rd {α : Type} {W : World} (f : α → List Value) (Q : α → Prop) {m bb : Nat} {t e : TypeId} {fuel : Nat} {cs : List Value} {x : DataW H × List MemPlace} (hf : ∀ a, (f a).length = m) (ht : P.underlying t = some (.slice e)) (hm : P.cellsOf e = m) (hm0 : 0 < m) (hbb : P.bytesOf e = bb)
    (hel : ∀ n cs x, DataW.trod enc P W 0 (fun _ => true) true n e cs = some x → Wt P e x.1 → ∃ a, cs = f a ∧ Q a)
    (h : DataW.trod enc P W 0 (fun _ => true) true fuel t cs = some x) (hw : Wt P t x.1) :
    ∃ (A : Option Addr) (c : Nat) (L : List α), cs = [.slice A L.length c] ∧ L.length * bb ≤ 140737488355328 ∧ (∀ a ∈ L, Q a) ∧ ∀ Fr, Rdb W Fr A L.length m (cells f L) := by
  rcases Go.Deep.open_slice ht h with ⟨rfl, _⟩ | ⟨a, len, cap, m', n, D, Pl, rfl, hb, hl, hcm, hmm, hx, hi⟩
  · exact ⟨none, 0, [], rfl, by simp, by simp, fun Fr => Rdb.nil _ _ _⟩
  · have hlm : len ≤ m' := by rw [hmm]; simp; exact hl
    subst hx
    have hwt : ∀ i, i < len → Wt P e (D i) := fun i hi' n hn => hw n (by
      simp only [DataW.weights, ht, List.mem_cons, List.mem_append]
      exact Or.inr (Or.inl (mem_weightsAll (List.mem_map.2 ⟨i, List.mem_range.2 hi', rfl⟩) hn)))
    have hlb : len * bb ≤ 140737488355328 := by
      have := hw _ (by simp only [DataW.weights, ht, List.mem_cons]; exact Or.inl rfl)
      simp only [List.length_map, List.length_range] at this
      rw [hbb, Nat.add_mul] at this
      omega
    obtain ⟨L, hL, hR⟩ := exists_list (R := fun i (y : α) => W.cells? 0 (a.add (i * m)) m = some (f y) ∧ Q y) len fun i hi' => by
      obtain ⟨cs', h1, h2⟩ := hi i (by omega)
      obtain ⟨y, rfl, hq⟩ := hel _ _ _ h2 (hwt i hi')
      rw [hm] at h1
      exact ⟨y, h1, hq⟩
    have hcl : ∀ L : List α, (cells f L).length = L.length * m := fun L => by
      induction L with
      | nil => simp [cells]
      | cons y L ih => rw [cells_cons, List.length_append, hf, ih]; simp [Nat.add_mul]; omega
    subst hL
    refine ⟨some a, cap, L, rfl, hlb, fun y hy => ?_, fun Fr => Rdb.old (hcl L) ?_ Fr⟩
    · obtain ⟨k, hk⟩ := List.mem_iff_getElem?.1 hy
      exact (hR k y hk).2
    · intro hn
      obtain ⟨y0, hy0⟩ : ∃ y, L[0]? = some y := ⟨_, List.getElem?_eq_getElem hn⟩
      have h0 := (World.cells?_some (hR 0 y0 hy0).1).2.2 0 hm0
      obtain ⟨u0, hu0⟩ : ∃ u, (f y0)[0]? = some u := ⟨_, List.getElem?_eq_getElem (by rw [hf]; exact hm0)⟩
      rw [hu0] at h0
      obtain ⟨b, off, spot⟩ := a
      have hspot : spot = none := by simpa [Addr.add] using World.cell?_spot h0
      subst hspot
      refine ⟨b, off, rfl, by simpa [Addr.add] using cell_lt h0, fun j u hu => ?_⟩
      obtain ⟨k, y, r, h1, h2, rfl⟩ := cells_at hf L j u hu
      have hrm : r < m := by have := (List.getElem?_eq_some_iff.1 h2).1; rw [hf] at this; exact this
      have h3 := (World.cells?_some (hR k y h1).1).2.2 r hrm
      rw [h2] at h3
      rw [← h3, ← Nat.add_assoc, Go.WideShapes.add_plain, Go.WideShapes.add_plain]

theorem field_ {W : World} {n : Nat} {t : TypeId} {cs : List Value} {fs : Array Field} {xs : List (DataW H × List MemPlace)} (ht : P.underlying t = some (.struct fs)) (hl : xs.length = fs.size)
    (h : ∀ (i : Nat) (f : Field), fs[i]? = some f → DataW.trod enc P W 0 (fun _ => true) true n f.type ((cs.drop f.offset).take (P.cellsOf f.type)) = xs[i]?)
    (hw : Wt P t (.agg (xs.map (·.1)))) (i : Nat) {f : Field} (hf : fs[i]? = some f) :
    ∃ y, DataW.trod enc P W 0 (fun _ => true) true n f.type ((cs.drop f.offset).take (P.cellsOf f.type)) = some y ∧ Wt P f.type y.1 := by
  have hi : i < fs.size := (Array.getElem?_eq_some_iff.1 hf).1
  have hx : xs[i]? = some (xs[i]'(by omega)) := List.getElem?_eq_getElem (by omega)
  refine ⟨_, (h i f hf).trans hx, fun q hq => hw q ?_⟩
  simp only [DataW.weights, ht]
  exact DataW.weights_mem_each (j := i) (t := f.type) (d := (xs[i]'(by omega)).1) (by simp [hf]) (by simp [hx]) q hq

theorem struct_rd {W : World} {n m : Nat} {t : TypeId} {cs : List Value} {fs : Array Field} {x : DataW H × List MemPlace} (ht : P.underlying t = some (.struct fs)) (hm : P.cellsOf t = m)
    (h : DataW.trod enc P W 0 (fun _ => true) true n t cs = some x) (hw : Wt P t x.1) :
    cs.length = m ∧ ∃ n, ∀ (i : Nat) (f : Field) (k : Nat), fs[i]? = some f → P.cellsOf f.type = k → ∃ y, DataW.trod enc P W 0 (fun _ => true) true n f.type ((cs.drop f.offset).take k) = some y ∧ Wt P f.type y.1 := by
  obtain ⟨xs, n', _, rfl, hl, hx, hf⟩ := DataW.trod_struct ht h
  refine ⟨hl.trans hm, n', fun i f k hi hk => ?_⟩
  subst hk
  exact field_ ht hx hf hw i hi

theorem int_rd {W : World} {n : Nat} {t : TypeId} {k : IntKind} {c : Value} {x : DataW H × List MemPlace} (ht : P.underlying t = some (.int k)) (h : DataW.trod enc P W 0 (fun _ => true) true n t [c] = some x) : ∃ i, c = .int k i ∧ (Lit.int k i).wf = true := by
  obtain ⟨i, q, _, hw⟩ := DataW.trod_int ht h
  exact ⟨i, by simpa using q, hw⟩
theorem str_rd {W : World} {n : Nat} {t : TypeId} {c : Value} {x : DataW H × List MemPlace} (ht : P.underlying t = some .string) (h : DataW.trod enc P W 0 (fun _ => true) true n t [c] = some x) (hw : Wt P t x.1) : ∃ s : List UInt8, c = str s ∧ s.length ≤ 140737488355328 := by
  obtain ⟨s, q, rfl, _⟩ := DataW.trod_string ht h
  refine ⟨s.data.toList, by simpa using q, ?_⟩
  exact hw _ (by simp [DataW.weights])
theorem bool_rd {W : World} {n : Nat} {t : TypeId} {c : Value} {x : DataW H × List MemPlace} (ht : P.underlying t = some .bool) (h : DataW.trod enc P W 0 (fun _ => true) true n t [c] = some x) : ∃ b, c = .bool b := by
  obtain ⟨i, q, _⟩ := DataW.trod_bool ht h
  exact ⟨i, by simpa using q⟩

/-- The weights of the arguments, one by one. -/
theorem wt_arg {ts : List TypeId} {ds : List (DataW H)} (h : (DataW.weightsEach P ts ds).all (· ≤ reachBytes) = true) {j : Nat} {t : TypeId} {d : DataW H} (ht : ts[j]? = some t) (hd : ds[j]? = some d) : Wt P t d := fun n hn => by
  have := List.all_eq_true.1 h _ (DataW.weights_mem_each ht hd n hn)
  have h2 := reachBytes_lt
  have h3 : n ≤ reachBytes := by simpa using this
  omega
end
end Go.Sx

/- A small logic of programs over the model: the frame as a list of slots and values, memory as a list of what is owned; rules for each operation. No program is named here. -/
import Derived.WalkKit
import Derived.OrdersHeld
namespace Go.Sx

/-! ### Memory that is owned -/
abbrev Heap := Nat → Option Obj
abbrev HP := Heap → Prop

def emp : HP := fun h => ∀ k, h k = none
def ob (b : Nat) (o : Obj) : HP := fun h => ∀ k, h k = if k = b then some o else none
def blk (b : Nat) (T : TypeId) (cs : List Value) : HP := ob b (.cells cs.toArray T (0, 0))

def sep (R S : HP) : HP := fun h => ∃ h1 h2 : Heap, R h1 ∧ S h2 ∧ (∀ k, h1 k = none ∨ h2 k = none) ∧ ∀ k, h k = (h1 k).or (h2 k)

def stars : List HP → HP
  | [] => emp
  | R :: Rs => sep R (stars Rs)

theorem sep_swap {R S T : HP} {h : Heap} (H : sep R (sep S T) h) : sep S (sep R T) h := by
  obtain ⟨h1, h2, r, ⟨h3, h4, s, t, d2, u2⟩, d1, u1⟩ := H
  refine ⟨h3, fun k => (h1 k).or (h4 k), s, ⟨h1, h4, r, t, fun k => ?_, fun _ => rfl⟩, fun k => ?_, fun k => ?_⟩
  · have a := d1 k; have b := d2 k; have c := u2 k
    cases e1 : h1 k <;> cases e2 : h2 k <;> cases e3 : h3 k <;> cases e4 : h4 k <;> simp_all
  · have a := d1 k; have b := d2 k; have c := u2 k
    cases e1 : h1 k <;> cases e2 : h2 k <;> cases e3 : h3 k <;> cases e4 : h4 k <;> simp_all
  · have a := d1 k; have b := d2 k; have c := u2 k; have d := u1 k
    cases e1 : h1 k <;> cases e2 : h2 k <;> cases e3 : h3 k <;> cases e4 : h4 k <;> simp_all

theorem sep_mono {R R' S S' : HP} {h : Heap} (hr : ∀ h, R h → R' h) (hs : ∀ h, S h → S' h) (H : sep R S h) : sep R' S' h := by
  obtain ⟨h1, h2, r, s, d, u⟩ := H
  exact ⟨h1, h2, hr _ r, hs _ s, d, u⟩

theorem stars_perm {Rs Rs' : List HP} (p : Rs.Perm Rs') : ∀ h, stars Rs h → stars Rs' h := by
  induction p with
  | nil => exact fun _ x => x
  | cons R _ ih => exact fun h x => sep_mono (fun _ y => y) ih x
  | swap R S l => exact fun h x => sep_swap x
  | trans _ _ ih1 ih2 => exact fun h x => ih2 h (ih1 h x)

/-- The world 'w' has what it had when all began (below W0's heap's size), and besides, apart from each other, what is listed. -/
structure Own (W0 w : World) (Rs : List HP) : Prop where
  os : w.os = W0.os
  tape : w.tape = W0.tape
  output : w.output = W0.output
  size : W0.heap.size ≤ w.heap.size
  old : ∀ k, k < W0.heap.size → w.heap[k]? = W0.heap[k]?
  own : ∃ h : Heap, stars Rs h ∧ ∀ k o, h k = some o → W0.heap.size ≤ k ∧ w.heap[k]? = some o

theorem Own.start (W0 : World) : Own W0 W0 [] := ⟨rfl, rfl, rfl, Nat.le_refl _, fun _ _ => rfl, fun _ => none, fun _ => rfl, fun _ _ h => by cases h⟩

theorem Own.perm {W0 w : World} {Rs Rs' : List HP} (H : Own W0 w Rs) (p : Rs.Perm Rs') : Own W0 w Rs' :=
  ⟨H.os, H.tape, H.output, H.size, H.old, let ⟨h, a, b⟩ := H.own; ⟨h, stars_perm p h a, b⟩⟩

theorem Own.tail {W0 w : World} {R : HP} {Rs : List HP} (H : Own W0 w (R :: Rs)) : Own W0 w Rs :=
  ⟨H.os, H.tape, H.output, H.size, H.old, by
    obtain ⟨h, ⟨h1, h2, _, s, d, u⟩, b⟩ := H.own
    refine ⟨h2, s, fun k o e => b k o ?_⟩
    rw [u k]; rcases d k with x | x <;> simp_all⟩

theorem Own.drew {W0 w : World} {Rs : List HP} (H : Own W0 w Rs) (n : Nat) : Own W0 { w with drawn := n } Rs :=
  ⟨H.os, H.tape, H.output, H.size, H.old, H.own⟩

theorem Own.head {W0 w : World} {b : Nat} {o : Obj} {Rs : List HP} (H : Own W0 w (ob b o :: Rs)) : W0.heap.size ≤ b ∧ w.heap[b]? = some o := by
  obtain ⟨h, ⟨h1, h2, r, s, d, u⟩, k⟩ := H.own
  have e : h1 b = some o := by simpa using r b
  refine k b o ?_
  rw [u b, e]; rfl

/-- A new block. -/
theorem Own.new {W0 w : World} {Rs : List HP} (H : Own W0 w Rs) (o : Obj) : Own W0 { w with heap := w.heap.push o } (ob w.heap.size o :: Rs) := by
  obtain ⟨h, s, k⟩ := H.own
  have fresh : h w.heap.size = none := by
    cases e : h w.heap.size with
    | none => rfl
    | some o' =>
      have := (k _ _ e).2
      rw [Array.getElem?_eq_none (Nat.le_refl _)] at this
      cases this
  refine ⟨H.os, H.tape, H.output, by have := H.size; simp; omega, fun i hi => ?_, fun i => if i = w.heap.size then some o else h i, ⟨fun i => if i = w.heap.size then some o else none, h, fun _ => rfl, s, fun i => ?_, fun i => ?_⟩, fun i o' e => ?_⟩
  · have := H.size
    rw [← H.old i hi]; simp [Array.getElem?_push]; omega
  · by_cases hi : i = w.heap.size
    · right; rw [hi]; exact fresh
    · left; simp [hi]
  · by_cases hi : i = w.heap.size
    · simp [hi]
    · simp [hi]
  · by_cases hi : i = w.heap.size
    · simp [hi] at e; subst e; subst hi
      exact ⟨H.size, by simp⟩
    · simp [hi] at e
      have := k i o' e
      refine ⟨this.1, ?_⟩
      have hlt : i < w.heap.size := by
        rcases Nat.lt_or_ge i w.heap.size with x | x
        · exact x
        · have y := this.2; rw [Array.getElem?_eq_none x] at y; cases y
      simp only [Array.getElem?_push]
      rw [if_neg (by omega)]; exact this.2

/-- What lies in an owned block is another thing now. -/
theorem Own.put {W0 w w' : World} {b : Nat} {o o' : Obj} {Rs : List HP} (H : Own W0 w (ob b o :: Rs)) (hos : w'.os = w.os) (ht : w'.tape = w.tape) (hout : w'.output = w.output)
    (hs : w'.heap.size = w.heap.size) (hb : w'.heap[b]? = some o') (hk : ∀ k, k ≠ b → w'.heap[k]? = w.heap[k]?) : Own W0 w' (ob b o' :: Rs) := by
  have hd := H.head
  obtain ⟨h, ⟨h1, h2, r, s, d, u⟩, k⟩ := H.own
  refine ⟨hos.trans H.os, ht.trans H.tape, hout.trans H.output, by rw [hs]; exact H.size, fun i hi => ?_, fun i => if i = b then some o' else h2 i, ⟨fun i => if i = b then some o' else none, h2, fun _ => rfl, s, fun i => ?_, fun i => ?_⟩, fun i x e => ?_⟩
  · rw [hk i (by omega)]; exact H.old i hi
  · by_cases hi : i = b
    · right; subst hi
      have := r i; simp at this
      rcases d i with y | y
      · rw [this] at y; cases y
      · exact y
    · left; simp [hi]
  · by_cases hi : i = b <;> simp [hi]
  · by_cases hi : i = b
    · simp [hi] at e; subst e; subst hi; exact ⟨hd.1, hb⟩
    · simp [hi] at e
      have h1i : h1 i = none := by have := r i; simpa [hi] using this
      have := k i x (by rw [u i, h1i]; simpa using e)
      exact ⟨this.1, by rw [hk i hi]; exact this.2⟩

/-- What is owned is not what was there of old. -/
theorem Own.ne {W0 w : World} {b b' : Nat} {o o' : Obj} {Rs : List HP} (H : Own W0 w (ob b o :: ob b' o' :: Rs)) : b ≠ b' := by
  obtain ⟨h, ⟨h1, h2, r, ⟨h3, h4, r', s, d', u'⟩, d, u⟩, k⟩ := H.own
  rintro rfl
  have a := r b; have c := r' b
  simp at a c
  rcases d b with y | y
  · rw [a] at y; cases y
  · rw [u' b, c] at y; cases y

/-! ### Taking out of the list -/
/-- 'Rs' has 'R'; without it 'Rs''. -/
inductive Pick : List HP → HP → List HP → Prop
  | head (R : HP) (Rs : List HP) : Pick (R :: Rs) R Rs
  | tail (S : HP) {Rs Rs' : List HP} {R : HP} (h : Pick Rs R Rs') : Pick (S :: Rs) R (S :: Rs')

theorem Pick.perm {Rs Rs' : List HP} {R : HP} (h : Pick Rs R Rs') : Rs.Perm (R :: Rs') := by
  induction h with
  | head => exact .refl _
  | tail S h ih => exact (ih.cons S).trans (.swap ..)

/-- In 'Rs' stands 'R'; with 'R'' in its place it is 'Rs''. -/
inductive Upd : List HP → HP → HP → List HP → Prop
  | head (R R' : HP) (Rs : List HP) : Upd (R :: Rs) R R' (R' :: Rs)
  | tail (S : HP) {Rs Rs' : List HP} {R R' : HP} (h : Upd Rs R R' Rs') : Upd (S :: Rs) R R' (S :: Rs')

theorem Upd.perm {Rs Rs' : List HP} {R R' : HP} (h : Upd Rs R R' Rs') : ∃ Fr, Rs.Perm (R :: Fr) ∧ Rs'.Perm (R' :: Fr) := by
  induction h with
  | head R R' Rs => exact ⟨Rs, .refl _, .refl _⟩
  | tail S h ih =>
    obtain ⟨Fr, a, b⟩ := ih
    exact ⟨S :: Fr, (a.cons S).trans (.swap ..), (b.cons S).trans (.swap ..)⟩

theorem Own.pick {W0 w : World} {Rs Rs' : List HP} {R : HP} (H : Own W0 w Rs) (t : Pick Rs R Rs') : Own W0 w (R :: Rs') := H.perm t.perm

theorem Own.cells {W0 w : World} {b : Nat} {T : TypeId} {cs : List Value} {Rs : List HP} (H : Own W0 w (blk b T cs :: Rs)) : w.heap[b]? = some (.cells cs.toArray T (0, 0)) := H.head.2
theorem Own.block {W0 w : World} {Rs : List HP} (H : Own W0 w Rs) (T : TypeId) (cs : List Value) : Own W0 { w with heap := w.heap.push (.cells cs.toArray T (0, 0)) } (blk w.heap.size T cs :: Rs) := H.new _
theorem Own.setRow {W0 w : World} {b : Nat} {T : TypeId} {cs cs' : List Value} {Rs Rs' : List HP} (H : Own W0 w Rs) (u : Upd Rs (blk b T cs) (blk b T cs') Rs') : Own W0 (w.setRow b cs'.toArray) Rs' := by
  obtain ⟨Fr, p1, p2⟩ := u.perm
  have h1 := H.perm p1
  have hc := h1.cells
  refine Own.perm ?_ p2.symm
  exact Own.put (o' := .cells cs'.toArray T (0, 0)) h1 rfl rfl rfl (by simp [World.setRow]) (setRow_heap w b _ _ T _ hc) (fun k hk => setRow_other w b k _ hk)
attribute [irreducible] ob blk

/-- Memory told otherwise: in another order, some of it let go. -/
inductive Gets : List HP → List HP → Prop
  | done (Rs : List HP) : Gets Rs Rs
  | all (Rs : List HP) : Gets Rs []
  | step {Rs Rs1 Rs2 : List HP} {R : HP} (h : Pick Rs R Rs1) (t : Gets Rs1 Rs2) : Gets Rs (R :: Rs2)
  | drop (J : HP) {Rs Rs2 : List HP} (t : Gets Rs Rs2) : Gets (J :: Rs) Rs2

theorem Gets.stars {Rs Rs' : List HP} (h : Gets Rs Rs') : ∀ f : Heap, stars Rs f → ∃ g : Heap, stars Rs' g ∧ ∀ k o, g k = some o → f k = some o := by
  induction h with
  | done => exact fun f hf => ⟨f, hf, fun _ _ h => h⟩
  | all => exact fun f _ => ⟨fun _ => none, fun _ => rfl, fun _ _ h => by cases h⟩
  | step h t ih =>
    intro f hf
    obtain ⟨h1, h2, r, s, d, u⟩ := stars_perm h.perm f hf
    obtain ⟨g, hg, hk⟩ := ih h2 s
    refine ⟨fun k => (h1 k).or (g k), ⟨h1, g, r, hg, fun k => ?_, fun _ => rfl⟩, fun k o e => ?_⟩
    · rcases d k with x | x
      · exact .inl x
      · right
        cases e : g k with
        | none => rfl
        | some o => rw [hk k o e] at x; cases x
    · rw [u k]
      cases e1 : h1 k with
      | some o' => simpa [e1] using e
      | none => simp [e1] at e; simp [hk k o e]
  | drop J t ih =>
    rintro f ⟨h1, h2, _, s, d, u⟩
    obtain ⟨g, hg, hk⟩ := ih h2 s
    refine ⟨g, hg, fun k o e => ?_⟩
    have := hk k o e
    rw [u k]
    rcases d k with x | x
    · simp [x, this]
    · rw [this] at x; cases x

theorem Gets.own {W0 w : World} {Rs Rs' : List HP} (h : Gets Rs Rs') (H : Own W0 w Rs) : Own W0 w Rs' :=
  ⟨H.os, H.tape, H.output, H.size, H.old, by
    obtain ⟨f, hf, hk⟩ := H.own
    obtain ⟨g, hg, hl⟩ := h.stars f hf
    exact ⟨g, hg, fun k o e => hk k o (hl k o e)⟩⟩
/-! the same, found by what lies there -/
theorem pK {Rs Fr : List HP} {R : HP} (h : Pick Rs R Fr := by repeat (first | exact Pick.head _ _ | apply Pick.tail)) : Pick Rs R Fr := h
theorem uD {Rs Fr : List HP} {R R' : HP} (h : Upd Rs R R' Fr := by repeat (first | exact Upd.head _ _ _ | apply Upd.tail)) : Upd Rs R R' Fr := h
theorem gS {Rs Rs' : List HP} (h : Gets Rs Rs' := by repeat (first | exact Gets.done _ | exact Gets.all _ | (apply Gets.step; focus ((repeat (first | exact Pick.head _ _ | apply Pick.tail)); done)) | apply Gets.drop)) : Gets Rs Rs' := h
theorem gT {W0 : World} {Rs Rs' : List HP} (h : Gets Rs Rs' := by repeat (first | exact Gets.done _ | exact Gets.all _ | (apply Gets.step; focus ((repeat (first | exact Pick.head _ _ | apply Pick.tail)); done)) | apply Gets.drop)) : ∀ w, Own W0 w Rs → Own W0 w Rs' := fun _ H => h.own H

/-! ### The frame -/
abbrev Env := List (Nat × Value)
def look : Env → Nat → Option Value
  | [], _ => none
  | (i, v) :: e, k => bif Nat.beq i k then some v else look e k

theorem beq_no {d i : Nat} (h : ¬ d = i) : Nat.beq d i = false := by
  cases e : Nat.beq d i with
  | false => rfl
  | true => exact absurd (Nat.eq_of_beq_eq_true e) h

structure Agree (N : Nat) (e : Env) (a : Act) : Prop where
  defers : a.defers = []
  size : a.tmps.size = N
  at_ : ∀ i v, look e i = some v → a.tmps[i]? = some v

def ev (e : Env) : Operand → Option Value
  | .tmp t => look e t
  | .const v => some v
  | .global g => some (.pointer (some ⟨g, 0, none⟩))
  | .func f => some (.func (.func f) #[] #[])

theorem Agree.ev {N : Nat} {e : Env} {a : Act} (h : Agree N e a) {x : Operand} {v : Value} (hx : ev e x = some v) : a.eval x = v := by
  cases x with
  | tmp t => simp [Act.eval, h.at_ t v hx]
  | const u => simpa [Sx.ev, Act.eval] using hx
  | global g => simpa [Sx.ev, Act.eval] using hx
  | func f => simpa [Sx.ev, Act.eval] using hx

theorem Agree.put {N : Nat} {e : Env} {a : Act} (h : Agree N e a) (d : Nat) (hd : Nat.blt d N = true) (v : Value) : Agree N ((d, v) :: e) (a.put (some d) v) := by
  have hd : d < N := by simpa using hd
  refine ⟨h.defers, by simp [Act.put, h.size], fun i u hu => ?_⟩
  simp only [look] at hu
  by_cases hi : d = i
  · subst hi; simp at hu; subst hu; simp [Act.put, h.size, hd]
  · have : Nat.beq d i = false := beq_no hi
    simp only [this, cond_false] at hu
    simp [Act.put, Array.getElem?_setIfInBounds_ne hi, h.at_ i u hu]

theorem Agree.put_none {N : Nat} {e : Env} {a : Act} (h : Agree N e a) (v : Value) : Agree N e (a.put none v) := h

/-- All of 'e'' holds in 'e'. -/
def Keeps (e : Env) : Env → Prop
  | [] => True
  | (k, v) :: r => look e k = some v ∧ Keeps e r

theorem Keeps.look {e : Env} : ∀ {e' : Env}, Keeps e e' → ∀ i v, look e' i = some v → look e i = some v
  | [], _, _, _, h => by cases h
  | (k, u) :: r, hk, i, v, h => by
    simp only [Sx.look] at h
    by_cases hi : k = i
    · subst hi; simp at h; subst h; exact hk.1
    · have : Nat.beq k i = false := beq_no hi
      simp only [this, cond_false] at h
      exact Keeps.look hk.2 i v h

theorem Agree.keep {N : Nat} {e e' : Env} {a : Act} (h : Agree N e a) (hk : Keeps e e') : Agree N e' a :=
  ⟨h.defers, h.size, fun i v hv => h.at_ i v (hk.look i v hv)⟩

end Go.Sx

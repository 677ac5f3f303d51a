/- The logic's judgements (code, a list of operations, a call) and the rules for code. -/
import Derived.Test.YtcmdmhmgffjknaaGreatDoorXCore
namespace Go.Sx

/-- What stays the same through a call's walk: the world when all began, the program, the frame's size. -/
structure Cx where
  W0 : World
  P : Program
  N : Nat

abbrev St := Env → List HP → Prop
/-- Where code may go from here: on, to a block's end, out of the function. -/
structure Kt where
  nrm : St
  exs : List (Nat × St)
  ret : St

def exAt : List (Nat × St) → Nat → Option St
  | [], _ => none
  | (i, K) :: r, k => bif Nat.beq i k then some K else exAt r k

/-- A frame and a world that are as told. -/
def Is (C : Cx) (K : St) (a : Act) (w : World) : Prop := ∃ e Rs, Agree C.N e a ∧ Own C.W0 w Rs ∧ K e Rs

def Kt.up (C : Cx) (κ : Kt) : Exit → Act → World → Prop
  | .normal, a, w => Is C κ.nrm a w
  | .exit id, a, w => ∃ K, exAt κ.exs id = some K ∧ Is C K a w
  | .ret, a, w => Is C κ.ret a w
  | _, _, _ => False

def XC (C : Cx) (c : Code) (κ : Kt) (e : Env) (Rs : List HP) : Prop :=
  ∀ a w, Agree C.N e a → Own C.W0 w Rs → c.wp C.P (κ.up C) a w

def XL (C : Cx) (ops : Array Oper) (l : List Oper) (κ : Kt) (e : Env) (Rs : List HP) : Prop :=
  ∀ a w, Agree C.N e a → Own C.W0 w Rs → wpList C.P ops (κ.up C) l a w

/-- A call of function 'f': from memory that has 'Rs' it returns a value and leaves memory, as 'Post' tells. -/
structure Tr (W0 : World) (P : Program) (f : FuncId) (args : List Value) (Rs : List HP) (Post : Value → List HP → Prop) : Prop where
  there : ∃ fn c, P.funcs[f]? = some fn ∧ (fn.name == "runtime.NumGoroutine") = false ∧ fn.body = some c
  calls : ∀ w, Own W0 w Rs → Calls P f args.toArray w fun e w' => ∃ v Rs', Post v Rs' ∧ e = .returned v ∧ Own W0 w' Rs'

theorem Tr.mono {W0 : World} {P : Program} {f : FuncId} {args : List Value} {Rs : List HP} {Post Post' : Value → List HP → Prop} (h : Tr W0 P f args Rs Post) (k : ∀ v Rs', Post v Rs' → Post' v Rs') : Tr W0 P f args Rs Post' :=
  ⟨h.there, fun w hw => (h.calls w hw).mono fun _ _ ⟨v, Rs', p, he, o⟩ => ⟨v, Rs', k _ _ p, he, o⟩⟩

section code
variable {C : Cx} {n r : St} {xs : List (Nat × St)} {κ : Kt} {e : Env} {Rs : List HP}

theorem XC.seq {x y : Code} (h : ∀ K : St, (∀ e Rs, XC C y ⟨n, xs, r⟩ e Rs → K e Rs) → XC C x ⟨K, xs, r⟩ e Rs) : XC C (.seq x y) ⟨n, xs, r⟩ e Rs := by
  intro a w ha hw
  refine wp_seq (wp_mono (h (fun e Rs => XC C y ⟨n, xs, r⟩ e Rs) (fun _ _ h => h) a w ha hw) fun x a w hq => ?_)
  cases x with
  | normal => obtain ⟨e', Rs', h1, h2, h3⟩ := hq; exact h3 a w h1 h2
  | exit id => exact hq
  | goto l => exact hq
  | ret => exact hq
  | panic c => exact hq
  | outgrown => exact hq

theorem XC.skip (h : n e Rs) : XC C .skip ⟨n, xs, r⟩ e Rs := fun _ _ ha hw => wp_skip ⟨e, Rs, ha, hw, h⟩
theorem XC.label {l : Nat} (h : n e Rs) : XC C (.label l) ⟨n, xs, r⟩ e Rs := fun _ _ ha hw => wp_label ⟨e, Rs, ha, hw, h⟩
theorem XC.ret (h : r e Rs) : XC C .ret ⟨n, xs, r⟩ e Rs := fun _ _ ha hw => wp_ret ⟨e, Rs, ha, hw, h⟩
theorem XC.exit {id : Nat} {K : St} (hk : exAt xs id = some K) (h : K e Rs) : XC C (.exit id) ⟨n, xs, r⟩ e Rs := fun _ _ ha hw => wp_exit ⟨K, hk, e, Rs, ha, hw, h⟩

theorem XC.block {id : Nat} {c : Code} (h : XC C c ⟨n, (id, n) :: xs, r⟩ e Rs) : XC C (.block id c) ⟨n, xs, r⟩ e Rs := by
  intro a w ha hw
  refine wp_block (wp_mono (h a w ha hw) fun x a w hq => ?_)
  cases x with
  | normal => exact hq
  | exit id' =>
    obtain ⟨K, hk, his⟩ := hq
    simp only [Exit.inBlock]
    simp only [exAt] at hk
    split
    · rename_i hid; subst hid; simp at hk; subst hk; exact his
    · rename_i hid
      rw [beq_no (fun h => hid h.symm)] at hk
      exact ⟨K, hk, his⟩
  | goto l => exact hq
  | ret => exact hq
  | panic c => exact hq
  | outgrown => exact hq

theorem XC.cond {x : Operand} {t f : Code} {c : Bool} (hx : ev e x = some (.bool c)) (ht : c = true → XC C t κ e Rs) (hf : c = false → XC C f κ e Rs) : XC C (.cond x t f) κ e Rs := by
  intro a w ha hw
  refine wp_cond_split (ha.ev hx) (fun h => ht h a w ha hw) (fun h => hf h a w ha hw)
theorem XC.cond_t {x : Operand} {t f : Code} (hx : ev e x = some (.bool true)) (h : XC C t κ e Rs) : XC C (.cond x t f) κ e Rs := XC.cond hx (fun _ => h) (fun h => by cases h)
theorem XC.cond_f {x : Operand} {t f : Code} (hx : ev e x = some (.bool false)) (h : XC C f κ e Rs) : XC C (.cond x t f) κ e Rs := XC.cond hx (fun h => by cases h) (fun _ => h)

/-- Slots that nobody asks for any more are let go. -/
theorem XC.keep {c : Code} (e' : Env) (hk : Keeps e e') (h : XC C c κ e' Rs) : XC C c κ e Rs := fun a w ha hw => h a w (ha.keep hk) hw
theorem XL.keep {ops : Array Oper} {l : List Oper} (e' : Env) (hk : Keeps e e') (h : XL C ops l κ e' Rs) : XL C ops l κ e Rs := fun a w ha hw => h a w (ha.keep hk) hw
/-- Memory is told otherwise. -/
theorem XC.mem {c : Code} (Rs' : List HP) (hm : ∀ w, Own C.W0 w Rs → Own C.W0 w Rs') (h : XC C c κ e Rs') : XC C c κ e Rs := fun a w ha hw => h a w ha (hm w hw)
theorem XL.mem {ops : Array Oper} {l : List Oper} (Rs' : List HP) (hm : ∀ w, Own C.W0 w Rs → Own C.W0 w Rs') (h : XL C ops l κ e Rs') : XL C ops l κ e Rs := fun a w ha hw => h a w ha (hm w hw)
/-- From some point on: what holds there is asked of whatever frame and memory are so told. -/
theorem XC.cut {c : Code} (h : XC C c κ e Rs) {e2 : Env} {Rs2 : List HP} (hk : Keeps e2 e) (ht : Gets Rs2 Rs) : XC C c κ e2 Rs2 := fun a w ha hw => h a w (ha.keep hk) (ht.own hw)

theorem XC.loop {σ : Type} {c : Code} (E : σ → Env) (R : σ → List HP) (φ : σ → Prop) (μ : σ → Nat) (s0 : σ) (h0 : φ s0) (he : Keeps e (E s0)) (hr : Gets Rs (R s0))
    (round : ∀ s, φ s → XC C c ⟨fun e' Rs' => ∃ s', φ s' ∧ μ s' < μ s ∧ Keeps e' (E s') ∧ Gets Rs' (R s'), xs, r⟩ (E s) (R s)) : XC C (.loop c) ⟨n, xs, r⟩ e Rs := by
  intro a w ha hw
  have key : ∀ m (s : σ), μ s = m → φ s → ∀ a w, Agree C.N (E s) a → Own C.W0 w (R s) → ∀ (b : Frame) (k : List Item) (cs : List Frame),
      ∃ x a' w', (Kt.up C ⟨n, xs, r⟩) x a' w' ∧ Arrives C.P (lone (b.at a (.code c :: .inLoop c :: k)) cs w) b k cs x a' w' := by
    intro m
    induction m using Nat.strongRecOn with
    | _ m ih =>
      intro s hm hs a w ha hw b k cs
      obtain ⟨x, a1, w1, hq, harr⟩ := round s hs a w ha hw b (.inLoop c :: k) cs
      cases x with
      | normal =>
        obtain ⟨e', Rs', h1, h2, s', hs', hlt, hk, ht⟩ := hq
        obtain ⟨x2, a2, w2, hq2, harr2⟩ := ih (μ s') (hm ▸ hlt) s' rfl hs' a1 w1 (h1.keep hk) (ht.own h2) b k cs
        exact ⟨x2, a2, w2, hq2, .of_steps (Steps.trans harr (.one step_inLoop)) harr2⟩
      | exit id => exact ⟨.exit id, a1, w1, hq, .pass (x := .inLoop c) rfl (fun _ _ => .inl (by simp)) harr⟩
      | goto l => exact hq.elim
      | ret => exact ⟨.ret, a1, w1, hq, .pass (x := .inLoop c) rfl (fun _ _ => .inl (by simp)) harr⟩
      | panic ch => exact hq.elim
      | outgrown => exact hq.elim
  intro b k cs
  obtain ⟨x, a', w', hq, harr⟩ := key _ s0 rfl h0 a w (ha.keep he) (hr.own hw) b k cs
  exact ⟨x, a', w', hq, .of_steps (.one step_loop) harr⟩

theorem XC.region {id : Nat} {l : List Oper} (h : XL C l.toArray l κ e Rs) : XC C (.region id l.toArray false) κ e Rs := fun a w ha hw => wp_region_lit (h a w ha hw)
theorem XL.nil {ops : Array Oper} (h : n e Rs) : XL C ops [] ⟨n, xs, r⟩ e Rs := fun _ _ ha hw => wpList_nil ⟨e, Rs, ha, hw, h⟩
end code

/-! ### Results -/
def aggD : TypeDesc → Bool
  | .struct _ | .array _ _ => true
  | _ => false

def resOne (tmps : Array Value) : ResultVar → Sem Value
  | .tmp t => pure (tmps.getD t undef)
  | .cell a t => do loadVar t (← asAddr (tmps.getD a undef))

theorem results_eq (fn : Func) (tmps : Array Value) : results fn tmps = (do let vs ← fn.results.mapM (resOne tmps); pure (if h : vs.size = 1 then vs[0] else .tuple vs)) := by
  unfold results
  congr 1

/-- The results that lie in frame and memory so told. -/
def ResV (P : Program) (e : Env) (Rs : List HP) : List ResultVar → List Value → Prop
  | [], vs => vs = []
  | .tmp t :: r, v :: vs => look e t = some v ∧ ResV P e Rs r vs
  | .cell t T :: r, v :: vs => (∃ b T' cs Fr d, look e t = some (.pointer (some ⟨b, 0, none⟩)) ∧ Pick Rs (blk b T' cs) Fr ∧ P.underlying T = some d ∧ (P.info? T).map (·.size) = some cs.length ∧
      ((v = .agg cs.toArray ∧ aggD d = true) ∨ (cs = [v] ∧ aggD d = false))) ∧ ResV P e Rs r vs
  | _ :: _, [] => False

def joined : List Value → Value
  | [v] => v
  | vs => .tuple vs.toArray

theorem loadVar_blk {P : Program} {W0 w : World} {T T' : TypeId} {d : TypeDesc} {b : Nat} {cs : List Value} {Rs : List HP} {v : Value} (hw : Own W0 w (blk b T' cs :: Rs)) (hu : P.underlying T = some d) (hi : (P.info? T).map (·.size) = some cs.length)
    (hv : (v = .agg cs.toArray ∧ aggD d = true) ∨ (cs = [v] ∧ aggD d = false)) :
    (loadVar T ⟨b, 0, none⟩).run P w = .ok v w := by
  have hb := hw.cells
  rcases hv with ⟨rfl, hd⟩ | ⟨rfl, hd⟩
  · exact run_loadVar_row w b T' T cs.toArray (0, 0) d hb hu (by cases d <;> simp_all [aggD]) (by simpa using hi)
  · have hagg : (isAgg T).run P w = .ok false w := by
      unfold isAgg
      rw [Sem.run_bind, run_underlying hu w]
      cases d <;> simp_all [aggD]
    have hc : w.cell? ⟨b, 0, none⟩ = some v := by simp [World.cell?, hb]
    simp [loadVar, Sem.run_bind, hagg, load, Sem.run, hc]

theorem run_resv {P : Program} {W0 w : World} {N : Nat} {e : Env} {a : Act} {Rs : List HP} (ha : Agree N e a) (hw : Own W0 w Rs) : ∀ (l : List ResultVar) (vs : List Value), ResV P e Rs l vs →
    (l.mapM (resOne a.tmps)).run P w = .ok vs w
  | [], vs, h => by simp only [ResV] at h; subst h; simp [List.mapM_nil]
  | .tmp t :: r, v :: vs, h => by
    obtain ⟨h1, h2⟩ := h
    have h3 := ha.at_ t v h1
    have h4 := run_resv ha hw r vs h2
    simp [List.mapM_cons, resOne, h3, h4]
  | .cell t T :: r, v :: vs, h => by
    obtain ⟨⟨b, T', cs, Fr, d, h1, hp, hu, hi, hv⟩, h2⟩ := h
    have h3 := ha.at_ t _ h1
    have h4 := loadVar_blk (P := P) (hw.pick hp) hu hi hv
    have h5 := run_resv ha hw r vs h2
    simp [List.mapM_cons, resOne, h3, asAddr, h4, h5]
  | .tmp _ :: _, [], h => h.elim
  | .cell _ _ :: _, [], h => h.elim

/-- The end of a function: its results are there, and 'Post' is met. -/
def Fin (P : Program) (rs : List ResultVar) (Post : Value → List HP → Prop) : St := fun e Rs => ∃ vs, ResV P e Rs rs vs ∧ ∃ Rs', Gets Rs Rs' ∧ Post (joined vs) Rs'

def ins : List Value → Nat → Env
  | [], _ => []
  | v :: vs, i => (i, v) :: ins vs (i + 1)

theorem look_ins : ∀ (vs : List Value) (i k : Nat) (v : Value), look (ins vs i) k = some v → i ≤ k ∧ vs[k - i]? = some v
  | [], _, _, _, h => by cases h
  | u :: vs, i, k, v, h => by
    simp only [ins, look] at h
    by_cases hi : i = k
    · subst hi; simp at h; subst h; simp
    · rw [beq_no hi] at h
      have := look_ins vs (i + 1) k v h
      refine ⟨by omega, ?_⟩
      have e : k - i = (k - (i + 1)) + 1 := by omega
      rw [e]; simpa using this.2

/-- A function of the program. -/
structure Entry (P : Program) (f : FuncId) (N : Nat) (rs : List ResultVar) (c : Code) : Prop where
  is : ∃ fn, P.funcs[f]? = some fn ∧ fn.body = some c ∧ (fn.name == "runtime.NumGoroutine") = false ∧ fn.ntmps = N ∧ fn.results = rs.toArray

theorem Entry.there {P : Program} {f N : Nat} {rs : List ResultVar} {c : Code} (h : Entry P f N rs c) : ∃ fn c, P.funcs[f]? = some fn ∧ (fn.name == "runtime.NumGoroutine") = false ∧ fn.body = some c :=
  let ⟨fn, h1, h2, h3, _⟩ := h.is; ⟨fn, c, h1, h3, h2⟩

theorem Entry.tr {W0 : World} {P : Program} {f N : Nat} {rs : List ResultVar} {c : Code} {args : List Value} {Rs : List HP} {Post : Value → List HP → Prop} (hE : Entry P f N rs c)
    (hN : Nat.ble args.length N = true) (h : XC ⟨W0, P, N⟩ c ⟨Fin P rs Post, [], Fin P rs Post⟩ (ins args 0) Rs) : Tr W0 P f args Rs Post := by
  obtain ⟨fn, hf, hb, hn, hN2, hr2⟩ := hE.is
  have hN : args.length ≤ N := by simpa using hN
  refine ⟨⟨fn, c, hf, hn, hb⟩, fun w hw => calls_of_wp hf hb (wp_mono (h _ w ?_ hw) fun x a w hq => ?_)⟩
  · refine ⟨rfl, by simp; omega, fun i v hv => ?_⟩
    have hv' := (look_ins args 0 i v hv).2
    simp only [Nat.sub_zero] at hv'
    have hlt : i < args.length := (List.getElem?_eq_some_iff.1 hv').1
    show (args.toArray ++ _)[i]? = _
    rw [Array.getElem?_append_left (by simpa using hlt)]
    simpa using hv'
  · have fin : Is ⟨W0, P, N⟩ (Fin P rs Post) a w → a.defers = [] ∧ ∃ v, (results fn a.tmps).run P w = .ok v w ∧ ∃ v' Rs', Post v' Rs' ∧ Ending.returned v = .returned v' ∧ Own W0 w Rs' := by
      rintro ⟨e, Rs1, ha, hw1, vs, hr, Rs', ht, hp⟩
      have hrun := run_resv (P := P) ha hw1 _ vs hr
      refine ⟨ha.defers, joined vs, ?_, joined vs, Rs', hp, rfl, ht.own hw1⟩
      have e3 : (fn.results.mapM (resOne a.tmps)).run P w = .ok vs.toArray w := by
        rw [hr2, List.mapM_toArray]
        simp [hrun]
      rw [results_eq, Sem.run_bind, e3]
      simp only [Result.andThen_ok, Sem.run_pure]
      congr 1
      match vs with
      | [] => simp [joined]
      | [v] => simp [joined]
      | _ :: _ :: _ => simp [joined]
    cases x with
    | normal => exact fin hq
    | ret => exact fin hq
    | exit id => obtain ⟨K, hk, _⟩ := hq; cases hk
    | goto l => exact hq
    | panic c => exact hq.elim
    | outgrown => exact hq.elim

/-! ends -/
theorem fin0 {P : Program} {Post : Value → List HP → Prop} {e : Env} {Rs Rs' : List HP} (hp : Post (.tuple #[]) Rs') (hg : Gets Rs Rs') : Fin P [] Post e Rs := ⟨[], rfl, Rs', hg, hp⟩
theorem fin1 {P : Program} {Post : Value → List HP → Prop} {e : Env} {Rs Rs' : List HP} {t : Nat} {v : Value} (h : look e t = some v) (hp : Post v Rs') (hg : Gets Rs Rs') : Fin P [.tmp t] Post e Rs := ⟨[v], ⟨h, rfl⟩, Rs', hg, hp⟩
theorem fin2 {P : Program} {Post : Value → List HP → Prop} {e : Env} {Rs Rs' : List HP} {t t2 : Nat} {v v2 : Value} (h : look e t = some v) (h2 : look e t2 = some v2) (hp : Post (.tuple #[v, v2]) Rs') (hg : Gets Rs Rs') : Fin P [.tmp t, .tmp t2] Post e Rs := ⟨[v, v2], ⟨h, h2, rfl⟩, Rs', hg, hp⟩
theorem fin3 {P : Program} {Post : Value → List HP → Prop} {e : Env} {Rs Rs' : List HP} {t t2 t3 : Nat} {v v2 v3 : Value} (h : look e t = some v) (h2 : look e t2 = some v2) (h3 : look e t3 = some v3) (hp : Post (.tuple #[v, v2, v3]) Rs') (hg : Gets Rs Rs') : Fin P [.tmp t, .tmp t2, .tmp t3] Post e Rs := ⟨[v, v2, v3], ⟨h, h2, h3, rfl⟩, Rs', hg, hp⟩
theorem fin4 {P : Program} {Post : Value → List HP → Prop} {e : Env} {Rs Rs' : List HP} {t t2 t3 t4 : Nat} {v v2 v3 v4 : Value} (h : look e t = some v) (h2 : look e t2 = some v2) (h3 : look e t3 = some v3) (h4 : look e t4 = some v4) (hp : Post (.tuple #[v, v2, v3, v4]) Rs') (hg : Gets Rs Rs') : Fin P [.tmp t, .tmp t2, .tmp t3, .tmp t4] Post e Rs := ⟨[v, v2, v3, v4], ⟨h, h2, h3, h4, rfl⟩, Rs', hg, hp⟩

/-- A type: its cells, bytes, zero value; is it a struct or an array? -/
structure Ty (P : Program) (T : TypeId) (n by_ : Nat) (z : Value) (agg : Bool) : Prop where
  info : (P.info? T).map (fun i => (i.size, i.bytes, i.zero)) = some (n, by_, some z)
  desc : ∃ D, P.underlying T = some D ∧ aggD D = agg
theorem Ty.get {P : Program} {T n by_ : Nat} {z : Value} {g : Bool} (h : Ty P T n by_ z g) : ∃ i, P.info? T = some i ∧ i.size = n ∧ i.bytes = by_ ∧ i.zero = some z := by
  have := h.info
  cases hq : P.info? T with
  | none => rw [hq] at this; cases this
  | some i => rw [hq] at this; simp at this; exact ⟨i, rfl, this⟩
theorem Ty.agg {P : Program} {T n by_ : Nat} {z : Value} {g : Bool} (h : Ty P T n by_ z g) (w : World) : (isAgg T).run P w = .ok g w := by
  obtain ⟨D, h1, h2⟩ := h.desc
  unfold isAgg
  rw [Sem.run_bind, run_underlying h1 w]
  cases D <;> simp_all [aggD]

/-- results of which the first lies in memory -/
theorem finc1 {P : Program} {Post : Value → List HP → Prop} {e : Env} {Rs Rs' Fr : List HP} {t T n by_ b T' : Nat} {z : Value} {cs : List Value} (hT : Ty P T n by_ z true) (h : look e t = some (.pointer (some ⟨b, 0, none⟩))) (hb : Pick Rs (blk b T' cs) Fr) (hn : cs.length = n) (hp : Post (.agg cs.toArray) Rs') (hg : Gets Rs Rs') : Fin P [.cell t T] Post e Rs := by
  obtain ⟨i, h1, h2, _⟩ := hT.get
  obtain ⟨D, h3, h4⟩ := hT.desc
  exact ⟨[.agg cs.toArray], ⟨⟨b, T', cs, Fr, D, h, hb, h3, by simp [h1, h2, hn], .inl ⟨rfl, h4⟩⟩, rfl⟩, Rs', hg, hp⟩
theorem finc2 {P : Program} {Post : Value → List HP → Prop} {e : Env} {Rs Rs' Fr : List HP} {t t2 T n by_ b T' : Nat} {z v2 : Value} {cs : List Value} (hT : Ty P T n by_ z true) (h : look e t = some (.pointer (some ⟨b, 0, none⟩))) (h2 : look e t2 = some v2) (hb : Pick Rs (blk b T' cs) Fr) (hn : cs.length = n) (hp : Post (.tuple #[.agg cs.toArray, v2]) Rs') (hg : Gets Rs Rs') : Fin P [.cell t T, .tmp t2] Post e Rs := by
  obtain ⟨i, h1, h5, _⟩ := hT.get
  obtain ⟨D, h3, h4⟩ := hT.desc
  exact ⟨[.agg cs.toArray, v2], ⟨⟨b, T', cs, Fr, D, h, hb, h3, by simp [h1, h5, hn], .inl ⟨rfl, h4⟩⟩, h2, rfl⟩, Rs', hg, hp⟩
end Go.Sx

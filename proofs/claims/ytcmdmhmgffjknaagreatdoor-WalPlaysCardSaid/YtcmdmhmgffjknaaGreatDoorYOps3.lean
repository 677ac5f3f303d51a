/- append; slices and structs that are built; regions that draw their order. -/
import Derived.Test.YtcmdmhmgffjknaaGreatDoorYOps2
namespace Go.Sx

theorem Own.sl_owns {W0 w : World} {Rs : List HP} {A : Option Addr} {n c E sz : Nat} {xs : List Value} (H : Own W0 w (sl A n c E sz xs :: Rs)) : w.ownsRow W0.heap.size E sz (.slice A n c) n xs := by
  have hl := H.sl_len
  refine ⟨hl.1, ?_⟩
  rcases H.sl_open with ⟨rfl, rfl, rfl, _, _⟩ | ⟨g, cur, rfl, h2, h3, h4, h5, hb⟩
  · exact .inl ⟨rfl, rfl⟩
  · have hg : W0.heap.size ≤ g := by
      have h := hb; simp only [blk] at h; exact h.head.1
    exact .inr ⟨g, c, cur.toArray, rfl, hg, hb.cells, h2, h3, by simpa using h4, by simpa using h5⟩

theorem Own.sl_new {W0 w w' : World} {Rs : List HP} {A : Option Addr} {n c E sz : Nat} {xs : List Value} (H : Own W0 w (sl A n c E sz xs :: Rs)) {v' : Value} {n' : Nat} {xs' : List Value}
    (ho : w'.ownsRow W0.heap.size E sz v' n' xs') (hg : w.grownBy w' (Value.slice A n c).ownBlock) (hat : v'.ownBlock = (Value.slice A n c).ownBlock ∨ v'.ownBlock = some w.heap.size) : ∃ A' c', v' = .slice A' n' c' ∧ Own W0 w' (sl A' n' c' E sz xs' :: Rs) := by
  obtain ⟨h, ⟨h1, h2, ⟨hl, r⟩, s, d, u⟩, k⟩ := H.own
  have hlt : ∀ i o, h i = some o → i < w.heap.size := fun i o e => (Array.getElem?_eq_some_iff.1 (k i o e).2).1
  have h2h : ∀ i o, h2 i = some o → h i = some o := fun i o e => by
    rw [u i]; rcases d i with y | y
    · simp [y, e]
    · rw [e] at y; cases y
  -- the blocks of the rest are other ones than the row's
  have hne : ∀ i o, h2 i = some o → some i ≠ (Value.slice A n c).ownBlock := by
    intro i o e
    rcases r with ⟨rfl, _⟩ | ⟨g, cur, rfl, _, _, _, _, hb⟩
    · simp [Value.ownBlock]
    · simp only [Value.ownBlock, ne_eq, Option.some.injEq]
      rintro rfl
      have : h1 i = some (.cells cur.toArray E (0, 0)) := by simp only [blk, ob] at hb; simpa using hb i
      rcases d i with y | y
      · rw [this] at y; cases y
      · rw [e] at y; cases y
  have keep : ∀ i o, h2 i = some o → W0.heap.size ≤ i ∧ w'.heap[i]? = some o := fun i o e => by
    have hh := k i o (h2h i o e)
    exact ⟨hh.1, by rw [hg.block i (hlt i o (h2h i o e)) (hne i o e)]; exact hh.2⟩
  have old : ∀ i, i < W0.heap.size → w'.heap[i]? = W0.heap[i]? := fun i hi => by
    rw [hg.block i (Nat.lt_of_lt_of_le hi H.size) ?_, H.old i hi]
    rcases r with ⟨rfl, _⟩ | ⟨g, cur, rfl, _, _, _, _, hb⟩
    · simp [Value.ownBlock]
    · simp only [Value.ownBlock, ne_eq, Option.some.injEq]
      rintro rfl
      have h1g : h1 i = some (.cells cur.toArray E (0, 0)) := by simp only [blk, ob] at hb; simpa using hb i
      have := (k i _ (by rw [u i, h1g]; rfl)).1
      omega
  obtain ⟨hl', hv'⟩ := ho
  rcases hv' with ⟨rfl, rfl⟩ | ⟨g', cap, cur', rfl, hbase, hcell, hnc, hcm, hcs, hct⟩
  · have hx : xs' = [] := List.eq_nil_of_length_eq_zero (by simpa using hl')
    subst hx
    exact ⟨none, 0, rfl, hg.os.trans H.os, hg.tape.trans H.tape, hg.output.trans H.output, Nat.le_trans H.size hg.size, old, h2, ⟨fun _ => none, h2, sl_nil E sz (fun _ => rfl), s, fun _ => .inl rfl, fun i => by simp⟩, keep⟩
  · have dis : h2 g' = none := by
      cases e : h2 g' with
      | none => rfl
      | some o =>
        have hlt' := hlt g' o (h2h g' o e)
        have hne' := hne g' o e
        simp only [Value.ownBlock] at hat
        rcases hat with q | q
        · exact absurd q hne'
        · simp only [Option.some.injEq] at q; omega
    refine ⟨some ⟨g', 0, none⟩, cap, rfl, hg.os.trans H.os, hg.tape.trans H.tape, hg.output.trans H.output, Nat.le_trans H.size hg.size, old, fun i => if i = g' then some (.cells cur' E (0, 0)) else h2 i,
      ⟨fun i => if i = g' then some (.cells cur' E (0, 0)) else none, h2, ⟨hl', .inr ⟨g', cur'.toList, rfl, hnc, hcm, by simpa using hcs, hct, ?_⟩⟩, s, fun i => ?_, fun i => ?_⟩, fun i o e => ?_⟩
    · simp [blk, ob]
    · by_cases hi : i = g'
      · right; rw [hi]; exact dis
      · left; simp [hi]
    · by_cases hi : i = g' <;> simp [hi]
    · by_cases hi : i = g'
      · subst hi; simp at e; subst e; exact ⟨hbase, hcell⟩
      · simp [hi] at e; exact keep i o e

theorem run_append_nil0 {P : Program} (w : World) (base : Nat) (t ty e : TypeId) (i : TypeInfo) (size : Nat) (ht : P.underlying t = some (.slice e)) (hi : P.info? e = some i)
    (v : Value) (n : Nat) (xs : List Value) (hown : w.ownsRow base e size v n xs) (c : Nat) : (Builtin.append_ #[t, t] ty #[v, .slice none 0 c]).run P w = .ok v w := by
  rcases hown.2 with ⟨rfl, rfl⟩ | ⟨g, cap, cur, rfl, _, _, hnc, _⟩
  · simp [Builtin.append_, run_underlying ht, sizeOf, typeInfo, hi, Builtin.lenOf, Builtin.firstCells]
  · simp [Builtin.append_, run_underlying ht, sizeOf, typeInfo, hi, Builtin.lenOf, Builtin.firstCells, hnc, storeCells]

theorem zip_map_snd {α β : Type} (f : α → β) : ∀ (is : List Nat) (xs : List α), (is.zip xs).map (fun q => (q.1, f q.2)) = is.zip (xs.map f)
  | [], _ => by simp
  | _ :: _, [] => by simp
  | i :: is, x :: xs => by simp [zip_map_snd f is xs]

section ops
variable {C : Cx} {ops : Array Oper} {l : List Oper} {κ : Kt} {e : Env} {Rs : List HP}
variable {d : Nat} {x y z : Operand} {ty : TypeId} {pos : String} {aft : Array Edge} {v : Value} {T : TypeId} {T2 : TypeId} {kd : IntKind} {i j : Int}

theorem run_app {W0 : World} {P : Program} {A A2 : Option Addr} {n c m c2 E sz by_ : Nat} {zv : Value} {t ty : TypeId} {xs news : List Value} {Rs Fr : List HP} {w : World} (hT : P.underlying t = some (.slice E)) {ag : Bool} (hE : Ty P E sz by_ zv ag) (hz : zv.cells.size = sz) (hsz : 0 < sz)
    (hp : Pick Rs (sl A n c E sz xs) Fr) (hr : Rdb W0 Rs A2 m sz news) (h1 : news.all (·.oneCell') = true) (h63 : n + m ≤ maxLen) (hb : (n + m) * by_ ≤ 140737488355328) (hw : Own W0 w Rs) :
    ∃ A' c' w', (Builtin.append_ #[t, t] ty #[.slice A n c, .slice A2 m c2]).run P w = .ok (.slice A' (n + m) c') w' ∧ Own W0 w' (sl A' (n + m) c' E sz (xs ++ news) :: Fr) := by
  obtain ⟨i, i1, i2, i3, i4⟩ := hE.get
  have hw1 := hw.pick hp
  have hown := hw1.sl_owns
  rcases Nat.eq_zero_or_pos m with rfl | hm
  · have hn : news = [] := List.eq_nil_of_length_eq_zero (by simpa using hr.len)
    subst hn
    rcases A2 with _ | ad
    · exact ⟨A, c, w, run_append_nil0 w _ t ty E i sz hT i1 _ n xs hown c2, by simpa using hw1⟩
    · obtain ⟨v', w', hrun, h2, h3, _, h5⟩ := run_append_own_at (P := P) w W0.heap.size t ty E i zv sz by_ hT i1 i4 i2 i3 hz hsz _ n xs hown ad 0 c2 [] (by simp) (by simp) (by simp) h63 hb hw.size
      obtain ⟨A', c', rfl, ho⟩ := hw1.sl_new h2 h3 h5
      exact ⟨A', c', w', hrun, ho⟩
  · obtain ⟨b, o, rfl, hat⟩ := hr.at_ hm
    obtain ⟨v', w', hrun, h2, h3, _, h5⟩ := run_append_own_at (P := P) w W0.heap.size t ty E i zv sz by_ hT i1 i4 i2 i3 hz hsz _ n xs hown ⟨b, o, none⟩ m c2 news hr.len (fun j u hu => by rw [add_lit]; exact hat w hw j u hu) (by simpa using h1) h63 hb hw.size
    obtain ⟨A', c', rfl, ho⟩ := hw1.sl_new h2 h3 h5
    exact ⟨A', c', w', hrun, ho⟩

/-- append(s, xs...), s a slice that is owned. -/
theorem r_app {A A2 : Option Addr} {n c m c2 E sz by_ : Nat} {zv : Value} {t : TypeId} {xs news : List Value} {Fr : List HP} (hT : C.P.underlying t = some (.slice E)) {ag : Bool} (hE : Ty C.P E sz by_ zv ag) (hz : zv.cells.size = sz) (hsz : 0 < sz)
    (hx : ev e x = some (.slice A n c)) (hy : ev e y = some (.slice A2 m c2)) (hp : Pick Rs (sl A n c E sz xs) Fr) (hr : Rdb C.W0 Rs A2 m sz news) (h1 : news.all (·.oneCell') = true) (h63 : n + m ≤ maxLen) (hb : (n + m) * by_ ≤ 140737488355328) :
    Acts C e Rs (.call { callee := .builtin .append, args := #[x, y], argTypes := #[t, t] }) ty (fun q : Option Addr × Nat => .slice q.1 (n + m) q.2) (fun q => sl q.1 (n + m) q.2 E sz (xs ++ news) :: Fr) := by
  intro a w ha hw
  obtain ⟨A', c', w', hrun, ho⟩ := run_app (ty := ty) (c2 := c2) hT hE hz hsz hp hr h1 h63 hb hw
  exact ⟨(A', c'), w', by simp [execOp, resolve, invoke, builtin, ha.ev hx, ha.ev hy, hrun], ho⟩

/-- A struct that is built: 'hb' is the very run. -/
theorem r_bd {ps : List (Nat × Operand)} {vs : List Value} {is : List Nat} {l' : List Value} (hps : ps.map (·.1) = is) (hv : evs e (ps.map (·.2)) vs) (hb : ∀ w, (Instr.build T (is.zip vs).toArray).run C.P w = .ok (.agg l'.toArray) w) :
    Yld C e Rs (.build T ps.toArray) ty (.agg l'.toArray) := by
  intro a w ha hw
  have h1 := evs_map ha _ vs hv
  have h2 : ps.toArray.map (fun (q : Nat × Operand) => (q.1, a.eval q.2)) = (is.zip vs).toArray := by
    rw [← h1, ← hps, List.map_toArray]
    congr 1
    clear hps hv h1 hb
    induction ps with
    | nil => rfl
    | cons p r ih => simp [ih]
  simp only [execOp]
  have := hb w
  rw [h2, Sem.run_bind, this]
  rfl

/-- A slice literal: 'hb' is the very run. -/
theorem r_bs {n E : Nat} {ps : List (Nat × Operand)} {vs : List Value} {is : List Nat} {l' : List Value} (hps : ps.map (·.1) = is) (hv : evs e (ps.map (·.2)) vs) (hb : ∀ w : World, (Instr.buildSlice T n (is.zip vs).toArray).run C.P w = .ok (.slice (some ⟨w.heap.size, 0, none⟩) n n) { w with heap := w.heap.push (.cells l'.toArray E (0, 0)) }) :
    Acts C e Rs (.buildSlice T n ps.toArray) ty (fun b : Nat => .slice (some ⟨b, 0, none⟩) n n) (fun b => blk b E l' :: Rs) := by
  refine fun a w ha hw => ⟨w.heap.size, _, ?_, hw.block E l'⟩
  have h1 := evs_map ha _ vs hv
  have h2 : ps.toArray.map (fun (q : Nat × Operand) => (q.1, a.eval q.2)) = (is.zip vs).toArray := by
    rw [← h1, ← hps, List.map_toArray]
    congr 1
    clear hps hv h1 hb
    induction ps with
    | nil => rfl
    | cons p r ih => simp [ih]
  simp only [execOp]
  have := hb w
  rw [h2, Sem.run_bind, this]
  rfl
end ops

/-! ### Regions that draw their order -/
/-- As the kit's 'wpAnyH', but: behind the region's last operation, if all others are ahead of it in every order ('b'), nothing need stay. -/
def wpAnyK (P : Program) (ops : Array Oper) (Q : Exit → Act → World → Prop) (S : World → Prop) (b : Bool) : Nat → Array Bool → Act → World → Prop
  | 0, listed, a, w => Region.ready .any ops listed = [] ∧ Q .normal a w
  | fuel + 1, listed, a, w =>
    (Region.ready .any ops listed = [] → Q .normal a w) ∧
    ∀ i ∈ Region.ready .any ops listed, wpOp P ops Q i (fun a' w' => ((b && (i + 1 == ops.size)) = false → S w') ∧ wpAnyK P ops Q S b fuel (listed.setIfInBounds i true) a' w') a w

theorem wpAny_of_K {P : Program} {ops : Array Oper} {Q : Exit → Act → World → Prop} {S : World → Prop} {b : Bool} : ∀ (fuel : Nat) (listed : Array Bool) (a : Act) (w : World), wpAnyK P ops Q S b fuel listed a w → wpAny P .any ops Q fuel listed a w
  | 0, _, _, _, h => h
  | fuel + 1, _, _, _, h => ⟨h.1, fun i hi => wpOp_mono (fun a' w' h' => wpAny_of_K fuel _ a' w' h'.2) (h.2 i hi)⟩

/-- What has come up waited for nothing that has not. -/
def Shut (ops : Array Oper) (listed : Array Bool) : Prop := ∀ k o, ops[k]? = some o → listed.getD k true = true → ∀ e ∈ o.after, Region.binds .any e = true → listed.getD e.on false = true

theorem Shut.set {ops : Array Oper} {listed : Array Bool} (h : Shut ops listed) {i : Nat} (hi : i ∈ Region.ready .any ops listed) : Shut ops (listed.setIfInBounds i true) := by
  obtain ⟨_, oi, hoi, hall⟩ := mem_ready.1 hi
  intro k o hk hl e he hb
  have mono : ∀ x, listed.getD x false = true → (listed.setIfInBounds i true).getD x false = true := fun x hx => by
    by_cases hix : i = x
    · subst hix
      by_cases hs : i < listed.size
      · simp [hs]
      · simp [hs] at hx
    · rw [getD_set_ne false hix]; exact hx
  by_cases hki : k = i
  · subst hki
    rw [hoi] at hk; simp only [Option.some.injEq] at hk; subst hk
    exact mono _ (hall e he hb)
  · rw [getD_set_ne true (Ne.symm hki)] at hl
    exact mono _ (h k o hk hl e he hb)

/-- Every operation but the last one has a later one that waits for it. -/
def lastOK (ops : Array Oper) : Bool := (List.range (ops.size - 1)).all fun k => (List.range ops.size).any fun m => k < m && ((ops[m]?).map fun o => o.after.any fun e => Region.binds .any e && e.on == k).getD false

theorem last_all {ops : Array Oper} {listed : Array Bool} (hl : lastOK ops = true) (hs : Shut ops listed) {j : Nat} (hj : j ∈ Region.ready .any ops listed) (hjn : j + 1 = ops.size) : ∀ k, k < j → listed.getD k true = true := by
  have key : ∀ d k, j - k = d → k < j → listed.getD k true = true := by
    intro d
    induction d using Nat.strongRecOn with
    | _ d ih =>
      intro k hd hk
      unfold lastOK at hl
      rw [List.all_eq_true] at hl
      have := hl k (List.mem_range.2 (by omega))
      rw [List.any_eq_true] at this
      obtain ⟨m, hm, hh⟩ := this
      simp only [Bool.and_eq_true, decide_eq_true_eq] at hh
      obtain ⟨hkm, hh⟩ := hh
      have hmn := List.mem_range.1 hm
      cases hom : ops[m]? with
      | none => rw [hom] at hh; simp at hh
      | some o =>
        rw [hom] at hh
        simp only [Option.map_some, Option.getD_some, Array.any_eq_true', Bool.and_eq_true, beq_iff_eq] at hh
        obtain ⟨e, he, hb, hon⟩ := hh
        have up : listed.getD k false = true → listed.getD k true = true := fun h => by
          by_cases hs : k < listed.size
          · simp [hs] at h ⊢; exact h
          · simp [hs] at h
        by_cases hmj : m = j
        · subst hmj
          obtain ⟨_, oj, hoj, hall⟩ := mem_ready.1 hj
          rw [hom] at hoj; simp only [Option.some.injEq] at hoj; subst hoj
          have := hall e he hb
          rw [hon] at this
          exact up this
        · have h1 := ih (j - m) (by omega) m rfl (by omega)
          have h2 := hs m o hom h1 e he hb
          rw [hon] at h2
          exact up h2
  exact fun k hk => key _ k rfl hk

theorem wpAnyK_first {P : Program} {ops : Array Oper} {Q : Exit → Act → World → Prop} {S : World → Prop} {b : Bool} (hlast : b = true → lastOK ops = true) {i : Nat} {oi : Oper} {v : Value} (hi : ops[i]? = some oi) (hsel : ∀ (j : Nat) (o : Oper) cs b, ops[j]? = some o → o.op ≠ .select cs b)
    (hQ : ∀ c a w, Q (.panic c) (a.put oi.dst v) w → Q (.panic c) a w) :
    ∀ (fuel : Nat) (listed : Array Bool) (a : Act) (w : World),
      Shut ops listed →
      (∀ j oj, ops[j]? = some oj → j ≠ i → listed.getD j true = false → (∀ e ∈ oj.after, Region.binds .any e = true → e.on ≠ i) → oi.apart ops oj = true) →
      i ∈ Region.ready .any ops listed → YieldsIf P ops S oi v a → S w →
      wpAnyK P ops Q S b fuel (listed.setIfInBounds i true) (a.put oi.dst v) w → wpAnyK P ops Q S b (fuel + 1) listed a w := by
  intro fuel
  induction fuel with
  | zero =>
    intro listed a w _ _ hr hy hS H
    refine ⟨fun h => (by rw [h] at hr; cases hr), fun j hj => ?_⟩
    by_cases hji : j = i
    · subst hji; exact hy.wpOp hi hS ⟨fun _ => hS, H⟩
    · have := ready_mono hj hji
      rw [H.1] at this
      cases this
  | succ fuel ih =>
    intro listed a w hshut hfree hr hy hS H
    refine ⟨fun h => (by rw [h] at hr; cases hr), fun j hj => ?_⟩
    by_cases hji : j = i
    · subst hji; exact hy.wpOp hi hS ⟨fun _ => hS, H⟩
    · have h1 := H.2 j (ready_mono hj hji)
      obtain ⟨hjun, oj, hoj, hall⟩ := mem_ready.1 hj
      have hjS : (b && (j + 1 == ops.size)) = false := by
        cases hb : b with
        | false => simp
        | true =>
          simp only [Bool.true_and]
          cases hq : (j + 1 == ops.size) with
          | false => rfl
          | true =>
            have hin : i < ops.size := (Array.getElem?_eq_some_iff.1 hi).1
            have hq' : j + 1 = ops.size := by simpa using hq
            have := last_all (hlast hb) hshut hj hq' i (by omega)
            rw [(mem_ready.1 hr).1] at this; cases this
      have hnot : ∀ e ∈ oj.after, Region.binds .any e = true → e.on ≠ i := fun e he hb heq => by
        have h1 := hall e he hb
        have h0 := (mem_ready.1 hr).1
        rw [heq] at h1
        rcases Nat.lt_or_ge i listed.size with h' | h'
        · simp [h'] at h0 h1; rw [h0] at h1; cases h1
        · simp [Array.getElem?_eq_none h'] at h1
      have h2 := wpOp_putIf hoj (hfree j oj hoj hji hjun hnot) (fun cs b => hsel i oi cs b hi) (fun cs b => hsel j oj cs b hoj) hQ hy h1
      have hfree' : ∀ k ok, ops[k]? = some ok → k ≠ i → (listed.setIfInBounds j true).getD k true = false →
          (∀ e ∈ ok.after, Region.binds .any e = true → e.on ≠ i) → oi.apart ops ok = true := fun k ok hk hki hun hno => by
        refine hfree k ok hk hki ?_ hno
        by_cases hjk : j = k
        · subst hjk; exact hjun
        · rw [getD_set_ne true hjk] at hun; exact hun
      refine wpOp_mono (fun a' w' h3 => ⟨fun _ => h3.2.1 hjS, ih (listed.setIfInBounds j true) a' w' (hshut.set hj) hfree' (ready_mono hr (Ne.symm hji)) h3.1 (h3.2.1 hjS) ?_⟩) h2
      rw [Array.setIfInBounds_comm _ _ hji]
      exact h3.2.2

/-- The operations of a region in one order; what is loud (true) may change memory, the others only read, and what they read ('S') stays; but for the very last one's sake ('b'). -/
def wpH (P : Program) (ops : Array Oper) (Q : Exit → Act → World → Prop) (S : World → Prop) (b : Bool) : List (Nat × Bool) → Act → World → Prop
  | [], a, w => Q .normal a w
  | (i, true) :: r, a, w => wpOp P ops Q i (fun a' w' => ((b && (i + 1 == ops.size)) = false → S w') ∧ wpH P ops Q S b r a' w') a w
  | (i, false) :: r, a, w => ∃ o v, ops[i]? = some o ∧ YieldsIf P ops S o v a ∧ S w ∧ wpH P ops Q S b r (a.put o.dst v) w

def okOrder (ops : Array Oper) : Array Bool → List (Nat × Bool) → Bool
  | listed, [] => (Region.ready .any ops listed).isEmpty
  | listed, (i, true) :: r => (Region.ready .any ops listed == [i]) && okOrder ops (listed.setIfInBounds i true) r
  | listed, (i, false) :: r => Region.free .any ops listed i && (Region.ready .any ops listed).contains i && okOrder ops (listed.setIfInBounds i true) r

theorem wpAnyK_of_wpH {P : Program} {ops : Array Oper} {Q : Exit → Act → World → Prop} {S : World → Prop} {b : Bool} (hlast : b = true → lastOK ops = true) (hs : Region.noSelect ops = true) (hQ : ∀ c a w, ¬ Q (.panic c) a w) :
    ∀ (r : List (Nat × Bool)) (listed : Array Bool) (a : Act) (w : World), Shut ops listed → okOrder ops listed r = true → wpH P ops Q S b r a w → wpAnyK P ops Q S b r.length listed a w
  | [], listed, a, w, _, ho, h => ⟨by simpa [okOrder] using ho, h⟩
  | (i, true) :: r, listed, a, w, hsh, ho, h => by
    simp only [okOrder, Bool.and_eq_true, beq_iff_eq] at ho
    refine ⟨fun h0 => (by rw [ho.1] at h0; cases h0), fun k hk => ?_⟩
    have hk' := hk
    rw [ho.1, List.mem_singleton] at hk'
    subst hk'
    exact wpOp_mono (fun a' w' hh => ⟨hh.1, wpAnyK_of_wpH hlast hs hQ r _ a' w' (hsh.set hk) ho.2 hh.2⟩) h
  | (i, false) :: r, listed, a, w, hsh, ho, h => by
    simp only [okOrder, Bool.and_eq_true] at ho
    obtain ⟨o, v, hi, hy, hS, hh⟩ := h
    have hr : i ∈ Region.ready .any ops listed := by simpa using ho.1.2
    exact wpAnyK_first hlast hi (Region.noSelect_spec hs) (fun c a w q => absurd q (hQ _ _ _)) r.length listed a w hsh (Region.free_spec hi ho.1.1) hr hy hS (wpAnyK_of_wpH hlast hs hQ r _ _ w (hsh.set hr) ho.2 hh)

theorem shut_start (ops : Array Oper) : Shut ops (Array.replicate ops.size false) := by
  intro k o hk hl
  have hlt : k < ops.size := (Array.getElem?_eq_some_iff.1 hk).1
  have : (Array.replicate ops.size false).getD k true = false := by simp [hlt]
  rw [this] at hl; cases hl

def XH (C : Cx) (ops : Array Oper) (Sb : List HP) (b : Bool) (r : List (Nat × Bool)) (κ : Kt) (e : Env) (Rs : List HP) : Prop :=
  ∀ a w, Agree C.N e a → Own C.W0 w Rs → wpH C.P ops (κ.up C) (fun w => Own C.W0 w Sb) b r a w

section draw
variable {C : Cx} {ops : Array Oper} {Sb : List HP} {lz : Bool} {r : List (Nat × Bool)} {κ : Kt} {e : Env} {Rs : List HP} {n rr : St}
variable {d i : Nat} {ty : TypeId} {pos : String} {aft : Array Edge} {v : Value} {op : Op}

theorem XC.draw {id : Nat} {ops : Array Oper} (Sb : List HP) (lz : Bool) (r : List (Nat × Bool)) (hm : C.P.follows .mixedOrders = true) (hs : (Region.noSelect ops && okOrder ops (Array.replicate ops.size false) r && (r.length == ops.size) && (!lz || lastOK ops)) = true) (h : XH C ops Sb lz r κ e Rs) : XC C (.region id ops true) κ e Rs := by
  intro a w ha hw
  simp only [Bool.and_eq_true, beq_iff_eq, Bool.or_eq_true, Bool.not_eq_true'] at hs
  refine wp_region_any hm ?_
  have hh := wpAnyK_of_wpH (b := lz) (fun hb => hs.2.resolve_left (by rw [hb]; decide)) hs.1.1.1 (fun c a w q => q) r (Array.replicate ops.size false) a _ (shut_start ops) hs.1.1.2 (h a _ ha (hw.drew (w.drawn + 1)))
  rw [hs.1.2] at hh
  exact wpAny_of_K _ _ _ _ hh

theorem XH.nil {xs : List (Nat × (Env → List HP → Prop))} {n q : Env → List HP → Prop} (h : n e Rs) : XH C ops Sb lz [] ⟨n, xs, q⟩ e Rs := fun _ _ ha hw => ⟨e, Rs, ha, hw, h⟩
theorem y_v (ho : ops[i]? = some ⟨some d, op, ty, pos, aft, none⟩) (h : Yld C e Sb op ty v) (hS : ∀ w, Own C.W0 w Rs → Own C.W0 w Sb) (hN : Nat.blt d C.N = true) (k : XH C ops Sb lz r κ ((d, v) :: e) Rs) : XH C ops Sb lz ((i, false) :: r) κ e Rs :=
  fun a w ha hw => ⟨_, v, ho, .inl ⟨by simp [Region.wanted], fun w' hw' => by rw [execOp_of]; exact h a w' ha hw'⟩, hS w hw, k _ w (ha.put d hN v) hw⟩
theorem y_vg {g : Nat} {b : Bool} {t : Nat} (ho : ops[i]? = some ⟨some d, op, ty, pos, aft, some (g, b)⟩) (hj : (ops[g]?).bind (·.dst) = some t) (ht : look e t = some (.bool b)) (h : Yld C e Sb op ty v) (hS : ∀ w, Own C.W0 w Rs → Own C.W0 w Sb) (hN : Nat.blt d C.N = true) (k : XH C ops Sb lz r κ ((d, v) :: e) Rs) : XH C ops Sb lz ((i, false) :: r) κ e Rs :=
  fun a w ha hw => ⟨_, v, ho, .inl ⟨by simp only [Region.wanted, yielded, hj, Option.bind_some, ha.at_ t _ ht]; simp, fun w' hw' => by rw [execOp_of]; exact h a w' ha hw'⟩, hS w hw, k _ w (ha.put d hN v) hw⟩
/-- An operation behind a guard that is not met. -/
theorem y_un {g : Nat} {b : Bool} {t : Nat} (ho : ops[i]? = some ⟨some d, op, ty, pos, aft, some (g, b)⟩) (hj : (ops[g]?).bind (·.dst) = some t) (ht : look e t = some (.bool (!b))) (hS : ∀ w, Own C.W0 w Rs → Own C.W0 w Sb) (hN : Nat.blt d C.N = true) (k : XH C ops Sb lz r κ ((d, undef) :: e) Rs) : XH C ops Sb lz ((i, false) :: r) κ e Rs :=
  fun a w ha hw => ⟨_, undef, ho, .inr ⟨by simp only [Region.wanted, yielded, hj, Option.bind_some, ha.at_ t _ ht]; simp, rfl⟩, hS w hw, k _ w (ha.put d hN _) hw⟩
theorem y_a {α : Type} {v : α → Value} {R : α → List HP} (ho : ops[i]? = some ⟨some d, op, ty, pos, aft, none⟩) (h : Acts C e Rs op ty v R) (hS : (lz && (i + 1 == ops.size)) = false → ∀ x w, Own C.W0 w (R x) → Own C.W0 w Sb) (hN : Nat.blt d C.N = true) (k : ∀ x, XH C ops Sb lz r κ ((d, v x) :: e) (R x)) : XH C ops Sb lz ((i, true) :: r) κ e Rs := by
  intro a w ha hw
  obtain ⟨x, w', hr, hown⟩ := h a w ha hw
  simp only [wpH, wpOp, ho, Region.wanted, if_true]
  refine .inl ?_
  simp only [Oper.wp, execOp_of _ (some d), hr, Oper.upon]
  exact ⟨fun hb => hS hb x w' hown, k x _ w' (ha.put d hN _) hown⟩
theorem y_e {Rs' : List HP} (ho : ops[i]? = some ⟨none, op, ty, pos, aft, none⟩) (h : Effs C e Rs op ty Rs') (hS : (lz && (i + 1 == ops.size)) = false → ∀ w, Own C.W0 w Rs' → Own C.W0 w Sb) (k : XH C ops Sb lz r κ e Rs') : XH C ops Sb lz ((i, true) :: r) κ e Rs := by
  intro a w ha hw
  obtain ⟨w', n, hn, hr, hown⟩ := h a w ha hw
  simp only [wpH, wpOp, ho, Region.wanted, if_true]
  refine .inl ?_
  rcases hn with rfl | ⟨v, rfl⟩ <;> simp only [Oper.wp, execOp_of _ none op ty pos, hr, Oper.upon] <;> exact ⟨fun hb => hS hb w' hown, k _ w' ha hown⟩
theorem y_c {Post : Value → List HP → Prop} (ho : ops[i]? = some ⟨some d, op, ty, pos, aft, none⟩) (h : Cls C e Rs op ty Post) (hS : (lz && (i + 1 == ops.size)) = false → ∀ v Rs' w, Post v Rs' → Own C.W0 w Rs' → Own C.W0 w Sb) (hN : Nat.blt d C.N = true) (k : ∀ v Rs', Post v Rs' → XH C ops Sb lz r κ ((d, v) :: e) Rs') : XH C ops Sb lz ((i, true) :: r) κ e Rs := by
  intro a w ha hw
  obtain ⟨f, args, hr, hc⟩ := h a w ha hw
  simp only [wpH, wpOp, ho, Region.wanted, if_true]
  refine .inl ?_
  simp only [Oper.wp, execOp_of _ (some d), hr, Oper.upon]
  refine hc.mono fun en w' hh => ?_
  obtain ⟨v, Rs', hp, rfl, hown⟩ := hh
  exact ⟨fun hb => hS hb v Rs' w' hp hown, k v Rs' hp _ w' (ha.put d hN v) hown⟩
/-- A call behind a guard that is met. -/
theorem y_cg {g : Nat} {bb : Bool} {t : Nat} {Post : Value → List HP → Prop} (ho : ops[i]? = some ⟨some d, op, ty, pos, aft, some (g, bb)⟩) (hj : (ops[g]?).bind (·.dst) = some t) (ht : look e t = some (.bool bb)) (h : Cls C e Rs op ty Post) (hS : (lz && (i + 1 == ops.size)) = false → ∀ v Rs' w, Post v Rs' → Own C.W0 w Rs' → Own C.W0 w Sb) (hN : Nat.blt d C.N = true) (k : ∀ v Rs', Post v Rs' → XH C ops Sb lz r κ ((d, v) :: e) Rs') : XH C ops Sb lz ((i, true) :: r) κ e Rs := by
  intro a w ha hw
  obtain ⟨f, args, hr, hc⟩ := h a w ha hw
  have hwt : Region.wanted (⟨some d, op, ty, pos, aft, some (g, bb)⟩ : Oper) (yielded ops a.tmps) = true := by simp only [Region.wanted, yielded, hj, Option.bind_some, ha.at_ t _ ht]; simp
  simp only [wpH, wpOp, ho, hwt, if_true]
  refine .inl ?_
  simp only [Oper.wp, execOp_of _ (some d), hr, Oper.upon]
  refine hc.mono fun en w' hh => ?_
  obtain ⟨v, Rs', hp, rfl, hown⟩ := hh
  exact ⟨fun hb => hS hb v Rs' w' hp hown, k v Rs' hp _ w' (ha.put d hN v) hown⟩
/-- A loud operation behind a guard that is not met. -/
theorem y_unl {g : Nat} {bb : Bool} {t : Nat} (ho : ops[i]? = some ⟨some d, op, ty, pos, aft, some (g, bb)⟩) (hj : (ops[g]?).bind (·.dst) = some t) (ht : look e t = some (.bool (!bb))) (hS : ∀ w, Own C.W0 w Rs → Own C.W0 w Sb) (hN : Nat.blt d C.N = true) (k : XH C ops Sb lz r κ ((d, undef) :: e) Rs) : XH C ops Sb lz ((i, true) :: r) κ e Rs := by
  intro a w ha hw
  have hwt : Region.wanted (⟨some d, op, ty, pos, aft, some (g, bb)⟩ : Oper) (yielded ops a.tmps) = false := by simp only [Region.wanted, yielded, hj, Option.bind_some, ha.at_ t _ ht]; simp
  simp only [wpH, wpOp, ho, hwt]
  exact ⟨fun _ => hS w hw, k _ w (ha.put d hN _) hw⟩
/-- A slot that holds a bool: both cases. -/
theorem XH.split {b : Bool} (t : Nat) (ht : look e t = some (.bool b)) (h1 : b = true → XH C ops Sb lz r κ ((t, .bool true) :: e) Rs) (h2 : b = false → XH C ops Sb lz r κ ((t, .bool false) :: e) Rs) : XH C ops Sb lz r κ e Rs := by
  intro a w ha hw
  cases b
  · exact h2 rfl a w (ha.same ht) hw
  · exact h1 rfl a w (ha.same ht) hw
theorem XH.splitd {p : Prop} [Decidable p] (t : Nat) (ht : look e t = some (.bool (decide p))) (h1 : p → XH C ops Sb lz r κ ((t, .bool true) :: e) Rs) (h2 : ¬ p → XH C ops Sb lz r κ ((t, .bool false) :: e) Rs) : XH C ops Sb lz r κ e Rs :=
  XH.split t ht (fun h => h1 (of_decide_eq_true h)) (fun h => h2 (of_decide_eq_false h))
theorem XH.keep (e' : Env) (hk : Keeps e e') (h : XH C ops Sb lz r κ e' Rs) : XH C ops Sb lz r κ e Rs := fun a w ha hw => h a w (ha.keep hk) hw
end draw
end Go.Sx

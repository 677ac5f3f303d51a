/- The rules for the single operations. -/
import Derived.Test.YtcmdmhmgffjknaaGreatDoorXWalk
namespace Go.Sx
section ops
variable {C : Cx} {ops : Array Oper} {l : List Oper} {κ : Kt} {e : Env} {Rs : List HP}
variable {d : Nat} {x y z : Operand} {ty : TypeId} {pos : String} {aft : Array Edge} {v : Value} {T : TypeId}

/-- An operation that leaves a value and memory as it was. -/
def Yld (C : Cx) (e : Env) (Rs : List HP) (op : Op) (ty : TypeId) (v : Value) : Prop :=
  ∀ a w, Agree C.N e a → Own C.W0 w Rs → (execOp a.eval ⟨none, op, ty, "", #[], none⟩).run C.P w = .ok (.value v) w
/-- An operation that leaves a value and memory of a kind. -/
def Acts {α : Type} (C : Cx) (e : Env) (Rs : List HP) (op : Op) (ty : TypeId) (v : α → Value) (R : α → List HP) : Prop :=
  ∀ a w, Agree C.N e a → Own C.W0 w Rs → ∃ x w', (execOp a.eval ⟨none, op, ty, "", #[], none⟩).run C.P w = .ok (.value (v x)) w' ∧ Own C.W0 w' (R x)
/-- An operation that leaves no value. -/
def Effs (C : Cx) (e : Env) (Rs : List HP) (op : Op) (ty : TypeId) (Rs' : List HP) : Prop :=
  ∀ a w, Agree C.N e a → Own C.W0 w Rs → ∃ w' n, (n = .skip ∨ ∃ v, n = .value v) ∧ (execOp a.eval ⟨none, op, ty, "", #[], none⟩).run C.P w = .ok n w' ∧ Own C.W0 w' Rs'
/-- A call. -/
def Cls (C : Cx) (e : Env) (Rs : List HP) (op : Op) (ty : TypeId) (Post : Value → List HP → Prop) : Prop :=
  ∀ a w, Agree C.N e a → Own C.W0 w Rs → ∃ f args, (execOp a.eval ⟨none, op, ty, "", #[], none⟩).run C.P w = .ok (.enter f args) w ∧ Calls C.P f args w fun e w' => ∃ v Rs', Post v Rs' ∧ e = .returned v ∧ Own C.W0 w' Rs'

theorem execOp_of (ρ : Operand → Value) (d : Option Nat) (op : Op) (ty : TypeId) (pos : String) (aft : Array Edge) (g : Option (Nat × Bool)) : execOp ρ ⟨d, op, ty, pos, aft, g⟩ = execOp ρ ⟨none, op, ty, "", #[], none⟩ := by
  cases op <;> rfl

theorem x_v {op : Op} (h : Yld C e Rs op ty v) (hN : Nat.blt d C.N = true) (k : XL C ops l κ ((d, v) :: e) Rs) : XL C ops (⟨some d, op, ty, pos, aft, none⟩ :: l) κ e Rs := by
  intro a w ha hw
  refine wpList_plain rfl fun K hK => ?_
  simp only [Oper.wp, execOp_of _ (some d), h a w ha hw, Oper.upon]
  exact hK _ _ (k _ w (ha.put d hN v) hw)
theorem x_a {α : Type} {op : Op} {v : α → Value} {R : α → List HP} (h : Acts C e Rs op ty v R) (hN : Nat.blt d C.N = true) (k : ∀ x, XL C ops l κ ((d, v x) :: e) (R x)) : XL C ops (⟨some d, op, ty, pos, aft, none⟩ :: l) κ e Rs := by
  intro a w ha hw
  obtain ⟨x, w', hr, ho⟩ := h a w ha hw
  refine wpList_plain rfl fun K hK => ?_
  simp only [Oper.wp, execOp_of _ (some d), hr, Oper.upon]
  exact hK _ _ (k x _ w' (ha.put d hN _) ho)
theorem x_e {op : Op} {Rs' : List HP} (h : Effs C e Rs op ty Rs') (k : XL C ops l κ e Rs') : XL C ops (⟨none, op, ty, pos, aft, none⟩ :: l) κ e Rs := by
  intro a w ha hw
  obtain ⟨w', n, hn, hr, ho⟩ := h a w ha hw
  refine wpList_plain rfl fun K hK => ?_
  rcases hn with rfl | ⟨v, rfl⟩ <;> simp only [Oper.wp, execOp_of _ none op ty pos, hr, Oper.upon] <;> exact hK _ _ (k _ w' ha ho)
theorem x_c {op : Op} {Post : Value → List HP → Prop} (h : Cls C e Rs op ty Post) (hN : Nat.blt d C.N = true) (k : ∀ v Rs', Post v Rs' → XL C ops l κ ((d, v) :: e) Rs') : XL C ops (⟨some d, op, ty, pos, aft, none⟩ :: l) κ e Rs := by
  intro a w ha hw
  obtain ⟨f, args, hr, hc⟩ := h a w ha hw
  refine wpList_plain rfl fun K hK => ?_
  simp only [Oper.wp, execOp_of _ (some d), hr, Oper.upon]
  refine hc.mono fun en w' hh => ?_
  obtain ⟨v, Rs', hp, rfl, ho⟩ := hh
  exact hK _ _ (k v Rs' hp _ w' (ha.put d hN v) ho)

theorem r_mv (hx : ev e x = some v)   : Yld C e Rs (.move x) ty (v) :=
  fun a w ha _ => by simp [execOp, ha.ev hx]
theorem r_as (hx : ev e x = some v)   : Yld C e Rs (.assign x) ty (v) :=
  fun a w ha _ => by simp [execOp, ha.ev hx]
theorem r_pk_t (hx : ev e x = some (.bool true)) (hy : ev e y = some v)   : Yld C e Rs (.pick x y z) ty (v) :=
  fun a w ha _ => by simp [execOp, ha.ev hx, ha.ev hy, asBool]
theorem r_pk_f (hx : ev e x = some (.bool false)) (hy : ev e z = some v)   : Yld C e Rs (.pick x y z) ty (v) :=
  fun a w ha _ => by simp [execOp, ha.ev hx, ha.ev hy, asBool]
theorem r_nc {p : Addr} (hx : ev e x = some (.pointer (some p)))   : Yld C e Rs (.nilCheck x) ty (.pointer (some p)) :=
  fun a w ha _ => by simp [execOp, ha.ev hx]
theorem r_ex {vs : List Value} {i : Nat} (hx : ev e x = some (.tuple vs.toArray)) (hv : vs[i]? = some v)   : Yld C e Rs (.extract x i) ty (v) :=
  fun a w ha _ => by simp [execOp, ha.ev hx, Instr.extract, hv]
theorem r_mf {fn : Fn} {first cap : Array Operand} (v1 v2 : Array Value) (h1 : ∀ a : Act, Agree C.N e a → first.map a.eval = v1) (h2 : ∀ a : Act, Agree C.N e a → cap.map a.eval = v2) 
     : Yld C e Rs (.makeFunc fn first cap) ty (.func fn v1 v2) :=
  fun a w ha _ => by simp [execOp, Instr.makeFunc, h1 a ha, h2 a ha]
theorem r_not {b : Bool} (hx : ev e x = some (.bool b))   : Yld C e Rs (.unOp .not T x) ty (.bool (!b)) :=
  fun a w ha _ => by simp [execOp, ha.ev hx, Op.unary]
theorem r_not_d {p : Prop} [Decidable p] (hx : ev e x = some (.bool (decide p)))   : Yld C e Rs (.unOp .not T x) ty (.bool (decide (¬ p))) :=
  by
  have h := r_not (C := C) (Rs := Rs) (ty := ty) (T := T) hx
  rw [decide_not]; exact h

/-! fields and elements -/
structure Fld (P : Program) (S i off : Nat) : Prop where
  is : ∃ fs f n, P.underlying S = some (.struct fs) ∧ fs[i]? = some f ∧ f.offset = off ∧ (P.info? f.type).map (·.size) = some (n + 1)

theorem add_lit (b o n : Nat) : (⟨b, o, none⟩ : Addr).add n = ⟨b, o + n, none⟩ := by unfold Addr.add; split <;> simp_all

theorem run_fieldAt {P : Program} {S i off : Nat} (h : Fld P S i off) (b o : Nat) (w : World) : (Instr.fieldAt S (.pointer (some ⟨b, o, none⟩)) i).run P w = .ok (.pointer (some ⟨b, o + off, none⟩)) w := by
  obtain ⟨fs, f, n, h1, h2, h3, h4⟩ := h
  obtain ⟨j, h5, h6⟩ := Option.map_eq_some_iff.1 h4
  simp [Instr.fieldAt, run_underlying h1, h2, Instr.sureAddr, fieldPlace, sizeOf, typeInfo, h5, h6, add_lit, h3]

theorem r_fa {S i off b o : Nat} (hf : Fld C.P S i off) (hx : ev e x = some (.pointer (some ⟨b, o, none⟩)))   : Yld C e Rs (.fieldAddr S x i) ty (.pointer (some ⟨b, o + off, none⟩)) :=
  fun a w ha _ => by simp [execOp, ha.ev hx, run_fieldAt hf]
theorem r_ia {S E n by_ len cap k : Nat} {z : Value} {b o : Nat} {kd : IntKind} {i : Int} (hs : C.P.underlying S = some (.slice E)) {ag : Bool} (hE : Ty C.P E n by_ z ag) (hx : ev e x = some (.slice (some ⟨b, o, none⟩) len cap)) (hy : ev e y = some (.int kd i)) (hi : i = (k : Int)) (hk : k < len) 
     : Yld C e Rs (.indexAddr S x y) ty (.pointer (some ⟨b, o + k * n, none⟩)) := by
  obtain ⟨j, h1, h2, _, _⟩ := hE.get
  subst hi
  intro a w ha _
  have : (k : Int) < (len : Int) := by omega
  simp [execOp, ha.ev hx, ha.ev hy, Instr.indexAt, asIntOf, run_underlying hs, sizeOf, typeInfo, h1, h2, add_lit, hk]

theorem r_iaa {S E n by_ len k : Nat} {z : Value} {b o : Nat} {kd : IntKind} {i : Int} (hs : C.P.underlying S = some (.array len E)) {ag : Bool} (hE : Ty C.P E n by_ z ag) (hx : ev e x = some (.pointer (some ⟨b, o, none⟩))) (hy : ev e y = some (.int kd i)) (hi : i = (k : Int)) (hk : k < len) 
     : Yld C e Rs (.indexAddr S x y) ty (.pointer (some ⟨b, o + k * n, none⟩)) := by
  obtain ⟨j, h1, h2, _, _⟩ := hE.get
  subst hi
  intro a w ha _
  simp [execOp, ha.ev hx, ha.ev hy, Instr.indexAt, asIntOf, run_underlying hs, sizeOf, typeInfo, h1, h2, add_lit, hk, Instr.sureAddr]

/-! new blocks -/
theorem r_al {n by_ : Nat} {z : Value} {cs : List Value} {ag : Bool} (hT : Ty C.P T n by_ z ag) (hz : z.cells = cs.toArray) : Acts C e Rs (.alloc T) ty (fun b : Nat => .pointer (some ⟨b, 0, none⟩)) (fun b => blk b T cs :: Rs) := by
  obtain ⟨j, h1, _, _, h4⟩ := hT.get
  refine fun a w ha hw => ⟨w.heap.size, _, ?_, hw.block T cs⟩
  simp [execOp, Instr.alloc, zeroValue, typeInfo, h1, h4, newVar, newRow, newObj, Sem.run, hz]
theorem r_bx {cs : List Value} (hx : ev e x = some v) (hz : v.cells = cs.toArray) : Acts C e Rs (.box T x) ty (fun b : Nat => .pointer (some ⟨b, 0, none⟩)) (fun b => blk b T cs :: Rs) := by
  refine fun a w ha hw => ⟨w.heap.size, _, ?_, hw.block T cs⟩
  simp [execOp, Instr.box, ha.ev hx, newVar, newRow, newObj, Sem.run, hz]

/-! loads and stores -/
theorem r_ld {n by_ : Nat} {z : Value} {b o T' : Nat} {cs : List Value} {Fr : List HP} (hT : Ty C.P T n by_ z false) (hx : ev e x = some (.pointer (some ⟨b, o, none⟩))) (hp : Pick Rs (blk b T' cs) Fr) (hv : cs[o]? = some v) 
     : Yld C e Rs (.load T x) ty (v) := by
  intro a w ha hw
  have hb := (hw.pick hp).cells
  have hagg := hT.agg w
  have hc : w.cell? ⟨b, o, none⟩ = some v := by simp [World.cell?, hb, hv]
  simp [execOp, ha.ev hx, Instr.loadAt, Instr.sureAddr, loadVar, hagg, load, Sem.run, hc]

/-- Behind 'o' places 'l' stands in 'cs'. -/
inductive Sub : List Value → Nat → List Value → Prop
  | nil (cs : List Value) : Sub cs 0 []
  | take (c : Value) {cs l : List Value} (h : Sub cs 0 l) : Sub (c :: cs) 0 (c :: l)
  | skip (c : Value) {cs l : List Value} {o : Nat} (h : Sub cs o l) : Sub (c :: cs) (o + 1) l
theorem Sub.get {cs l : List Value} {o : Nat} (h : Sub cs o l) : ∀ j u, l[j]? = some u → cs[o + j]? = some u := by
  induction h with
  | nil => intro j u h; simp at h
  | take c h ih => intro j u hu; cases j with
    | zero => simpa using hu
    | succ j => have := ih j u (by simpa using hu); simpa using this
  | skip c h ih => intro j u hu; have := ih j u hu; rw [show ∀ o : Nat, o + 1 + j = (o + j) + 1 from fun o => by omega]; simpa using this

theorem r_lda {n by_ : Nat} {z : Value} {b o T' : Nat} {cs l' : List Value} {Fr : List HP} (hT : Ty C.P T n by_ z true) (hx : ev e x = some (.pointer (some ⟨b, o, none⟩))) (hp : Pick Rs (blk b T' cs) Fr) (hl : l'.length = n) (hv : ∀ j u, l'[j]? = some u → cs[o + j]? = some u) 
     : Yld C e Rs (.load T x) ty (.agg l'.toArray) := by
  obtain ⟨j, h1, h2, _, _⟩ := hT.get
  intro a w ha hw
  have hb := (hw.pick hp).cells
  have hagg := hT.agg w
  have hc := run_loadCells_list (P := C.P) w ⟨b, o, none⟩ l' (fun j u hu => by rw [add_lit]; simp [World.cell?, hb, hv j u hu])
  rw [hl] at hc
  simp [execOp, ha.ev hx, Instr.loadAt, Instr.sureAddr, loadVar, hagg, sizeOf, typeInfo, h1, h2, hc]

/-- In 'cs', from 'o' on, 'vs' stand in the place of what stood there. -/
inductive Over : List Value → Nat → List Value → List Value → Prop
  | nil (cs : List Value) : Over cs 0 [] cs
  | put (c v : Value) {cs vs cs' : List Value} (h : Over cs 0 vs cs') : Over (c :: cs) 0 (v :: vs) (v :: cs')
  | skip (c : Value) {cs vs cs' : List Value} {o : Nat} (h : Over cs o vs cs') : Over (c :: cs) (o + 1) vs (c :: cs')
theorem sU {cs l : List Value} {o : Nat} (h : Sub cs o l := by repeat (first | exact Sub.nil _ | apply Sub.take | apply Sub.skip)) : Sub cs o l := h
theorem oV {a c d : List Value} {o : Nat} (h : Over a o c d := by repeat (first | exact Over.nil _ | apply Over.put | apply Over.skip)) : Over a o c d := h
theorem Over.is {cs vs cs' : List Value} {o : Nat} (h : Over cs o vs cs') : o + vs.length ≤ cs.length ∧ cs' = cs.take o ++ vs ++ cs.drop (o + vs.length) := by
  induction h with
  | nil => simp
  | put c v h ih => obtain ⟨a, b⟩ := ih; simp at a b ⊢; exact ⟨a, b⟩
  | skip c h ih => obtain ⟨a, b⟩ := ih; simp [Nat.add_right_comm _ 1] at a b ⊢; exact ⟨a, b⟩
theorem Over.set {cs : List Value} {o : Nat} (h : o < cs.length) (v : Value) : Over cs o [v] (cs.set o v) := by
  induction cs generalizing o with
  | nil => simp at h
  | cons c cs ih => cases o with
    | zero => exact .put _ _ (.nil _)
    | succ o => exact .skip _ (ih (by simpa using h))

theorem r_st {n by_ : Nat} {z : Value} {b o T' : Nat} {cs cs' vs : List Value} {Rs' : List HP} {ag : Bool} (hT : Ty C.P T n by_ z ag) (hx : ev e x = some (.pointer (some ⟨b, o, none⟩))) (hy : ev e y = some v) (hv : v.cells = vs.toArray) (hl : vs.length = n) (h1 : vs.all (·.oneCell') = true)
    (hu : Upd Rs (blk b T' cs) (blk b T' cs') Rs') (ho : Over cs o vs cs') : Effs C e Rs (.store T x y) ty Rs' := by
  obtain ⟨j, h2, h3, _, _⟩ := hT.get
  obtain ⟨Fr, p1, p2⟩ := hu.perm
  refine fun a w ha hw => ⟨w.setRow b cs'.toArray, .skip, .inl rfl, ?_, hw.setRow hu⟩
  have hb := (hw.perm p1).cells
  obtain ⟨a1, a2⟩ := ho.is
  have hs := run_storeCells_at C.P b o T' vs 0 cs.toArray w hb (by simpa using a1) (by simpa using h1)
  simp only [Nat.add_zero, ← a2] at hs
  simp [execOp, ha.ev hx, ha.ev hy, Instr.storeAt, Instr.sureAddr, storeVar, hv, sizeOf, typeInfo, h2, h3, hl, hs]

/-! integers -/
theorem r_bin {op : BinOp} {u : Value} {T2 : TypeId} {a b : Value} (hx : ev e x = some a) (hy : ev e y = some b) (h : ∀ w, (do eqGuard op T x y a b; binOp op T a b : Sem Value).run C.P w = .ok u w) 
     : Yld C e Rs (.binOp op T x y T2) ty (u) := by
  intro a w ha hw
  have := h w
  simp only [execOp, ha.ev hx, ha.ev hy]
  rw [Sem.run_bind, this]
  rfl

variable {T2 : TypeId} {kd : IntKind} {i j : Int}
theorem r_lt (hx : ev e x = some (.int kd i)) (hy : ev e y = some (.int kd j))   : Yld C e Rs (.binOp .lss T x y T2) ty (.bool (decide (i < j))) :=
  r_bin hx hy (fun w => by simp [eqGuard, binOp, Op.intCmp])

theorem r_le (hx : ev e x = some (.int kd i)) (hy : ev e y = some (.int kd j))   : Yld C e Rs (.binOp .leq T x y T2) ty (.bool (decide (i ≤ j))) :=
  r_bin hx hy (fun w => by simp [eqGuard, binOp, Op.intCmp])

theorem r_gt (hx : ev e x = some (.int kd i)) (hy : ev e y = some (.int kd j))   : Yld C e Rs (.binOp .gtr T x y T2) ty (.bool (decide (j < i))) :=
  r_bin hx hy (fun w => by simp [eqGuard, binOp, Op.intCmp])

theorem r_ge (hx : ev e x = some (.int kd i)) (hy : ev e y = some (.int kd j))   : Yld C e Rs (.binOp .geq T x y T2) ty (.bool (decide (j ≤ i))) :=
  r_bin hx hy (fun w => by simp [eqGuard, binOp, Op.intCmp])

theorem r_eq (hx : ev e x = some (.int kd i)) (hy : ev e y = some (.int kd j))   : Yld C e Rs (.binOp .eql T x y T2) ty (.bool (decide (i = j))) :=
  r_bin hx hy (fun w => by simp [eqGuard, binOp, Op.intCmp]; rfl)

theorem r_ne (hx : ev e x = some (.int kd i)) (hy : ev e y = some (.int kd j))   : Yld C e Rs (.binOp .neq T x y T2) ty (.bool (decide (¬ i = j))) :=
  r_bin hx hy (fun w => by simp [eqGuard, binOp, Op.intCmp]; rfl)

theorem r_addw (hx : ev e x = some (.int kd i)) (hy : ev e y = some (.int kd j))   : Yld C e Rs (.binOp .add T x y T2) ty (.int kd (kd.wrap (i + j))) :=
  r_bin hx hy (fun w => by simp [eqGuard, binOp, Op.intArith])

theorem r_subw (hx : ev e x = some (.int kd i)) (hy : ev e y = some (.int kd j))   : Yld C e Rs (.binOp .sub T x y T2) ty (.int kd (kd.wrap (i - j))) :=
  r_bin hx hy (fun w => by simp [eqGuard, binOp, Op.intArith])

theorem r_mulw (hx : ev e x = some (.int kd i)) (hy : ev e y = some (.int kd j))   : Yld C e Rs (.binOp .mul T x y T2) ty (.int kd (kd.wrap (i * j))) :=
  r_bin hx hy (fun w => by simp [eqGuard, binOp, Op.intArith])

theorem r_add (hx : ev e x = some (.int .i64 i)) (hy : ev e y = some (.int .i64 j))  (hb : -9223372036854775808 ≤ i + j ∧ i + j < 9223372036854775808)  : Yld C e Rs (.binOp .add T x y T2) ty (.int .i64 (i + j)) :=
  by
  have h := r_addw (C := C) (Rs := Rs) (ty := ty) (T := T) (T2 := T2) hx hy
  rw [IntWalk.i64_in _ (by omega)] at h; exact h

theorem r_sub (hx : ev e x = some (.int .i64 i)) (hy : ev e y = some (.int .i64 j))  (hb : -9223372036854775808 ≤ i - j ∧ i - j < 9223372036854775808)  : Yld C e Rs (.binOp .sub T x y T2) ty (.int .i64 (i - j)) :=
  by
  have h := r_subw (C := C) (Rs := Rs) (ty := ty) (T := T) (T2 := T2) hx hy
  rw [IntWalk.i64_in _ (by omega)] at h; exact h

theorem r_mul (hx : ev e x = some (.int .i64 i)) (hy : ev e y = some (.int .i64 j))  (hb : -9223372036854775808 ≤ i * j ∧ i * j < 9223372036854775808)  : Yld C e Rs (.binOp .mul T x y T2) ty (.int .i64 (i * j)) :=
  by
  have h := r_mulw (C := C) (Rs := Rs) (ty := ty) (T := T) (T2 := T2) hx hy
  rw [IntWalk.i64_in _ (by omega)] at h; exact h

/-! bools, nil, strings -/
theorem eq_of {P : Program} {T : TypeId} {a b : Value} {r : Bool} {w : World} (h : ∀ d, (Op.equalIn (d + 1) T a b).run P w = .ok r w) : (Op.equal T a b).run P w = .ok r w := h 9999

theorem r_eqv {a b : Value} {r : Bool} (hx : ev e x = some a) (hy : ev e y = some b) (hne : (match a, b with | .int .., _ | .float .., _ | .complex .., _ | .string .., _ | .nilIface, _ | .agg _, _ => false | _, _ => true) = true) (h : ∀ w d, (Op.equalIn (d + 1) T a b).run C.P w = .ok r w) 
     : Yld C e Rs (.binOp .eql T x y T2) ty (.bool r) :=
  r_bin hx hy (fun w => by
    have hh := eq_of (h w)
    cases a <;> cases b <;> simp_all [eqGuard, binOp])

theorem r_nev {a b : Value} {r : Bool} (hx : ev e x = some a) (hy : ev e y = some b) (hne : (match a, b with | .int .., _ | .float .., _ | .complex .., _ | .string .., _ | .nilIface, _ | .agg _, _ => false | _, _ => true) = true) (h : ∀ w d, (Op.equalIn (d + 1) T a b).run C.P w = .ok r w) 
     : Yld C e Rs (.binOp .neq T x y T2) ty (.bool (!r)) :=
  r_bin hx hy (fun w => by
    have hh := eq_of (h w)
    cases a <;> cases b <;> simp_all [eqGuard, binOp])

theorem r_beq {p q : Bool} (hT : C.P.underlying T = some .bool) (hx : ev e x = some (.bool p)) (hy : ev e y = some (.bool q))   : Yld C e Rs (.binOp .eql T x y T2) ty (.bool (p == q)) :=
  r_eqv hx hy rfl (fun w d => by simp [Op.equalIn, run_underlying hT])

theorem r_bne {p q : Bool} (hT : C.P.underlying T = some .bool) (hx : ev e x = some (.bool p)) (hy : ev e y = some (.bool q))   : Yld C e Rs (.binOp .neq T x y T2) ty (.bool (!(p == q))) :=
  r_nev hx hy rfl (fun w d => by simp [Op.equalIn, run_underlying hT])

theorem r_peq {p : Option Addr} {E : TypeId} (hT : C.P.underlying T = some (.pointer E)) (hx : ev e x = some (.pointer p)) (hy : ev e y = some (.pointer none))   : Yld C e Rs (.binOp .eql T x y T2) ty (.bool p.isNone) :=
  r_eqv hx hy rfl (fun w d => by cases p <;> simp [Op.equalIn, run_underlying hT])

theorem r_pne {p : Option Addr} {E : TypeId} (hT : C.P.underlying T = some (.pointer E)) (hx : ev e x = some (.pointer p)) (hy : ev e y = some (.pointer none))   : Yld C e Rs (.binOp .neq T x y T2) ty (.bool (!p.isNone)) :=
  r_nev hx hy rfl (fun w d => by cases p <;> simp [Op.equalIn, run_underlying hT])

theorem r_sleq {p : Option Addr} {E n c : Nat} (hT : C.P.underlying T = some (.slice E)) (hx : ev e x = some (.slice p n c)) (hy : ev e y = some (.slice none 0 0))   : Yld C e Rs (.binOp .eql T x y T2) ty (.bool p.isNone) :=
  r_eqv hx hy rfl (fun w d => by cases p <;> simp [Op.equalIn, run_underlying hT])

abbrev str (l : List UInt8) : Value := .string ⟨l.toArray⟩
theorem str_toList (l : List UInt8) : (⟨l.toArray⟩ : ByteArray).toList = l := by rw [ByteArray.toList_eq]
end ops
end Go.Sx

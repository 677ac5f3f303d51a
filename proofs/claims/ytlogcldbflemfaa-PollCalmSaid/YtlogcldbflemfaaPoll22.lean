/- Polls: what befalls a site (function 24). -/
import Derived.Test.YtlogcldbflemfaaPoll21
namespace Go.Proofs.Ytlogcldbflemfaa
open Go.Sx Go.Rf
set_option linter.unusedVariables false

theorem r_cvr {C : Cx} {e : Env} {Rs : List HP} {x : Operand} {ty s t : TypeId} {k kd : IntKind} {i : Int} (hs : C.P.underlying s = some (.int k)) (ht : C.P.underlying t = some .string) (hx : ev e x = some (.int kd i)) : Yld C e Rs (.convert s t x) ty (str (Utf8.encode i).data.toList) := by
  intro a w ha _
  simp [execOp, ha.ev hx, convert, run_underlying hs, run_underlying ht, Conv.intToString, str]
/-- A silent operation whose place in the order is fixed may read all that is owned. -/
theorem y_vl {C : Cx} {ops : Array Oper} {Sb : List HP} {lz : Bool} {r : List (Nat × Bool)} {κ : Kt} {e : Env} {Rs : List HP} {d i : Nat} {ty : TypeId} {pos : String} {aft : Array Edge} {v : Value} {op : Op} (ho : ops[i]? = some ⟨some d, op, ty, pos, aft, none⟩) (h : Yld C e Rs op ty v) (hS : ∀ w, Own C.W0 w Rs → Own C.W0 w Sb) (hN : Nat.blt d C.N = true) (k : XH C ops Sb lz r κ ((d, v) :: e) Rs) : XH C ops Sb lz ((i, true) :: r) κ e Rs := by
  intro a w ha hw
  have hr := h a w ha hw
  simp only [wpH, wpOp, ho, Region.wanted, if_true]
  refine .inl ?_
  simp only [Oper.wp, execOp_of _ (some d), hr, Oper.upon]
  exact ⟨fun _ => hS w hw, k _ w (ha.put d hN _) hw⟩
theorem wpOp_Q {P : Program} {ops : Array Oper} {Q Q' : Exit → Act → World → Prop} {i : Nat} {a : Act} {w : World} {K : Act → World → Prop} (hp : ∀ c a w, ¬ Q' (.panic c) a w) (ho : ∀ a w, ¬ Q' .outgrown a w) (hh : wpOp P ops Q' i K a w) : wpOp P ops Q i K a w := by
  unfold wpOp at *
  split
  · rename_i hn; simpa [hn] using hh
  · rename_i o ho'
    simp only [ho'] at hh
    split
    · rename_i hw; simp only [hw, if_true] at hh
      refine hh.imp (fun h => ?_) (fun h => ⟨h.1, ?_⟩)
      · unfold Oper.wp at *
        generalize (execOp a.eval o).run P w = r at *
        cases r with
        | ok n w' =>
          cases n <;> simp only [Oper.upon] at h ⊢ <;>
            first
              | exact h
              | exact Calls.mono h (fun e w'' he => by
                  cases e with
                  | returned v => exact he
                  | panicked c => exact absurd he (hp _ _ _)
                  | outgrown => obtain ⟨a, w, q⟩ := he; exact absurd q (ho _ _))
        | halt x w' => cases x <;> simp only [Oper.upon] at h ⊢ <;> first | exact h | exact absurd h (hp _ _ _)
      · obtain ⟨a, w, q⟩ := h.2; exact absurd q (ho _ _)
    · rename_i hw; simp only [hw] at hh ⊢; exact hh
def okPre (ops : Array Oper) : Array Bool → List (Nat × Bool) → Bool
  | _, [] => true
  | listed, (i, true) :: r => (Region.ready .any ops listed == [i]) && okPre ops (listed.setIfInBounds i true) r
  | listed, (i, false) :: r => Region.free .any ops listed i && (Region.ready .any ops listed).contains i && okPre ops (listed.setIfInBounds i true) r
def behindPre : Array Bool → List (Nat × Bool) → Array Bool
  | listed, [] => listed
  | listed, p :: r => behindPre (listed.setIfInBounds p.1 true) r
theorem wpAnyK_pre {P : Program} {ops : Array Oper} {Q Q' : Exit → Act → World → Prop} {S : World → Prop} (hs : Region.noSelect ops = true) (hQ : ∀ c a w, ¬ Q (.panic c) a w) (hp : ∀ c a w, ¬ Q' (.panic c) a w) (ho' : ∀ a w, ¬ Q' .outgrown a w) {m : Nat} :
    ∀ (r : List (Nat × Bool)) (listed : Array Bool) (a : Act) (w : World), Shut ops listed → okPre ops listed r = true → (Shut ops (behindPre listed r) → ∀ a w, Q' .normal a w → wpAnyK P ops Q S false m (behindPre listed r) a w) → wpH P ops Q' S false r a w → wpAnyK P ops Q S false (m + r.length) listed a w
  | [], listed, a, w, hsh, ho, hT, h => hT hsh a w h
  | (i, true) :: r, listed, a, w, hsh, ho, hT, h => by
    simp only [okPre, Bool.and_eq_true, beq_iff_eq] at ho
    refine ⟨fun h0 => (by rw [ho.1] at h0; cases h0), fun k hk => ?_⟩
    have hk' := hk
    rw [ho.1, List.mem_singleton] at hk'
    subst hk'
    exact wpOp_Q hp ho' (wpOp_mono (fun a' w' hh => ⟨hh.1, wpAnyK_pre hs hQ hp ho' r _ a' w' (hsh.set hk) ho.2 hT hh.2⟩) h)
  | (i, false) :: r, listed, a, w, hsh, ho, hT, h => by
    simp only [okPre, Bool.and_eq_true] at ho
    obtain ⟨o, v, hi, hy, hS, hh⟩ := h
    have hr : i ∈ Region.ready .any ops listed := by simpa using ho.1.2
    exact wpAnyK_first (fun h => by cases h) hi (Region.noSelect_spec hs) (fun c a w q => absurd q (hQ _ _ _)) (m + r.length) listed a w hsh (Region.free_spec hi ho.1.1) hr hy hS (wpAnyK_pre hs hQ hp ho' r _ _ w (hsh.set hr) ho.2 hT hh)
/-- A region in which two loud operations may come in either order: both are walked. -/
theorem XC.draw2 {C : Cx} {κ : Kt} {e : Env} {Rs : List HP} {id : Nat} {ops : Array Oper} (Sb : List HP) (r0 : List (Nat × Bool)) (i j : Nat) (ra rb : List (Nat × Bool)) (hm : C.P.follows .mixedOrders = true)
    (hs : (Region.noSelect ops && okPre ops (Array.replicate ops.size false) r0 && (Region.ready .any ops (behindPre (Array.replicate ops.size false) r0) == [i, j]) && okOrder ops ((behindPre (Array.replicate ops.size false) r0).setIfInBounds i true) ra && okOrder ops ((behindPre (Array.replicate ops.size false) r0).setIfInBounds j true) rb && (ra.length == rb.length) && (ra.length + 1 + r0.length == ops.size)) = true)
    (h : XH C ops Sb false r0 ⟨fun e Rs => XH C ops Sb false ((i, true) :: ra) κ e Rs ∧ XH C ops Sb false ((j, true) :: rb) κ e Rs, κ.exs, κ.ret⟩ e Rs) : XC C (.region id ops true) κ e Rs := by
  intro a w ha hw
  simp only [Bool.and_eq_true, beq_iff_eq] at hs
  obtain ⟨⟨⟨⟨⟨⟨h1, h2⟩, h3⟩, h4⟩, h5⟩, h6⟩, h7⟩ := hs
  refine wp_region_any hm ?_
  have hh := wpAnyK_pre (Q := κ.up C) (m := ra.length + 1) h1 (fun c a w q => q) (fun c a w q => q) (fun a w q => q) r0 (Array.replicate ops.size false) a _ (shut_start ops) h2 (fun hsh a' w' hn => ?_) (h a _ ha (hw.drew (w.drawn + 1)))
  · rw [h7] at hh
    exact wpAny_of_K _ _ _ _ hh
  · obtain ⟨e', Rs', ha', hw', x1, x2⟩ := hn
    refine ⟨fun h0 => (by rw [h3] at h0; cases h0), fun k hk => ?_⟩
    have hk' := hk
    rw [h3] at hk'
    rcases List.mem_cons.1 hk' with rfl | hk2
    · exact wpOp_mono (fun a2 w2 q => ⟨q.1, wpAnyK_of_wpH (fun h => by cases h) h1 (fun c a w q => q) ra _ a2 w2 (hsh.set hk) h4 q.2⟩) (x1 a' w' ha' hw')
    · have := List.mem_singleton.1 hk2
      subst this
      rw [h6]
      exact wpOp_mono (fun a2 w2 q => ⟨q.1, wpAnyK_of_wpH (fun h => by cases h) h1 (fun c a w q => q) rb _ a2 w2 (hsh.set hk) h5 q.2⟩) (x2 a' w' ha' hw')
theorem u64_nn (i : Int) : 0 ≤ IntKind.u64.wrap i ∧ IntKind.u64.wrap i ≤ 18446744073709551615 := by rw [IntKind.wrap_u64]; omega
theorem uN_rng (i : Int) {m : Int} (hm : 0 < m) : 0 ≤ (IntKind.u64.wrap i).tmod m ∧ (IntKind.u64.wrap i).tmod m < m := by
  have h := (u64_nn i).1
  rw [Int.tmod_eq_emod_of_nonneg h]
  exact ⟨Int.emod_nonneg _ (by omega), Int.emod_lt_of_pos _ hm⟩
theorem sic_put {l : List NdR} {n : Int} (hn : Rf.Node n) (hl : l.length = 3) (x : NdR) (A : Option Addr) (m c : Nat) : (sic l A m c).set (0 + n.toNat * 1) (.pointer (some ⟨x.b, 0, none⟩)) = sic (l.set n.toNat x) A m c := by
  unfold Rf.Node at hn
  rcases l with _ | ⟨a, _ | ⟨b, _ | ⟨d, _ | ⟨e, l⟩⟩⟩⟩
  · cases hl
  · cases hl
  · cases hl
  · rcases hn with rfl | rfl | rfl <;> rfl
  · simp only [List.length_cons] at hl; omega
theorem compact_role (p : Pl) (i : Int) (s : List UInt8) : (compact p i s).1.role = p.role := by unfold compact; split <;> rfl
def KOkP (p : Pl) : Prop := KOk p.term p.vote p.base p.bterm p.snap p.es

theorem act_tr {W0 : World} {Fr : List HP} {K : HP} {B : Nat} (sb : Nat) (l : List NdR) (wA : Option Addr) (wc : Nat) (L : List (Int × Int × Mx)) (a1 a2 a3 : Int) (h : SOk W0 K B l L) (hB : B ≤ 1000000) (hK : ∀ x ∈ l, KOkP x.p) :
    Tr W0 Try.prog 24 [.pointer (some ⟨sb, 0, none⟩), .agg #[.int .i64 a1, .int .i64 a2, .int .i64 a3]] (blk sb 68 (sic l wA L.length wc) :: sl wA L.length wc 109 19 (cells fc L) :: nds l :: K :: Fr) (fun v Rs' => ∃ n k u ch, Rf.Node n ∧ SiP W0 K B Fr sb (Rf.actS (stOf l L) a1 n k u ch) v Rs') := by
  have hway := h.way
  have hlen3 := h.len
  have hwe : ∀ {p : Prop}, (p ∧ (stOf l L).way = []) → p ∧ L = [] := fun hh => ⟨hh.1, List.map_eq_nil_iff.1 hh.2⟩
  refine Entry.tr (N := 166) (rs := []) ⟨_, Try.func24, rfl, by kernel_rfl, rfl, rfl⟩ rfl ?_
  refine XC.seq fun K1 hK1 => ?_
  refine XC.region ?_
  refine x_a (r_bx rfl rfl) rfl fun b3 => ?_
  refine XL.nil ?_
  refine hK1 _ _ ?_
  refine XC.keep [(0, _), (3, _)] ⟨rfl, rfl, trivial⟩ ?_
  refine XC.seq fun K2 hK2 => ?_
  refine XC.region ?_
  refine x_v (r_fa fo63_1 rfl) rfl ?_
  refine x_v (r_ld ty3 rfl (by repeat (first | exact Pick.head _ _ | apply Pick.tail)) (by rfl)) rfl ?_
  refine x_v (r_cvi Try.underlying3 Try.underlying107 rfl) rfl ?_
  refine x_v (r_remt rfl rfl (by omega)) rfl ?_
  refine x_v (r_cvn Try.underlying107 Try.underlying3 rfl (IntWalk.i64_in _ (by have := uN_rng a2 (m := 3) (by omega); omega))) rfl ?_
  refine x_v (r_as rfl) rfl ?_
  refine XL.nil ?_
  refine hK2 _ _ ?_
  refine XC.keep [(0, _), (3, _), (4, _)] ⟨rfl, rfl, rfl, trivial⟩ ?_
  refine XC.seq fun K3 hK3 => ?_
  refine XC.region ?_
  refine x_v (r_as rfl) rfl ?_
  refine XL.nil ?_
  refine hK3 _ _ ?_
  refine XC.keep [(0, _), (3, _), (4, _), (5, _)] ⟨rfl, rfl, rfl, rfl, trivial⟩ ?_
  refine XC.seqcut (σ := Int × Int) (fun s => [(0, .pointer (some ⟨sb, 0, none⟩)), (3, .pointer (some ⟨b3, 0, none⟩)), (4, .int .i64 s.1), (5, .int .i64 s.2)]) (fun s => blk b3 63 [.int .i64 a1, .int .i64 a2, .int .i64 a3] :: blk sb 68 (sic l wA L.length wc) :: sl wA L.length wc 109 19 (cells fc L) :: nds l :: K :: Fr) (fun s => Rf.Node s.1 ∧ 0 ≤ s.2 ∧ (0 < L.length → s.2 < L.length)) ?_ ?_
  · refine XC.seq fun K5 hK5 => ?_
    refine XC.region ?_
    refine x_v (r_mv rfl) rfl ?_
    refine x_v (r_nc rfl) rfl ?_
    refine x_v (r_fa fo68_1 rfl) rfl ?_
    refine x_v (r_ld ty66 rfl (by repeat (first | exact Pick.head _ _ | apply Pick.tail)) (by rfl)) rfl ?_
    refine x_v (r_lensl Try.underlying66 rfl) rfl ?_
    refine x_v (r_gt rfl rfl) rfl ?_
    refine XL.nil ?_
    refine hK5 _ _ ?_
    refine XC.keep [(0, _), (3, _), (4, _), (5, _), (19, _)] ⟨rfl, rfl, rfl, rfl, rfl, trivial⟩ ?_
    refine XC.cond_d rfl (fun hc1 => ?_) (fun hc1 => ?_)
    · refine XC.draw [blk b3 63 [.int .i64 a1, .int .i64 a2, .int .i64 a3], blk sb 68 (sic l wA L.length wc)] false [(0, false), (1, false), (2, false), (3, false), (4, false), (5, false), (6, false), (7, false), (8, false), (9, false), (10, false), (11, false)] (by kernel_rfl) (by kernel_rfl) ?_
      refine y_v rfl (r_fa fo63_2 rfl) (fun _ h => Gets.own (by repeat (first | exact Gets.done _ | exact Gets.all _ | (apply Gets.step; focus ((repeat (first | exact Pick.head _ _ | apply Pick.tail)); done)) | apply Gets.drop)) h) rfl ?_
      refine y_v rfl (r_ld ty3 rfl (by repeat (first | exact Pick.head _ _ | apply Pick.tail)) (by rfl)) (fun _ h => Gets.own (by repeat (first | exact Gets.done _ | exact Gets.all _ | (apply Gets.step; focus ((repeat (first | exact Pick.head _ _ | apply Pick.tail)); done)) | apply Gets.drop)) h) rfl ?_
      refine y_v rfl (r_cvi Try.underlying3 Try.underlying107 rfl) (fun _ h => Gets.own (by repeat (first | exact Gets.done _ | exact Gets.all _ | (apply Gets.step; focus ((repeat (first | exact Pick.head _ _ | apply Pick.tail)); done)) | apply Gets.drop)) h) rfl ?_
      refine y_v rfl (r_mv rfl) (fun _ h => Gets.own (by repeat (first | exact Gets.done _ | exact Gets.all _ | (apply Gets.step; focus ((repeat (first | exact Pick.head _ _ | apply Pick.tail)); done)) | apply Gets.drop)) h) rfl ?_
      refine y_v rfl (r_nc rfl) (fun _ h => Gets.own (by repeat (first | exact Gets.done _ | exact Gets.all _ | (apply Gets.step; focus ((repeat (first | exact Pick.head _ _ | apply Pick.tail)); done)) | apply Gets.drop)) h) rfl ?_
      refine y_v rfl (r_fa fo68_1 rfl) (fun _ h => Gets.own (by repeat (first | exact Gets.done _ | exact Gets.all _ | (apply Gets.step; focus ((repeat (first | exact Pick.head _ _ | apply Pick.tail)); done)) | apply Gets.drop)) h) rfl ?_
      refine y_v rfl (r_ld ty66 rfl (by repeat (first | exact Pick.head _ _ | apply Pick.tail)) (by rfl)) (fun _ h => Gets.own (by repeat (first | exact Gets.done _ | exact Gets.all _ | (apply Gets.step; focus ((repeat (first | exact Pick.head _ _ | apply Pick.tail)); done)) | apply Gets.drop)) h) rfl ?_
      refine y_v rfl (r_lensl Try.underlying66 rfl) (fun _ h => Gets.own (by repeat (first | exact Gets.done _ | exact Gets.all _ | (apply Gets.step; focus ((repeat (first | exact Pick.head _ _ | apply Pick.tail)); done)) | apply Gets.drop)) h) rfl ?_
      refine y_v rfl (r_cvn Try.underlying3 Try.underlying107 rfl (IntWalk.u64_in _ (by omega))) (fun _ h => Gets.own (by repeat (first | exact Gets.done _ | exact Gets.all _ | (apply Gets.step; focus ((repeat (first | exact Pick.head _ _ | apply Pick.tail)); done)) | apply Gets.drop)) h) rfl ?_
      refine y_v rfl (r_remt rfl rfl (by omega)) (fun _ h => Gets.own (by repeat (first | exact Gets.done _ | exact Gets.all _ | (apply Gets.step; focus ((repeat (first | exact Pick.head _ _ | apply Pick.tail)); done)) | apply Gets.drop)) h) rfl ?_
      refine y_v rfl (r_cvn Try.underlying107 Try.underlying3 rfl (IntWalk.i64_in _ (by have := uN_rng a3 (m := (L.length : Int)) (by omega); omega))) (fun _ h => Gets.own (by repeat (first | exact Gets.done _ | exact Gets.all _ | (apply Gets.step; focus ((repeat (first | exact Pick.head _ _ | apply Pick.tail)); done)) | apply Gets.drop)) h) rfl ?_
      refine y_v rfl (r_as rfl) (fun _ h => Gets.own (by repeat (first | exact Gets.done _ | exact Gets.all _ | (apply Gets.step; focus ((repeat (first | exact Pick.head _ _ | apply Pick.tail)); done)) | apply Gets.drop)) h) rfl ?_
      refine XH.nil ?_
      exact ⟨((IntKind.u64.wrap a2).tmod 3, (IntKind.u64.wrap a3).tmod (L.length : Int)), ⟨by (have := uN_rng a2 (m := 3) (by omega); unfold Rf.Node; dsimp only; omega), (uN_rng a3 (by omega)).1, fun _ => (uN_rng a3 (by omega)).2⟩, ⟨rfl, rfl, rfl, rfl, trivial⟩, (by repeat (first | exact Gets.done _ | exact Gets.all _ | (apply Gets.step; focus ((repeat (first | exact Pick.head _ _ | apply Pick.tail)); done)) | apply Gets.drop))⟩
    · refine XC.skip ?_
      exact ⟨((IntKind.u64.wrap a2).tmod 3, 0), ⟨by (have := uN_rng a2 (m := 3) (by omega); unfold Rf.Node; dsimp only; omega), Int.le_refl _, fun hh => by omega⟩, ⟨rfl, rfl, rfl, rfl, trivial⟩, (by repeat (first | exact Gets.done _ | exact Gets.all _ | (apply Gets.step; focus ((repeat (first | exact Pick.head _ _ | apply Pick.tail)); done)) | apply Gets.drop))⟩
  · rintro ⟨n, k0⟩ ⟨hn, hk0, hkl⟩
    dsimp only at hn hk0 hkl ⊢
    obtain ⟨k, rfl⟩ : ∃ k : Nat, k0 = (k : Int) := ⟨k0.toNat, by omega⟩
    have hn3 := nd_lt hn
    obtain ⟨x, hx⟩ : ∃ x, l[n.toNat]? = some x := ⟨_, List.getElem?_eq_getElem (by omega)⟩
    have hpx := pOf_at (L := L) hx
    have hxm := List.mem_of_getElem? hx
    refine XC.block ?_
    refine XC.seqcut (σ := Bool) (fun s => [(0, .pointer (some ⟨sb, 0, none⟩)), (3, .pointer (some ⟨b3, 0, none⟩)), (4, .int .i64 n), (5, .int .i64 (k : Int)), (43, .bool s)]) (fun s => blk b3 63 [.int .i64 a1, .int .i64 a2, .int .i64 a3] :: blk sb 68 (sic l wA L.length wc) :: sl wA L.length wc 109 19 (cells fc L) :: nds l :: K :: Fr) (fun s => s = true ↔ (1 ≤ a1 ∧ a1 ≤ 3) ∧ L.length = 0) ?_ ?_
    · refine XC.region ?_
      refine x_v (r_fa fo63_0 rfl) rfl ?_
      refine x_v (r_ld ty3 rfl (by repeat (first | exact Pick.head _ _ | apply Pick.tail)) (by rfl)) rfl ?_
      refine x_v (r_ge rfl rfl) rfl ?_
      refine x_v (r_mv rfl) rfl ?_
      refine XL.splitd 47 rfl (fun hg47 => ?_) (fun hg47 => ?_)
      · refine x_want rfl rfl rfl ?_
        refine x_v (r_fa fo63_0 rfl) rfl ?_
        refine x_want rfl rfl rfl ?_
        refine x_v (r_ld ty3 rfl (by repeat (first | exact Pick.head _ _ | apply Pick.tail)) (by rfl)) rfl ?_
        refine x_want rfl rfl rfl ?_
        refine x_v (r_le rfl rfl) rfl ?_
        refine x_v (r_pk_t rfl rfl) rfl ?_
        refine x_v (r_mv rfl) rfl ?_
        refine XL.splitd 52 rfl (fun hg52 => ?_) (fun hg52 => ?_)
        · refine x_want rfl rfl rfl ?_
          refine x_v (r_mv rfl) rfl ?_
          refine x_want rfl rfl rfl ?_
          refine x_v (r_nc rfl) rfl ?_
          refine x_want rfl rfl rfl ?_
          refine x_v (r_fa fo68_1 rfl) rfl ?_
          refine x_want rfl rfl rfl ?_
          refine x_v (r_ld ty66 rfl (by repeat (first | exact Pick.head _ _ | apply Pick.tail)) (by rfl)) rfl ?_
          refine x_want rfl rfl rfl ?_
          refine x_v (r_lensl Try.underlying66 rfl) rfl ?_
          refine x_want rfl rfl rfl ?_
          refine x_v (r_eq rfl rfl) rfl ?_
          refine x_v (r_pk_t rfl rfl) rfl ?_
          refine x_v (r_as rfl) rfl ?_
          refine XL.nil ?_
          exact ⟨_, (by rw [decide_eq_true_eq]; omega), ⟨rfl, rfl, rfl, rfl, rfl, trivial⟩, (by repeat (first | exact Gets.done _ | exact Gets.all _ | (apply Gets.step; focus ((repeat (first | exact Pick.head _ _ | apply Pick.tail)); done)) | apply Gets.drop))⟩
        · refine x_unwant rfl rfl rfl rfl rfl ?_
          refine x_unwant rfl rfl rfl rfl rfl ?_
          refine x_unwant rfl rfl rfl rfl rfl ?_
          refine x_unwant rfl rfl rfl rfl rfl ?_
          refine x_unwant rfl rfl rfl rfl rfl ?_
          refine x_unwant rfl rfl rfl rfl rfl ?_
          refine x_v (r_pk_f rfl rfl) rfl ?_
          refine x_v (r_as rfl) rfl ?_
          refine XL.nil ?_
          exact ⟨_, ⟨fun h => (by cases h), fun h => (by omega)⟩, ⟨rfl, rfl, rfl, rfl, rfl, trivial⟩, (by repeat (first | exact Gets.done _ | exact Gets.all _ | (apply Gets.step; focus ((repeat (first | exact Pick.head _ _ | apply Pick.tail)); done)) | apply Gets.drop))⟩
      · refine x_unwant rfl rfl rfl rfl rfl ?_
        refine x_unwant rfl rfl rfl rfl rfl ?_
        refine x_unwant rfl rfl rfl rfl rfl ?_
        refine x_v (r_pk_f rfl rfl) rfl ?_
        refine x_v (r_mv rfl) rfl ?_
        refine x_unwant rfl rfl rfl rfl rfl ?_
        refine x_unwant rfl rfl rfl rfl rfl ?_
        refine x_unwant rfl rfl rfl rfl rfl ?_
        refine x_unwant rfl rfl rfl rfl rfl ?_
        refine x_unwant rfl rfl rfl rfl rfl ?_
        refine x_unwant rfl rfl rfl rfl rfl ?_
        refine x_v (r_pk_f rfl rfl) rfl ?_
        refine x_v (r_as rfl) rfl ?_
        refine XL.nil ?_
        exact ⟨_, ⟨fun h => (by cases h), fun h => (by omega)⟩, ⟨rfl, rfl, rfl, rfl, rfl, trivial⟩, (by repeat (first | exact Gets.done _ | exact Gets.all _ | (apply Gets.step; focus ((repeat (first | exact Pick.head _ _ | apply Pick.tail)); done)) | apply Gets.drop))⟩
    · rintro g hg
      refine XC.cond rfl (fun hc2 => ?_) (fun hc2 => ?_)
      · refine XC.skip ?_
        have hg1 := hg.1 hc2
        exact fin0 (⟨n, k, 0, [], hn, rfl, l, wA, wc, L, K, rfl, by unfold Rf.actS; rw [if_pos ⟨hg1.1, by show L.map fv = []; rw [List.eq_nil_of_length_eq_zero hg1.2]; rfl⟩], Ex.refl W0 K, h.mono h.way (fun f hf => hf)⟩) (by repeat (first | exact Gets.done _ | exact Gets.all _ | (apply Gets.step; focus ((repeat (first | exact Pick.head _ _ | apply Pick.tail)); done)) | apply Gets.drop))
      · have hng : ¬((1 ≤ a1 ∧ a1 ≤ 3) ∧ L.length = 0) := fun hh => by (rw [hg.2 hh] at hc2; cases hc2)
        refine XC.seq fun K7 hK7 => ?_
        refine XC.region ?_
        refine x_v (r_fa fo63_0 rfl) rfl ?_
        refine x_v (r_ld ty3 rfl (by repeat (first | exact Pick.head _ _ | apply Pick.tail)) (by rfl)) rfl ?_
        refine x_v (r_eq rfl rfl) rfl ?_
        refine x_v (r_as rfl) rfl ?_
        refine XL.nil ?_
        refine hK7 _ _ ?_
        refine XC.keep [(0, _), (3, _), (4, _), (5, _), (60, _)] ⟨rfl, rfl, rfl, rfl, rfl, trivial⟩ ?_
        refine XC.cond_d rfl (fun hc3 => ?_) (fun hc3 => ?_)
        · refine XC.region ?_
          refine x_v (r_mv rfl) rfl ?_
          refine x_v (r_mv rfl) rfl ?_
          refine x_c (r_call0 (args := [_, _, _]) ⟨rfl, rfl, rfl, rfl⟩ (come_tr sb l wA wc L k false h hB (by have := hkl (by omega); omega)) (by repeat (first | exact Gets.done _ | exact Gets.all _ | (apply Gets.step; focus ((repeat (first | exact Pick.head _ _ | apply Pick.tail)); done)) | apply Gets.drop))) rfl ?_
          rintro _ _ ⟨rfl, l2, A2, c2, L2, K2, rfl, hst, hx2, hok2⟩
          refine XL.nil ?_
          exact fin0 (⟨n, k, 0, [], hn, rfl, l2, A2, c2, L2, K2, rfl, by rw [hst]; unfold Rf.actS; rw [if_neg (fun hh => hng ⟨(hwe hh).1, congrArg List.length (hwe hh).2⟩), if_pos (by omega)], hx2, hok2⟩) (by repeat (first | exact Gets.done _ | exact Gets.all _ | (apply Gets.step; focus ((repeat (first | exact Pick.head _ _ | apply Pick.tail)); done)) | apply Gets.drop))
        · refine XC.seq fun K8 hK8 => ?_
          refine XC.region ?_
          refine x_v (r_fa fo63_0 rfl) rfl ?_
          refine x_v (r_ld ty3 rfl (by repeat (first | exact Pick.head _ _ | apply Pick.tail)) (by rfl)) rfl ?_
          refine x_v (r_eq rfl rfl) rfl ?_
          refine x_v (r_as rfl) rfl ?_
          refine XL.nil ?_
          refine hK8 _ _ ?_
          refine XC.keep [(0, _), (3, _), (4, _), (5, _), (67, _)] ⟨rfl, rfl, rfl, rfl, rfl, trivial⟩ ?_
          refine XC.cond_d rfl (fun hc4 => ?_) (fun hc4 => ?_)
          · refine XC.region ?_
            refine x_v (r_mv rfl) rfl ?_
            refine x_v (r_mv rfl) rfl ?_
            refine x_c (r_call0 (args := [_, _, _]) ⟨rfl, rfl, rfl, rfl⟩ (come_tr sb l wA wc L k true h hB (by have := hkl (by omega); omega)) (by repeat (first | exact Gets.done _ | exact Gets.all _ | (apply Gets.step; focus ((repeat (first | exact Pick.head _ _ | apply Pick.tail)); done)) | apply Gets.drop))) rfl ?_
            rintro _ _ ⟨rfl, l2, A2, c2, L2, K2, rfl, hst, hx2, hok2⟩
            refine XL.nil ?_
            exact fin0 (⟨n, k, 0, [], hn, rfl, l2, A2, c2, L2, K2, rfl, by rw [hst]; unfold Rf.actS; rw [if_neg (fun hh => hng ⟨(hwe hh).1, congrArg List.length (hwe hh).2⟩), if_neg (by omega), if_pos (by omega)], hx2, hok2⟩) (by repeat (first | exact Gets.done _ | exact Gets.all _ | (apply Gets.step; focus ((repeat (first | exact Pick.head _ _ | apply Pick.tail)); done)) | apply Gets.drop))
          · refine XC.seq fun K9 hK9 => ?_
            refine XC.region ?_
            refine x_v (r_fa fo63_0 rfl) rfl ?_
            refine x_v (r_ld ty3 rfl (by repeat (first | exact Pick.head _ _ | apply Pick.tail)) (by rfl)) rfl ?_
            refine x_v (r_eq rfl rfl) rfl ?_
            refine x_v (r_as rfl) rfl ?_
            refine XL.nil ?_
            refine hK9 _ _ ?_
            refine XC.keep [(0, _), (3, _), (4, _), (5, _), (74, _)] ⟨rfl, rfl, rfl, rfl, rfl, trivial⟩ ?_
            refine XC.cond_d rfl (fun hc5 => ?_) (fun hc5 => ?_)
            · have hkL : k < L.length := by (have := hkl (by omega); omega)
              obtain ⟨f, hf⟩ : ∃ f, L[k]? = some f := ⟨_, List.getElem?_eq_getElem hkL⟩
              have hfm := List.mem_of_getElem? hf
              have hwf : (stOf l L).way[k]? = some (fv f) := by show (L.map fv)[k]? = _; rw [List.getElem?_map, hf]; rfl
              refine XC.seq fun K10 hK10 => ?_
              refine XC.region ?_
              refine x_v (r_mv rfl) rfl ?_
              refine x_v (r_nc rfl) rfl ?_
              refine x_v (r_fa fo68_1 rfl) rfl ?_
              refine x_v (r_ld ty66 rfl (by repeat (first | exact Pick.head _ _ | apply Pick.tail)) (by rfl)) rfl ?_
              refine x_v (r_lensl Try.underlying66 rfl) rfl ?_
              refine x_v (r_lt rfl rfl) rfl ?_
              refine XL.nil ?_
              refine hK10 _ _ ?_
              refine XC.keep [(0, _), (5, _), (83, _)] ⟨rfl, rfl, rfl, trivial⟩ ?_
              refine XC.cond_d rfl (fun hc6 => ?_) (fun hc6 => ?_)
              · refine XC.slnn (A := wA) (by repeat (first | exact Pick.head _ _ | apply Pick.tail)) fun _ hwA => ?_
                have hrw : Rdb W0 [sl wA L.length wc 109 19 (cells fc L)] wA L.length 19 (cells fc L) := Rdb.of_sl (.head _ _) (by rw [cells_len fc_len]) hwA
                obtain ⟨g0, rfl⟩ := hwA (by omega)
                obtain ⟨ob, oo, ho, hat⟩ := hrw.at_ (by omega)
                cases ho
                refine XC.draw [blk sb 68 (sic l (some ⟨g0, 0, none⟩) L.length wc)] true [(0, false), (1, false), (2, false), (3, false), (4, false), (5, false), (6, false), (7, false), (8, false), (9, false), (10, false), (11, true), (12, true), (13, true), (14, false), (15, false), (16, true)] (by kernel_rfl) (by kernel_rfl) ?_
                refine y_v rfl (r_mv rfl) (fun _ h => Gets.own (by repeat (first | exact Gets.done _ | exact Gets.all _ | (apply Gets.step; focus ((repeat (first | exact Pick.head _ _ | apply Pick.tail)); done)) | apply Gets.drop)) h) rfl ?_
                refine y_v rfl (r_mv rfl) (fun _ h => Gets.own (by repeat (first | exact Gets.done _ | exact Gets.all _ | (apply Gets.step; focus ((repeat (first | exact Pick.head _ _ | apply Pick.tail)); done)) | apply Gets.drop)) h) rfl ?_
                refine y_v rfl (r_nc rfl) (fun _ h => Gets.own (by repeat (first | exact Gets.done _ | exact Gets.all _ | (apply Gets.step; focus ((repeat (first | exact Pick.head _ _ | apply Pick.tail)); done)) | apply Gets.drop)) h) rfl ?_
                refine y_v rfl (r_fa fo68_1 rfl) (fun _ h => Gets.own (by repeat (first | exact Gets.done _ | exact Gets.all _ | (apply Gets.step; focus ((repeat (first | exact Pick.head _ _ | apply Pick.tail)); done)) | apply Gets.drop)) h) rfl ?_
                refine y_v rfl (r_ld ty66 rfl (by repeat (first | exact Pick.head _ _ | apply Pick.tail)) (by rfl)) (fun _ h => Gets.own (by repeat (first | exact Gets.done _ | exact Gets.all _ | (apply Gets.step; focus ((repeat (first | exact Pick.head _ _ | apply Pick.tail)); done)) | apply Gets.drop)) h) rfl ?_
                refine y_v rfl (r_mv rfl) (fun _ h => Gets.own (by repeat (first | exact Gets.done _ | exact Gets.all _ | (apply Gets.step; focus ((repeat (first | exact Pick.head _ _ | apply Pick.tail)); done)) | apply Gets.drop)) h) rfl ?_
                refine y_v rfl (r_nc rfl) (fun _ h => Gets.own (by repeat (first | exact Gets.done _ | exact Gets.all _ | (apply Gets.step; focus ((repeat (first | exact Pick.head _ _ | apply Pick.tail)); done)) | apply Gets.drop)) h) rfl ?_
                refine y_v rfl (r_fa fo68_1 rfl) (fun _ h => Gets.own (by repeat (first | exact Gets.done _ | exact Gets.all _ | (apply Gets.step; focus ((repeat (first | exact Pick.head _ _ | apply Pick.tail)); done)) | apply Gets.drop)) h) rfl ?_
                refine y_v rfl (r_ld ty66 rfl (by repeat (first | exact Pick.head _ _ | apply Pick.tail)) (by rfl)) (fun _ h => Gets.own (by repeat (first | exact Gets.done _ | exact Gets.all _ | (apply Gets.step; focus ((repeat (first | exact Pick.head _ _ | apply Pick.tail)); done)) | apply Gets.drop)) h) rfl ?_
                refine y_v rfl (r_mv rfl) (fun _ h => Gets.own (by repeat (first | exact Gets.done _ | exact Gets.all _ | (apply Gets.step; focus ((repeat (first | exact Pick.head _ _ | apply Pick.tail)); done)) | apply Gets.drop)) h) rfl ?_
                refine y_v rfl (r_ia (k := k) Try.underlying66 ty109 rfl rfl (by omega) (by omega)) (fun _ h => Gets.own (by repeat (first | exact Gets.done _ | exact Gets.all _ | (apply Gets.step; focus ((repeat (first | exact Pick.head _ _ | apply Pick.tail)); done)) | apply Gets.drop)) h) rfl ?_
                refine y_vl rfl (r_ldar (l' := fc f) ty109 rfl rfl (fun w hw j u hu => by rw [Nat.add_assoc]; exact hat w (Gets.own (by repeat (first | exact Gets.done _ | exact Gets.all _ | (apply Gets.step; focus ((repeat (first | exact Pick.head _ _ | apply Pick.tail)); done)) | apply Gets.drop)) hw) _ u (cells_get fc_len L _ _ hf j u hu))) (fun _ h => Gets.own (by repeat (first | exact Gets.done _ | exact Gets.all _ | (apply Gets.step; focus ((repeat (first | exact Pick.head _ _ | apply Pick.tail)); done)) | apply Gets.drop)) h) rfl ?_
                refine y_a rfl (r_bs (vs := [_]) rfl ⟨rfl, rfl⟩ (bs66_1_0 _ _ _ _ _ _ _ _ _ _ _ _ _ _ _ _ _ _ _ _ _ _ _ _ _ _ _)) (fun _ _ _ h => Gets.own (by repeat (first | exact Gets.done _ | exact Gets.all _ | (apply Gets.step; focus ((repeat (first | exact Pick.head _ _ | apply Pick.tail)); done)) | apply Gets.drop)) h) rfl fun b96 => ?_
                refine y_a rfl (r_app Try.underlying66 ty109 rfl (by decide) rfl rfl (by repeat (first | exact Pick.head _ _ | apply Pick.tail)) (Rdb.of_blk (b := b96) (n := 1) (sz := 19) (xs := fc f) (by repeat (first | exact Pick.head _ _ | apply Pick.tail)) 0 rfl (fun _ _ h => by rw [Nat.zero_add]; exact h)) (fc_one _) (by unfold maxLen; omega) (by omega)) (fun _ _ _ h => Gets.own (by repeat (first | exact Gets.done _ | exact Gets.all _ | (apply Gets.step; focus ((repeat (first | exact Pick.head _ _ | apply Pick.tail)); done)) | apply Gets.drop)) h) rfl fun ⟨A97, c97⟩ => ?_
                dsimp only
                rw [show L.length + 1 = (L ++ [f]).length by simp, ← cells_one fc f, ← cells_app]
                refine y_v rfl (r_nc rfl) (fun _ h => Gets.own (by repeat (first | exact Gets.done _ | exact Gets.all _ | (apply Gets.step; focus ((repeat (first | exact Pick.head _ _ | apply Pick.tail)); done)) | apply Gets.drop)) h) rfl ?_
                refine y_v rfl (r_fa fo68_1 rfl) (fun _ h => Gets.own (by repeat (first | exact Gets.done _ | exact Gets.all _ | (apply Gets.step; focus ((repeat (first | exact Pick.head _ _ | apply Pick.tail)); done)) | apply Gets.drop)) h) rfl ?_
                refine y_e rfl (r_st ty66 rfl rfl rfl rfl rfl (by repeat (first | exact Upd.head _ _ _ | apply Upd.tail)) (by repeat (first | exact Over.nil _ | apply Over.put | apply Over.skip))) (fun h => absurd h (by decide)) ?_
                refine XH.nil ?_
                exact fin0 (⟨n, k, 0, [], hn, rfl, l, A97, c97, L ++ [f], K, rfl, by unfold Rf.actS; rw [if_neg (fun hh => hng ⟨(hwe hh).1, congrArg List.length (hwe hh).2⟩), if_neg (by omega), if_neg (by omega), if_pos (by omega), hwf]; dsimp only; rw [if_pos (by show (L.map fv).length < 200; rw [List.length_map]; omega)]; unfold stOf; rw [List.map_append]; rfl, Ex.refl W0 K, h.mono (by rw [List.length_append, List.length_singleton]; omega) (fun g hg => (List.mem_append.1 hg).elim id fun h1 => by (rw [List.mem_singleton.1 h1]; exact hfm))⟩) (by repeat (first | exact Gets.done _ | exact Gets.all _ | (apply Gets.step; focus ((repeat (first | exact Pick.head _ _ | apply Pick.tail)); done)) | apply Gets.drop))
              · refine XC.skip ?_
                exact fin0 (⟨n, k, 0, [], hn, rfl, l, wA, wc, L, K, rfl, by unfold Rf.actS; rw [if_neg (fun hh => hng ⟨(hwe hh).1, congrArg List.length (hwe hh).2⟩), if_neg (by omega), if_neg (by omega), if_pos (by omega), hwf]; dsimp only; rw [if_neg (by show ¬ (L.map fv).length < 200; rw [List.length_map]; omega)], Ex.refl W0 K, h.mono h.way (fun f hf => hf)⟩) (by repeat (first | exact Gets.done _ | exact Gets.all _ | (apply Gets.step; focus ((repeat (first | exact Pick.head _ _ | apply Pick.tail)); done)) | apply Gets.drop))
            · refine XC.seq fun K11 hK11 => ?_
              refine XC.region ?_
              refine x_v (r_fa fo63_0 rfl) rfl ?_
              refine x_v (r_ld ty3 rfl (by repeat (first | exact Pick.head _ _ | apply Pick.tail)) (by rfl)) rfl ?_
              refine x_v (r_eq rfl rfl) rfl ?_
              refine x_v (r_as rfl) rfl ?_
              refine XL.nil ?_
              refine hK11 _ _ ?_
              refine XC.keep [(0, _), (3, _), (4, _), (100, _)] ⟨rfl, rfl, rfl, rfl, trivial⟩ ?_
              refine XC.cond_d rfl (fun hc7 => ?_) (fun hc7 => ?_)
              · refine XC.seq fun K12 hK12 => ?_
                refine XC.mem (blk x.b 90 (pc x.p x.A x.c x.M) :: vmo x.M :: nds (l.eraseIdx n.toNat) :: blk b3 63 [.int .i64 a1, .int .i64 a2, .int .i64 a3] :: blk sb 68 (sic l wA L.length wc) :: sl wA L.length wc 109 19 (cells fc L) :: K :: Fr) (fun w h => own_open hx (Gets.own (by repeat (first | exact Gets.done _ | exact Gets.all _ | (apply Gets.step; focus ((repeat (first | exact Pick.head _ _ | apply Pick.tail)); done)) | apply Gets.drop)) h)) ?_
                refine XC.draw [blk b3 63 [.int .i64 a1, .int .i64 a2, .int .i64 a3], blk sb 68 (sic l wA L.length wc)] false [(0, false), (1, false), (2, false), (3, false), (4, false), (5, false), (6, false), (7, false), (8, false), (9, false), (10, false), (11, false), (12, false), (13, true), (14, false), (15, false), (16, false), (17, false), (18, false), (19, false), (20, false)] (by kernel_rfl) (by kernel_rfl) ?_
                refine y_v rfl (r_mv rfl) (fun _ h => Gets.own (by repeat (first | exact Gets.done _ | exact Gets.all _ | (apply Gets.step; focus ((repeat (first | exact Pick.head _ _ | apply Pick.tail)); done)) | apply Gets.drop)) h) rfl ?_
                refine y_v rfl (r_mv rfl) (fun _ h => Gets.own (by repeat (first | exact Gets.done _ | exact Gets.all _ | (apply Gets.step; focus ((repeat (first | exact Pick.head _ _ | apply Pick.tail)); done)) | apply Gets.drop)) h) rfl ?_
                refine y_v rfl (r_nc rfl) (fun _ h => Gets.own (by repeat (first | exact Gets.done _ | exact Gets.all _ | (apply Gets.step; focus ((repeat (first | exact Pick.head _ _ | apply Pick.tail)); done)) | apply Gets.drop)) h) rfl ?_
                refine y_v rfl (r_fa fo68_0 rfl) (fun _ h => Gets.own (by repeat (first | exact Gets.done _ | exact Gets.all _ | (apply Gets.step; focus ((repeat (first | exact Pick.head _ _ | apply Pick.tail)); done)) | apply Gets.drop)) h) rfl ?_
                refine y_v rfl (r_iaa (k := n.toNat) Try.underlying65 ty23 rfl rfl (by omega) (by omega)) (fun _ h => Gets.own (by repeat (first | exact Gets.done _ | exact Gets.all _ | (apply Gets.step; focus ((repeat (first | exact Pick.head _ _ | apply Pick.tail)); done)) | apply Gets.drop)) h) rfl ?_
                refine y_v rfl (r_ld ty23 rfl (by repeat (first | exact Pick.head _ _ | apply Pick.tail)) (pn_at hn hx)) (fun _ h => Gets.own (by repeat (first | exact Gets.done _ | exact Gets.all _ | (apply Gets.step; focus ((repeat (first | exact Pick.head _ _ | apply Pick.tail)); done)) | apply Gets.drop)) h) rfl ?_
                refine y_v rfl (r_fa fo63_2 rfl) (fun _ h => Gets.own (by repeat (first | exact Gets.done _ | exact Gets.all _ | (apply Gets.step; focus ((repeat (first | exact Pick.head _ _ | apply Pick.tail)); done)) | apply Gets.drop)) h) rfl ?_
                refine y_v rfl (r_ld ty3 rfl (by repeat (first | exact Pick.head _ _ | apply Pick.tail)) (by rfl)) (fun _ h => Gets.own (by repeat (first | exact Gets.done _ | exact Gets.all _ | (apply Gets.step; focus ((repeat (first | exact Pick.head _ _ | apply Pick.tail)); done)) | apply Gets.drop)) h) rfl ?_
                refine y_v rfl (r_cvi Try.underlying3 Try.underlying107 rfl) (fun _ h => Gets.own (by repeat (first | exact Gets.done _ | exact Gets.all _ | (apply Gets.step; focus ((repeat (first | exact Pick.head _ _ | apply Pick.tail)); done)) | apply Gets.drop)) h) rfl ?_
                refine y_v rfl (r_remt rfl rfl (by omega)) (fun _ h => Gets.own (by repeat (first | exact Gets.done _ | exact Gets.all _ | (apply Gets.step; focus ((repeat (first | exact Pick.head _ _ | apply Pick.tail)); done)) | apply Gets.drop)) h) rfl ?_
                refine y_v rfl (r_addw rfl rfl) (fun _ h => Gets.own (by repeat (first | exact Gets.done _ | exact Gets.all _ | (apply Gets.step; focus ((repeat (first | exact Pick.head _ _ | apply Pick.tail)); done)) | apply Gets.drop)) h) rfl ?_
                refine y_v rfl (r_cvi Try.underlying107 Try.underlying21 rfl) (fun _ h => Gets.own (by repeat (first | exact Gets.done _ | exact Gets.all _ | (apply Gets.step; focus ((repeat (first | exact Pick.head _ _ | apply Pick.tail)); done)) | apply Gets.drop)) h) rfl ?_
                refine y_v rfl (r_cvr Try.underlying21 Try.underlying9 rfl) (fun _ h => Gets.own (by repeat (first | exact Gets.done _ | exact Gets.all _ | (apply Gets.step; focus ((repeat (first | exact Pick.head _ _ | apply Pick.tail)); done)) | apply Gets.drop)) h) rfl ?_
                generalize (Utf8.encode (IntKind.i32.wrap (IntKind.u64.wrap (97 + (IntKind.u64.wrap a3).tmod 26)))).data.toList = ch
                refine y_c rfl (r_call0 (args := [_, _]) ⟨rfl, rfl, rfl⟩ (propose_tr (k := K) x.b x.M ch (h.pb x hxm) (h.lim x hxm) hB (h.mm x hxm)) (by repeat (first | exact Gets.done _ | exact Gets.all _ | (apply Gets.step; focus ((repeat (first | exact Pick.head _ _ | apply Pick.tail)); done)) | apply Gets.drop))) (by rintro _ _ _ _ ⟨S, A49, c49, A50, c50, M50, K2, rfl, rfl, hS, hx2, hp2, hrS, hm2⟩ h; exact Gets.own (by repeat (first | exact Gets.done _ | exact Gets.all _ | (apply Gets.step; focus ((repeat (first | exact Pick.head _ _ | apply Pick.tail)); done)) | apply Gets.drop)) h) rfl ?_
                rintro _ _ ⟨S, A49, c49, A50, c50, M50, K2, rfl, rfl, hS, hx2, hp2, hrS, hm2⟩
                have hmx : maxLen = 9223372036854775807 := rfl
                refine XH.slnn (A := A49) (by repeat (first | exact Pick.head _ _ | apply Pick.tail)) fun _ hA49 => ?_
                refine XH.fact (R := sl A49 S.length c49 92 18 (cells sc S)) (by repeat (first | exact Pick.head _ _ | apply Pick.tail)) (fun w h => h.sl_len.2) fun hc49 => ?_
                obtain ⟨y, hy⟩ : ∃ y : NdR, y = ⟨x.b, (propose x.p ch).1, A50, c50, M50⟩ := ⟨_, rfl⟩
                refine XH.mem (nds (l.set n.toNat y) :: blk b3 63 [.int .i64 a1, .int .i64 a2, .int .i64 a3] :: sl A49 S.length c49 92 18 (cells sc S) :: blk sb 68 (sic l wA L.length wc) :: sl wA L.length wc 109 19 (cells fc L) :: K2 :: Fr) (fun w h => own_close (by rw [hlen3]; omega) (by rw [hy]; exact Gets.own (by repeat (first | exact Gets.done _ | exact Gets.all _ | (apply Gets.step; focus ((repeat (first | exact Pick.head _ _ | apply Pick.tail)); done)) | apply Gets.drop)) h)) ?_
                refine y_v rfl (r_mv rfl) (fun _ h => Gets.own (by repeat (first | exact Gets.done _ | exact Gets.all _ | (apply Gets.step; focus ((repeat (first | exact Pick.head _ _ | apply Pick.tail)); done)) | apply Gets.drop)) h) rfl ?_
                refine y_v rfl (r_ex rfl rfl) (fun _ h => Gets.own (by repeat (first | exact Gets.done _ | exact Gets.all _ | (apply Gets.step; focus ((repeat (first | exact Pick.head _ _ | apply Pick.tail)); done)) | apply Gets.drop)) h) rfl ?_
                refine y_v rfl (r_ex rfl rfl) (fun _ h => Gets.own (by repeat (first | exact Gets.done _ | exact Gets.all _ | (apply Gets.step; focus ((repeat (first | exact Pick.head _ _ | apply Pick.tail)); done)) | apply Gets.drop)) h) rfl ?_
                refine y_v rfl (r_ex rfl rfl) (fun _ h => Gets.own (by repeat (first | exact Gets.done _ | exact Gets.all _ | (apply Gets.step; focus ((repeat (first | exact Pick.head _ _ | apply Pick.tail)); done)) | apply Gets.drop)) h) rfl ?_
                refine y_v rfl (r_as rfl) (fun _ h => Gets.own (by repeat (first | exact Gets.done _ | exact Gets.all _ | (apply Gets.step; focus ((repeat (first | exact Pick.head _ _ | apply Pick.tail)); done)) | apply Gets.drop)) h) rfl ?_
                refine y_v rfl (r_as rfl) (fun _ h => Gets.own (by repeat (first | exact Gets.done _ | exact Gets.all _ | (apply Gets.step; focus ((repeat (first | exact Pick.head _ _ | apply Pick.tail)); done)) | apply Gets.drop)) h) rfl ?_
                refine y_v rfl (r_as rfl) (fun _ h => Gets.own (by repeat (first | exact Gets.done _ | exact Gets.all _ | (apply Gets.step; focus ((repeat (first | exact Pick.head _ _ | apply Pick.tail)); done)) | apply Gets.drop)) h) rfl ?_
                refine XH.nil ?_
                refine hK12 _ _ ?_
                refine XC.keep [(0, _), (4, _), (7, _)] ⟨rfl, rfl, rfl, trivial⟩ ?_
                refine XC.region ?_
                refine x_v (r_mv rfl) rfl ?_
                refine x_v (r_mv rfl) rfl ?_
                refine x_v (r_mv rfl) rfl ?_
                refine x_c (r_call0 (args := [_, _, _]) ⟨rfl, rfl, rfl, rfl⟩ (sput_tr (Fr := sl A49 S.length c49 92 18 (cells sc S) :: nds (l.set n.toNat y) :: K2 :: Fr) sb l wA wc L n A49 c49 S (Rdb.of_sl (.head _ _) (by rw [cells_len sc_len]) hA49) (by omega) (by omega)) (by repeat (first | exact Gets.done _ | exact Gets.all _ | (apply Gets.step; focus ((repeat (first | exact Pick.head _ _ | apply Pick.tail)); done)) | apply Gets.drop))) rfl ?_
                rintro _ _ ⟨rfl, A60, c60, L2, rfl, hpw, hl2, hin⟩
                refine XL.nil ?_
                rw [← sic_set (l := l) (n := n.toNat) (y := y) hx (by rw [hy])]
                exact fin0 (⟨n, k, 0, ch, hn, rfl, l.set n.toNat y, A60, c60, L2, K2, rfl, by unfold Rf.actS; rw [if_neg (fun hh => hng ⟨(hwe hh).1, congrArg List.length (hwe hh).2⟩), if_neg (by omega), if_neg (by omega), if_neg (by omega), if_pos (by omega), hpx]; unfold stOf doN; rw [List.map_set, hpw, hS, hy], hx2, h.node hx2 (by rw [hy]; exact hp2) (by rw [hy]; exact (h.lim x hxm).propose ch) (by rw [hy]; exact hm2) (by omega) (way_ok h (fun g hg => hg) hrS (by rw [hS]; exact propose_8 _ _) hpw hin)⟩) (by repeat (first | exact Gets.done _ | exact Gets.all _ | (apply Gets.step; focus ((repeat (first | exact Pick.head _ _ | apply Pick.tail)); done)) | apply Gets.drop))
              · refine XC.seq fun K13 hK13 => ?_
                refine XC.region ?_
                refine x_v (r_fa fo63_0 rfl) rfl ?_
                refine x_v (r_ld ty3 rfl (by repeat (first | exact Pick.head _ _ | apply Pick.tail)) (by rfl)) rfl ?_
                refine x_v (r_eq rfl rfl) rfl ?_
                refine x_v (r_as rfl) rfl ?_
                refine XL.nil ?_
                refine hK13 _ _ ?_
                refine XC.keep [(0, _), (3, _), (4, _), (126, _)] ⟨rfl, rfl, rfl, rfl, trivial⟩ ?_
                refine XC.cond_d rfl (fun hc8 => ?_) (fun hc8 => ?_)
                · refine XC.mem (blk x.b 90 (pc x.p x.A x.c x.M) :: vmo x.M :: nds (l.eraseIdx n.toNat) :: blk b3 63 [.int .i64 a1, .int .i64 a2, .int .i64 a3] :: blk sb 68 (sic l wA L.length wc) :: sl wA L.length wc 109 19 (cells fc L) :: K :: Fr) (fun w h => own_open hx (Gets.own (by repeat (first | exact Gets.done _ | exact Gets.all _ | (apply Gets.step; focus ((repeat (first | exact Pick.head _ _ | apply Pick.tail)); done)) | apply Gets.drop)) h)) ?_
                  refine XC.draw2 [blk b3 63 [.int .i64 a1, .int .i64 a2, .int .i64 a3]] [(0, false), (1, false), (3, false), (4, false), (5, false), (6, false), (7, false), (8, false), (15, false), (16, false)] 2 9 [(9, true), (10, true), (11, true), (12, false), (13, false), (14, false), (17, false), (18, true)] [(2, true), (10, true), (11, true), (12, false), (13, false), (14, false), (17, false), (18, true)] (by kernel_rfl) (by kernel_rfl) ?_
                  refine y_v rfl (r_mv rfl) (fun _ h => Gets.own (by repeat (first | exact Gets.done _ | exact Gets.all _ | (apply Gets.step; focus ((repeat (first | exact Pick.head _ _ | apply Pick.tail)); done)) | apply Gets.drop)) h) rfl ?_
                  refine y_v rfl (r_mv rfl) (fun _ h => Gets.own (by repeat (first | exact Gets.done _ | exact Gets.all _ | (apply Gets.step; focus ((repeat (first | exact Pick.head _ _ | apply Pick.tail)); done)) | apply Gets.drop)) h) rfl ?_
                  refine y_v rfl (r_mv rfl) (fun _ h => Gets.own (by repeat (first | exact Gets.done _ | exact Gets.all _ | (apply Gets.step; focus ((repeat (first | exact Pick.head _ _ | apply Pick.tail)); done)) | apply Gets.drop)) h) rfl ?_
                  refine y_v rfl (r_mv rfl) (fun _ h => Gets.own (by repeat (first | exact Gets.done _ | exact Gets.all _ | (apply Gets.step; focus ((repeat (first | exact Pick.head _ _ | apply Pick.tail)); done)) | apply Gets.drop)) h) rfl ?_
                  refine y_v rfl (r_mv rfl) (fun _ h => Gets.own (by repeat (first | exact Gets.done _ | exact Gets.all _ | (apply Gets.step; focus ((repeat (first | exact Pick.head _ _ | apply Pick.tail)); done)) | apply Gets.drop)) h) rfl ?_
                  refine y_v rfl (r_nc rfl) (fun _ h => Gets.own (by repeat (first | exact Gets.done _ | exact Gets.all _ | (apply Gets.step; focus ((repeat (first | exact Pick.head _ _ | apply Pick.tail)); done)) | apply Gets.drop)) h) rfl ?_
                  refine y_v rfl (r_fa fo68_0 rfl) (fun _ h => Gets.own (by repeat (first | exact Gets.done _ | exact Gets.all _ | (apply Gets.step; focus ((repeat (first | exact Pick.head _ _ | apply Pick.tail)); done)) | apply Gets.drop)) h) rfl ?_
                  refine y_v rfl (r_iaa (k := n.toNat) Try.underlying65 ty23 rfl rfl (by omega) (by omega)) (fun _ h => Gets.own (by repeat (first | exact Gets.done _ | exact Gets.all _ | (apply Gets.step; focus ((repeat (first | exact Pick.head _ _ | apply Pick.tail)); done)) | apply Gets.drop)) h) rfl ?_
                  refine y_v rfl (r_nc rfl) (fun _ h => Gets.own (by repeat (first | exact Gets.done _ | exact Gets.all _ | (apply Gets.step; focus ((repeat (first | exact Pick.head _ _ | apply Pick.tail)); done)) | apply Gets.drop)) h) rfl ?_
                  refine y_v rfl (r_fa fo68_0 rfl) (fun _ h => Gets.own (by repeat (first | exact Gets.done _ | exact Gets.all _ | (apply Gets.step; focus ((repeat (first | exact Pick.head _ _ | apply Pick.tail)); done)) | apply Gets.drop)) h) rfl ?_
                  refine XH.nil ?_
                  refine ⟨?_, ?_⟩
                  · refine y_c rfl (r_call0 (args := []) rfl (small_tr) (by repeat (first | exact Gets.done _ | exact Gets.all _ | (apply Gets.step; focus ((repeat (first | exact Pick.head _ _ | apply Pick.tail)); done)) | apply Gets.drop))) (by rintro _ _ _ _ ⟨rfl, rfl⟩ h; exact Gets.own (by repeat (first | exact Gets.done _ | exact Gets.all _ | (apply Gets.step; focus ((repeat (first | exact Pick.head _ _ | apply Pick.tail)); done)) | apply Gets.drop)) h) rfl ?_
                    rintro _ _ ⟨rfl, rfl⟩
                    refine y_vl rfl (r_ld ty23 rfl (by repeat (first | exact Pick.head _ _ | apply Pick.tail)) (pn_at hn hx)) (fun _ h => Gets.own (by repeat (first | exact Gets.done _ | exact Gets.all _ | (apply Gets.step; focus ((repeat (first | exact Pick.head _ _ | apply Pick.tail)); done)) | apply Gets.drop)) h) rfl ?_
                    refine y_c rfl (r_call0 (args := [_]) ⟨rfl, rfl⟩ (kept_tr (k := K) x.b x.M (h.pb x hxm)) (by repeat (first | exact Gets.done _ | exact Gets.all _ | (apply Gets.step; focus ((repeat (first | exact Pick.head _ _ | apply Pick.tail)); done)) | apply Gets.drop))) (by rintro _ _ _ _ ⟨A41, c41, rfl, rfl⟩ h; exact Gets.own (by repeat (first | exact Gets.done _ | exact Gets.all _ | (apply Gets.step; focus ((repeat (first | exact Pick.head _ _ | apply Pick.tail)); done)) | apply Gets.drop)) h) rfl ?_
                    rintro _ _ ⟨A41, c41, rfl, rfl⟩
                    refine XH.slnn (A := A41) (by repeat (first | exact Pick.head _ _ | apply Pick.tail)) fun _ hA41 => ?_
                    refine XH.stash (x := sl A41 x.p.es.length c41 48 2 (cells ec x.p.es)) (k := K) (by repeat (first | exact Pick.head _ _ | apply Pick.tail)) (by repeat (first | exact Pick.head _ _ | apply Pick.tail)) ?_
                    refine y_c rfl (r_call0 (args := [_, _, _]) ⟨rfl, rfl, rfl, rfl⟩ (new_tr (k := sep (sl A41 x.p.es.length c41 48 2 (cells ec x.p.es)) K) A41 c41 n (by unfold Rf.Node at hn; rcases hn with rfl | rfl | rfl <;> decide) (hK x hxm) (Rdb.laid K (by rw [cells_len ec_len]) hA41)) (by repeat (first | exact Gets.done _ | exact Gets.all _ | (apply Gets.step; focus ((repeat (first | exact Pick.head _ _ | apply Pick.tail)); done)) | apply Gets.drop))) (by rintro _ _ _ _ ⟨b42, A42, c42, K2, rfl, rfl, hx42, hp42⟩ h; exact Gets.own (by repeat (first | exact Gets.done _ | exact Gets.all _ | (apply Gets.step; focus ((repeat (first | exact Pick.head _ _ | apply Pick.tail)); done)) | apply Gets.drop)) h) rfl ?_
                    rintro _ _ ⟨b42, A42, c42, K2, rfl, rfl, hx42, hp42⟩
                    have hmx : maxLen = 9223372036854775807 := rfl
                    refine XH.nil_ 3 1 ?_
                    obtain ⟨y, hy⟩ : ∃ y : NdR, y = ⟨b42, fresh n 2 3 x.p.term x.p.vote x.p.base x.p.bterm x.p.snap x.p.es, A42, c42, none⟩ := ⟨_, rfl⟩
                    refine XH.mem (nds (l.set n.toNat y) :: blk b3 63 [.int .i64 a1, .int .i64 a2, .int .i64 a3] :: blk sb 68 (sic l wA L.length wc) :: sl wA L.length wc 109 19 (cells fc L) :: K2 :: Fr) (fun w h => own_close (by rw [hlen3]; omega) (by rw [hy]; exact Gets.own (by repeat (first | exact Gets.done _ | exact Gets.all _ | (apply Gets.step; focus ((repeat (first | exact Pick.head _ _ | apply Pick.tail)); done)) | apply Gets.drop)) h)) ?_
                    refine y_v rfl (r_mv rfl) (fun _ h => Gets.own (by repeat (first | exact Gets.done _ | exact Gets.all _ | (apply Gets.step; focus ((repeat (first | exact Pick.head _ _ | apply Pick.tail)); done)) | apply Gets.drop)) h) rfl ?_
                    refine y_v rfl (r_ex rfl rfl) (fun _ h => Gets.own (by repeat (first | exact Gets.done _ | exact Gets.all _ | (apply Gets.step; focus ((repeat (first | exact Pick.head _ _ | apply Pick.tail)); done)) | apply Gets.drop)) h) rfl ?_
                    refine y_v rfl (r_ex rfl rfl) (fun _ h => Gets.own (by repeat (first | exact Gets.done _ | exact Gets.all _ | (apply Gets.step; focus ((repeat (first | exact Pick.head _ _ | apply Pick.tail)); done)) | apply Gets.drop)) h) rfl ?_
                    refine y_v rfl (r_iaa (k := n.toNat) Try.underlying65 ty23 rfl rfl (by omega) (by omega)) (fun _ h => Gets.own (by repeat (first | exact Gets.done _ | exact Gets.all _ | (apply Gets.step; focus ((repeat (first | exact Pick.head _ _ | apply Pick.tail)); done)) | apply Gets.drop)) h) rfl ?_
                    refine y_e rfl (r_st (vs := [.pointer (some ⟨b42, 0, none⟩)]) ty23 rfl rfl rfl rfl rfl (by repeat (first | exact Upd.head _ _ _ | apply Upd.tail)) (Over.set (by rw [sic_len]; omega) _)) (fun _ _ h => Gets.own (by repeat (first | exact Gets.done _ | exact Gets.all _ | (apply Gets.step; focus ((repeat (first | exact Pick.head _ _ | apply Pick.tail)); done)) | apply Gets.drop)) h) ?_
                    refine XH.nil ?_
                    rw [show (Value.pointer (some ⟨b42, 0, none⟩)) = .pointer (some ⟨y.b, 0, none⟩) by rw [hy], sic_put hn hlen3 y]
                    exact fin0 (⟨n, k, 0, [], hn, rfl, l.set n.toNat y, wA, wc, L, K2, rfl, by unfold Rf.actS; rw [if_neg (fun hh => hng ⟨(hwe hh).1, congrArg List.length (hwe hh).2⟩), if_neg (by omega), if_neg (by omega), if_neg (by omega), if_neg (by omega), if_pos (by omega), hpx]; unfold stOf; rw [List.map_set, hy], (Ex.on W0 _ K).trans hx42, h.node ((Ex.on W0 _ K).trans hx42) (by rw [hy]; exact hp42) (by rw [hy]; exact (h.lim x hxm).anew hn) (by rw [hy]; intro hh; cases hh) h.way (fun f hf => .inl hf)⟩) (by repeat (first | exact Gets.done _ | exact Gets.all _ | (apply Gets.step; focus ((repeat (first | exact Pick.head _ _ | apply Pick.tail)); done)) | apply Gets.drop))
                  · refine y_vl rfl (r_ld ty23 rfl (by repeat (first | exact Pick.head _ _ | apply Pick.tail)) (pn_at hn hx)) (fun _ h => Gets.own (by repeat (first | exact Gets.done _ | exact Gets.all _ | (apply Gets.step; focus ((repeat (first | exact Pick.head _ _ | apply Pick.tail)); done)) | apply Gets.drop)) h) rfl ?_
                    refine y_c rfl (r_call0 (args := []) rfl (small_tr) (by repeat (first | exact Gets.done _ | exact Gets.all _ | (apply Gets.step; focus ((repeat (first | exact Pick.head _ _ | apply Pick.tail)); done)) | apply Gets.drop))) (by rintro _ _ _ _ ⟨rfl, rfl⟩ h; exact Gets.own (by repeat (first | exact Gets.done _ | exact Gets.all _ | (apply Gets.step; focus ((repeat (first | exact Pick.head _ _ | apply Pick.tail)); done)) | apply Gets.drop)) h) rfl ?_
                    rintro _ _ ⟨rfl, rfl⟩
                    refine y_c rfl (r_call0 (args := [_]) ⟨rfl, rfl⟩ (kept_tr (k := K) x.b x.M (h.pb x hxm)) (by repeat (first | exact Gets.done _ | exact Gets.all _ | (apply Gets.step; focus ((repeat (first | exact Pick.head _ _ | apply Pick.tail)); done)) | apply Gets.drop))) (by rintro _ _ _ _ ⟨A41, c41, rfl, rfl⟩ h; exact Gets.own (by repeat (first | exact Gets.done _ | exact Gets.all _ | (apply Gets.step; focus ((repeat (first | exact Pick.head _ _ | apply Pick.tail)); done)) | apply Gets.drop)) h) rfl ?_
                    rintro _ _ ⟨A41, c41, rfl, rfl⟩
                    refine XH.slnn (A := A41) (by repeat (first | exact Pick.head _ _ | apply Pick.tail)) fun _ hA41 => ?_
                    refine XH.stash (x := sl A41 x.p.es.length c41 48 2 (cells ec x.p.es)) (k := K) (by repeat (first | exact Pick.head _ _ | apply Pick.tail)) (by repeat (first | exact Pick.head _ _ | apply Pick.tail)) ?_
                    refine y_c rfl (r_call0 (args := [_, _, _]) ⟨rfl, rfl, rfl, rfl⟩ (new_tr (k := sep (sl A41 x.p.es.length c41 48 2 (cells ec x.p.es)) K) A41 c41 n (by unfold Rf.Node at hn; rcases hn with rfl | rfl | rfl <;> decide) (hK x hxm) (Rdb.laid K (by rw [cells_len ec_len]) hA41)) (by repeat (first | exact Gets.done _ | exact Gets.all _ | (apply Gets.step; focus ((repeat (first | exact Pick.head _ _ | apply Pick.tail)); done)) | apply Gets.drop))) (by rintro _ _ _ _ ⟨b42, A42, c42, K2, rfl, rfl, hx42, hp42⟩ h; exact Gets.own (by repeat (first | exact Gets.done _ | exact Gets.all _ | (apply Gets.step; focus ((repeat (first | exact Pick.head _ _ | apply Pick.tail)); done)) | apply Gets.drop)) h) rfl ?_
                    rintro _ _ ⟨b42, A42, c42, K2, rfl, rfl, hx42, hp42⟩
                    have hmx : maxLen = 9223372036854775807 := rfl
                    refine XH.nil_ 3 1 ?_
                    obtain ⟨y, hy⟩ : ∃ y : NdR, y = ⟨b42, fresh n 2 3 x.p.term x.p.vote x.p.base x.p.bterm x.p.snap x.p.es, A42, c42, none⟩ := ⟨_, rfl⟩
                    refine XH.mem (nds (l.set n.toNat y) :: blk b3 63 [.int .i64 a1, .int .i64 a2, .int .i64 a3] :: blk sb 68 (sic l wA L.length wc) :: sl wA L.length wc 109 19 (cells fc L) :: K2 :: Fr) (fun w h => own_close (by rw [hlen3]; omega) (by rw [hy]; exact Gets.own (by repeat (first | exact Gets.done _ | exact Gets.all _ | (apply Gets.step; focus ((repeat (first | exact Pick.head _ _ | apply Pick.tail)); done)) | apply Gets.drop)) h)) ?_
                    refine y_v rfl (r_mv rfl) (fun _ h => Gets.own (by repeat (first | exact Gets.done _ | exact Gets.all _ | (apply Gets.step; focus ((repeat (first | exact Pick.head _ _ | apply Pick.tail)); done)) | apply Gets.drop)) h) rfl ?_
                    refine y_v rfl (r_ex rfl rfl) (fun _ h => Gets.own (by repeat (first | exact Gets.done _ | exact Gets.all _ | (apply Gets.step; focus ((repeat (first | exact Pick.head _ _ | apply Pick.tail)); done)) | apply Gets.drop)) h) rfl ?_
                    refine y_v rfl (r_ex rfl rfl) (fun _ h => Gets.own (by repeat (first | exact Gets.done _ | exact Gets.all _ | (apply Gets.step; focus ((repeat (first | exact Pick.head _ _ | apply Pick.tail)); done)) | apply Gets.drop)) h) rfl ?_
                    refine y_v rfl (r_iaa (k := n.toNat) Try.underlying65 ty23 rfl rfl (by omega) (by omega)) (fun _ h => Gets.own (by repeat (first | exact Gets.done _ | exact Gets.all _ | (apply Gets.step; focus ((repeat (first | exact Pick.head _ _ | apply Pick.tail)); done)) | apply Gets.drop)) h) rfl ?_
                    refine y_e rfl (r_st (vs := [.pointer (some ⟨b42, 0, none⟩)]) ty23 rfl rfl rfl rfl rfl (by repeat (first | exact Upd.head _ _ _ | apply Upd.tail)) (Over.set (by rw [sic_len]; omega) _)) (fun _ _ h => Gets.own (by repeat (first | exact Gets.done _ | exact Gets.all _ | (apply Gets.step; focus ((repeat (first | exact Pick.head _ _ | apply Pick.tail)); done)) | apply Gets.drop)) h) ?_
                    refine XH.nil ?_
                    rw [show (Value.pointer (some ⟨b42, 0, none⟩)) = .pointer (some ⟨y.b, 0, none⟩) by rw [hy], sic_put hn hlen3 y]
                    exact fin0 (⟨n, k, 0, [], hn, rfl, l.set n.toNat y, wA, wc, L, K2, rfl, by unfold Rf.actS; rw [if_neg (fun hh => hng ⟨(hwe hh).1, congrArg List.length (hwe hh).2⟩), if_neg (by omega), if_neg (by omega), if_neg (by omega), if_neg (by omega), if_pos (by omega), hpx]; unfold stOf; rw [List.map_set, hy], (Ex.on W0 _ K).trans hx42, h.node ((Ex.on W0 _ K).trans hx42) (by rw [hy]; exact hp42) (by rw [hy]; exact (h.lim x hxm).anew hn) (by rw [hy]; intro hh; cases hh) h.way (fun f hf => .inl hf)⟩) (by repeat (first | exact Gets.done _ | exact Gets.all _ | (apply Gets.step; focus ((repeat (first | exact Pick.head _ _ | apply Pick.tail)); done)) | apply Gets.drop))
                · refine XC.seq fun K14 hK14 => ?_
                  refine XC.region ?_
                  refine x_v (r_fa fo63_0 rfl) rfl ?_
                  refine x_v (r_ld ty3 rfl (by repeat (first | exact Pick.head _ _ | apply Pick.tail)) (by rfl)) rfl ?_
                  refine x_v (r_eq rfl rfl) rfl ?_
                  refine x_v (r_as rfl) rfl ?_
                  refine XL.nil ?_
                  refine hK14 _ _ ?_
                  refine XC.keep [(0, _), (3, _), (4, _), (148, _)] ⟨rfl, rfl, rfl, rfl, trivial⟩ ?_
                  refine XC.cond_d rfl (fun hc9 => ?_) (fun hc9 => ?_)
                  · refine XC.mem (blk x.b 90 (pc x.p x.A x.c x.M) :: vmo x.M :: nds (l.eraseIdx n.toNat) :: blk b3 63 [.int .i64 a1, .int .i64 a2, .int .i64 a3] :: blk sb 68 (sic l wA L.length wc) :: sl wA L.length wc 109 19 (cells fc L) :: K :: Fr) (fun w h => own_open hx (Gets.own (by repeat (first | exact Gets.done _ | exact Gets.all _ | (apply Gets.step; focus ((repeat (first | exact Pick.head _ _ | apply Pick.tail)); done)) | apply Gets.drop)) h)) ?_
                    refine XC.draw [blk b3 63 [.int .i64 a1, .int .i64 a2, .int .i64 a3], blk sb 68 (sic l wA L.length wc)] true [(0, false), (1, false), (2, false), (3, false), (4, false), (5, false), (6, false), (7, false), (8, false), (9, false), (10, false), (11, false), (12, true), (13, true)] (by kernel_rfl) (by kernel_rfl) ?_
                    refine y_v rfl (r_mv rfl) (fun _ h => Gets.own (by repeat (first | exact Gets.done _ | exact Gets.all _ | (apply Gets.step; focus ((repeat (first | exact Pick.head _ _ | apply Pick.tail)); done)) | apply Gets.drop)) h) rfl ?_
                    refine y_v rfl (r_mv rfl) (fun _ h => Gets.own (by repeat (first | exact Gets.done _ | exact Gets.all _ | (apply Gets.step; focus ((repeat (first | exact Pick.head _ _ | apply Pick.tail)); done)) | apply Gets.drop)) h) rfl ?_
                    refine y_v rfl (r_nc rfl) (fun _ h => Gets.own (by repeat (first | exact Gets.done _ | exact Gets.all _ | (apply Gets.step; focus ((repeat (first | exact Pick.head _ _ | apply Pick.tail)); done)) | apply Gets.drop)) h) rfl ?_
                    refine y_v rfl (r_fa fo68_0 rfl) (fun _ h => Gets.own (by repeat (first | exact Gets.done _ | exact Gets.all _ | (apply Gets.step; focus ((repeat (first | exact Pick.head _ _ | apply Pick.tail)); done)) | apply Gets.drop)) h) rfl ?_
                    refine y_v rfl (r_iaa (k := n.toNat) Try.underlying65 ty23 rfl rfl (by omega) (by omega)) (fun _ h => Gets.own (by repeat (first | exact Gets.done _ | exact Gets.all _ | (apply Gets.step; focus ((repeat (first | exact Pick.head _ _ | apply Pick.tail)); done)) | apply Gets.drop)) h) rfl ?_
                    refine y_v rfl (r_ld ty23 rfl (by repeat (first | exact Pick.head _ _ | apply Pick.tail)) (pn_at hn hx)) (fun _ h => Gets.own (by repeat (first | exact Gets.done _ | exact Gets.all _ | (apply Gets.step; focus ((repeat (first | exact Pick.head _ _ | apply Pick.tail)); done)) | apply Gets.drop)) h) rfl ?_
                    refine y_v rfl (r_mv rfl) (fun _ h => Gets.own (by repeat (first | exact Gets.done _ | exact Gets.all _ | (apply Gets.step; focus ((repeat (first | exact Pick.head _ _ | apply Pick.tail)); done)) | apply Gets.drop)) h) rfl ?_
                    refine y_v rfl (r_mv rfl) (fun _ h => Gets.own (by repeat (first | exact Gets.done _ | exact Gets.all _ | (apply Gets.step; focus ((repeat (first | exact Pick.head _ _ | apply Pick.tail)); done)) | apply Gets.drop)) h) rfl ?_
                    refine y_v rfl (r_nc rfl) (fun _ h => Gets.own (by repeat (first | exact Gets.done _ | exact Gets.all _ | (apply Gets.step; focus ((repeat (first | exact Pick.head _ _ | apply Pick.tail)); done)) | apply Gets.drop)) h) rfl ?_
                    refine y_v rfl (r_fa fo68_0 rfl) (fun _ h => Gets.own (by repeat (first | exact Gets.done _ | exact Gets.all _ | (apply Gets.step; focus ((repeat (first | exact Pick.head _ _ | apply Pick.tail)); done)) | apply Gets.drop)) h) rfl ?_
                    refine y_v rfl (r_iaa (k := n.toNat) Try.underlying65 ty23 rfl rfl (by omega) (by omega)) (fun _ h => Gets.own (by repeat (first | exact Gets.done _ | exact Gets.all _ | (apply Gets.step; focus ((repeat (first | exact Pick.head _ _ | apply Pick.tail)); done)) | apply Gets.drop)) h) rfl ?_
                    refine y_v rfl (r_ld ty23 rfl (by repeat (first | exact Pick.head _ _ | apply Pick.tail)) (pn_at hn hx)) (fun _ h => Gets.own (by repeat (first | exact Gets.done _ | exact Gets.all _ | (apply Gets.step; focus ((repeat (first | exact Pick.head _ _ | apply Pick.tail)); done)) | apply Gets.drop)) h) rfl ?_
                    refine y_c rfl (r_call0 (args := [_]) ⟨rfl, rfl⟩ (commit_tr (p := x.p) (A := x.A) (c := x.c) x.b x.M) (by repeat (first | exact Gets.done _ | exact Gets.all _ | (apply Gets.step; focus ((repeat (first | exact Pick.head _ _ | apply Pick.tail)); done)) | apply Gets.drop))) (by rintro _ _ _ _ ⟨rfl, rfl⟩ h; exact Gets.own (by repeat (first | exact Gets.done _ | exact Gets.all _ | (apply Gets.step; focus ((repeat (first | exact Pick.head _ _ | apply Pick.tail)); done)) | apply Gets.drop)) h) rfl ?_
                    rintro _ _ ⟨rfl, rfl⟩
                    refine y_c rfl (r_call0 (args := [_, _, _]) ⟨rfl, rfl, rfl, rfl⟩ (compact_tr (k := K) x.b x.M x.p.agree snapB (h.pb x hxm) (h.lim x hxm)) (by repeat (first | exact Gets.done _ | exact Gets.all _ | (apply Gets.step; focus ((repeat (first | exact Pick.head _ _ | apply Pick.tail)); done)) | apply Gets.drop))) (fun h => absurd h (by decide)) rfl ?_
                    rintro _ _ ⟨rfl, A65, c65, K2, rfl, hx65, hp65⟩
                    have hmx : maxLen = 9223372036854775807 := rfl
                    obtain ⟨y, hy⟩ : ∃ y : NdR, y = ⟨x.b, (compact x.p x.p.agree snapB).1, A65, c65, x.M⟩ := ⟨_, rfl⟩
                    refine XH.mem (nds (l.set n.toNat y) :: blk b3 63 [.int .i64 a1, .int .i64 a2, .int .i64 a3] :: blk sb 68 (sic l wA L.length wc) :: sl wA L.length wc 109 19 (cells fc L) :: K2 :: Fr) (fun w h => own_close (by rw [hlen3]; omega) (by rw [hy]; exact Gets.own (by repeat (first | exact Gets.done _ | exact Gets.all _ | (apply Gets.step; focus ((repeat (first | exact Pick.head _ _ | apply Pick.tail)); done)) | apply Gets.drop)) h)) ?_
                    refine XH.nil ?_
                    rw [← sic_set (l := l) (n := n.toNat) (y := y) hx (by rw [hy])]
                    exact fin0 (⟨n, k, 0, [], hn, rfl, l.set n.toNat y, wA, wc, L, K2, rfl, by unfold Rf.actS; rw [if_neg (fun hh => hng ⟨(hwe hh).1, congrArg List.length (hwe hh).2⟩), if_neg (by omega), if_neg (by omega), if_neg (by omega), if_neg (by omega), if_neg (by omega), if_pos (by omega), hpx]; unfold stOf; rw [List.map_set, hy], hx65, h.node hx65 (by rw [hy]; exact hp65) (by rw [hy]; exact ((h.lim x hxm).compact _ _).mono (by omega)) (by rw [hy]; intro hh; exact h.mm x hxm (by rw [← compact_role x.p x.p.agree snapB]; exact hh)) h.way (fun f hf => .inl hf)⟩) (by repeat (first | exact Gets.done _ | exact Gets.all _ | (apply Gets.step; focus ((repeat (first | exact Pick.head _ _ | apply Pick.tail)); done)) | apply Gets.drop))
                  · refine XC.mem (blk x.b 90 (pc x.p x.A x.c x.M) :: vmo x.M :: nds (l.eraseIdx n.toNat) :: blk b3 63 [.int .i64 a1, .int .i64 a2, .int .i64 a3] :: blk sb 68 (sic l wA L.length wc) :: sl wA L.length wc 109 19 (cells fc L) :: K :: Fr) (fun w h => own_open hx (Gets.own (by repeat (first | exact Gets.done _ | exact Gets.all _ | (apply Gets.step; focus ((repeat (first | exact Pick.head _ _ | apply Pick.tail)); done)) | apply Gets.drop)) h)) ?_
                    refine XC.draw [blk b3 63 [.int .i64 a1, .int .i64 a2, .int .i64 a3], blk sb 68 (sic l wA L.length wc)] true [(0, false), (1, false), (2, false), (3, false), (4, false), (5, false), (6, false), (7, false), (8, false), (9, false), (10, true), (11, true)] (by kernel_rfl) (by kernel_rfl) ?_
                    refine y_v rfl (r_mv rfl) (fun _ h => Gets.own (by repeat (first | exact Gets.done _ | exact Gets.all _ | (apply Gets.step; focus ((repeat (first | exact Pick.head _ _ | apply Pick.tail)); done)) | apply Gets.drop)) h) rfl ?_
                    refine y_v rfl (r_mv rfl) (fun _ h => Gets.own (by repeat (first | exact Gets.done _ | exact Gets.all _ | (apply Gets.step; focus ((repeat (first | exact Pick.head _ _ | apply Pick.tail)); done)) | apply Gets.drop)) h) rfl ?_
                    refine y_v rfl (r_mv rfl) (fun _ h => Gets.own (by repeat (first | exact Gets.done _ | exact Gets.all _ | (apply Gets.step; focus ((repeat (first | exact Pick.head _ _ | apply Pick.tail)); done)) | apply Gets.drop)) h) rfl ?_
                    refine y_v rfl (r_mv rfl) (fun _ h => Gets.own (by repeat (first | exact Gets.done _ | exact Gets.all _ | (apply Gets.step; focus ((repeat (first | exact Pick.head _ _ | apply Pick.tail)); done)) | apply Gets.drop)) h) rfl ?_
                    refine y_v rfl (r_nc rfl) (fun _ h => Gets.own (by repeat (first | exact Gets.done _ | exact Gets.all _ | (apply Gets.step; focus ((repeat (first | exact Pick.head _ _ | apply Pick.tail)); done)) | apply Gets.drop)) h) rfl ?_
                    refine y_v rfl (r_fa fo68_0 rfl) (fun _ h => Gets.own (by repeat (first | exact Gets.done _ | exact Gets.all _ | (apply Gets.step; focus ((repeat (first | exact Pick.head _ _ | apply Pick.tail)); done)) | apply Gets.drop)) h) rfl ?_
                    refine y_v rfl (r_iaa (k := n.toNat) Try.underlying65 ty23 rfl rfl (by omega) (by omega)) (fun _ h => Gets.own (by repeat (first | exact Gets.done _ | exact Gets.all _ | (apply Gets.step; focus ((repeat (first | exact Pick.head _ _ | apply Pick.tail)); done)) | apply Gets.drop)) h) rfl ?_
                    refine y_v rfl (r_ld ty23 rfl (by repeat (first | exact Pick.head _ _ | apply Pick.tail)) (pn_at hn hx)) (fun _ h => Gets.own (by repeat (first | exact Gets.done _ | exact Gets.all _ | (apply Gets.step; focus ((repeat (first | exact Pick.head _ _ | apply Pick.tail)); done)) | apply Gets.drop)) h) rfl ?_
                    refine y_v rfl (r_fa fo63_2 rfl) (fun _ h => Gets.own (by repeat (first | exact Gets.done _ | exact Gets.all _ | (apply Gets.step; focus ((repeat (first | exact Pick.head _ _ | apply Pick.tail)); done)) | apply Gets.drop)) h) rfl ?_
                    refine y_v rfl (r_ld ty3 rfl (by repeat (first | exact Pick.head _ _ | apply Pick.tail)) (by rfl)) (fun _ h => Gets.own (by repeat (first | exact Gets.done _ | exact Gets.all _ | (apply Gets.step; focus ((repeat (first | exact Pick.head _ _ | apply Pick.tail)); done)) | apply Gets.drop)) h) rfl ?_
                    refine y_c rfl (r_call0 (args := [_, _]) ⟨rfl, rfl, rfl⟩ (tick_tr (k := K) x.b x.M a3 (h.pb x hxm) (h.lim x hxm) hB (h.mm x hxm)) (by repeat (first | exact Gets.done _ | exact Gets.all _ | (apply Gets.step; focus ((repeat (first | exact Pick.head _ _ | apply Pick.tail)); done)) | apply Gets.drop))) (by rintro _ _ _ _ ⟨S, A49, c49, A50, c50, M50, K2, rfl, rfl, hS, hx2, hp2, hrS, hm2⟩ h; exact Gets.own (by repeat (first | exact Gets.done _ | exact Gets.all _ | (apply Gets.step; focus ((repeat (first | exact Pick.head _ _ | apply Pick.tail)); done)) | apply Gets.drop)) h) rfl ?_
                    rintro _ _ ⟨S, A49, c49, A50, c50, M50, K2, rfl, rfl, hS, hx2, hp2, hrS, hm2⟩
                    have hmx : maxLen = 9223372036854775807 := rfl
                    refine XH.slnn (A := A49) (by repeat (first | exact Pick.head _ _ | apply Pick.tail)) fun _ hA49 => ?_
                    refine XH.fact (R := sl A49 S.length c49 92 18 (cells sc S)) (by repeat (first | exact Pick.head _ _ | apply Pick.tail)) (fun w h => h.sl_len.2) fun hc49 => ?_
                    obtain ⟨y, hy⟩ : ∃ y : NdR, y = ⟨x.b, (tick x.p a3).1, A50, c50, M50⟩ := ⟨_, rfl⟩
                    refine XH.mem (nds (l.set n.toNat y) :: blk b3 63 [.int .i64 a1, .int .i64 a2, .int .i64 a3] :: sl A49 S.length c49 92 18 (cells sc S) :: blk sb 68 (sic l wA L.length wc) :: sl wA L.length wc 109 19 (cells fc L) :: K2 :: Fr) (fun w h => own_close (by rw [hlen3]; omega) (by rw [hy]; exact Gets.own (by repeat (first | exact Gets.done _ | exact Gets.all _ | (apply Gets.step; focus ((repeat (first | exact Pick.head _ _ | apply Pick.tail)); done)) | apply Gets.drop)) h)) ?_
                    refine y_c rfl (r_call0 (args := [_, _, _]) ⟨rfl, rfl, rfl, rfl⟩ (sput_tr (Fr := sl A49 S.length c49 92 18 (cells sc S) :: nds (l.set n.toNat y) :: K2 :: Fr) sb l wA wc L n A49 c49 S (Rdb.of_sl (.head _ _) (by rw [cells_len sc_len]) hA49) (by omega) (by omega)) (by repeat (first | exact Gets.done _ | exact Gets.all _ | (apply Gets.step; focus ((repeat (first | exact Pick.head _ _ | apply Pick.tail)); done)) | apply Gets.drop))) (fun h => absurd h (by decide)) rfl ?_
                    rintro _ _ ⟨rfl, A60, c60, L2, rfl, hpw, hl2, hin⟩
                    refine XH.nil ?_
                    rw [← sic_set (l := l) (n := n.toNat) (y := y) hx (by rw [hy])]
                    exact fin0 (⟨n, k, a3, [], hn, rfl, l.set n.toNat y, A60, c60, L2, K2, rfl, by unfold Rf.actS; rw [if_neg (fun hh => hng ⟨(hwe hh).1, congrArg List.length (hwe hh).2⟩), if_neg (by omega), if_neg (by omega), if_neg (by omega), if_neg (by omega), if_neg (by omega), if_neg (by omega), hpx]; unfold stOf doN; rw [List.map_set, hpw, hS, hy], hx2, h.node hx2 (by rw [hy]; exact hp2) (by rw [hy]; exact (h.lim x hxm).tick a3) (by rw [hy]; exact hm2) (by omega) (way_ok h (fun g hg => hg) hrS (by rw [hS]; exact tick_8 _ _) hpw hin)⟩) (by repeat (first | exact Gets.done _ | exact Gets.all _ | (apply Gets.step; focus ((repeat (first | exact Pick.head _ _ | apply Pick.tail)); done)) | apply Gets.drop))
end Go.Proofs.Ytlogcldbflemfaa

/- Polls: who leads (function 5). -/
import Derived.Test.YtlogcldbflemfaaPoll25
import Derived.Test.YtlogcldbflemfaaYOps9
namespace Go.Proofs.Ytlogcldbflemfaa
open Go.Sx Go.Rf
set_option linter.unusedVariables false

/-- A map from numbers to numbers. -/
def mpi (m : Int → Option Int) : Value → Option Value
  | .int .i64 i => (m i).map fun e => .int .i64 e
  | _ => none
def puti (m : Int → Option Int) (i : Int) (e : Int) : Int → Option Int := fun j => if j = i then some e else m j
theorem mpi_none : (fun _ : Value => (none : Option Value)) = mpi (fun _ => none) := by funext v; unfold mpi; split <;> rfl
theorem mpi_one (m : Int → Option Int) (i e : Int) : mpi (puti m i e) (.int .i64 i) = some (.int .i64 e) := by
  show ((if i = i then some e else m i).map _) = _; rw [if_pos rfl]; rfl
theorem mpi_other (m : Int → Option Int) (i e : Int) : ∀ x, x ≠ .int .i64 i → mpi (puti m i e) x = mpi m x := fun x hx => by
  unfold mpi
  split
  · rename_i j
    show ((if j = i then some e else m j).map _) = _
    rw [if_neg (fun hh => hx (by rw [hh]))]
  · rfl
theorem mpi_get (m : Int → Option Int) (i : Int) : (mpi m (.int .i64 i)).getD (.int .i64 0) = .int .i64 ((m i).getD 0) := by
  show ((m i).map _).getD _ = _; cases m i <;> rfl
theorem mpi_some (m : Int → Option Int) (i : Int) : (mpi m (.int .i64 i)).isSome = (m i).isSome := by
  show ((m i).map _).isSome = _; cases m i <;> rfl
theorem mpe_inv {said : Int → Option En} {k v : Value} (h : mpe said k = some v) : ∃ i e, k = .int .i64 i ∧ said i = some e ∧ v = .agg (ec e).toArray := by
  unfold mpe at h
  split at h
  · rename_i i
    cases hs : said i with
    | none => rw [hs] at h; cases h
    | some e => rw [hs] at h; injection h with h; exact ⟨i, e, rfl, hs, h.symm⟩
  · cases h
/-- Who leads was said truly. -/
def LI (G : Gh) (m : Int → Option Int) : Prop := ∀ t n, m t = some n → G.LL t ≠ [] ∧ G.ld t = n
theorem LI.ext {G G2 : Gh} {m : Int → Option Int} (h : LI G m) (e : Ext G G2) : LI G2 m := fun t n hn => by
  obtain ⟨h1, h2⟩ := h t n hn
  exact ⟨fun h3 => h1 (by have := e.LL t; rw [h3] at this; exact List.prefix_nil.1 this), (e.ld t h1).trans h2⟩
theorem LI.put {G : Gh} {m : Int → Option Int} (h : LI G m) {t n : Int} (h1 : G.LL t ≠ []) (h2 : G.ld t = n) : LI G (puti m t n) := fun u k hu => by
  unfold puti at hu
  split at hu
  · rename_i hj; subst hj; injection hu with hu; subst hu; exact ⟨h1, h2⟩
  · exact h u k hu
theorem li_odd {G : Gh} {m : Int → Option Int} (h : LI G m) {t n : Int} (h2 : G.ld t = n) (h1 : (m t).isSome = true) : (m t).getD 0 = n := by
  cases hs : m t with
  | none => rw [hs] at h1; cases h1
  | some k => exact ((h t k hs).2.symm.trans h2)
/-- What was said was agreed on when it is told. -/
def WI (G : Gh) (said : Int → Option En) (whn : Int → Option Int) : Prop := ∀ i e, said i = some e → ∃ T, whn i = some T ∧ Obs G i e T
theorem WI.ext {G G2 : Gh} {said : Int → Option En} {whn : Int → Option Int} (h : WI G said whn) (e : Ext G G2) : WI G2 said whn := fun i x hx => (h i x hx).imp fun _ o => ⟨o.1, o.2.ext e⟩
theorem WI.put {G : Gh} {said : Int → Option En} {whn : Int → Option Int} (h : WI G said whn) {i : Int} {x : En} {T : Int} (o : Obs G i x T) : WI G (put1 said i x) (puti whn i T) := fun j y hy => by
  unfold put1 at hy
  unfold puti
  split at hy
  · rename_i hj; subst hj; injection hy with hy; subst hy; exact ⟨T, by rw [if_pos rfl], o⟩
  · rename_i hj; rw [if_neg hj]; exact h j y hy
theorem XC.fact {C : Cx} {c : Code} {κ : Kt} {e : Env} {Rs : List HP} {p : Prop} (h : ∀ w, Own C.W0 w Rs → p) (k : p → XC C c κ e Rs) : XC C c κ e Rs := fun a w ha hw => k (h w hw) a w ha hw
theorem XL.fact {C : Cx} {ops : Array Oper} {l : List Oper} {κ : Kt} {e : Env} {Rs : List HP} {p : Prop} (h : ∀ w, Own C.W0 w Rs → p) (k : p → XL C ops l κ e Rs) : XL C ops l κ e Rs := fun a w ha hw => k (h w hw) a w ha hw
theorem XC.turn {C : Cx} {c : Code} {κ : Kt} {e : Env} {Rs Fr : List HP} (R R' : HP) (hp : Pick Rs R Fr) (h : ∀ w, Own C.W0 w (R :: Fr) → Own C.W0 w (R' :: Fr)) (k : XC C c κ e (R' :: Fr)) : XC C c κ e Rs := fun a w ha hw => k a w ha (h w (hw.pick hp))
theorem XL.turn {C : Cx} {ops : Array Oper} {l : List Oper} {κ : Kt} {e : Env} {Rs Fr : List HP} (R R' : HP) (hp : Pick Rs R Fr) (h : ∀ w, Own C.W0 w (R :: Fr) → Own C.W0 w (R' :: Fr)) (k : XL C ops l κ e (R' :: Fr)) : XL C ops l κ e Rs := fun a w ha hw => k a w ha (h w (hw.pick hp))

theorem li_none {G : Gh} : LI G (fun _ => none) := fun i e h => by cases h
theorem wi_none {G : Gh} : WI G (fun _ => none) (fun _ => none) := fun i e h => by cases h
theorem XC.shutN {C : Cx} {c : Code} {κ : Kt} {e : Env} {Rs F1 F2 F3 : List HP} {l : List NdR} {n : Nat} {x : NdR} (hx : l[n]? = some x) (h1 : Pick Rs (blk x.b 90 (pc x.p x.A x.c x.M)) F1) (h2 : Pick F1 (vmo x.M) F2) (h3 : Pick F2 (nds (l.eraseIdx n)) F3) (k : XC C c κ e (nds l :: F3)) : XC C c κ e Rs :=
  fun a w ha hw => k a w ha (own_shut hx (Gets.own (.step h1 (.step h2 (.step h3 (.done _)))) hw))

theorem pollleaders_tr {W0 : World} {Fr : List HP} (XA : Option Addr) (xc : Nat) (T : List (Int × Int × Int)) (hr : ∀ Fr, Rdb W0 Fr XA T.length 3 (cells actc T)) : Tr W0 Try.prog 5 [.slice XA T.length xc] Fr (fun v Rs' => v = .bool true) := by
  refine Entry.tr (N := 137) (rs := [.tmp 2]) ⟨_, Try.func5, rfl, by kernel_rfl, rfl, rfl⟩ rfl ?_
  refine XC.seq fun K1 hK1 => ?_
  refine XC.region ?_
  refine x_v (r_as rfl) rfl ?_
  refine XL.nil ?_
  refine hK1 _ _ ?_
  refine XC.keep [(0, _)] ⟨rfl, trivial⟩ ?_
  refine XC.seq fun K2 hK2 => ?_
  refine XC.seq fun K3 hK3 => ?_
  refine XC.region ?_
  refine x_c (r_call0 (args := []) rfl (awake_tr) (by repeat (first | exact Gets.done _ | exact Gets.all _ | (apply Gets.step; focus ((repeat (first | exact Pick.head _ _ | apply Pick.tail)); done)) | apply Gets.drop))) rfl ?_
  rintro _ _ ⟨rfl, hRs⟩
  rw [hRs]
  refine x_v (r_not rfl) rfl ?_
  refine x_v (r_mv rfl) rfl ?_
  refine x_want rfl rfl rfl ?_
  refine x_v (r_mv rfl) rfl ?_
  refine x_want rfl rfl rfl ?_
  refine x_v (r_lensl Try.underlying59 rfl) rfl ?_
  refine x_want rfl rfl rfl ?_
  refine x_v (r_gt rfl rfl) rfl ?_
  refine x_v (r_pk_f rfl rfl) rfl ?_
  refine XL.nil ?_
  refine hK3 _ _ ?_
  refine XC.keep [(0, _), (27, _)] ⟨rfl, rfl, trivial⟩ ?_
  refine XC.cond_d rfl (fun hc1 => ?_) (fun hc1 => ?_)
  · refine XC.seq fun K4 hK4 => ?_
    refine XC.region ?_
    refine x_c (r_call0 (args := []) rfl (awake_tr) (by repeat (first | exact Gets.done _ | exact Gets.all _ | (apply Gets.step; focus ((repeat (first | exact Pick.head _ _ | apply Pick.tail)); done)) | apply Gets.drop))) rfl ?_
    rintro _ _ ⟨rfl, hRs2⟩
    rw [hRs2]
    refine x_v (r_as rfl) rfl ?_
    refine XL.nil ?_
    refine hK4 _ _ ?_
    refine XC.keep [(2, _)] ⟨rfl, trivial⟩ ?_
    refine XC.ret ?_
    exact fin1 rfl (rfl) (by repeat (first | exact Gets.done _ | exact Gets.all _ | (apply Gets.step; focus ((repeat (first | exact Pick.head _ _ | apply Pick.tail)); done)) | apply Gets.drop))
  · refine XC.skip ?_
    refine hK2 _ _ ?_
    refine XC.keep [(0, _)] ⟨rfl, trivial⟩ ?_
    refine XC.seq fun K5 hK5 => ?_
    refine XC.region ?_
    refine x_c (r_call0 (args := []) rfl (begun_tr) (by repeat (first | exact Gets.done _ | exact Gets.all _ | (apply Gets.step; focus ((repeat (first | exact Pick.head _ _ | apply Pick.tail)); done)) | apply Gets.drop))) rfl ?_
    rintro _ _ ⟨sb, l, K, rfl, rfl, hst, hok⟩
    have hsg := sg_begun hst hok
    refine x_v (r_as rfl) rfl ?_
    refine XL.nil ?_
    refine hK5 _ _ ?_
    refine XC.keep [(0, _), (3, _)] ⟨rfl, rfl, trivial⟩ ?_
    refine XC.seq fun K6 hK6 => ?_
    refine XC.region ?_
    refine x_a (r_mm (.int .i64)) rfl fun b30 => ?_
    refine x_v (r_as rfl) rfl ?_
    refine XL.nil ?_
    refine hK6 _ _ ?_
    refine XC.keep [(0, _), (3, _), (4, _)] ⟨rfl, rfl, rfl, trivial⟩ ?_
    refine XC.seq fun K7 hK7 => ?_
    rw [mpi_none]
    refine XC.region ?_
    refine x_a (r_mm (.int .i64)) rfl fun b31 => ?_
    refine x_v (r_as rfl) rfl ?_
    refine XL.nil ?_
    refine hK7 _ _ ?_
    refine XC.keep [(0, _), (3, _), (4, _), (5, _)] ⟨rfl, rfl, rfl, rfl, trivial⟩ ?_
    refine XC.seq fun K8 hK8 => ?_
    rw [mpe_none]
    refine XC.region ?_
    refine x_a (r_mm (.int .i64)) rfl fun b32 => ?_
    refine x_v (r_as rfl) rfl ?_
    refine XL.nil ?_
    refine hK8 _ _ ?_
    refine XC.keep [(0, _), (3, _), (4, _), (5, _), (6, _)] ⟨rfl, rfl, rfl, rfl, rfl, trivial⟩ ?_
    refine XC.seq fun K9 hK9 => ?_
    refine XC.seq fun K10 hK10 => ?_
    rw [mpi_none]
    refine XC.region ?_
    refine x_v (r_mv rfl) rfl ?_
    refine x_v (r_lensl Try.underlying59 rfl) rfl ?_
    refine x_v (r_mv rfl) rfl ?_
    refine XL.nil ?_
    refine hK10 _ _ ?_
    refine XC.keep [(3, _), (4, _), (5, _), (6, _), (33, _), (34, _), (35, _)] ⟨rfl, rfl, rfl, rfl, rfl, rfl, rfl, trivial⟩ ?_
    refine XC.block ?_
    refine XC.loop (σ := Nat × List NdR × Option Addr × Nat × List (Int × Int × Mx) × HP × Gh × (Int → Log) × (Int → Option Int) × (Int → Option En) × (Int → Option Int)) (fun s => [(3, .pointer (some ⟨sb, 0, none⟩)), (4, .map (some b30)), (5, .map (some b31)), (6, .map (some b32)), (33, .slice XA T.length xc), (34, .int .i64 (T.length : Int)), (35, .int .i64 (s.1 : Int))]) (fun s => mpf b30 (.int .i64) (mpi s.2.2.2.2.2.2.2.2.1) :: mpf b31 (.int .i64) (mpe s.2.2.2.2.2.2.2.2.2.1) :: mpf b32 (.int .i64) (mpi s.2.2.2.2.2.2.2.2.2.2) :: blk sb 68 (sic s.2.1 s.2.2.1 s.2.2.2.2.1.length s.2.2.2.1) :: sl s.2.2.1 s.2.2.2.2.1.length s.2.2.2.1 109 19 (cells fc s.2.2.2.2.1) :: nds s.2.1 :: s.2.2.2.2.2.1 :: Fr) (fun s => s.1 ≤ T.length ∧ SG W0 s.2.2.2.2.2.1 (2 + s.1) s.2.1 s.2.2.2.2.1 s.2.2.2.2.2.2.1 s.2.2.2.2.2.2.2.1 ∧ LI s.2.2.2.2.2.2.1 s.2.2.2.2.2.2.2.2.1 ∧ WI s.2.2.2.2.2.2.1 s.2.2.2.2.2.2.2.2.2.1 s.2.2.2.2.2.2.2.2.2.2) (fun s => T.length - s.1) (0, l, none, 0, [], K, G0, fun _ => [], fun _ => none, fun _ => none, fun _ => none) ?_ ⟨rfl, rfl, rfl, rfl, rfl, rfl, rfl, trivial⟩ (by repeat (first | exact Gets.done _ | exact Gets.all _ | (apply Gets.step; focus ((repeat (first | exact Pick.head _ _ | apply Pick.tail)); done)) | apply Gets.drop)) ?_
    · exact ⟨Nat.zero_le _, hsg, li_none, wi_none⟩
    rintro ⟨i, l, wA, wc, L, K, G, F, lds, said, whn⟩ ⟨hi, hsg, hli, hwi⟩
    dsimp only at hi hsg hli hwi ⊢
    refine XC.seq fun K11 hK11 => ?_
    refine XC.region ?_
    refine x_v (r_lt rfl rfl) rfl ?_
    refine XL.nil ?_
    refine hK11 _ _ ?_
    refine XC.keep [(3, _), (4, _), (5, _), (6, _), (33, _), (34, _), (35, _), (36, _)] ⟨rfl, rfl, rfl, rfl, rfl, rfl, rfl, rfl, trivial⟩ ?_
    refine XC.seq fun K12 hK12 => ?_
    refine XC.cond_d rfl (fun hc2 => ?_) (fun hc2 => ?_)
    · refine XC.skip ?_
      refine hK12 _ _ ?_
      refine XC.keep [(3, _), (4, _), (5, _), (6, _), (33, _), (34, _), (35, _)] ⟨rfl, rfl, rfl, rfl, rfl, rfl, rfl, trivial⟩ ?_
      refine XC.seq fun K13 hK13 => ?_
      refine XC.block ?_
      refine XC.seq fun K14 hK14 => ?_
      obtain ⟨a, ha⟩ : ∃ a, T[i]? = some a := ⟨_, List.getElem?_eq_getElem (by omega)⟩
      obtain ⟨ob, oo, rfl, hat⟩ := (hr []).at_ (by omega)
      refine XC.region ?_
      refine x_v (r_ia (k := i) Try.underlying59 ty63 rfl rfl (by omega) (by omega)) rfl ?_
      refine x_v (r_ldar (l' := actc a) ty63 rfl rfl (fun w hw j u hu => by rw [Nat.add_assoc]; exact hat w (Gets.own (by repeat (first | exact Gets.done _ | exact Gets.all _ | (apply Gets.step; focus ((repeat (first | exact Pick.head _ _ | apply Pick.tail)); done)) | apply Gets.drop)) hw) _ u (cells_get actc_len T _ _ ha j u hu))) rfl ?_
      refine x_a (r_al ty63 rfl) rfl fun b8 => ?_
      refine x_e (r_st ty63 rfl rfl rfl rfl rfl (by repeat (first | exact Upd.head _ _ _ | apply Upd.tail)) (by repeat (first | exact Over.nil _ | apply Over.put | apply Over.skip))) ?_
      refine XL.nil ?_
      refine hK14 _ _ ?_
      refine XC.keep [(3, _), (4, _), (5, _), (6, _), (8, _), (33, _), (34, _), (35, _)] ⟨rfl, rfl, rfl, rfl, rfl, rfl, rfl, rfl, trivial⟩ ?_
      refine XC.seq fun K15 hK15 => ?_
      refine XC.region ?_
      refine x_v (r_mv rfl) rfl ?_
      refine x_v (r_lda (l' := [_, _, _]) ty63 rfl (by repeat (first | exact Pick.head _ _ | apply Pick.tail)) rfl (Sub.get (by repeat (first | exact Sub.nil _ | apply Sub.take | apply Sub.skip)))) rfl ?_
      refine x_c (r_call0 (args := [_, _]) ⟨rfl, rfl, rfl⟩ (acts_tr sb l wA wc L a.1 a.2.1 a.2.2 hsg (by omega)) (by repeat (first | exact Gets.done _ | exact Gets.all _ | (apply Gets.step; focus ((repeat (first | exact Pick.head _ _ | apply Pick.tail)); done)) | apply Gets.drop))) rfl ?_
      rintro _ _ ⟨rfl, l2, A2, c2, L2, K2, G2, F2, rfl, hx2, hsg2, he2⟩
      refine XL.nil ?_
      refine hK15 _ _ ?_
      refine XC.keep [(3, _), (4, _), (5, _), (6, _), (33, _), (34, _), (35, _)] ⟨rfl, rfl, rfl, rfl, rfl, rfl, rfl, trivial⟩ ?_
      refine XC.seq fun K16 hK16 => ?_
      refine XC.region ?_
      refine x_v (r_mv rfl) rfl ?_
      refine x_v (r_nc rfl) rfl ?_
      refine x_v (r_fa fo68_0 rfl) rfl ?_
      refine x_v (r_lda (l' := [_, _, _]) ty65 rfl (by repeat (first | exact Pick.head _ _ | apply Pick.tail)) rfl (Sub.get (by repeat (first | exact Sub.nil _ | apply Sub.take | apply Sub.skip)))) rfl ?_
      refine x_v (r_mv rfl) rfl ?_
      refine XL.nil ?_
      refine hK16 _ _ ?_
      refine XC.keep [(3, _), (4, _), (5, _), (6, _), (33, _), (34, _), (35, _), (45, _), (46, _)] ⟨rfl, rfl, rfl, rfl, rfl, rfl, rfl, rfl, rfl, trivial⟩ ?_
      refine XC.block ?_
      refine XC.loop (σ := Nat × (Int → Option Int) × (Int → Option En) × (Int → Option Int)) (fun s => [(3, .pointer (some ⟨sb, 0, none⟩)), (4, .map (some b30)), (5, .map (some b31)), (6, .map (some b32)), (33, .slice (some ⟨ob, oo, none⟩) T.length xc), (34, .int .i64 (T.length : Int)), (35, .int .i64 (i : Int)), (45, .agg #[pn l2 0, pn l2 1, pn l2 2]), (46, .int .i64 (s.1 : Int))]) (fun s => mpf b30 (.int .i64) (mpi s.2.1) :: mpf b31 (.int .i64) (mpe s.2.2.1) :: mpf b32 (.int .i64) (mpi s.2.2.2) :: blk sb 68 (sic l2 A2 L2.length c2) :: sl A2 L2.length c2 109 19 (cells fc L2) :: nds l2 :: K2 :: Fr) (fun s => s.1 ≤ 3 ∧ LI G2 s.2.1 ∧ WI G2 s.2.2.1 s.2.2.2) (fun s => 3 - s.1) (0, lds, said, whn) ?_ ⟨rfl, rfl, rfl, rfl, rfl, rfl, rfl, rfl, rfl, trivial⟩ (by repeat (first | exact Gets.done _ | exact Gets.all _ | (apply Gets.step; focus ((repeat (first | exact Pick.head _ _ | apply Pick.tail)); done)) | apply Gets.drop)) ?_
      · exact ⟨Nat.zero_le _, hli.ext he2, hwi.ext he2⟩
      rintro ⟨n, lds2, said2, whn2⟩ ⟨hn0, hli2, hwi2⟩
      dsimp only at hn0 hli2 hwi2 ⊢
      refine XC.seq fun K17 hK17 => ?_
      refine XC.region ?_
      refine x_v (r_lt rfl rfl) rfl ?_
      refine XL.nil ?_
      refine hK17 _ _ ?_
      refine XC.keep [(3, _), (4, _), (5, _), (6, _), (33, _), (34, _), (35, _), (45, _), (46, _), (47, _)] ⟨rfl, rfl, rfl, rfl, rfl, rfl, rfl, rfl, rfl, rfl, trivial⟩ ?_
      refine XC.seq fun K18 hK18 => ?_
      refine XC.cond_d rfl (fun hc3 => ?_) (fun hc3 => ?_)
      · refine XC.skip ?_
        refine hK18 _ _ ?_
        refine XC.keep [(3, _), (4, _), (5, _), (6, _), (33, _), (34, _), (35, _), (45, _), (46, _)] ⟨rfl, rfl, rfl, rfl, rfl, rfl, rfl, rfl, rfl, trivial⟩ ?_
        refine XC.seq fun K19 hK19 => ?_
        refine XC.block ?_
        refine XC.seq fun K20 hK20 => ?_
        have hn : Rf.Node (n : Int) := by unfold Rf.Node; omega
        obtain ⟨x, hx⟩ : ∃ x, l2[(n : Int).toNat]? = some x := ⟨_, List.getElem?_eq_getElem (by have := hsg2.ok.len; omega)⟩
        have hxm := List.mem_of_getElem? hx
        have hnx := hsg2.at_ hn hx
        have hpx := hsg2.ok.pb x hxm
        have hLx := hsg2.ok.lim x hxm
        have hb0 := hLx.b0
        have ha0 := hLx.a0
        have ha1 := hLx.a1
        have hmost : most = 1099511627776 := rfl
        refine XC.mem (blk x.b 90 (pc x.p x.A x.c x.M) :: vmo x.M :: nds (l2.eraseIdx (n : Int).toNat) :: mpf b30 (.int .i64) (mpi lds2) :: mpf b31 (.int .i64) (mpe said2) :: mpf b32 (.int .i64) (mpi whn2) :: blk sb 68 (sic l2 A2 L2.length c2) :: sl A2 L2.length c2 109 19 (cells fc L2) :: K2 :: Fr) (fun w h => own_open hx (Gets.own (by repeat (first | exact Gets.done _ | exact Gets.all _ | (apply Gets.step; focus ((repeat (first | exact Pick.head _ _ | apply Pick.tail)); done)) | apply Gets.drop)) h)) ?_
        refine XC.region ?_
        refine x_v (r_mv rfl) rfl ?_
        refine x_v (r_aix (j := n) Try.underlying65 ty23 rfl rfl rfl (by omega) (arr_at hn hx)) rfl ?_
        refine x_v (r_as rfl) rfl ?_
        refine x_v (r_as rfl) rfl ?_
        refine XL.nil ?_
        refine hK20 _ _ ?_
        refine XC.keep [(3, _), (4, _), (5, _), (6, _), (9, _), (10, _), (33, _), (34, _), (35, _), (45, _), (46, _)] ⟨rfl, rfl, rfl, rfl, rfl, rfl, rfl, rfl, rfl, rfl, rfl, trivial⟩ ?_
        refine XC.seq fun K21 hK21 => ?_
        refine XC.region ?_
        refine x_v (r_mv rfl) rfl ?_
        refine x_c (r_call0 (args := [_]) ⟨rfl, rfl⟩ (kept_tr (k := K2) x.b x.M hpx) (by repeat (first | exact Gets.done _ | exact Gets.all _ | (apply Gets.step; focus ((repeat (first | exact Pick.head _ _ | apply Pick.tail)); done)) | apply Gets.drop))) rfl ?_
        rintro _ _ ⟨A51, c51, rfl, rfl⟩
        refine x_a (r_al ty32 rfl) rfl fun b11 => ?_
        refine x_e (r_st ty32 rfl rfl rfl rfl rfl (by repeat (first | exact Upd.head _ _ _ | apply Upd.tail)) (by repeat (first | exact Over.nil _ | apply Over.put | apply Over.skip))) ?_
        refine XL.nil ?_
        refine hK21 _ _ ?_
        refine XC.keep [(3, _), (4, _), (5, _), (6, _), (9, _), (10, _), (11, _), (33, _), (34, _), (35, _), (45, _), (46, _)] ⟨rfl, rfl, rfl, rfl, rfl, rfl, rfl, rfl, rfl, rfl, rfl, rfl, trivial⟩ ?_
        refine XC.seq fun K22 hK22 => ?_
        refine XC.seq fun K23 hK23 => ?_
        refine XC.region ?_
        refine x_v (r_fa fo32_2 rfl) rfl ?_
        refine x_v (r_ld ty3 rfl (by repeat (first | exact Pick.head _ _ | apply Pick.tail)) (by rfl)) rfl ?_
        refine x_v (r_add rfl rfl (by omega)) rfl ?_
        refine x_v (r_as rfl) rfl ?_
        refine XL.nil ?_
        refine hK23 _ _ ?_
        refine XC.keep [(3, _), (4, _), (5, _), (6, _), (9, _), (10, _), (11, _), (12, _), (33, _), (34, _), (35, _), (45, _), (46, _)] ⟨rfl, rfl, rfl, rfl, rfl, rfl, rfl, rfl, rfl, rfl, rfl, rfl, rfl, trivial⟩ ?_
        refine XC.block ?_
        refine XC.loop (σ := Int × (Int → Option En) × (Int → Option Int)) (fun s => [(3, .pointer (some ⟨sb, 0, none⟩)), (4, .map (some b30)), (5, .map (some b31)), (6, .map (some b32)), (9, .int .i64 (n : Int)), (10, .pointer (some ⟨x.b, 0, none⟩)), (11, .pointer (some ⟨b11, 0, none⟩)), (12, .int .i64 s.1), (33, .slice (some ⟨ob, oo, none⟩) T.length xc), (34, .int .i64 (T.length : Int)), (35, .int .i64 (i : Int)), (45, .agg #[pn l2 0, pn l2 1, pn l2 2]), (46, .int .i64 (n : Int))]) (fun s => blk b11 32 [.int .i64 x.p.term, .int .i64 x.p.vote, .int .i64 x.p.base, .int .i64 x.p.bterm, str x.p.snap, .slice A51 x.p.es.length c51] :: blk x.b 90 (pc x.p x.A x.c x.M) :: vmo x.M :: nds (l2.eraseIdx (n : Int).toNat) :: mpf b30 (.int .i64) (mpi lds2) :: mpf b31 (.int .i64) (mpe s.2.1) :: mpf b32 (.int .i64) (mpi s.2.2) :: blk sb 68 (sic l2 A2 L2.length c2) :: sl A2 L2.length c2 109 19 (cells fc L2) :: K2 :: Fr) (fun s => x.p.base < s.1 ∧ s.1 ≤ x.p.agree + 1 ∧ WI G2 s.2.1 s.2.2) (fun s => (x.p.agree + 1 - s.1).toNat) (x.p.base + 1, said2, whn2) ?_ ⟨rfl, rfl, rfl, rfl, rfl, rfl, rfl, rfl, rfl, rfl, rfl, rfl, rfl, trivial⟩ (by repeat (first | exact Gets.done _ | exact Gets.all _ | (apply Gets.step; focus ((repeat (first | exact Pick.head _ _ | apply Pick.tail)); done)) | apply Gets.drop)) ?_
        · exact ⟨by dsimp only; omega, by dsimp only; omega, hwi2⟩
        rintro ⟨i3, said3, whn3⟩ ⟨hi3, hi4, hwi3⟩
        dsimp only at hi3 hi4 hwi3 ⊢
        refine XC.seq fun K24 hK24 => ?_
        refine XC.seq fun K25 hK25 => ?_
        refine XC.region ?_
        refine x_v (r_mv rfl) rfl ?_
        refine x_v (r_mv rfl) rfl ?_
        refine x_c (r_call0 (args := [_]) ⟨rfl, rfl⟩ (commit_tr (p := x.p) x.b x.M) (by repeat (first | exact Gets.done _ | exact Gets.all _ | (apply Gets.step; focus ((repeat (first | exact Pick.head _ _ | apply Pick.tail)); done)) | apply Gets.drop))) rfl ?_
        rintro _ _ ⟨rfl, rfl⟩
        refine x_v (r_le rfl rfl) rfl ?_
        refine XL.nil ?_
        refine hK25 _ _ ?_
        refine XC.keep [(3, _), (4, _), (5, _), (6, _), (9, _), (10, _), (11, _), (12, _), (33, _), (34, _), (35, _), (45, _), (46, _), (58, _)] ⟨rfl, rfl, rfl, rfl, rfl, rfl, rfl, rfl, rfl, rfl, rfl, rfl, rfl, rfl, trivial⟩ ?_
        refine XC.cond_d rfl (fun hc4 => ?_) (fun hc4 => ?_)
        · refine XC.skip ?_
          refine hK24 _ _ ?_
          refine XC.keep [(3, _), (4, _), (5, _), (6, _), (9, _), (10, _), (11, _), (12, _), (33, _), (34, _), (35, _), (45, _), (46, _)] ⟨rfl, rfl, rfl, rfl, rfl, rfl, rfl, rfl, rfl, rfl, rfl, rfl, rfl, trivial⟩ ?_
          refine XC.seq fun K26 hK26 => ?_
          refine XC.block ?_
          refine XC.seq fun K27 hK27 => ?_
          refine XC.region ?_
          refine x_v (r_mv rfl) rfl ?_
          refine x_v (r_mv rfl) rfl ?_
          refine x_v (r_lk Try.underlying35 Try.underlying3 ty48 rfl rfl rfl (by repeat (first | exact Pick.head _ _ | apply Pick.tail))) rfl ?_
          rw [mpe_get, mpe_some]
          refine x_v (r_mv rfl) rfl ?_
          refine x_v (r_ex rfl rfl) rfl ?_
          refine x_v (r_ex rfl rfl) rfl ?_
          refine x_a (r_al ty48 rfl) rfl fun b13 => ?_
          refine x_e (r_st ty48 rfl rfl rfl rfl rfl (by repeat (first | exact Upd.head _ _ _ | apply Upd.tail)) (by repeat (first | exact Over.nil _ | apply Over.put | apply Over.skip))) ?_
          refine x_v (r_as rfl) rfl ?_
          refine XL.nil ?_
          refine hK27 _ _ ?_
          refine XC.keep [(3, _), (4, _), (5, _), (6, _), (9, _), (10, _), (11, _), (12, _), (14, _), (33, _), (34, _), (35, _), (45, _), (46, _)] ⟨rfl, rfl, rfl, rfl, rfl, rfl, rfl, rfl, rfl, rfl, rfl, rfl, rfl, rfl, trivial⟩ ?_
          refine XC.seq fun K28 hK28 => ?_
          refine XC.region ?_
          refine x_v (r_mv rfl) rfl ?_
          refine x_v (r_not rfl) rfl ?_
          refine XL.nil ?_
          refine hK28 _ _ ?_
          refine XC.keep [(3, _), (4, _), (5, _), (6, _), (9, _), (10, _), (11, _), (12, _), (33, _), (34, _), (35, _), (45, _), (46, _), (68, _)] ⟨rfl, rfl, rfl, rfl, rfl, rfl, rfl, rfl, rfl, rfl, rfl, rfl, rfl, rfl, trivial⟩ ?_
          refine XC.cond rfl (fun hc5 => ?_) (fun hc5 => ?_)
          · refine XC.seq fun K29 hK29 => ?_
            obtain ⟨x3, hx3, hobs⟩ := entry_obs hnx hi3 (by omega)
            refine XC.region ?_
            refine x_v (r_mv rfl) rfl ?_
            refine x_v (r_mv rfl) rfl ?_
            refine x_v (r_mv rfl) rfl ?_
            refine x_v (r_mv rfl) rfl ?_
            refine x_c (r_call0 (args := [_, _]) ⟨rfl, rfl, rfl⟩ (entry_tr (k := K2) x.b x.M i3 hpx) (by repeat (first | exact Gets.done _ | exact Gets.all _ | (apply Gets.step; focus ((repeat (first | exact Pick.head _ _ | apply Pick.tail)); done)) | apply Gets.drop))) rfl ?_
            rintro _ _ ⟨rfl, rfl⟩
            rw [hx3]
            dsimp only [Option.getD_some, Option.isSome_some]
            refine x_v (r_mv rfl) rfl ?_
            refine x_v (r_ex rfl rfl) rfl ?_
            refine x_v (r_ex rfl rfl) rfl ?_
            refine x_e (r_mu (mpe (put1 said3 i3 x3)) Try.underlying35 Try.underlying3 rfl rfl rfl rfl (mpe_one said3 i3 x3) (mpe_other said3 i3 x3) (by repeat (first | exact Upd.head _ _ _ | apply Upd.tail))) ?_
            refine XL.nil ?_
            refine hK29 _ _ ?_
            refine XC.keep [(3, _), (4, _), (5, _), (6, _), (9, _), (10, _), (11, _), (12, _), (33, _), (34, _), (35, _), (45, _), (46, _)] ⟨rfl, rfl, rfl, rfl, rfl, rfl, rfl, rfl, rfl, rfl, rfl, rfl, rfl, trivial⟩ ?_
            refine XC.region ?_
            refine x_v (r_mv rfl) rfl ?_
            refine x_v (r_mv rfl) rfl ?_
            refine x_v (r_fa fo32_0 rfl) rfl ?_
            refine x_v (r_ld ty3 rfl (by repeat (first | exact Pick.head _ _ | apply Pick.tail)) (by rfl)) rfl ?_
            refine x_e (r_mu (mpi (puti whn3 i3 x.p.term)) Try.underlying70 Try.underlying3 rfl rfl rfl rfl (mpi_one whn3 i3 x.p.term) (mpi_other whn3 i3 x.p.term) (by repeat (first | exact Upd.head _ _ _ | apply Upd.tail))) ?_
            refine XL.nil ?_
            refine hK26 _ _ ?_
            refine XC.keep [(3, _), (4, _), (5, _), (6, _), (9, _), (10, _), (11, _), (12, _), (33, _), (34, _), (35, _), (45, _), (46, _)] ⟨rfl, rfl, rfl, rfl, rfl, rfl, rfl, rfl, rfl, rfl, rfl, rfl, rfl, trivial⟩ ?_
            refine XC.region ?_
            refine x_v (r_mv rfl) rfl ?_
            refine x_v (r_add rfl rfl (by omega)) rfl ?_
            refine x_v (r_as rfl) rfl ?_
            refine XL.nil ?_
            refine ⟨(i3 + 1, put1 said3 i3 x3, puti whn3 i3 x.p.term), ?_, ?_, ⟨rfl, rfl, rfl, rfl, rfl, rfl, rfl, rfl, rfl, rfl, rfl, rfl, rfl, trivial⟩, (by repeat (first | exact Gets.done _ | exact Gets.all _ | (apply Gets.step; focus ((repeat (first | exact Pick.head _ _ | apply Pick.tail)); done)) | apply Gets.drop))⟩
            · exact ⟨by dsimp only; omega, by dsimp only; omega, hwi3.put hobs⟩
            · dsimp only; omega
          · refine XC.skip ?_
            refine hK26 _ _ ?_
            refine XC.keep [(3, _), (4, _), (5, _), (6, _), (9, _), (10, _), (11, _), (12, _), (33, _), (34, _), (35, _), (45, _), (46, _)] ⟨rfl, rfl, rfl, rfl, rfl, rfl, rfl, rfl, rfl, rfl, rfl, rfl, rfl, trivial⟩ ?_
            refine XC.region ?_
            refine x_v (r_mv rfl) rfl ?_
            refine x_v (r_add rfl rfl (by omega)) rfl ?_
            refine x_v (r_as rfl) rfl ?_
            refine XL.nil ?_
            refine ⟨(i3 + 1, said3, whn3), ?_, ?_, ⟨rfl, rfl, rfl, rfl, rfl, rfl, rfl, rfl, rfl, rfl, rfl, rfl, rfl, trivial⟩, (by repeat (first | exact Gets.done _ | exact Gets.all _ | (apply Gets.step; focus ((repeat (first | exact Pick.head _ _ | apply Pick.tail)); done)) | apply Gets.drop))⟩
            · exact ⟨by dsimp only; omega, by dsimp only; omega, hwi3⟩
            · dsimp only; omega
        · refine XC.exit rfl ?_
          refine hK22 _ _ ?_
          refine XC.keep [(3, _), (4, _), (5, _), (6, _), (9, _), (10, _), (11, _), (33, _), (34, _), (35, _), (45, _), (46, _)] ⟨rfl, rfl, rfl, rfl, rfl, rfl, rfl, rfl, rfl, rfl, rfl, rfl, trivial⟩ ?_
          refine XC.seq fun K30 hK30 => ?_
          refine XC.seq fun K31 hK31 => ?_
          refine XC.region ?_
          refine x_v (r_mv rfl) rfl ?_
          refine x_c (r_call0 (args := [_]) ⟨rfl, rfl⟩ (role_tr (p := x.p) x.b x.M) (by repeat (first | exact Gets.done _ | exact Gets.all _ | (apply Gets.step; focus ((repeat (first | exact Pick.head _ _ | apply Pick.tail)); done)) | apply Gets.drop))) rfl ?_
          rintro _ _ ⟨rfl, rfl⟩
          refine x_v (r_ne rfl rfl) rfl ?_
          refine XL.nil ?_
          refine hK31 _ _ ?_
          refine XC.keep [(3, _), (4, _), (5, _), (6, _), (9, _), (10, _), (11, _), (33, _), (34, _), (35, _), (45, _), (46, _), (83, _)] ⟨rfl, rfl, rfl, rfl, rfl, rfl, rfl, rfl, rfl, rfl, rfl, rfl, rfl, trivial⟩ ?_
          refine XC.cond_d rfl (fun hc6 => ?_) (fun hc6 => ?_)
          · refine XC.exit rfl ?_
            refine hK19 _ _ ?_
            refine XC.keep [(3, _), (4, _), (5, _), (6, _), (33, _), (34, _), (35, _), (45, _), (46, _)] ⟨rfl, rfl, rfl, rfl, rfl, rfl, rfl, rfl, rfl, trivial⟩ ?_
            refine XC.shutN hx (by repeat (first | exact Pick.head _ _ | apply Pick.tail)) (by repeat (first | exact Pick.head _ _ | apply Pick.tail)) (by repeat (first | exact Pick.head _ _ | apply Pick.tail)) ?_
            refine XC.region ?_
            refine x_v (r_add rfl rfl (by omega)) rfl ?_
            refine x_v (r_mv rfl) rfl ?_
            refine XL.nil ?_
            refine ⟨(n + 1, lds2, said3, whn3), ?_, ?_, ⟨rfl, rfl, rfl, rfl, rfl, rfl, rfl, rfl, rfl, trivial⟩, (by repeat (first | exact Gets.done _ | exact Gets.all _ | (apply Gets.step; focus ((repeat (first | exact Pick.head _ _ | apply Pick.tail)); done)) | apply Gets.drop))⟩
            · exact ⟨by dsimp only; omega, hli2, hwi3⟩
            · dsimp only; omega
          · refine XC.skip ?_
            refine hK30 _ _ ?_
            refine XC.keep [(3, _), (4, _), (5, _), (6, _), (9, _), (10, _), (11, _), (33, _), (34, _), (35, _), (45, _), (46, _)] ⟨rfl, rfl, rfl, rfl, rfl, rfl, rfl, rfl, rfl, rfl, rfl, rfl, trivial⟩ ?_
            refine XC.seq fun K32 hK32 => ?_
            refine XC.seq fun K33 hK33 => ?_
            have hrole : x.p.role = 2 := Classical.not_not.1 hc6
            have hlo : G2.ld x.p.term = (n : Int) ∧ G2.LL x.p.term ≠ [] := ⟨(hnx.lead hrole).1, (hnx.lead hrole).2.2.1⟩
            refine XC.region ?_
            refine x_v (r_mv rfl) rfl ?_
            refine x_v (r_fa fo32_0 rfl) rfl ?_
            refine x_v (r_ld ty3 rfl (by repeat (first | exact Pick.head _ _ | apply Pick.tail)) (by rfl)) rfl ?_
            refine x_v (r_lk Try.underlying70 Try.underlying3 ty3 rfl rfl rfl (by repeat (first | exact Pick.head _ _ | apply Pick.tail))) rfl ?_
            rw [mpi_get, mpi_some]
            refine x_v (r_mv rfl) rfl ?_
            refine x_v (r_ex rfl rfl) rfl ?_
            refine x_v (r_ex rfl rfl) rfl ?_
            refine x_v (r_as rfl) rfl ?_
            refine x_v (r_as rfl) rfl ?_
            refine XL.nil ?_
            refine hK33 _ _ ?_
            refine XC.keep [(3, _), (4, _), (5, _), (6, _), (9, _), (10, _), (11, _), (15, _), (16, _), (33, _), (34, _), (35, _), (45, _), (46, _)] ⟨rfl, rfl, rfl, rfl, rfl, rfl, rfl, rfl, rfl, rfl, rfl, rfl, rfl, rfl, trivial⟩ ?_
            refine XC.seq fun K34 hK34 => ?_
            refine XC.region ?_
            refine x_v (r_mv rfl) rfl ?_
            refine x_v (r_mv rfl) rfl ?_
            refine XL.split 92 rfl (fun hg92 => ?_) (fun hg92 => ?_)
            · refine x_want rfl rfl rfl ?_
              refine x_v (r_mv rfl) rfl ?_
              refine x_want rfl rfl rfl ?_
              refine x_v (r_mv rfl) rfl ?_
              refine x_want rfl rfl rfl ?_
              refine x_v (r_ne rfl rfl) rfl ?_
              refine x_v (r_pk_t rfl rfl) rfl ?_
              refine XL.nil ?_
              refine hK34 _ _ ?_
              refine XC.keep [(3, _), (4, _), (5, _), (6, _), (9, _), (10, _), (11, _), (33, _), (34, _), (35, _), (45, _), (46, _), (96, _)] ⟨rfl, rfl, rfl, rfl, rfl, rfl, rfl, rfl, rfl, rfl, rfl, rfl, rfl, trivial⟩ ?_
              refine XC.cond_d rfl (fun hc7 => ?_) (fun hc7 => ?_)
              · refine XC.seq fun K35 hK35 => ?_
                refine XC.region ?_
                refine x_v (r_as rfl) rfl ?_
                refine XL.nil ?_
                refine hK35 _ _ ?_
                refine XC.keep [(2, _)] ⟨rfl, trivial⟩ ?_
                refine XC.ret ?_
                exact absurd (li_odd hli2 hlo.1 hg92) hc7
              · refine XC.skip ?_
                refine hK32 _ _ ?_
                refine XC.keep [(3, _), (4, _), (5, _), (6, _), (9, _), (10, _), (11, _), (33, _), (34, _), (35, _), (45, _), (46, _)] ⟨rfl, rfl, rfl, rfl, rfl, rfl, rfl, rfl, rfl, rfl, rfl, rfl, trivial⟩ ?_
                refine XC.seq fun K36 hK36 => ?_
                refine XC.region ?_
                refine x_v (r_mv rfl) rfl ?_
                refine x_v (r_fa fo32_0 rfl) rfl ?_
                refine x_v (r_ld ty3 rfl (by repeat (first | exact Pick.head _ _ | apply Pick.tail)) (by rfl)) rfl ?_
                refine x_v (r_mv rfl) rfl ?_
                refine x_e (r_mu (mpi (puti lds2 x.p.term (n : Int))) Try.underlying70 Try.underlying3 rfl rfl rfl rfl (mpi_one lds2 x.p.term (n : Int)) (mpi_other lds2 x.p.term (n : Int)) (by repeat (first | exact Upd.head _ _ _ | apply Upd.tail))) ?_
                refine XL.nil ?_
                refine hK36 _ _ ?_
                refine XC.keep [(3, _), (4, _), (5, _), (6, _), (10, _), (11, _), (33, _), (34, _), (35, _), (45, _), (46, _)] ⟨rfl, rfl, rfl, rfl, rfl, rfl, rfl, rfl, rfl, rfl, rfl, trivial⟩ ?_
                refine XC.seq fun K37 hK37 => ?_
                refine XC.region ?_
                refine x_v (r_mv rfl) rfl ?_
                refine x_a (r_rg Try.underlying35 rfl (by repeat (first | exact Pick.head _ _ | apply Pick.tail))) rfl fun ⟨r102, n102⟩ => ?_
                refine XL.nil ?_
                refine hK37 _ _ ?_
                refine XC.keep [(3, _), (4, _), (5, _), (6, _), (10, _), (11, _), (33, _), (34, _), (35, _), (45, _), (46, _), (102, _)] ⟨rfl, rfl, rfl, rfl, rfl, rfl, rfl, rfl, rfl, rfl, rfl, rfl, trivial⟩ ?_
                refine XC.block ?_
                refine XC.loop (σ := Nat) (fun s => [(3, .pointer (some ⟨sb, 0, none⟩)), (4, .map (some b30)), (5, .map (some b31)), (6, .map (some b32)), (10, .pointer (some ⟨x.b, 0, none⟩)), (11, .pointer (some ⟨b11, 0, none⟩)), (33, .slice (some ⟨ob, oo, none⟩) T.length xc), (34, .int .i64 (T.length : Int)), (35, .int .i64 (i : Int)), (45, .agg #[pn l2 0, pn l2 1, pn l2 2]), (46, .int .i64 (n : Int)), (102, .pointer (some ⟨r102, 0, none⟩))]) (fun s => mit r102 b31 (.int .i64) (mpe said3) s :: blk b11 32 [.int .i64 x.p.term, .int .i64 x.p.vote, .int .i64 x.p.base, .int .i64 x.p.bterm, str x.p.snap, .slice A51 x.p.es.length c51] :: blk x.b 90 (pc x.p x.A x.c x.M) :: vmo x.M :: nds (l2.eraseIdx (n : Int).toNat) :: mpf b30 (.int .i64) (mpi (puti lds2 x.p.term (n : Int))) :: mpf b32 (.int .i64) (mpi whn3) :: blk sb 68 (sic l2 A2 L2.length c2) :: sl A2 L2.length c2 109 19 (cells fc L2) :: K2 :: Fr) (fun s => True) (fun s => s) n102 ?_ ⟨rfl, rfl, rfl, rfl, rfl, rfl, rfl, rfl, rfl, rfl, rfl, rfl, trivial⟩ (by repeat (first | exact Gets.done _ | exact Gets.all _ | (apply Gets.step; focus ((repeat (first | exact Pick.head _ _ | apply Pick.tail)); done)) | apply Gets.drop)) ?_
                · trivial
                rintro m _
                refine XC.seq fun K38 hK38 => ?_
                refine XC.region ?_
                refine x_a (r_nx rfl (by repeat (first | exact Pick.head _ _ | apply Pick.tail))) rfl fun q103 => ?_
                rcases q103 with _ | ⟨k103, v103⟩ <;> dsimp only
                · refine XL.turn (mit r102 b31 (.int .i64) (mpe said3) m) (mpf b31 (.int .i64) (mpe said3)) (by repeat (first | exact Pick.head _ _ | apply Pick.tail)) (fun w h => h.mit_map) ?_
                  refine x_v (r_ex rfl rfl) rfl ?_
                  refine XL.nil ?_
                  refine hK38 _ _ ?_
                  refine XC.keep [(3, _), (4, _), (5, _), (6, _), (10, _), (11, _), (33, _), (34, _), (35, _), (45, _), (46, _), (102, _), (104, _)] ⟨rfl, rfl, rfl, rfl, rfl, rfl, rfl, rfl, rfl, rfl, rfl, rfl, rfl, trivial⟩ ?_
                  refine XC.seq fun K39 hK39 => ?_
                  refine XC.cond_f rfl ?_
                  refine XC.exit rfl ?_
                  refine hK19 _ _ ?_
                  refine XC.keep [(3, _), (4, _), (5, _), (6, _), (33, _), (34, _), (35, _), (45, _), (46, _)] ⟨rfl, rfl, rfl, rfl, rfl, rfl, rfl, rfl, rfl, trivial⟩ ?_
                  refine XC.shutN hx (by repeat (first | exact Pick.head _ _ | apply Pick.tail)) (by repeat (first | exact Pick.head _ _ | apply Pick.tail)) (by repeat (first | exact Pick.head _ _ | apply Pick.tail)) ?_
                  refine XC.region ?_
                  refine x_v (r_add rfl rfl (by omega)) rfl ?_
                  refine x_v (r_mv rfl) rfl ?_
                  refine XL.nil ?_
                  refine ⟨(n + 1, puti lds2 x.p.term (n : Int), said3, whn3), ?_, ?_, ⟨rfl, rfl, rfl, rfl, rfl, rfl, rfl, rfl, rfl, trivial⟩, (by repeat (first | exact Gets.done _ | exact Gets.all _ | (apply Gets.step; focus ((repeat (first | exact Pick.head _ _ | apply Pick.tail)); done)) | apply Gets.drop))⟩
                  · exact ⟨by dsimp only; omega, hli2.put hlo.2 hlo.1, hwi3⟩
                  · dsimp only; omega
                · refine XL.fact (fun w h => (h.pick (by repeat (first | exact Pick.head _ _ | apply Pick.tail)) : Own _ w (mie r102 b31 (.int .i64) (mpe said3) m k103 v103 :: _)).mie_fact) fun hfact => ?_
                  obtain ⟨i5, e5, rfl, hs5, rfl⟩ := mpe_inv hfact.1
                  have hm5 := hfact.2.1
                  obtain ⟨T5, hw5, ho5⟩ := hwi3 _ _ hs5
                  refine x_v (r_ex rfl rfl) rfl ?_
                  refine XL.nil ?_
                  refine hK38 _ _ ?_
                  refine XC.keep [(3, _), (4, _), (5, _), (6, _), (10, _), (11, _), (33, _), (34, _), (35, _), (45, _), (46, _), (102, _), (104, _)] ⟨rfl, rfl, rfl, rfl, rfl, rfl, rfl, rfl, rfl, rfl, rfl, rfl, rfl, trivial⟩ ?_
                  refine XC.seq fun K40 hK40 => ?_
                  refine XC.cond_t rfl ?_
                  refine XC.skip ?_
                  refine hK40 _ _ ?_
                  refine XC.keep [(3, _), (4, _), (5, _), (6, _), (10, _), (11, _), (33, _), (34, _), (35, _), (45, _), (46, _), (102, _)] ⟨rfl, rfl, rfl, rfl, rfl, rfl, rfl, rfl, rfl, rfl, rfl, rfl, trivial⟩ ?_
                  refine XC.block ?_
                  refine XC.seq fun K41 hK41 => ?_
                  refine XC.region ?_
                  refine x_v (r_en rfl (by repeat (first | exact Pick.head _ _ | apply Pick.tail))) rfl ?_
                  refine x_v (r_ex rfl rfl) rfl ?_
                  refine x_v (r_ex rfl rfl) rfl ?_
                  refine x_a (r_al ty48 rfl) rfl fun b18 => ?_
                  refine x_v (r_as rfl) rfl ?_
                  refine x_e (r_st ty48 rfl rfl rfl rfl rfl (by repeat (first | exact Upd.head _ _ _ | apply Upd.tail)) (by repeat (first | exact Over.nil _ | apply Over.put | apply Over.skip))) ?_
                  refine XL.nil ?_
                  refine hK41 _ _ ?_
                  refine XC.keep [(3, _), (4, _), (5, _), (6, _), (10, _), (11, _), (17, _), (18, _), (33, _), (34, _), (35, _), (45, _), (46, _), (102, _)] ⟨rfl, rfl, rfl, rfl, rfl, rfl, rfl, rfl, rfl, rfl, rfl, rfl, rfl, rfl, trivial⟩ ?_
                  refine XC.seq fun K42 hK42 => ?_
                  refine XC.turn (mie r102 b31 (.int .i64) (mpe said3) m (.int .i64 i5) (.agg (ec e5).toArray)) (mit r102 b31 (.int .i64) (mpe said3) (m - 1)) (by repeat (first | exact Pick.head _ _ | apply Pick.tail)) (fun w h => h.mie_mit) ?_
                  refine XC.region ?_
                  refine x_v (r_mv rfl) rfl ?_
                  refine x_v (r_mv rfl) rfl ?_
                  refine x_c (r_call0 (args := [_, _]) ⟨rfl, rfl, rfl⟩ (entry_tr (k := K2) x.b x.M i5 hpx) (by repeat (first | exact Gets.done _ | exact Gets.all _ | (apply Gets.step; focus ((repeat (first | exact Pick.head _ _ | apply Pick.tail)); done)) | apply Gets.drop))) rfl ?_
                  rintro _ _ ⟨rfl, rfl⟩
                  refine x_v (r_mv rfl) rfl ?_
                  refine x_v (r_ex rfl rfl) rfl ?_
                  refine x_v (r_ex rfl rfl) rfl ?_
                  refine x_a (r_al ty48 rfl) rfl fun b19 => ?_
                  refine x_e (r_st ty48 rfl rfl rfl rfl rfl (by repeat (first | exact Upd.head _ _ _ | apply Upd.tail)) (by repeat (first | exact Over.nil _ | apply Over.put | apply Over.skip))) ?_
                  refine x_v (r_as rfl) rfl ?_
                  refine XL.nil ?_
                  refine hK42 _ _ ?_
                  refine XC.keep [(3, _), (4, _), (5, _), (6, _), (10, _), (11, _), (17, _), (18, _), (19, _), (20, _), (33, _), (34, _), (35, _), (45, _), (46, _), (102, _)] ⟨rfl, rfl, rfl, rfl, rfl, rfl, rfl, rfl, rfl, rfl, rfl, rfl, rfl, rfl, rfl, rfl, trivial⟩ ?_
                  refine XC.seq fun K43 hK43 => ?_
                  refine XC.region ?_
                  refine x_v (r_mv rfl) rfl ?_
                  refine x_v (r_mv rfl) rfl ?_
                  refine x_v (r_lk1 Try.underlying70 Try.underlying3 ty3 rfl rfl rfl (by repeat (first | exact Pick.head _ _ | apply Pick.tail))) rfl ?_
                  rw [mpi_get, hw5]
                  dsimp only [Option.getD_some]
                  refine x_v (r_fa fo32_0 rfl) rfl ?_
                  refine x_v (r_ld ty3 rfl (by repeat (first | exact Pick.head _ _ | apply Pick.tail)) (by rfl)) rfl ?_
                  refine x_v (r_lt rfl rfl) rfl ?_
                  refine x_v (r_mv rfl) rfl ?_
                  refine XL.splitd 120 rfl (fun hg120 => ?_) (fun hg120 => ?_)
                  · refine x_want rfl rfl rfl ?_
                    refine x_v (r_mv rfl) rfl ?_
                    refine x_want rfl rfl rfl ?_
                    refine x_v (r_fa fo32_2 rfl) rfl ?_
                    refine x_want rfl rfl rfl ?_
                    refine x_v (r_ld ty3 rfl (by repeat (first | exact Pick.head _ _ | apply Pick.tail)) (by rfl)) rfl ?_
                    refine x_want rfl rfl rfl ?_
                    refine x_v (r_gt rfl rfl) rfl ?_
                    refine x_v (r_pk_t rfl rfl) rfl ?_
                    refine x_v (r_mv rfl) rfl ?_
                    refine XL.splitd 126 rfl (fun hg126 => ?_) (fun hg126 => ?_)
                    · refine x_want rfl rfl rfl ?_
                      refine x_v (r_mv rfl) rfl ?_
                      refine x_want rfl rfl rfl ?_
                      refine x_v (r_not rfl) rfl ?_
                      refine x_want rfl rfl rfl ?_
                      refine x_v (r_mv rfl) rfl ?_
                      refine XL.split 129 rfl (fun hg129 => ?_) (fun hg129 => ?_)
                      · refine x_unwant rfl rfl rfl rfl rfl ?_
                        refine x_unwant rfl rfl rfl rfl rfl ?_
                        refine x_unwant rfl rfl rfl rfl rfl ?_
                        refine x_want rfl rfl rfl ?_
                        refine x_v (r_pk_t rfl rfl) rfl ?_
                        refine x_v (r_pk_t rfl rfl) rfl ?_
                        refine XL.nil ?_
                        refine hK43 _ _ ?_
                        refine XC.keep [(3, _), (4, _), (5, _), (6, _), (10, _), (11, _), (33, _), (34, _), (35, _), (45, _), (46, _), (102, _), (134, _)] ⟨rfl, rfl, rfl, rfl, rfl, rfl, rfl, rfl, rfl, rfl, rfl, rfl, rfl, trivial⟩ ?_
                        refine XC.cond_t rfl ?_
                        refine XC.seq fun K44 hK44 => ?_
                        refine XC.region ?_
                        refine x_v (r_as rfl) rfl ?_
                        refine XL.nil ?_
                        refine hK44 _ _ ?_
                        refine XC.keep [(2, _)] ⟨rfl, trivial⟩ ?_
                        refine XC.ret ?_
                        (have hle := leader_has hsg2.inv.g hnx hrole ho5 hg120 hg126; rw [hle] at hg129; cases hg129)
                      · refine x_want rfl rfl rfl ?_
                        refine x_v (r_lda (l' := [_, _]) ty48 rfl (by repeat (first | exact Pick.head _ _ | apply Pick.tail)) rfl (Sub.get (by repeat (first | exact Sub.nil _ | apply Sub.take | apply Sub.skip)))) rfl ?_
                        refine x_want rfl rfl rfl ?_
                        refine x_v (r_lda (l' := [_, _]) ty48 rfl (by repeat (first | exact Pick.head _ _ | apply Pick.tail)) rfl (Sub.get (by repeat (first | exact Sub.nil _ | apply Sub.take | apply Sub.skip)))) rfl ?_
                        refine x_want rfl rfl rfl ?_
                        refine x_v (r_stne (by kernel_rfl) (fun w => eq48 _ _ _ _ w) rfl rfl) rfl ?_
                        refine x_want rfl rfl rfl ?_
                        refine x_v (r_pk_f rfl rfl) rfl ?_
                        refine x_v (r_pk_t rfl rfl) rfl ?_
                        refine XL.nil ?_
                        refine hK43 _ _ ?_
                        refine XC.keep [(3, _), (4, _), (5, _), (6, _), (10, _), (11, _), (33, _), (34, _), (35, _), (45, _), (46, _), (102, _), (134, _)] ⟨rfl, rfl, rfl, rfl, rfl, rfl, rfl, rfl, rfl, rfl, rfl, rfl, rfl, trivial⟩ ?_
                        refine XC.cond_d rfl (fun hc11 => ?_) (fun hc11 => ?_)
                        · refine XC.seq fun K45 hK45 => ?_
                          refine XC.region ?_
                          refine x_v (r_as rfl) rfl ?_
                          refine XL.nil ?_
                          refine hK45 _ _ ?_
                          refine XC.keep [(2, _)] ⟨rfl, trivial⟩ ?_
                          refine XC.ret ?_
                          (have hle := leader_has hsg2.inv.g hnx hrole ho5 hg120 hg126; rw [hle] at hc11; exact absurd ⟨rfl, rfl⟩ hc11)
                        · refine XC.skip ?_
                          refine ⟨m - 1, ?_, ?_, ⟨rfl, rfl, rfl, rfl, rfl, rfl, rfl, rfl, rfl, rfl, rfl, rfl, trivial⟩, (by repeat (first | exact Gets.done _ | exact Gets.all _ | (apply Gets.step; focus ((repeat (first | exact Pick.head _ _ | apply Pick.tail)); done)) | apply Gets.drop))⟩
                          · trivial
                          · omega
                    · refine x_unwant rfl rfl rfl rfl rfl ?_
                      refine x_unwant rfl rfl rfl rfl rfl ?_
                      refine x_unwant rfl rfl rfl rfl rfl ?_
                      refine x_unwantu rfl rfl rfl rfl rfl ?_
                      refine x_unwantu rfl rfl rfl rfl rfl ?_
                      refine x_unwantu rfl rfl rfl rfl rfl ?_
                      refine x_unwant rfl rfl rfl rfl rfl ?_
                      refine x_v (r_pk_f rfl rfl) rfl ?_
                      refine XL.nil ?_
                      refine hK43 _ _ ?_
                      refine XC.keep [(3, _), (4, _), (5, _), (6, _), (10, _), (11, _), (33, _), (34, _), (35, _), (45, _), (46, _), (102, _), (134, _)] ⟨rfl, rfl, rfl, rfl, rfl, rfl, rfl, rfl, rfl, rfl, rfl, rfl, rfl, trivial⟩ ?_
                      refine XC.cond_f rfl ?_
                      refine XC.skip ?_
                      refine ⟨m - 1, ?_, ?_, ⟨rfl, rfl, rfl, rfl, rfl, rfl, rfl, rfl, rfl, rfl, rfl, rfl, trivial⟩, (by repeat (first | exact Gets.done _ | exact Gets.all _ | (apply Gets.step; focus ((repeat (first | exact Pick.head _ _ | apply Pick.tail)); done)) | apply Gets.drop))⟩
                      · trivial
                      · omega
                  · refine x_unwant rfl rfl rfl rfl rfl ?_
                    refine x_unwant rfl rfl rfl rfl rfl ?_
                    refine x_unwant rfl rfl rfl rfl rfl ?_
                    refine x_unwant rfl rfl rfl rfl rfl ?_
                    refine x_v (r_pk_f rfl rfl) rfl ?_
                    refine x_v (r_mv rfl) rfl ?_
                    refine x_unwant rfl rfl rfl rfl rfl ?_
                    refine x_unwant rfl rfl rfl rfl rfl ?_
                    refine x_unwant rfl rfl rfl rfl rfl ?_
                    refine x_unwantu rfl rfl rfl rfl rfl ?_
                    refine x_unwantu rfl rfl rfl rfl rfl ?_
                    refine x_unwantu rfl rfl rfl rfl rfl ?_
                    refine x_unwant rfl rfl rfl rfl rfl ?_
                    refine x_v (r_pk_f rfl rfl) rfl ?_
                    refine XL.nil ?_
                    refine hK43 _ _ ?_
                    refine XC.keep [(3, _), (4, _), (5, _), (6, _), (10, _), (11, _), (33, _), (34, _), (35, _), (45, _), (46, _), (102, _), (134, _)] ⟨rfl, rfl, rfl, rfl, rfl, rfl, rfl, rfl, rfl, rfl, rfl, rfl, rfl, trivial⟩ ?_
                    refine XC.cond_f rfl ?_
                    refine XC.skip ?_
                    refine ⟨m - 1, ?_, ?_, ⟨rfl, rfl, rfl, rfl, rfl, rfl, rfl, rfl, rfl, rfl, rfl, rfl, trivial⟩, (by repeat (first | exact Gets.done _ | exact Gets.all _ | (apply Gets.step; focus ((repeat (first | exact Pick.head _ _ | apply Pick.tail)); done)) | apply Gets.drop))⟩
                    · trivial
                    · omega
            · refine x_unwant rfl rfl rfl rfl rfl ?_
              refine x_unwant rfl rfl rfl rfl rfl ?_
              refine x_unwant rfl rfl rfl rfl rfl ?_
              refine x_v (r_pk_f rfl rfl) rfl ?_
              refine XL.nil ?_
              refine hK34 _ _ ?_
              refine XC.keep [(3, _), (4, _), (5, _), (6, _), (9, _), (10, _), (11, _), (33, _), (34, _), (35, _), (45, _), (46, _), (96, _)] ⟨rfl, rfl, rfl, rfl, rfl, rfl, rfl, rfl, rfl, rfl, rfl, rfl, rfl, trivial⟩ ?_
              refine XC.cond_f rfl ?_
              refine XC.skip ?_
              refine hK32 _ _ ?_
              refine XC.keep [(3, _), (4, _), (5, _), (6, _), (9, _), (10, _), (11, _), (33, _), (34, _), (35, _), (45, _), (46, _)] ⟨rfl, rfl, rfl, rfl, rfl, rfl, rfl, rfl, rfl, rfl, rfl, rfl, trivial⟩ ?_
              refine XC.seq fun K46 hK46 => ?_
              refine XC.region ?_
              refine x_v (r_mv rfl) rfl ?_
              refine x_v (r_fa fo32_0 rfl) rfl ?_
              refine x_v (r_ld ty3 rfl (by repeat (first | exact Pick.head _ _ | apply Pick.tail)) (by rfl)) rfl ?_
              refine x_v (r_mv rfl) rfl ?_
              refine x_e (r_mu (mpi (puti lds2 x.p.term (n : Int))) Try.underlying70 Try.underlying3 rfl rfl rfl rfl (mpi_one lds2 x.p.term (n : Int)) (mpi_other lds2 x.p.term (n : Int)) (by repeat (first | exact Upd.head _ _ _ | apply Upd.tail))) ?_
              refine XL.nil ?_
              refine hK46 _ _ ?_
              refine XC.keep [(3, _), (4, _), (5, _), (6, _), (10, _), (11, _), (33, _), (34, _), (35, _), (45, _), (46, _)] ⟨rfl, rfl, rfl, rfl, rfl, rfl, rfl, rfl, rfl, rfl, rfl, trivial⟩ ?_
              refine XC.seq fun K47 hK47 => ?_
              refine XC.region ?_
              refine x_v (r_mv rfl) rfl ?_
              refine x_a (r_rg Try.underlying35 rfl (by repeat (first | exact Pick.head _ _ | apply Pick.tail))) rfl fun ⟨r102, n102⟩ => ?_
              refine XL.nil ?_
              refine hK47 _ _ ?_
              refine XC.keep [(3, _), (4, _), (5, _), (6, _), (10, _), (11, _), (33, _), (34, _), (35, _), (45, _), (46, _), (102, _)] ⟨rfl, rfl, rfl, rfl, rfl, rfl, rfl, rfl, rfl, rfl, rfl, rfl, trivial⟩ ?_
              refine XC.block ?_
              refine XC.loop (σ := Nat) (fun s => [(3, .pointer (some ⟨sb, 0, none⟩)), (4, .map (some b30)), (5, .map (some b31)), (6, .map (some b32)), (10, .pointer (some ⟨x.b, 0, none⟩)), (11, .pointer (some ⟨b11, 0, none⟩)), (33, .slice (some ⟨ob, oo, none⟩) T.length xc), (34, .int .i64 (T.length : Int)), (35, .int .i64 (i : Int)), (45, .agg #[pn l2 0, pn l2 1, pn l2 2]), (46, .int .i64 (n : Int)), (102, .pointer (some ⟨r102, 0, none⟩))]) (fun s => mit r102 b31 (.int .i64) (mpe said3) s :: blk b11 32 [.int .i64 x.p.term, .int .i64 x.p.vote, .int .i64 x.p.base, .int .i64 x.p.bterm, str x.p.snap, .slice A51 x.p.es.length c51] :: blk x.b 90 (pc x.p x.A x.c x.M) :: vmo x.M :: nds (l2.eraseIdx (n : Int).toNat) :: mpf b30 (.int .i64) (mpi (puti lds2 x.p.term (n : Int))) :: mpf b32 (.int .i64) (mpi whn3) :: blk sb 68 (sic l2 A2 L2.length c2) :: sl A2 L2.length c2 109 19 (cells fc L2) :: K2 :: Fr) (fun s => True) (fun s => s) n102 ?_ ⟨rfl, rfl, rfl, rfl, rfl, rfl, rfl, rfl, rfl, rfl, rfl, rfl, trivial⟩ (by repeat (first | exact Gets.done _ | exact Gets.all _ | (apply Gets.step; focus ((repeat (first | exact Pick.head _ _ | apply Pick.tail)); done)) | apply Gets.drop)) ?_
              · trivial
              rintro m _
              refine XC.seq fun K48 hK48 => ?_
              refine XC.region ?_
              refine x_a (r_nx rfl (by repeat (first | exact Pick.head _ _ | apply Pick.tail))) rfl fun q103 => ?_
              rcases q103 with _ | ⟨k103, v103⟩ <;> dsimp only
              · refine XL.turn (mit r102 b31 (.int .i64) (mpe said3) m) (mpf b31 (.int .i64) (mpe said3)) (by repeat (first | exact Pick.head _ _ | apply Pick.tail)) (fun w h => h.mit_map) ?_
                refine x_v (r_ex rfl rfl) rfl ?_
                refine XL.nil ?_
                refine hK48 _ _ ?_
                refine XC.keep [(3, _), (4, _), (5, _), (6, _), (10, _), (11, _), (33, _), (34, _), (35, _), (45, _), (46, _), (102, _), (104, _)] ⟨rfl, rfl, rfl, rfl, rfl, rfl, rfl, rfl, rfl, rfl, rfl, rfl, rfl, trivial⟩ ?_
                refine XC.seq fun K49 hK49 => ?_
                refine XC.cond_f rfl ?_
                refine XC.exit rfl ?_
                refine hK19 _ _ ?_
                refine XC.keep [(3, _), (4, _), (5, _), (6, _), (33, _), (34, _), (35, _), (45, _), (46, _)] ⟨rfl, rfl, rfl, rfl, rfl, rfl, rfl, rfl, rfl, trivial⟩ ?_
                refine XC.shutN hx (by repeat (first | exact Pick.head _ _ | apply Pick.tail)) (by repeat (first | exact Pick.head _ _ | apply Pick.tail)) (by repeat (first | exact Pick.head _ _ | apply Pick.tail)) ?_
                refine XC.region ?_
                refine x_v (r_add rfl rfl (by omega)) rfl ?_
                refine x_v (r_mv rfl) rfl ?_
                refine XL.nil ?_
                refine ⟨(n + 1, puti lds2 x.p.term (n : Int), said3, whn3), ?_, ?_, ⟨rfl, rfl, rfl, rfl, rfl, rfl, rfl, rfl, rfl, trivial⟩, (by repeat (first | exact Gets.done _ | exact Gets.all _ | (apply Gets.step; focus ((repeat (first | exact Pick.head _ _ | apply Pick.tail)); done)) | apply Gets.drop))⟩
                · exact ⟨by dsimp only; omega, hli2.put hlo.2 hlo.1, hwi3⟩
                · dsimp only; omega
              · refine XL.fact (fun w h => (h.pick (by repeat (first | exact Pick.head _ _ | apply Pick.tail)) : Own _ w (mie r102 b31 (.int .i64) (mpe said3) m k103 v103 :: _)).mie_fact) fun hfact => ?_
                obtain ⟨i5, e5, rfl, hs5, rfl⟩ := mpe_inv hfact.1
                have hm5 := hfact.2.1
                obtain ⟨T5, hw5, ho5⟩ := hwi3 _ _ hs5
                refine x_v (r_ex rfl rfl) rfl ?_
                refine XL.nil ?_
                refine hK48 _ _ ?_
                refine XC.keep [(3, _), (4, _), (5, _), (6, _), (10, _), (11, _), (33, _), (34, _), (35, _), (45, _), (46, _), (102, _), (104, _)] ⟨rfl, rfl, rfl, rfl, rfl, rfl, rfl, rfl, rfl, rfl, rfl, rfl, rfl, trivial⟩ ?_
                refine XC.seq fun K50 hK50 => ?_
                refine XC.cond_t rfl ?_
                refine XC.skip ?_
                refine hK50 _ _ ?_
                refine XC.keep [(3, _), (4, _), (5, _), (6, _), (10, _), (11, _), (33, _), (34, _), (35, _), (45, _), (46, _), (102, _)] ⟨rfl, rfl, rfl, rfl, rfl, rfl, rfl, rfl, rfl, rfl, rfl, rfl, trivial⟩ ?_
                refine XC.block ?_
                refine XC.seq fun K51 hK51 => ?_
                refine XC.region ?_
                refine x_v (r_en rfl (by repeat (first | exact Pick.head _ _ | apply Pick.tail))) rfl ?_
                refine x_v (r_ex rfl rfl) rfl ?_
                refine x_v (r_ex rfl rfl) rfl ?_
                refine x_a (r_al ty48 rfl) rfl fun b18 => ?_
                refine x_v (r_as rfl) rfl ?_
                refine x_e (r_st ty48 rfl rfl rfl rfl rfl (by repeat (first | exact Upd.head _ _ _ | apply Upd.tail)) (by repeat (first | exact Over.nil _ | apply Over.put | apply Over.skip))) ?_
                refine XL.nil ?_
                refine hK51 _ _ ?_
                refine XC.keep [(3, _), (4, _), (5, _), (6, _), (10, _), (11, _), (17, _), (18, _), (33, _), (34, _), (35, _), (45, _), (46, _), (102, _)] ⟨rfl, rfl, rfl, rfl, rfl, rfl, rfl, rfl, rfl, rfl, rfl, rfl, rfl, rfl, trivial⟩ ?_
                refine XC.seq fun K52 hK52 => ?_
                refine XC.turn (mie r102 b31 (.int .i64) (mpe said3) m (.int .i64 i5) (.agg (ec e5).toArray)) (mit r102 b31 (.int .i64) (mpe said3) (m - 1)) (by repeat (first | exact Pick.head _ _ | apply Pick.tail)) (fun w h => h.mie_mit) ?_
                refine XC.region ?_
                refine x_v (r_mv rfl) rfl ?_
                refine x_v (r_mv rfl) rfl ?_
                refine x_c (r_call0 (args := [_, _]) ⟨rfl, rfl, rfl⟩ (entry_tr (k := K2) x.b x.M i5 hpx) (by repeat (first | exact Gets.done _ | exact Gets.all _ | (apply Gets.step; focus ((repeat (first | exact Pick.head _ _ | apply Pick.tail)); done)) | apply Gets.drop))) rfl ?_
                rintro _ _ ⟨rfl, rfl⟩
                refine x_v (r_mv rfl) rfl ?_
                refine x_v (r_ex rfl rfl) rfl ?_
                refine x_v (r_ex rfl rfl) rfl ?_
                refine x_a (r_al ty48 rfl) rfl fun b19 => ?_
                refine x_e (r_st ty48 rfl rfl rfl rfl rfl (by repeat (first | exact Upd.head _ _ _ | apply Upd.tail)) (by repeat (first | exact Over.nil _ | apply Over.put | apply Over.skip))) ?_
                refine x_v (r_as rfl) rfl ?_
                refine XL.nil ?_
                refine hK52 _ _ ?_
                refine XC.keep [(3, _), (4, _), (5, _), (6, _), (10, _), (11, _), (17, _), (18, _), (19, _), (20, _), (33, _), (34, _), (35, _), (45, _), (46, _), (102, _)] ⟨rfl, rfl, rfl, rfl, rfl, rfl, rfl, rfl, rfl, rfl, rfl, rfl, rfl, rfl, rfl, rfl, trivial⟩ ?_
                refine XC.seq fun K53 hK53 => ?_
                refine XC.region ?_
                refine x_v (r_mv rfl) rfl ?_
                refine x_v (r_mv rfl) rfl ?_
                refine x_v (r_lk1 Try.underlying70 Try.underlying3 ty3 rfl rfl rfl (by repeat (first | exact Pick.head _ _ | apply Pick.tail))) rfl ?_
                rw [mpi_get, hw5]
                dsimp only [Option.getD_some]
                refine x_v (r_fa fo32_0 rfl) rfl ?_
                refine x_v (r_ld ty3 rfl (by repeat (first | exact Pick.head _ _ | apply Pick.tail)) (by rfl)) rfl ?_
                refine x_v (r_lt rfl rfl) rfl ?_
                refine x_v (r_mv rfl) rfl ?_
                refine XL.splitd 120 rfl (fun hg120 => ?_) (fun hg120 => ?_)
                · refine x_want rfl rfl rfl ?_
                  refine x_v (r_mv rfl) rfl ?_
                  refine x_want rfl rfl rfl ?_
                  refine x_v (r_fa fo32_2 rfl) rfl ?_
                  refine x_want rfl rfl rfl ?_
                  refine x_v (r_ld ty3 rfl (by repeat (first | exact Pick.head _ _ | apply Pick.tail)) (by rfl)) rfl ?_
                  refine x_want rfl rfl rfl ?_
                  refine x_v (r_gt rfl rfl) rfl ?_
                  refine x_v (r_pk_t rfl rfl) rfl ?_
                  refine x_v (r_mv rfl) rfl ?_
                  refine XL.splitd 126 rfl (fun hg126 => ?_) (fun hg126 => ?_)
                  · refine x_want rfl rfl rfl ?_
                    refine x_v (r_mv rfl) rfl ?_
                    refine x_want rfl rfl rfl ?_
                    refine x_v (r_not rfl) rfl ?_
                    refine x_want rfl rfl rfl ?_
                    refine x_v (r_mv rfl) rfl ?_
                    refine XL.split 129 rfl (fun hg129 => ?_) (fun hg129 => ?_)
                    · refine x_unwant rfl rfl rfl rfl rfl ?_
                      refine x_unwant rfl rfl rfl rfl rfl ?_
                      refine x_unwant rfl rfl rfl rfl rfl ?_
                      refine x_want rfl rfl rfl ?_
                      refine x_v (r_pk_t rfl rfl) rfl ?_
                      refine x_v (r_pk_t rfl rfl) rfl ?_
                      refine XL.nil ?_
                      refine hK53 _ _ ?_
                      refine XC.keep [(3, _), (4, _), (5, _), (6, _), (10, _), (11, _), (33, _), (34, _), (35, _), (45, _), (46, _), (102, _), (134, _)] ⟨rfl, rfl, rfl, rfl, rfl, rfl, rfl, rfl, rfl, rfl, rfl, rfl, rfl, trivial⟩ ?_
                      refine XC.cond_t rfl ?_
                      refine XC.seq fun K54 hK54 => ?_
                      refine XC.region ?_
                      refine x_v (r_as rfl) rfl ?_
                      refine XL.nil ?_
                      refine hK54 _ _ ?_
                      refine XC.keep [(2, _)] ⟨rfl, trivial⟩ ?_
                      refine XC.ret ?_
                      (have hle := leader_has hsg2.inv.g hnx hrole ho5 hg120 hg126; rw [hle] at hg129; cases hg129)
                    · refine x_want rfl rfl rfl ?_
                      refine x_v (r_lda (l' := [_, _]) ty48 rfl (by repeat (first | exact Pick.head _ _ | apply Pick.tail)) rfl (Sub.get (by repeat (first | exact Sub.nil _ | apply Sub.take | apply Sub.skip)))) rfl ?_
                      refine x_want rfl rfl rfl ?_
                      refine x_v (r_lda (l' := [_, _]) ty48 rfl (by repeat (first | exact Pick.head _ _ | apply Pick.tail)) rfl (Sub.get (by repeat (first | exact Sub.nil _ | apply Sub.take | apply Sub.skip)))) rfl ?_
                      refine x_want rfl rfl rfl ?_
                      refine x_v (r_stne (by kernel_rfl) (fun w => eq48 _ _ _ _ w) rfl rfl) rfl ?_
                      refine x_want rfl rfl rfl ?_
                      refine x_v (r_pk_f rfl rfl) rfl ?_
                      refine x_v (r_pk_t rfl rfl) rfl ?_
                      refine XL.nil ?_
                      refine hK53 _ _ ?_
                      refine XC.keep [(3, _), (4, _), (5, _), (6, _), (10, _), (11, _), (33, _), (34, _), (35, _), (45, _), (46, _), (102, _), (134, _)] ⟨rfl, rfl, rfl, rfl, rfl, rfl, rfl, rfl, rfl, rfl, rfl, rfl, rfl, trivial⟩ ?_
                      refine XC.cond_d rfl (fun hc18 => ?_) (fun hc18 => ?_)
                      · refine XC.seq fun K55 hK55 => ?_
                        refine XC.region ?_
                        refine x_v (r_as rfl) rfl ?_
                        refine XL.nil ?_
                        refine hK55 _ _ ?_
                        refine XC.keep [(2, _)] ⟨rfl, trivial⟩ ?_
                        refine XC.ret ?_
                        (have hle := leader_has hsg2.inv.g hnx hrole ho5 hg120 hg126; rw [hle] at hc18; exact absurd ⟨rfl, rfl⟩ hc18)
                      · refine XC.skip ?_
                        refine ⟨m - 1, ?_, ?_, ⟨rfl, rfl, rfl, rfl, rfl, rfl, rfl, rfl, rfl, rfl, rfl, rfl, trivial⟩, (by repeat (first | exact Gets.done _ | exact Gets.all _ | (apply Gets.step; focus ((repeat (first | exact Pick.head _ _ | apply Pick.tail)); done)) | apply Gets.drop))⟩
                        · trivial
                        · omega
                  · refine x_unwant rfl rfl rfl rfl rfl ?_
                    refine x_unwant rfl rfl rfl rfl rfl ?_
                    refine x_unwant rfl rfl rfl rfl rfl ?_
                    refine x_unwantu rfl rfl rfl rfl rfl ?_
                    refine x_unwantu rfl rfl rfl rfl rfl ?_
                    refine x_unwantu rfl rfl rfl rfl rfl ?_
                    refine x_unwant rfl rfl rfl rfl rfl ?_
                    refine x_v (r_pk_f rfl rfl) rfl ?_
                    refine XL.nil ?_
                    refine hK53 _ _ ?_
                    refine XC.keep [(3, _), (4, _), (5, _), (6, _), (10, _), (11, _), (33, _), (34, _), (35, _), (45, _), (46, _), (102, _), (134, _)] ⟨rfl, rfl, rfl, rfl, rfl, rfl, rfl, rfl, rfl, rfl, rfl, rfl, rfl, trivial⟩ ?_
                    refine XC.cond_f rfl ?_
                    refine XC.skip ?_
                    refine ⟨m - 1, ?_, ?_, ⟨rfl, rfl, rfl, rfl, rfl, rfl, rfl, rfl, rfl, rfl, rfl, rfl, trivial⟩, (by repeat (first | exact Gets.done _ | exact Gets.all _ | (apply Gets.step; focus ((repeat (first | exact Pick.head _ _ | apply Pick.tail)); done)) | apply Gets.drop))⟩
                    · trivial
                    · omega
                · refine x_unwant rfl rfl rfl rfl rfl ?_
                  refine x_unwant rfl rfl rfl rfl rfl ?_
                  refine x_unwant rfl rfl rfl rfl rfl ?_
                  refine x_unwant rfl rfl rfl rfl rfl ?_
                  refine x_v (r_pk_f rfl rfl) rfl ?_
                  refine x_v (r_mv rfl) rfl ?_
                  refine x_unwant rfl rfl rfl rfl rfl ?_
                  refine x_unwant rfl rfl rfl rfl rfl ?_
                  refine x_unwant rfl rfl rfl rfl rfl ?_
                  refine x_unwantu rfl rfl rfl rfl rfl ?_
                  refine x_unwantu rfl rfl rfl rfl rfl ?_
                  refine x_unwantu rfl rfl rfl rfl rfl ?_
                  refine x_unwant rfl rfl rfl rfl rfl ?_
                  refine x_v (r_pk_f rfl rfl) rfl ?_
                  refine XL.nil ?_
                  refine hK53 _ _ ?_
                  refine XC.keep [(3, _), (4, _), (5, _), (6, _), (10, _), (11, _), (33, _), (34, _), (35, _), (45, _), (46, _), (102, _), (134, _)] ⟨rfl, rfl, rfl, rfl, rfl, rfl, rfl, rfl, rfl, rfl, rfl, rfl, rfl, trivial⟩ ?_
                  refine XC.cond_f rfl ?_
                  refine XC.skip ?_
                  refine ⟨m - 1, ?_, ?_, ⟨rfl, rfl, rfl, rfl, rfl, rfl, rfl, rfl, rfl, rfl, rfl, rfl, trivial⟩, (by repeat (first | exact Gets.done _ | exact Gets.all _ | (apply Gets.step; focus ((repeat (first | exact Pick.head _ _ | apply Pick.tail)); done)) | apply Gets.drop))⟩
                  · trivial
                  · omega
      · refine XC.exit rfl ?_
        refine hK13 _ _ ?_
        refine XC.keep [(3, _), (4, _), (5, _), (6, _), (33, _), (34, _), (35, _)] ⟨rfl, rfl, rfl, rfl, rfl, rfl, rfl, trivial⟩ ?_
        refine XC.region ?_
        refine x_v (r_add rfl rfl (by omega)) rfl ?_
        refine x_v (r_mv rfl) rfl ?_
        refine XL.nil ?_
        refine ⟨(i + 1, l2, A2, c2, L2, K2, G2, F2, lds2, said2, whn2), ?_, ?_, ⟨rfl, rfl, rfl, rfl, rfl, rfl, rfl, trivial⟩, (by repeat (first | exact Gets.done _ | exact Gets.all _ | (apply Gets.step; focus ((repeat (first | exact Pick.head _ _ | apply Pick.tail)); done)) | apply Gets.drop))⟩
        · exact ⟨by dsimp only; omega, hsg2, hli2, hwi2⟩
        · dsimp only; omega
    · refine XC.exit rfl ?_
      refine hK9 _ _ ?_
      refine XC.keep [] trivial ?_
      refine XC.seq fun K56 hK56 => ?_
      refine XC.region ?_
      refine x_v (r_as rfl) rfl ?_
      refine XL.nil ?_
      refine hK56 _ _ ?_
      refine XC.keep [(2, _)] ⟨rfl, trivial⟩ ?_
      refine XC.ret ?_
      exact fin1 rfl (rfl) (by repeat (first | exact Gets.done _ | exact Gets.all _ | (apply Gets.step; focus ((repeat (first | exact Pick.head _ _ | apply Pick.tail)); done)) | apply Gets.drop))
end Go.Proofs.Ytlogcldbflemfaa

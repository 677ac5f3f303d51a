/- Polls: what is agreed on is so everywhere (function 4). -/
import Derived.Test.YtlogcldbflemfaaPoll24
namespace Go.Proofs.Ytlogcldbflemfaa
open Go.Sx Go.Rf
set_option linter.unusedVariables false

/-- A field, of one cell, of a struct that is a value. -/
theorem r_fd {C : Cx} {e : Env} {Rs : List HP} {x : Operand} {T ty : TypeId} {i by_ : Nat} {zv v : Value} {fs : Array Field} {f : Field} {cs : Array Value} (hT : C.P.underlying T = some (.struct fs)) (hf : fs[i]? = some f) (hE : Ty C.P f.type 1 by_ zv false) (hx : ev e x = some (.agg cs)) (hv : cs[f.offset]? = some v) : Yld C e Rs (.field T x i) ty v := by
  obtain ⟨q, i1, i2, i3, i4⟩ := hE.get
  intro a w ha hw
  have hag := hE.agg w
  simp [execOp, ha.ev hx, Instr.field, asAgg, run_underlying hT, hf, sizeOf, typeInfo, i1, i2, part, hag, hv]
/-- A map from numbers to entries. -/
def mpe (said : Int → Option En) : Value → Option Value
  | .int .i64 i => (said i).map fun e => .agg (ec e).toArray
  | _ => none
def put1 (said : Int → Option En) (i : Int) (e : En) : Int → Option En := fun j => if j = i then some e else said j
theorem mpe_none : (fun _ : Value => (none : Option Value)) = mpe (fun _ => none) := by funext v; unfold mpe; split <;> rfl
theorem mpe_one (said : Int → Option En) (i : Int) (e : En) : mpe (put1 said i e) (.int .i64 i) = some (.agg (ec e).toArray) := by
  show ((if i = i then some e else said i).map _) = _; rw [if_pos rfl]; rfl
theorem mpe_other (said : Int → Option En) (i : Int) (e : En) : ∀ x, x ≠ .int .i64 i → mpe (put1 said i e) x = mpe said x := fun x hx => by
  unfold mpe
  split
  · rename_i j
    show ((if j = i then some e else said j).map _) = _
    rw [if_neg (fun hh => hx (by rw [hh]))]
  · rfl
theorem mpe_get (said : Int → Option En) (i : Int) : (mpe said (.int .i64 i)).getD (.agg #[.int .i64 0, .string ⟨#[]⟩]) = .agg (ec ((said i).getD en0)).toArray := by
  show ((said i).map _).getD _ = _; cases said i <;> rfl
theorem mpe_some (said : Int → Option En) (i : Int) : (mpe said (.int .i64 i)).isSome = (said i).isSome := by
  show ((said i).map _).isSome = _; cases said i <;> rfl
/-- What was said was agreed on. -/
def OI (G : Gh) (said : Int → Option En) : Prop := ∀ i e, said i = some e → ∃ T, Obs G i e T
theorem OI.ext {G G2 : Gh} {said : Int → Option En} (h : OI G said) (e : Ext G G2) : OI G2 said := fun i x hx => (h i x hx).imp fun _ o => o.ext e
theorem OI.put {G : Gh} {said : Int → Option En} (h : OI G said) {i : Int} {x : En} {T : Int} (o : Obs G i x T) : OI G (put1 said i x) := fun j y hy => by
  unfold put1 at hy
  split at hy
  · rename_i hj; subst hj; injection hy with hy; subst hy; exact ⟨T, o⟩
  · exact h j y hy
theorem oi_odd {G : Gh} (hG : GInv G) {said : Int → Option En} (h : OI G said) {i : Int} {x : En} {T : Int} (o : Obs G i x T) (h1 : (said i).isSome = true) : x.term = ((said i).getD en0).term ∧ x.data = ((said i).getD en0).data := by
  cases hs : said i with
  | none => rw [hs] at h1; cases h1
  | some y =>
    obtain ⟨T2, o2⟩ := h i y hs
    have := obs_one hG o o2
    subst this; exact ⟨rfl, rfl⟩

theorem arr_at {l : List NdR} {n : Nat} {x : NdR} (hn : Rf.Node (n : Int)) (h : l[(n : Int).toNat]? = some x) : (#[pn l 0, pn l 1, pn l 2] : Array Value)[n]? = some (.pointer (some ⟨x.b, 0, none⟩)) := by
  have h' : l[n]? = some x := by simpa using h
  have e : (#[pn l 0, pn l 1, pn l 2] : Array Value)[n]? = some (pn l n) := by
    have : n = 0 ∨ n = 1 ∨ n = 2 := by unfold Rf.Node at hn; omega
    rcases this with rfl | rfl | rfl <;> rfl
  rw [e]; unfold pn; rw [h']; rfl

theorem pollagrees_tr {W0 : World} {Fr : List HP} (XA : Option Addr) (xc : Nat) (T : List (Int × Int × Int)) (hr : ∀ Fr, Rdb W0 Fr XA T.length 3 (cells actc T)) : Tr W0 Try.prog 4 [.slice XA T.length xc] Fr (fun v Rs' => v = .bool true) := by
  refine Entry.tr (N := 79) (rs := [.tmp 2]) ⟨_, Try.func4, rfl, by kernel_rfl, rfl, rfl⟩ rfl ?_
  refine XC.seq fun K1 hK1 => ?_
  refine XC.region ?_
  refine x_v (r_as rfl) rfl ?_
  refine XL.nil ?_
  refine hK1 _ _ ?_
  refine XC.keep [(0, _)] ⟨rfl, trivial⟩ ?_
  refine XC.seq fun K2 hK2 => ?_
  refine XC.seq fun K3 hK3 => ?_
  refine XC.region ?_
  refine x_c (r_call0 (args := []) rfl (awake_tr) (by repeat (first | exact Gets.done _ | exact Gets.all _ | (apply Gets.step; focus ((repeat (first | exact Pick.head _ _ | apply Pick.tail)); done)) | apply Gets.drop))) rfl ?_
  rintro _ _ ⟨rfl, hRs⟩
  rw [hRs]
  refine x_v (r_not rfl) rfl ?_
  refine x_v (r_mv rfl) rfl ?_
  refine x_want rfl rfl rfl ?_
  refine x_v (r_mv rfl) rfl ?_
  refine x_want rfl rfl rfl ?_
  refine x_v (r_lensl Try.underlying59 rfl) rfl ?_
  refine x_want rfl rfl rfl ?_
  refine x_v (r_gt rfl rfl) rfl ?_
  refine x_v (r_pk_f rfl rfl) rfl ?_
  refine XL.nil ?_
  refine hK3 _ _ ?_
  refine XC.keep [(0, _), (20, _)] ⟨rfl, rfl, trivial⟩ ?_
  refine XC.cond_d rfl (fun hc1 => ?_) (fun hc1 => ?_)
  · refine XC.seq fun K4 hK4 => ?_
    refine XC.region ?_
    refine x_c (r_call0 (args := []) rfl (awake_tr) (by repeat (first | exact Gets.done _ | exact Gets.all _ | (apply Gets.step; focus ((repeat (first | exact Pick.head _ _ | apply Pick.tail)); done)) | apply Gets.drop))) rfl ?_
    rintro _ _ ⟨rfl, hRs2⟩
    rw [hRs2]
    refine x_v (r_as rfl) rfl ?_
    refine XL.nil ?_
    refine hK4 _ _ ?_
    refine XC.keep [(2, _)] ⟨rfl, trivial⟩ ?_
    refine XC.ret ?_
    exact fin1 rfl (rfl) (by repeat (first | exact Gets.done _ | exact Gets.all _ | (apply Gets.step; focus ((repeat (first | exact Pick.head _ _ | apply Pick.tail)); done)) | apply Gets.drop))
  · refine XC.skip ?_
    refine hK2 _ _ ?_
    refine XC.keep [(0, _)] ⟨rfl, trivial⟩ ?_
    refine XC.seq fun K5 hK5 => ?_
    refine XC.region ?_
    refine x_c (r_call0 (args := []) rfl (begun_tr) (by repeat (first | exact Gets.done _ | exact Gets.all _ | (apply Gets.step; focus ((repeat (first | exact Pick.head _ _ | apply Pick.tail)); done)) | apply Gets.drop))) rfl ?_
    rintro _ _ ⟨sb, l, K, rfl, rfl, hst, hok⟩
    have hsg := sg_begun hst hok
    refine x_v (r_as rfl) rfl ?_
    refine XL.nil ?_
    refine hK5 _ _ ?_
    refine XC.keep [(0, _), (3, _)] ⟨rfl, rfl, trivial⟩ ?_
    refine XC.seq fun K6 hK6 => ?_
    refine XC.region ?_
    refine x_a (r_mm (.int .i64)) rfl fun b23 => ?_
    refine x_v (r_as rfl) rfl ?_
    refine XL.nil ?_
    refine hK6 _ _ ?_
    refine XC.keep [(0, _), (3, _), (4, _)] ⟨rfl, rfl, rfl, trivial⟩ ?_
    refine XC.seq fun K7 hK7 => ?_
    refine XC.seq fun K8 hK8 => ?_
    rw [mpe_none]
    refine XC.region ?_
    refine x_v (r_mv rfl) rfl ?_
    refine x_v (r_lensl Try.underlying59 rfl) rfl ?_
    refine x_v (r_mv rfl) rfl ?_
    refine XL.nil ?_
    refine hK8 _ _ ?_
    refine XC.keep [(3, _), (4, _), (24, _), (25, _), (26, _)] ⟨rfl, rfl, rfl, rfl, rfl, trivial⟩ ?_
    refine XC.block ?_
    refine XC.loop (σ := Nat × List NdR × Option Addr × Nat × List (Int × Int × Mx) × HP × Gh × (Int → Log) × (Int → Option En)) (fun s => [(3, .pointer (some ⟨sb, 0, none⟩)), (4, .map (some b23)), (24, .slice XA T.length xc), (25, .int .i64 (T.length : Int)), (26, .int .i64 (s.1 : Int))]) (fun s => mpf b23 (.int .i64) (mpe s.2.2.2.2.2.2.2.2) :: blk sb 68 (sic s.2.1 s.2.2.1 s.2.2.2.2.1.length s.2.2.2.1) :: sl s.2.2.1 s.2.2.2.2.1.length s.2.2.2.1 109 19 (cells fc s.2.2.2.2.1) :: nds s.2.1 :: s.2.2.2.2.2.1 :: Fr) (fun s => s.1 ≤ T.length ∧ SG W0 s.2.2.2.2.2.1 (2 + s.1) s.2.1 s.2.2.2.2.1 s.2.2.2.2.2.2.1 s.2.2.2.2.2.2.2.1 ∧ OI s.2.2.2.2.2.2.1 s.2.2.2.2.2.2.2.2) (fun s => T.length - s.1) (0, l, none, 0, [], K, G0, fun _ => [], fun _ => none) ?_ ⟨rfl, rfl, rfl, rfl, rfl, trivial⟩ (by repeat (first | exact Gets.done _ | exact Gets.all _ | (apply Gets.step; focus ((repeat (first | exact Pick.head _ _ | apply Pick.tail)); done)) | apply Gets.drop)) ?_
    · exact ⟨Nat.zero_le _, hsg, fun i e h => by cases h⟩
    rintro ⟨i, l, wA, wc, L, K, G, F, said⟩ ⟨hi, hsg, hoi⟩
    dsimp only at hi hsg hoi ⊢
    refine XC.seq fun K9 hK9 => ?_
    refine XC.region ?_
    refine x_v (r_lt rfl rfl) rfl ?_
    refine XL.nil ?_
    refine hK9 _ _ ?_
    refine XC.keep [(3, _), (4, _), (24, _), (25, _), (26, _), (27, _)] ⟨rfl, rfl, rfl, rfl, rfl, rfl, trivial⟩ ?_
    refine XC.seq fun K10 hK10 => ?_
    refine XC.cond_d rfl (fun hc2 => ?_) (fun hc2 => ?_)
    · refine XC.skip ?_
      refine hK10 _ _ ?_
      refine XC.keep [(3, _), (4, _), (24, _), (25, _), (26, _)] ⟨rfl, rfl, rfl, rfl, rfl, trivial⟩ ?_
      refine XC.seq fun K11 hK11 => ?_
      refine XC.block ?_
      refine XC.seq fun K12 hK12 => ?_
      obtain ⟨a, ha⟩ : ∃ a, T[i]? = some a := ⟨_, List.getElem?_eq_getElem (by omega)⟩
      obtain ⟨ob, oo, rfl, hat⟩ := (hr []).at_ (by omega)
      refine XC.region ?_
      refine x_v (r_ia (k := i) Try.underlying59 ty63 rfl rfl (by omega) (by omega)) rfl ?_
      refine x_v (r_ldar (l' := actc a) ty63 rfl rfl (fun w hw j u hu => by rw [Nat.add_assoc]; exact hat w (Gets.own (by repeat (first | exact Gets.done _ | exact Gets.all _ | (apply Gets.step; focus ((repeat (first | exact Pick.head _ _ | apply Pick.tail)); done)) | apply Gets.drop)) hw) _ u (cells_get actc_len T _ _ ha j u hu))) rfl ?_
      refine x_a (r_al ty63 rfl) rfl fun b6 => ?_
      refine x_e (r_st ty63 rfl rfl rfl rfl rfl (by repeat (first | exact Upd.head _ _ _ | apply Upd.tail)) (by repeat (first | exact Over.nil _ | apply Over.put | apply Over.skip))) ?_
      refine XL.nil ?_
      refine hK12 _ _ ?_
      refine XC.keep [(3, _), (4, _), (6, _), (24, _), (25, _), (26, _)] ⟨rfl, rfl, rfl, rfl, rfl, rfl, trivial⟩ ?_
      refine XC.seq fun K13 hK13 => ?_
      refine XC.region ?_
      refine x_v (r_mv rfl) rfl ?_
      refine x_v (r_lda (l' := [_, _, _]) ty63 rfl (by repeat (first | exact Pick.head _ _ | apply Pick.tail)) rfl (Sub.get (by repeat (first | exact Sub.nil _ | apply Sub.take | apply Sub.skip)))) rfl ?_
      refine x_c (r_call0 (args := [_, _]) ⟨rfl, rfl, rfl⟩ (acts_tr sb l wA wc L a.1 a.2.1 a.2.2 hsg (by omega)) (by repeat (first | exact Gets.done _ | exact Gets.all _ | (apply Gets.step; focus ((repeat (first | exact Pick.head _ _ | apply Pick.tail)); done)) | apply Gets.drop))) rfl ?_
      rintro _ _ ⟨rfl, l2, A2, c2, L2, K2, G2, F2, rfl, hx2, hsg2, he2⟩
      refine XL.nil ?_
      refine hK13 _ _ ?_
      refine XC.keep [(3, _), (4, _), (24, _), (25, _), (26, _)] ⟨rfl, rfl, rfl, rfl, rfl, trivial⟩ ?_
      refine XC.seq fun K14 hK14 => ?_
      refine XC.region ?_
      refine x_v (r_mv rfl) rfl ?_
      refine x_v (r_nc rfl) rfl ?_
      refine x_v (r_fa fo68_0 rfl) rfl ?_
      refine x_v (r_lda (l' := [_, _, _]) ty65 rfl (by repeat (first | exact Pick.head _ _ | apply Pick.tail)) rfl (Sub.get (by repeat (first | exact Sub.nil _ | apply Sub.take | apply Sub.skip)))) rfl ?_
      refine x_v (r_mv rfl) rfl ?_
      refine XL.nil ?_
      refine hK14 _ _ ?_
      refine XC.keep [(3, _), (4, _), (24, _), (25, _), (26, _), (36, _), (37, _)] ⟨rfl, rfl, rfl, rfl, rfl, rfl, rfl, trivial⟩ ?_
      refine XC.block ?_
      refine XC.loop (σ := Nat × (Int → Option En)) (fun s => [(3, .pointer (some ⟨sb, 0, none⟩)), (4, .map (some b23)), (24, .slice (some ⟨ob, oo, none⟩) T.length xc), (25, .int .i64 (T.length : Int)), (26, .int .i64 (i : Int)), (36, .agg #[pn l2 0, pn l2 1, pn l2 2]), (37, .int .i64 (s.1 : Int))]) (fun s => mpf b23 (.int .i64) (mpe s.2) :: blk sb 68 (sic l2 A2 L2.length c2) :: sl A2 L2.length c2 109 19 (cells fc L2) :: nds l2 :: K2 :: Fr) (fun s => s.1 ≤ 3 ∧ OI G2 s.2) (fun s => 3 - s.1) (0, said) ?_ ⟨rfl, rfl, rfl, rfl, rfl, rfl, rfl, trivial⟩ (by repeat (first | exact Gets.done _ | exact Gets.all _ | (apply Gets.step; focus ((repeat (first | exact Pick.head _ _ | apply Pick.tail)); done)) | apply Gets.drop)) ?_
      · exact ⟨Nat.zero_le _, hoi.ext he2⟩
      rintro ⟨n, said2⟩ ⟨hn0, hoi2⟩
      dsimp only at hn0 hoi2 ⊢
      refine XC.seq fun K15 hK15 => ?_
      refine XC.region ?_
      refine x_v (r_lt rfl rfl) rfl ?_
      refine XL.nil ?_
      refine hK15 _ _ ?_
      refine XC.keep [(3, _), (4, _), (24, _), (25, _), (26, _), (36, _), (37, _), (38, _)] ⟨rfl, rfl, rfl, rfl, rfl, rfl, rfl, rfl, trivial⟩ ?_
      refine XC.seq fun K16 hK16 => ?_
      refine XC.cond_d rfl (fun hc3 => ?_) (fun hc3 => ?_)
      · refine XC.skip ?_
        refine hK16 _ _ ?_
        refine XC.keep [(3, _), (4, _), (24, _), (25, _), (26, _), (36, _), (37, _)] ⟨rfl, rfl, rfl, rfl, rfl, rfl, rfl, trivial⟩ ?_
        refine XC.seq fun K17 hK17 => ?_
        refine XC.block ?_
        refine XC.seq fun K18 hK18 => ?_
        have hn : Rf.Node (n : Int) := by unfold Rf.Node; omega
        obtain ⟨x, hx⟩ : ∃ x, l2[(n : Int).toNat]? = some x := ⟨_, List.getElem?_eq_getElem (by have := hsg2.ok.len; omega)⟩
        have hxm := List.mem_of_getElem? hx
        have hnx := hsg2.at_ hn hx
        have hpx := hsg2.ok.pb x hxm
        have hLx := hsg2.ok.lim x hxm
        have hb0 := hLx.b0
        have ha0 := hLx.a0
        have ha1 := hLx.a1
        have hmost : most = 1099511627776 := rfl
        refine XC.mem (blk x.b 90 (pc x.p x.A x.c x.M) :: vmo x.M :: nds (l2.eraseIdx (n : Int).toNat) :: mpf b23 (.int .i64) (mpe said2) :: blk sb 68 (sic l2 A2 L2.length c2) :: sl A2 L2.length c2 109 19 (cells fc L2) :: K2 :: Fr) (fun w h => own_open hx (Gets.own (by repeat (first | exact Gets.done _ | exact Gets.all _ | (apply Gets.step; focus ((repeat (first | exact Pick.head _ _ | apply Pick.tail)); done)) | apply Gets.drop)) h)) ?_
        refine XC.region ?_
        refine x_v (r_aix (j := n) Try.underlying65 ty23 rfl rfl rfl (by omega) (arr_at hn hx)) rfl ?_
        refine x_v (r_as rfl) rfl ?_
        refine XL.nil ?_
        refine hK18 _ _ ?_
        refine XC.keep [(3, _), (4, _), (8, _), (24, _), (25, _), (26, _), (36, _), (37, _)] ⟨rfl, rfl, rfl, rfl, rfl, rfl, rfl, rfl, trivial⟩ ?_
        refine XC.seq fun K19 hK19 => ?_
        refine XC.seq fun K20 hK20 => ?_
        refine XC.region ?_
        refine x_v (r_mv rfl) rfl ?_
        refine x_v (r_peq_some Try.underlying23 rfl rfl) rfl ?_
        refine XL.nil ?_
        refine hK20 _ _ ?_
        refine XC.keep [(3, _), (4, _), (8, _), (24, _), (25, _), (26, _), (36, _), (37, _), (41, _)] ⟨rfl, rfl, rfl, rfl, rfl, rfl, rfl, rfl, rfl, trivial⟩ ?_
        refine XC.cond_f rfl ?_
        refine XC.skip ?_
        refine hK19 _ _ ?_
        refine XC.keep [(3, _), (4, _), (8, _), (24, _), (25, _), (26, _), (36, _), (37, _)] ⟨rfl, rfl, rfl, rfl, rfl, rfl, rfl, rfl, trivial⟩ ?_
        refine XC.seq fun K21 hK21 => ?_
        refine XC.region ?_
        refine x_v (r_mv rfl) rfl ?_
        refine x_c (r_call0 (args := [_]) ⟨rfl, rfl⟩ (kept_tr (k := K2) x.b x.M hpx) (by repeat (first | exact Gets.done _ | exact Gets.all _ | (apply Gets.step; focus ((repeat (first | exact Pick.head _ _ | apply Pick.tail)); done)) | apply Gets.drop))) rfl ?_
        rintro _ _ ⟨A43, c43, rfl, rfl⟩
        refine x_v (r_fd Try.underlying32 rfl ty3 rfl rfl) rfl ?_
        refine x_v (r_add rfl rfl (by omega)) rfl ?_
        refine x_v (r_as rfl) rfl ?_
        refine XL.nil ?_
        refine hK21 _ _ ?_
        refine XC.keep [(3, _), (4, _), (8, _), (9, _), (24, _), (25, _), (26, _), (36, _), (37, _)] ⟨rfl, rfl, rfl, rfl, rfl, rfl, rfl, rfl, rfl, trivial⟩ ?_
        refine XC.block ?_
        refine XC.loop (σ := Int × (Int → Option En)) (fun s => [(3, .pointer (some ⟨sb, 0, none⟩)), (4, .map (some b23)), (8, .pointer (some ⟨x.b, 0, none⟩)), (9, .int .i64 s.1), (24, .slice (some ⟨ob, oo, none⟩) T.length xc), (25, .int .i64 (T.length : Int)), (26, .int .i64 (i : Int)), (36, .agg #[pn l2 0, pn l2 1, pn l2 2]), (37, .int .i64 (n : Int))]) (fun s => blk x.b 90 (pc x.p x.A x.c x.M) :: vmo x.M :: nds (l2.eraseIdx (n : Int).toNat) :: mpf b23 (.int .i64) (mpe s.2) :: blk sb 68 (sic l2 A2 L2.length c2) :: sl A2 L2.length c2 109 19 (cells fc L2) :: K2 :: Fr) (fun s => x.p.base < s.1 ∧ s.1 ≤ x.p.agree + 1 ∧ OI G2 s.2) (fun s => (x.p.agree + 1 - s.1).toNat) (x.p.base + 1, said2) ?_ ⟨rfl, rfl, rfl, rfl, rfl, rfl, rfl, rfl, rfl, trivial⟩ (by repeat (first | exact Gets.done _ | exact Gets.all _ | (apply Gets.step; focus ((repeat (first | exact Pick.head _ _ | apply Pick.tail)); done)) | apply Gets.drop)) ?_
        · exact ⟨by dsimp only; omega, by dsimp only; omega, hoi2⟩
        rintro ⟨i3, said3⟩ ⟨hi3, hi4, hoi3⟩
        dsimp only at hi3 hi4 hoi3 ⊢
        refine XC.seq fun K22 hK22 => ?_
        refine XC.seq fun K23 hK23 => ?_
        refine XC.region ?_
        refine x_v (r_mv rfl) rfl ?_
        refine x_v (r_mv rfl) rfl ?_
        refine x_c (r_call0 (args := [_]) ⟨rfl, rfl⟩ (commit_tr (p := x.p) x.b x.M) (by repeat (first | exact Gets.done _ | exact Gets.all _ | (apply Gets.step; focus ((repeat (first | exact Pick.head _ _ | apply Pick.tail)); done)) | apply Gets.drop))) rfl ?_
        rintro _ _ ⟨rfl, rfl⟩
        refine x_v (r_le rfl rfl) rfl ?_
        refine XL.nil ?_
        refine hK23 _ _ ?_
        refine XC.keep [(3, _), (4, _), (8, _), (9, _), (24, _), (25, _), (26, _), (36, _), (37, _), (49, _)] ⟨rfl, rfl, rfl, rfl, rfl, rfl, rfl, rfl, rfl, rfl, trivial⟩ ?_
        refine XC.cond_d rfl (fun hc5 => ?_) (fun hc5 => ?_)
        · refine XC.skip ?_
          refine hK22 _ _ ?_
          refine XC.keep [(3, _), (4, _), (8, _), (9, _), (24, _), (25, _), (26, _), (36, _), (37, _)] ⟨rfl, rfl, rfl, rfl, rfl, rfl, rfl, rfl, rfl, trivial⟩ ?_
          refine XC.seq fun K24 hK24 => ?_
          refine XC.block ?_
          refine XC.seq fun K25 hK25 => ?_
          obtain ⟨x3, hx3, hobs⟩ := entry_obs hnx hi3 (by omega)
          refine XC.region ?_
          refine x_v (r_mv rfl) rfl ?_
          refine x_v (r_mv rfl) rfl ?_
          refine x_c (r_call0 (args := [_, _]) ⟨rfl, rfl, rfl⟩ (entry_tr (k := K2) x.b x.M i3 hpx) (by repeat (first | exact Gets.done _ | exact Gets.all _ | (apply Gets.step; focus ((repeat (first | exact Pick.head _ _ | apply Pick.tail)); done)) | apply Gets.drop))) rfl ?_
          rintro _ _ ⟨rfl, rfl⟩
          rw [hx3]
          dsimp only [Option.getD_some, Option.isSome_some]
          refine x_v (r_mv rfl) rfl ?_
          refine x_v (r_ex rfl rfl) rfl ?_
          refine x_v (r_ex rfl rfl) rfl ?_
          refine x_a (r_al ty48 rfl) rfl fun b10 => ?_
          refine x_e (r_st ty48 rfl rfl rfl rfl rfl (by repeat (first | exact Upd.head _ _ _ | apply Upd.tail)) (by repeat (first | exact Over.nil _ | apply Over.put | apply Over.skip))) ?_
          refine x_v (r_as rfl) rfl ?_
          refine XL.nil ?_
          refine hK25 _ _ ?_
          refine XC.keep [(3, _), (4, _), (8, _), (9, _), (10, _), (11, _), (24, _), (25, _), (26, _), (36, _), (37, _)] ⟨rfl, rfl, rfl, rfl, rfl, rfl, rfl, rfl, rfl, rfl, rfl, trivial⟩ ?_
          refine XC.seq fun K26 hK26 => ?_
          refine XC.seq fun K27 hK27 => ?_
          refine XC.region ?_
          refine x_v (r_mv rfl) rfl ?_
          refine x_v (r_mv rfl) rfl ?_
          refine x_v (r_lk Try.underlying35 Try.underlying3 ty48 rfl rfl rfl (by repeat (first | exact Pick.head _ _ | apply Pick.tail))) rfl ?_
          rw [mpe_get, mpe_some]
          refine x_v (r_mv rfl) rfl ?_
          refine x_v (r_ex rfl rfl) rfl ?_
          refine x_v (r_ex rfl rfl) rfl ?_
          refine x_a (r_al ty48 rfl) rfl fun b12 => ?_
          refine x_e (r_st ty48 rfl rfl rfl rfl rfl (by repeat (first | exact Upd.head _ _ _ | apply Upd.tail)) (by repeat (first | exact Over.nil _ | apply Over.put | apply Over.skip))) ?_
          refine x_v (r_as rfl) rfl ?_
          refine XL.nil ?_
          refine hK27 _ _ ?_
          refine XC.keep [(3, _), (4, _), (8, _), (9, _), (10, _), (11, _), (12, _), (13, _), (24, _), (25, _), (26, _), (36, _), (37, _)] ⟨rfl, rfl, rfl, rfl, rfl, rfl, rfl, rfl, rfl, rfl, rfl, rfl, rfl, trivial⟩ ?_
          refine XC.seq fun K28 hK28 => ?_
          refine XC.region ?_
          refine x_v (r_mv rfl) rfl ?_
          refine x_v (r_not rfl) rfl ?_
          refine x_v (r_mv rfl) rfl ?_
          refine x_want rfl rfl rfl ?_
          refine x_v (r_mv rfl) rfl ?_
          refine x_want rfl rfl rfl ?_
          refine x_v (r_mv rfl) rfl ?_
          refine XL.split 68 rfl (fun hg68 => ?_) (fun hg68 => ?_)
          · refine x_want rfl rfl rfl ?_
            refine x_v (r_lda (l' := [_, _]) ty48 rfl (by repeat (first | exact Pick.head _ _ | apply Pick.tail)) rfl (Sub.get (by repeat (first | exact Sub.nil _ | apply Sub.take | apply Sub.skip)))) rfl ?_
            refine x_want rfl rfl rfl ?_
            refine x_v (r_lda (l' := [_, _]) ty48 rfl (by repeat (first | exact Pick.head _ _ | apply Pick.tail)) rfl (Sub.get (by repeat (first | exact Sub.nil _ | apply Sub.take | apply Sub.skip)))) rfl ?_
            refine x_want rfl rfl rfl ?_
            refine x_v (r_stne (by kernel_rfl) (fun w => eq48 _ _ _ _ w) rfl rfl) rfl ?_
            refine x_want rfl rfl rfl ?_
            refine x_v (r_pk_t rfl rfl) rfl ?_
            refine x_v (r_pk_f rfl rfl) rfl ?_
            refine XL.nil ?_
            refine hK28 _ _ ?_
            refine XC.keep [(3, _), (4, _), (8, _), (9, _), (10, _), (24, _), (25, _), (26, _), (36, _), (37, _), (73, _)] ⟨rfl, rfl, rfl, rfl, rfl, rfl, rfl, rfl, rfl, rfl, rfl, trivial⟩ ?_
            refine XC.cond_d rfl (fun hc6 => ?_) (fun hc6 => ?_)
            · refine XC.seq fun K29 hK29 => ?_
              refine XC.region ?_
              refine x_v (r_as rfl) rfl ?_
              refine XL.nil ?_
              refine hK29 _ _ ?_
              refine XC.keep [(2, _)] ⟨rfl, trivial⟩ ?_
              refine XC.ret ?_
              exact absurd (oi_odd hsg2.inv.g hoi3 hobs hg68) hc6
            · refine XC.skip ?_
              refine hK26 _ _ ?_
              refine XC.keep [(3, _), (4, _), (8, _), (9, _), (10, _), (24, _), (25, _), (26, _), (36, _), (37, _)] ⟨rfl, rfl, rfl, rfl, rfl, rfl, rfl, rfl, rfl, rfl, trivial⟩ ?_
              refine XC.region ?_
              refine x_v (r_mv rfl) rfl ?_
              refine x_v (r_mv rfl) rfl ?_
              refine x_v (r_lda (l' := [_, _]) ty48 rfl (by repeat (first | exact Pick.head _ _ | apply Pick.tail)) rfl (Sub.get (by repeat (first | exact Sub.nil _ | apply Sub.take | apply Sub.skip)))) rfl ?_
              refine x_e (r_mu (mpe (put1 said3 i3 x3)) Try.underlying35 Try.underlying3 rfl rfl rfl rfl (mpe_one said3 i3 x3) (mpe_other said3 i3 x3) (by repeat (first | exact Upd.head _ _ _ | apply Upd.tail))) ?_
              refine XL.nil ?_
              refine hK24 _ _ ?_
              refine XC.keep [(3, _), (4, _), (8, _), (9, _), (24, _), (25, _), (26, _), (36, _), (37, _)] ⟨rfl, rfl, rfl, rfl, rfl, rfl, rfl, rfl, rfl, trivial⟩ ?_
              refine XC.region ?_
              refine x_v (r_mv rfl) rfl ?_
              refine x_v (r_add rfl rfl (by omega)) rfl ?_
              refine x_v (r_as rfl) rfl ?_
              refine XL.nil ?_
              refine ⟨(i3 + 1, put1 said3 i3 x3), ?_, ?_, ⟨rfl, rfl, rfl, rfl, rfl, rfl, rfl, rfl, rfl, trivial⟩, (by repeat (first | exact Gets.done _ | exact Gets.all _ | (apply Gets.step; focus ((repeat (first | exact Pick.head _ _ | apply Pick.tail)); done)) | apply Gets.drop))⟩
              · exact ⟨by dsimp only; omega, by dsimp only; omega, hoi3.put hobs⟩
              · dsimp only; omega
          · refine x_unwant rfl rfl rfl rfl rfl ?_
            refine x_unwant rfl rfl rfl rfl rfl ?_
            refine x_unwant rfl rfl rfl rfl rfl ?_
            refine x_want rfl rfl rfl ?_
            refine x_v (r_pk_f rfl rfl) rfl ?_
            refine x_v (r_pk_f rfl rfl) rfl ?_
            refine XL.nil ?_
            refine hK28 _ _ ?_
            refine XC.keep [(3, _), (4, _), (8, _), (9, _), (10, _), (24, _), (25, _), (26, _), (36, _), (37, _), (73, _)] ⟨rfl, rfl, rfl, rfl, rfl, rfl, rfl, rfl, rfl, rfl, rfl, trivial⟩ ?_
            refine XC.cond_f rfl ?_
            refine XC.skip ?_
            refine hK26 _ _ ?_
            refine XC.keep [(3, _), (4, _), (8, _), (9, _), (10, _), (24, _), (25, _), (26, _), (36, _), (37, _)] ⟨rfl, rfl, rfl, rfl, rfl, rfl, rfl, rfl, rfl, rfl, trivial⟩ ?_
            refine XC.region ?_
            refine x_v (r_mv rfl) rfl ?_
            refine x_v (r_mv rfl) rfl ?_
            refine x_v (r_lda (l' := [_, _]) ty48 rfl (by repeat (first | exact Pick.head _ _ | apply Pick.tail)) rfl (Sub.get (by repeat (first | exact Sub.nil _ | apply Sub.take | apply Sub.skip)))) rfl ?_
            refine x_e (r_mu (mpe (put1 said3 i3 x3)) Try.underlying35 Try.underlying3 rfl rfl rfl rfl (mpe_one said3 i3 x3) (mpe_other said3 i3 x3) (by repeat (first | exact Upd.head _ _ _ | apply Upd.tail))) ?_
            refine XL.nil ?_
            refine hK24 _ _ ?_
            refine XC.keep [(3, _), (4, _), (8, _), (9, _), (24, _), (25, _), (26, _), (36, _), (37, _)] ⟨rfl, rfl, rfl, rfl, rfl, rfl, rfl, rfl, rfl, trivial⟩ ?_
            refine XC.region ?_
            refine x_v (r_mv rfl) rfl ?_
            refine x_v (r_add rfl rfl (by omega)) rfl ?_
            refine x_v (r_as rfl) rfl ?_
            refine XL.nil ?_
            refine ⟨(i3 + 1, put1 said3 i3 x3), ?_, ?_, ⟨rfl, rfl, rfl, rfl, rfl, rfl, rfl, rfl, rfl, trivial⟩, (by repeat (first | exact Gets.done _ | exact Gets.all _ | (apply Gets.step; focus ((repeat (first | exact Pick.head _ _ | apply Pick.tail)); done)) | apply Gets.drop))⟩
            · exact ⟨by dsimp only; omega, by dsimp only; omega, hoi3.put hobs⟩
            · dsimp only; omega
        · refine XC.exit rfl ?_
          refine hK17 _ _ ?_
          refine XC.keep [(3, _), (4, _), (24, _), (25, _), (26, _), (36, _), (37, _)] ⟨rfl, rfl, rfl, rfl, rfl, rfl, rfl, trivial⟩ ?_
          refine XC.mem (nds l2 :: mpf b23 (.int .i64) (mpe said3) :: blk sb 68 (sic l2 A2 L2.length c2) :: sl A2 L2.length c2 109 19 (cells fc L2) :: K2 :: Fr) (fun w h => own_shut hx (Gets.own (by repeat (first | exact Gets.done _ | exact Gets.all _ | (apply Gets.step; focus ((repeat (first | exact Pick.head _ _ | apply Pick.tail)); done)) | apply Gets.drop)) h)) ?_
          refine XC.region ?_
          refine x_v (r_add rfl rfl (by omega)) rfl ?_
          refine x_v (r_mv rfl) rfl ?_
          refine XL.nil ?_
          refine ⟨(n + 1, said3), ?_, ?_, ⟨rfl, rfl, rfl, rfl, rfl, rfl, rfl, trivial⟩, (by repeat (first | exact Gets.done _ | exact Gets.all _ | (apply Gets.step; focus ((repeat (first | exact Pick.head _ _ | apply Pick.tail)); done)) | apply Gets.drop))⟩
          · exact ⟨by dsimp only; omega, hoi3⟩
          · dsimp only; omega
      · refine XC.exit rfl ?_
        refine hK11 _ _ ?_
        refine XC.keep [(3, _), (4, _), (24, _), (25, _), (26, _)] ⟨rfl, rfl, rfl, rfl, rfl, trivial⟩ ?_
        refine XC.region ?_
        refine x_v (r_add rfl rfl (by omega)) rfl ?_
        refine x_v (r_mv rfl) rfl ?_
        refine XL.nil ?_
        refine ⟨(i + 1, l2, A2, c2, L2, K2, G2, F2, said2), ?_, ?_, ⟨rfl, rfl, rfl, rfl, rfl, trivial⟩, (by repeat (first | exact Gets.done _ | exact Gets.all _ | (apply Gets.step; focus ((repeat (first | exact Pick.head _ _ | apply Pick.tail)); done)) | apply Gets.drop))⟩
        · exact ⟨by dsimp only; omega, hsg2, hoi2⟩
        · dsimp only; omega
    · refine XC.exit rfl ?_
      refine hK7 _ _ ?_
      refine XC.keep [] trivial ?_
      refine XC.seq fun K30 hK30 => ?_
      refine XC.region ?_
      refine x_v (r_as rfl) rfl ?_
      refine XL.nil ?_
      refine hK30 _ _ ?_
      refine XC.keep [(2, _)] ⟨rfl, trivial⟩ ?_
      refine XC.ret ?_
      exact fin1 rfl (rfl) (by repeat (first | exact Gets.done _ | exact Gets.all _ | (apply Gets.step; focus ((repeat (first | exact Pick.head _ _ | apply Pick.tail)); done)) | apply Gets.drop))
end Go.Proofs.Ytlogcldbflemfaa

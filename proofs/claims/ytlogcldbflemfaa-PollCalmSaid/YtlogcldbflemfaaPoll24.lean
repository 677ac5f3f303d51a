/- Polls: entries of one number and term (function 6). -/
import Derived.Test.YtlogcldbflemfaaPoll23
namespace Go.Proofs.Ytlogcldbflemfaa
open Go.Sx Go.Rf
set_option linter.unusedVariables false

theorem nds_shut : ∀ (l : List NdR) (n : Nat) (x : NdR) (h : Heap), l[n]? = some x → sep (nd x) (nds (l.eraseIdx n)) h → nds l h
  | [], n, x, h, hx, H => by simp at hx
  | y :: l, 0, x, h, hx, H => by
    have : y = x := by simpa using hx
    subst this; exact H
  | y :: l, n + 1, x, h, hx, H => by
    have hx' : l[n]? = some x := by simpa using hx
    exact sep_mono (fun _ a => a) (fun g hg => nds_shut l n x g hx' hg) (sep_swap H)
theorem own_shut {W0 w : World} {l : List NdR} {n : Nat} {x : NdR} {Rs : List HP} (hx : l[n]? = some x) (H : Own W0 w (blk x.b 90 (pc x.p x.A x.c x.M) :: vmo x.M :: nds (l.eraseIdx n) :: Rs)) : Own W0 w (nds l :: Rs) :=
  have h1 : Own W0 w (sep (nd x) (nds (l.eraseIdx n)) :: Rs) := (show Own W0 w (nd x :: nds (l.eraseIdx n) :: Rs) from H.stash).stash
  ⟨h1.os, h1.tape, h1.output, h1.size, h1.old, let ⟨h, a, b⟩ := h1.own; ⟨h, sep_mono (fun g hg => nds_shut l n x g hx hg) (fun _ a => a) a, b⟩⟩
theorem two_of {l : List NdR} (h3 : l.length = 3) {n : Int} (hn : Rf.Node n) : ∃ (x y : NdR) (j : Nat), l[n.toNat]? = some x ∧ Rf.Node ((n + 1) % 3) ∧ l[((n + 1) % 3).toNat]? = some y ∧ (l.eraseIdx n.toNat)[j]? = some y := by
  unfold Rf.Node at hn
  rcases l with _ | ⟨a, _ | ⟨b, _ | ⟨d, _ | ⟨e, l⟩⟩⟩⟩
  · cases h3
  · cases h3
  · cases h3
  · rcases hn with rfl | rfl | rfl
    · exact ⟨a, b, 0, rfl, by unfold Rf.Node; decide, rfl, rfl⟩
    · exact ⟨b, d, 1, rfl, by unfold Rf.Node; decide, rfl, rfl⟩
    · exact ⟨d, a, 0, rfl, by unfold Rf.Node; decide, rfl, rfl⟩
  · simp only [List.length_cons] at h3; omega
theorem same_at {G : Gh} {n m : Int} {p q : Pl} {F1 F2 : Log} (hx : NInv G n p F1) (hy : NInv G m q F2) {i k : Int} (h1 : (!(entry p i).isSome) = false) (h2 : (!(entry q i).isSome) = false) (h3 : ¬¬((entry p i).getD en0).term = ((entry q i).getD en0).term) (hk : k ≤ i) (h4 : (entry p k).isSome = true) (h5 : (entry q k).isSome = true) :
    ((entry p k).getD en0).term = ((entry q k).getD en0).term ∧ ((entry p k).getD en0).data = ((entry q k).getD en0).data := by
  cases ha : entry p i with
  | none => rw [ha] at h1; cases h1
  | some a =>
  cases hb : entry q i with
  | none => rw [hb] at h2; cases h2
  | some b =>
  cases hc : entry p k with
  | none => rw [hc] at h4; cases h4
  | some c =>
  cases hd : entry q k with
  | none => rw [hd] at h5; cases h5
  | some d =>
    rw [ha, hb] at h3
    have := same_upto hx hy ha hb (Classical.not_not.1 h3) hk hc hd
    subst this; exact ⟨rfl, rfl⟩
def actc (a : Int × Int × Int) : List Value := [.int .i64 a.1, .int .i64 a.2.1, .int .i64 a.2.2]
theorem actc_len (a : Int × Int × Int) : (actc a).length = 3 := rfl

theorem pollsame_tr {W0 : World} {Fr : List HP} (XA : Option Addr) (xc : Nat) (T : List (Int × Int × Int)) (hr : ∀ Fr, Rdb W0 Fr XA T.length 3 (cells actc T)) : Tr W0 Try.prog 6 [.slice XA T.length xc] Fr (fun v Rs' => v = .bool true) := by
  refine Entry.tr (N := 112) (rs := [.tmp 2]) ⟨_, Try.func6, rfl, by kernel_rfl, rfl, rfl⟩ rfl ?_
  refine XC.seq fun K1 hK1 => ?_
  refine XC.region ?_
  refine x_v (r_as rfl) rfl ?_
  refine XL.nil ?_
  refine hK1 _ _ ?_
  refine XC.keep [(0, _)] ⟨rfl, trivial⟩ ?_
  refine XC.seq fun K2 hK2 => ?_
  refine XC.seq fun K3 hK3 => ?_
  refine XC.region ?_
  refine x_c (r_call0 (args := []) rfl (awake_tr) (by repeat (first | exact Gets.done _ | exact Gets.all _ | (apply Gets.step; focus ((repeat (first | exact Pick.head _ _ | apply Pick.tail)); done)) | apply Gets.drop))) rfl ?_
  rintro _ _ ⟨rfl, hRs⟩
  rw [hRs]
  refine x_v (r_not rfl) rfl ?_
  refine x_v (r_mv rfl) rfl ?_
  refine x_want rfl rfl rfl ?_
  refine x_v (r_mv rfl) rfl ?_
  refine x_want rfl rfl rfl ?_
  refine x_v (r_lensl Try.underlying59 rfl) rfl ?_
  refine x_want rfl rfl rfl ?_
  refine x_v (r_gt rfl rfl) rfl ?_
  refine x_v (r_pk_f rfl rfl) rfl ?_
  refine XL.nil ?_
  refine hK3 _ _ ?_
  refine XC.keep [(0, _), (21, _)] ⟨rfl, rfl, trivial⟩ ?_
  refine XC.cond_d rfl (fun hc1 => ?_) (fun hc1 => ?_)
  · refine XC.seq fun K4 hK4 => ?_
    refine XC.region ?_
    refine x_c (r_call0 (args := []) rfl (awake_tr) (by repeat (first | exact Gets.done _ | exact Gets.all _ | (apply Gets.step; focus ((repeat (first | exact Pick.head _ _ | apply Pick.tail)); done)) | apply Gets.drop))) rfl ?_
    rintro _ _ ⟨rfl, hRs2⟩
    rw [hRs2]
    refine x_v (r_as rfl) rfl ?_
    refine XL.nil ?_
    refine hK4 _ _ ?_
    refine XC.keep [(2, _)] ⟨rfl, trivial⟩ ?_
    refine XC.ret ?_
    exact fin1 rfl (rfl) (by repeat (first | exact Gets.done _ | exact Gets.all _ | (apply Gets.step; focus ((repeat (first | exact Pick.head _ _ | apply Pick.tail)); done)) | apply Gets.drop))
  · refine XC.skip ?_
    refine hK2 _ _ ?_
    refine XC.keep [(0, _)] ⟨rfl, trivial⟩ ?_
    refine XC.seq fun K5 hK5 => ?_
    refine XC.region ?_
    refine x_c (r_call0 (args := []) rfl (begun_tr) (by repeat (first | exact Gets.done _ | exact Gets.all _ | (apply Gets.step; focus ((repeat (first | exact Pick.head _ _ | apply Pick.tail)); done)) | apply Gets.drop))) rfl ?_
    rintro _ _ ⟨sb, l, K, rfl, rfl, hst, hok⟩
    have hsg := sg_begun hst hok
    refine x_v (r_as rfl) rfl ?_
    refine XL.nil ?_
    refine hK5 _ _ ?_
    refine XC.keep [(0, _), (3, _)] ⟨rfl, rfl, trivial⟩ ?_
    refine XC.seq fun K6 hK6 => ?_
    refine XC.seq fun K7 hK7 => ?_
    refine XC.region ?_
    refine x_v (r_mv rfl) rfl ?_
    refine x_v (r_lensl Try.underlying59 rfl) rfl ?_
    refine x_v (r_mv rfl) rfl ?_
    refine XL.nil ?_
    refine hK7 _ _ ?_
    refine XC.keep [(3, _), (24, _), (25, _), (26, _)] ⟨rfl, rfl, rfl, rfl, trivial⟩ ?_
    refine XC.block ?_
    refine XC.loop (σ := Nat × List NdR × Option Addr × Nat × List (Int × Int × Mx) × HP × Gh × (Int → Log)) (fun s => [(3, .pointer (some ⟨sb, 0, none⟩)), (24, .slice XA T.length xc), (25, .int .i64 (T.length : Int)), (26, .int .i64 (s.1 : Int))]) (fun s => blk sb 68 (sic s.2.1 s.2.2.1 s.2.2.2.2.1.length s.2.2.2.1) :: sl s.2.2.1 s.2.2.2.2.1.length s.2.2.2.1 109 19 (cells fc s.2.2.2.2.1) :: nds s.2.1 :: s.2.2.2.2.2.1 :: Fr) (fun s => s.1 ≤ T.length ∧ SG W0 s.2.2.2.2.2.1 (2 + s.1) s.2.1 s.2.2.2.2.1 s.2.2.2.2.2.2.1 s.2.2.2.2.2.2.2) (fun s => T.length - s.1) (0, l, none, 0, [], K, G0, fun _ => []) ?_ ⟨rfl, rfl, rfl, rfl, trivial⟩ (by repeat (first | exact Gets.done _ | exact Gets.all _ | (apply Gets.step; focus ((repeat (first | exact Pick.head _ _ | apply Pick.tail)); done)) | apply Gets.drop)) ?_
    · exact ⟨Nat.zero_le _, hsg⟩
    rintro ⟨i, l, wA, wc, L, K, G, F⟩ ⟨hi, hsg⟩
    dsimp only at hi hsg ⊢
    refine XC.seq fun K8 hK8 => ?_
    refine XC.region ?_
    refine x_v (r_lt rfl rfl) rfl ?_
    refine XL.nil ?_
    refine hK8 _ _ ?_
    refine XC.keep [(3, _), (24, _), (25, _), (26, _), (27, _)] ⟨rfl, rfl, rfl, rfl, rfl, trivial⟩ ?_
    refine XC.seq fun K9 hK9 => ?_
    refine XC.cond_d rfl (fun hc2 => ?_) (fun hc2 => ?_)
    · refine XC.skip ?_
      refine hK9 _ _ ?_
      refine XC.keep [(3, _), (24, _), (25, _), (26, _)] ⟨rfl, rfl, rfl, rfl, trivial⟩ ?_
      refine XC.seq fun K10 hK10 => ?_
      refine XC.block ?_
      refine XC.seq fun K11 hK11 => ?_
      obtain ⟨a, ha⟩ : ∃ a, T[i]? = some a := ⟨_, List.getElem?_eq_getElem (by omega)⟩
      obtain ⟨ob, oo, rfl, hat⟩ := (hr []).at_ (by omega)
      refine XC.region ?_
      refine x_v (r_ia (k := i) Try.underlying59 ty63 rfl rfl (by omega) (by omega)) rfl ?_
      refine x_v (r_ldar (l' := actc a) ty63 rfl rfl (fun w hw j u hu => by rw [Nat.add_assoc]; exact hat w (Gets.own (by repeat (first | exact Gets.done _ | exact Gets.all _ | (apply Gets.step; focus ((repeat (first | exact Pick.head _ _ | apply Pick.tail)); done)) | apply Gets.drop)) hw) _ u (cells_get actc_len T _ _ ha j u hu))) rfl ?_
      refine x_a (r_al ty63 rfl) rfl fun b5 => ?_
      refine x_e (r_st ty63 rfl rfl rfl rfl rfl (by repeat (first | exact Upd.head _ _ _ | apply Upd.tail)) (by repeat (first | exact Over.nil _ | apply Over.put | apply Over.skip))) ?_
      refine XL.nil ?_
      refine hK11 _ _ ?_
      refine XC.keep [(3, _), (5, _), (24, _), (25, _), (26, _)] ⟨rfl, rfl, rfl, rfl, rfl, trivial⟩ ?_
      refine XC.region ?_
      refine x_v (r_mv rfl) rfl ?_
      refine x_v (r_lda (l' := [_, _, _]) ty63 rfl (by repeat (first | exact Pick.head _ _ | apply Pick.tail)) rfl (Sub.get (by repeat (first | exact Sub.nil _ | apply Sub.take | apply Sub.skip)))) rfl ?_
      refine x_c (r_call0 (args := [_, _]) ⟨rfl, rfl, rfl⟩ (acts_tr sb l wA wc L a.1 a.2.1 a.2.2 hsg (by omega)) (by repeat (first | exact Gets.done _ | exact Gets.all _ | (apply Gets.step; focus ((repeat (first | exact Pick.head _ _ | apply Pick.tail)); done)) | apply Gets.drop))) rfl ?_
      rintro _ _ ⟨rfl, l2, A2, c2, L2, K2, G2, F2, rfl, hx2, hsg2, he2⟩
      refine XL.nil ?_
      refine hK10 _ _ ?_
      refine XC.keep [(3, _), (24, _), (25, _), (26, _)] ⟨rfl, rfl, rfl, rfl, trivial⟩ ?_
      refine XC.region ?_
      refine x_v (r_add rfl rfl (by omega)) rfl ?_
      refine x_v (r_mv rfl) rfl ?_
      refine XL.nil ?_
      refine ⟨(i + 1, l2, A2, c2, L2, K2, G2, F2), ?_, ?_, ⟨rfl, rfl, rfl, rfl, trivial⟩, (by repeat (first | exact Gets.done _ | exact Gets.all _ | (apply Gets.step; focus ((repeat (first | exact Pick.head _ _ | apply Pick.tail)); done)) | apply Gets.drop))⟩
      · exact ⟨by dsimp only; omega, hsg2⟩
      · dsimp only; omega
    · refine XC.exit rfl ?_
      refine hK6 _ _ ?_
      refine XC.keep [(3, _)] ⟨rfl, trivial⟩ ?_
      refine XC.seq fun K12 hK12 => ?_
      refine XC.seq fun K13 hK13 => ?_
      refine XC.region ?_
      refine x_v (r_mv rfl) rfl ?_
      refine XL.nil ?_
      refine hK13 _ _ ?_
      refine XC.keep [(3, _), (34, _)] ⟨rfl, rfl, trivial⟩ ?_
      refine XC.block ?_
      refine XC.loop (σ := Int) (fun n => [(3, .pointer (some ⟨sb, 0, none⟩)), (34, .int .i64 n)]) (fun n => blk sb 68 (sic l wA L.length wc) :: nds l :: K :: Fr) (fun n => 0 ≤ n ∧ n ≤ 3) (fun n => (3 - n).toNat) 0 ?_ ⟨rfl, rfl, trivial⟩ (by repeat (first | exact Gets.done _ | exact Gets.all _ | (apply Gets.step; focus ((repeat (first | exact Pick.head _ _ | apply Pick.tail)); done)) | apply Gets.drop)) ?_
      · omega
      rintro n ⟨hn0, hn1⟩
      refine XC.seq fun K14 hK14 => ?_
      refine XC.region ?_
      refine x_v (r_lt rfl rfl) rfl ?_
      refine XL.nil ?_
      refine hK14 _ _ ?_
      refine XC.keep [(3, _), (34, _), (35, _)] ⟨rfl, rfl, rfl, trivial⟩ ?_
      refine XC.seq fun K15 hK15 => ?_
      refine XC.cond_d rfl (fun hc3 => ?_) (fun hc3 => ?_)
      · refine XC.skip ?_
        refine hK15 _ _ ?_
        refine XC.keep [(3, _), (34, _)] ⟨rfl, rfl, trivial⟩ ?_
        refine XC.seq fun K16 hK16 => ?_
        refine XC.block ?_
        refine XC.seq fun K17 hK17 => ?_
        have hn : Rf.Node n := by unfold Rf.Node; omega
        obtain ⟨x, y, j, hx, hm, hy, hj⟩ := two_of hsg.ok.len hn
        have hxm := List.mem_of_getElem? hx
        have hym := List.mem_of_getElem? hy
        have hnx := hsg.at_ hn hx
        have hny := hsg.at_ hm hy
        have hpx := hsg.ok.pb x hxm
        have hpy := hsg.ok.pb y hym
        have hLx := hsg.ok.lim x hxm
        have hLy := hsg.ok.lim y hym
        have hli := last_in hLx
        have hlj := last_in hLy
        have hmost : most = 1099511627776 := rfl
        have hn3 := nd_lt hn
        have hm3 := nd_lt hm
        refine XC.region ?_
        refine x_v (r_mv rfl) rfl ?_
        refine x_v (r_as rfl) rfl ?_
        refine XL.nil ?_
        refine hK17 _ _ ?_
        refine XC.keep [(3, _), (6, _), (34, _)] ⟨rfl, rfl, rfl, trivial⟩ ?_
        refine XC.seq fun K18 hK18 => ?_
        refine XC.draw [blk sb 68 (sic l wA L.length wc)] false [(0, false), (1, false), (2, false), (3, false), (4, false), (5, false), (6, false), (7, false), (8, false), (9, false), (10, false), (11, false), (12, false), (13, false), (14, false), (15, false)] (by kernel_rfl) (by kernel_rfl) ?_
        refine y_v rfl (r_mv rfl) (fun _ h => Gets.own (by repeat (first | exact Gets.done _ | exact Gets.all _ | (apply Gets.step; focus ((repeat (first | exact Pick.head _ _ | apply Pick.tail)); done)) | apply Gets.drop)) h) rfl ?_
        refine y_v rfl (r_mv rfl) (fun _ h => Gets.own (by repeat (first | exact Gets.done _ | exact Gets.all _ | (apply Gets.step; focus ((repeat (first | exact Pick.head _ _ | apply Pick.tail)); done)) | apply Gets.drop)) h) rfl ?_
        refine y_v rfl (r_nc rfl) (fun _ h => Gets.own (by repeat (first | exact Gets.done _ | exact Gets.all _ | (apply Gets.step; focus ((repeat (first | exact Pick.head _ _ | apply Pick.tail)); done)) | apply Gets.drop)) h) rfl ?_
        refine y_v rfl (r_fa fo68_0 rfl) (fun _ h => Gets.own (by repeat (first | exact Gets.done _ | exact Gets.all _ | (apply Gets.step; focus ((repeat (first | exact Pick.head _ _ | apply Pick.tail)); done)) | apply Gets.drop)) h) rfl ?_
        refine y_v rfl (r_iaa (k := n.toNat) Try.underlying65 ty23 rfl rfl (by omega) (by omega)) (fun _ h => Gets.own (by repeat (first | exact Gets.done _ | exact Gets.all _ | (apply Gets.step; focus ((repeat (first | exact Pick.head _ _ | apply Pick.tail)); done)) | apply Gets.drop)) h) rfl ?_
        refine y_v rfl (r_ld ty23 rfl (by repeat (first | exact Pick.head _ _ | apply Pick.tail)) (pn_at hn hx)) (fun _ h => Gets.own (by repeat (first | exact Gets.done _ | exact Gets.all _ | (apply Gets.step; focus ((repeat (first | exact Pick.head _ _ | apply Pick.tail)); done)) | apply Gets.drop)) h) rfl ?_
        refine y_v rfl (r_mv rfl) (fun _ h => Gets.own (by repeat (first | exact Gets.done _ | exact Gets.all _ | (apply Gets.step; focus ((repeat (first | exact Pick.head _ _ | apply Pick.tail)); done)) | apply Gets.drop)) h) rfl ?_
        refine y_v rfl (r_mv rfl) (fun _ h => Gets.own (by repeat (first | exact Gets.done _ | exact Gets.all _ | (apply Gets.step; focus ((repeat (first | exact Pick.head _ _ | apply Pick.tail)); done)) | apply Gets.drop)) h) rfl ?_
        refine y_v rfl (r_add rfl rfl (by omega)) (fun _ h => Gets.own (by repeat (first | exact Gets.done _ | exact Gets.all _ | (apply Gets.step; focus ((repeat (first | exact Pick.head _ _ | apply Pick.tail)); done)) | apply Gets.drop)) h) rfl ?_
        refine y_v rfl (r_rem rfl rfl (by omega)) (fun _ h => Gets.own (by repeat (first | exact Gets.done _ | exact Gets.all _ | (apply Gets.step; focus ((repeat (first | exact Pick.head _ _ | apply Pick.tail)); done)) | apply Gets.drop)) h) rfl ?_
        refine y_v rfl (r_nc rfl) (fun _ h => Gets.own (by repeat (first | exact Gets.done _ | exact Gets.all _ | (apply Gets.step; focus ((repeat (first | exact Pick.head _ _ | apply Pick.tail)); done)) | apply Gets.drop)) h) rfl ?_
        refine y_v rfl (r_fa fo68_0 rfl) (fun _ h => Gets.own (by repeat (first | exact Gets.done _ | exact Gets.all _ | (apply Gets.step; focus ((repeat (first | exact Pick.head _ _ | apply Pick.tail)); done)) | apply Gets.drop)) h) rfl ?_
        refine y_v rfl (r_iaa (k := ((n + 1) % 3).toNat) Try.underlying65 ty23 rfl rfl (by omega) (by omega)) (fun _ h => Gets.own (by repeat (first | exact Gets.done _ | exact Gets.all _ | (apply Gets.step; focus ((repeat (first | exact Pick.head _ _ | apply Pick.tail)); done)) | apply Gets.drop)) h) rfl ?_
        refine y_v rfl (r_ld ty23 rfl (by repeat (first | exact Pick.head _ _ | apply Pick.tail)) (pn_at hm hy)) (fun _ h => Gets.own (by repeat (first | exact Gets.done _ | exact Gets.all _ | (apply Gets.step; focus ((repeat (first | exact Pick.head _ _ | apply Pick.tail)); done)) | apply Gets.drop)) h) rfl ?_
        refine y_v rfl (r_as rfl) (fun _ h => Gets.own (by repeat (first | exact Gets.done _ | exact Gets.all _ | (apply Gets.step; focus ((repeat (first | exact Pick.head _ _ | apply Pick.tail)); done)) | apply Gets.drop)) h) rfl ?_
        refine y_v rfl (r_as rfl) (fun _ h => Gets.own (by repeat (first | exact Gets.done _ | exact Gets.all _ | (apply Gets.step; focus ((repeat (first | exact Pick.head _ _ | apply Pick.tail)); done)) | apply Gets.drop)) h) rfl ?_
        refine XH.nil ?_
        refine hK18 _ _ ?_
        refine XC.keep [(3, _), (7, _), (8, _), (34, _)] ⟨rfl, rfl, rfl, rfl, trivial⟩ ?_
        refine XC.seq fun K19 hK19 => ?_
        refine XC.mem (blk x.b 90 (pc x.p x.A x.c x.M) :: vmo x.M :: blk y.b 90 (pc y.p y.A y.c y.M) :: vmo y.M :: nds ((l.eraseIdx n.toNat).eraseIdx j) :: blk sb 68 (sic l wA L.length wc) :: K :: Fr) (fun w h => by (have h1 := own_open hx (Gets.own (by repeat (first | exact Gets.done _ | exact Gets.all _ | (apply Gets.step; focus ((repeat (first | exact Pick.head _ _ | apply Pick.tail)); done)) | apply Gets.drop)) h : Own _ w (nds l :: blk sb 68 (sic l wA L.length wc) :: K :: Fr)); have h2 := own_open hj (Gets.own (by repeat (first | exact Gets.done _ | exact Gets.all _ | (apply Gets.step; focus ((repeat (first | exact Pick.head _ _ | apply Pick.tail)); done)) | apply Gets.drop)) h1 : Own _ w (nds (l.eraseIdx n.toNat) :: blk x.b 90 (pc x.p x.A x.c x.M) :: vmo x.M :: blk sb 68 (sic l wA L.length wc) :: K :: Fr)); exact Gets.own (by repeat (first | exact Gets.done _ | exact Gets.all _ | (apply Gets.step; focus ((repeat (first | exact Pick.head _ _ | apply Pick.tail)); done)) | apply Gets.drop)) h2)) ?_
        refine XC.region ?_
        refine x_v (r_mv rfl) rfl ?_
        refine x_c (r_call0 (args := [_]) ⟨rfl, rfl⟩ (plast_tr (k := K) x.b x.M hpx) (by repeat (first | exact Gets.done _ | exact Gets.all _ | (apply Gets.step; focus ((repeat (first | exact Pick.head _ _ | apply Pick.tail)); done)) | apply Gets.drop))) rfl ?_
        rintro _ _ ⟨rfl, rfl⟩
        refine x_v (r_mv rfl) rfl ?_
        refine x_c (r_call0 (args := [_]) ⟨rfl, rfl⟩ (plast_tr (k := K) y.b y.M hpy) (by repeat (first | exact Gets.done _ | exact Gets.all _ | (apply Gets.step; focus ((repeat (first | exact Pick.head _ _ | apply Pick.tail)); done)) | apply Gets.drop))) rfl ?_
        rintro _ _ ⟨rfl, rfl⟩
        refine x_v (r_min rfl rfl) rfl ?_
        refine x_v (r_as rfl) rfl ?_
        refine XL.nil ?_
        refine hK19 _ _ ?_
        refine XC.keep [(3, _), (7, _), (8, _), (9, _), (34, _)] ⟨rfl, rfl, rfl, rfl, rfl, trivial⟩ ?_
        refine XC.block ?_
        refine XC.loop (σ := Int) (fun i => [(3, .pointer (some ⟨sb, 0, none⟩)), (7, .pointer (some ⟨x.b, 0, none⟩)), (8, .pointer (some ⟨y.b, 0, none⟩)), (9, .int .i64 i), (34, .int .i64 n)]) (fun i => blk x.b 90 (pc x.p x.A x.c x.M) :: vmo x.M :: blk y.b 90 (pc y.p y.A y.c y.M) :: vmo y.M :: nds ((l.eraseIdx n.toNat).eraseIdx j) :: blk sb 68 (sic l wA L.length wc) :: K :: Fr) (fun i => i ≤ min (lastI x.p) (lastI y.p) ∧ 0 ≤ i) (fun i => i.toNat) (min (lastI x.p) (lastI y.p)) ?_ ⟨rfl, rfl, rfl, rfl, rfl, trivial⟩ (by repeat (first | exact Gets.done _ | exact Gets.all _ | (apply Gets.step; focus ((repeat (first | exact Pick.head _ _ | apply Pick.tail)); done)) | apply Gets.drop)) ?_
        · omega
        rintro i2 ⟨hi2, hi0⟩
        refine XC.seq fun K20 hK20 => ?_
        refine XC.seq fun K21 hK21 => ?_
        refine XC.region ?_
        refine x_v (r_mv rfl) rfl ?_
        refine x_v (r_gt rfl rfl) rfl ?_
        refine XL.nil ?_
        refine hK21 _ _ ?_
        refine XC.keep [(3, _), (7, _), (8, _), (9, _), (34, _), (57, _)] ⟨rfl, rfl, rfl, rfl, rfl, rfl, trivial⟩ ?_
        refine XC.cond_d rfl (fun hc4 => ?_) (fun hc4 => ?_)
        · refine XC.skip ?_
          refine hK20 _ _ ?_
          refine XC.keep [(3, _), (7, _), (8, _), (9, _), (34, _)] ⟨rfl, rfl, rfl, rfl, rfl, trivial⟩ ?_
          refine XC.seq fun K22 hK22 => ?_
          refine XC.block ?_
          refine XC.seq fun K23 hK23 => ?_
          refine XC.region ?_
          refine x_v (r_mv rfl) rfl ?_
          refine x_v (r_mv rfl) rfl ?_
          refine x_c (r_call0 (args := [_, _]) ⟨rfl, rfl, rfl⟩ (entry_tr (k := K) x.b x.M i2 hpx) (by repeat (first | exact Gets.done _ | exact Gets.all _ | (apply Gets.step; focus ((repeat (first | exact Pick.head _ _ | apply Pick.tail)); done)) | apply Gets.drop))) rfl ?_
          rintro _ _ ⟨rfl, rfl⟩
          refine x_v (r_mv rfl) rfl ?_
          refine x_v (r_ex rfl rfl) rfl ?_
          refine x_v (r_ex rfl rfl) rfl ?_
          refine x_a (r_al ty48 rfl) rfl fun b10 => ?_
          refine x_e (r_st ty48 rfl rfl rfl rfl rfl (by repeat (first | exact Upd.head _ _ _ | apply Upd.tail)) (by repeat (first | exact Over.nil _ | apply Over.put | apply Over.skip))) ?_
          refine x_v (r_as rfl) rfl ?_
          refine XL.nil ?_
          refine hK23 _ _ ?_
          refine XC.keep [(3, _), (7, _), (8, _), (9, _), (10, _), (11, _), (34, _)] ⟨rfl, rfl, rfl, rfl, rfl, rfl, rfl, trivial⟩ ?_
          refine XC.seq fun K24 hK24 => ?_
          refine XC.region ?_
          refine x_v (r_mv rfl) rfl ?_
          refine x_v (r_mv rfl) rfl ?_
          refine x_c (r_call0 (args := [_, _]) ⟨rfl, rfl, rfl⟩ (entry_tr (k := K) y.b y.M i2 hpy) (by repeat (first | exact Gets.done _ | exact Gets.all _ | (apply Gets.step; focus ((repeat (first | exact Pick.head _ _ | apply Pick.tail)); done)) | apply Gets.drop))) rfl ?_
          rintro _ _ ⟨rfl, rfl⟩
          refine x_v (r_mv rfl) rfl ?_
          refine x_v (r_ex rfl rfl) rfl ?_
          refine x_v (r_ex rfl rfl) rfl ?_
          refine x_a (r_al ty48 rfl) rfl fun b12 => ?_
          refine x_e (r_st ty48 rfl rfl rfl rfl rfl (by repeat (first | exact Upd.head _ _ _ | apply Upd.tail)) (by repeat (first | exact Over.nil _ | apply Over.put | apply Over.skip))) ?_
          refine x_v (r_as rfl) rfl ?_
          refine XL.nil ?_
          refine hK24 _ _ ?_
          refine XC.keep [(3, _), (7, _), (8, _), (9, _), (10, _), (11, _), (12, _), (13, _), (34, _)] ⟨rfl, rfl, rfl, rfl, rfl, rfl, rfl, rfl, rfl, trivial⟩ ?_
          refine XC.seq fun K25 hK25 => ?_
          refine XC.seq fun K26 hK26 => ?_
          refine XC.region ?_
          refine x_v (r_mv rfl) rfl ?_
          refine x_v (r_not rfl) rfl ?_
          refine x_v (r_mv rfl) rfl ?_
          refine XL.split 74 rfl (fun hg74 => ?_) (fun hg74 => ?_)
          · refine x_unwant rfl rfl rfl rfl rfl ?_
            refine x_unwant rfl rfl rfl rfl rfl ?_
            refine x_v (r_pk_t rfl rfl) rfl ?_
            refine x_v (r_mv rfl) rfl ?_
            refine x_unwant rfl rfl rfl rfl rfl ?_
            refine x_unwant rfl rfl rfl rfl rfl ?_
            refine x_unwant rfl rfl rfl rfl rfl ?_
            refine x_unwant rfl rfl rfl rfl rfl ?_
            refine x_unwant rfl rfl rfl rfl rfl ?_
            refine x_v (r_pk_t rfl rfl) rfl ?_
            refine XL.nil ?_
            refine hK26 _ _ ?_
            refine XC.keep [(3, _), (7, _), (8, _), (9, _), (10, _), (12, _), (34, _), (84, _)] ⟨rfl, rfl, rfl, rfl, rfl, rfl, rfl, rfl, trivial⟩ ?_
            refine XC.cond_t rfl ?_
            refine XC.exit rfl ?_
            refine hK22 _ _ ?_
            refine XC.keep [(3, _), (7, _), (8, _), (9, _), (34, _)] ⟨rfl, rfl, rfl, rfl, rfl, trivial⟩ ?_
            refine XC.region ?_
            refine x_v (r_mv rfl) rfl ?_
            refine x_v (r_sub rfl rfl (by omega)) rfl ?_
            refine x_v (r_as rfl) rfl ?_
            refine XL.nil ?_
            refine ⟨i2 - 1, ?_, ?_, ⟨rfl, rfl, rfl, rfl, rfl, trivial⟩, (by repeat (first | exact Gets.done _ | exact Gets.all _ | (apply Gets.step; focus ((repeat (first | exact Pick.head _ _ | apply Pick.tail)); done)) | apply Gets.drop))⟩
            · omega
            · omega
          · refine x_want rfl rfl rfl ?_
            refine x_v (r_mv rfl) rfl ?_
            refine x_want rfl rfl rfl ?_
            refine x_v (r_not rfl) rfl ?_
            refine x_v (r_pk_f rfl rfl) rfl ?_
            refine x_v (r_mv rfl) rfl ?_
            refine XL.split 78 rfl (fun hg78 => ?_) (fun hg78 => ?_)
            · refine x_unwant rfl rfl rfl rfl rfl ?_
              refine x_unwant rfl rfl rfl rfl rfl ?_
              refine x_unwant rfl rfl rfl rfl rfl ?_
              refine x_unwant rfl rfl rfl rfl rfl ?_
              refine x_unwant rfl rfl rfl rfl rfl ?_
              refine x_v (r_pk_t rfl rfl) rfl ?_
              refine XL.nil ?_
              refine hK26 _ _ ?_
              refine XC.keep [(3, _), (7, _), (8, _), (9, _), (10, _), (12, _), (34, _), (84, _)] ⟨rfl, rfl, rfl, rfl, rfl, rfl, rfl, rfl, trivial⟩ ?_
              refine XC.cond_t rfl ?_
              refine XC.exit rfl ?_
              refine hK22 _ _ ?_
              refine XC.keep [(3, _), (7, _), (8, _), (9, _), (34, _)] ⟨rfl, rfl, rfl, rfl, rfl, trivial⟩ ?_
              refine XC.region ?_
              refine x_v (r_mv rfl) rfl ?_
              refine x_v (r_sub rfl rfl (by omega)) rfl ?_
              refine x_v (r_as rfl) rfl ?_
              refine XL.nil ?_
              refine ⟨i2 - 1, ?_, ?_, ⟨rfl, rfl, rfl, rfl, rfl, trivial⟩, (by repeat (first | exact Gets.done _ | exact Gets.all _ | (apply Gets.step; focus ((repeat (first | exact Pick.head _ _ | apply Pick.tail)); done)) | apply Gets.drop))⟩
              · omega
              · omega
            · refine x_want rfl rfl rfl ?_
              refine x_v (r_fa fo48_0 rfl) rfl ?_
              refine x_want rfl rfl rfl ?_
              refine x_v (r_ld ty3 rfl (by repeat (first | exact Pick.head _ _ | apply Pick.tail)) (by rfl)) rfl ?_
              refine x_want rfl rfl rfl ?_
              refine x_v (r_fa fo48_0 rfl) rfl ?_
              refine x_want rfl rfl rfl ?_
              refine x_v (r_ld ty3 rfl (by repeat (first | exact Pick.head _ _ | apply Pick.tail)) (by rfl)) rfl ?_
              refine x_want rfl rfl rfl ?_
              refine x_v (r_ne rfl rfl) rfl ?_
              refine x_v (r_pk_f rfl rfl) rfl ?_
              refine XL.nil ?_
              refine hK26 _ _ ?_
              refine XC.keep [(3, _), (7, _), (8, _), (9, _), (10, _), (12, _), (34, _), (84, _)] ⟨rfl, rfl, rfl, rfl, rfl, rfl, rfl, rfl, trivial⟩ ?_
              refine XC.cond_d rfl (fun hc7 => ?_) (fun hc7 => ?_)
              · refine XC.exit rfl ?_
                refine hK22 _ _ ?_
                refine XC.keep [(3, _), (7, _), (8, _), (9, _), (34, _)] ⟨rfl, rfl, rfl, rfl, rfl, trivial⟩ ?_
                refine XC.region ?_
                refine x_v (r_mv rfl) rfl ?_
                refine x_v (r_sub rfl rfl (by omega)) rfl ?_
                refine x_v (r_as rfl) rfl ?_
                refine XL.nil ?_
                refine ⟨i2 - 1, ?_, ?_, ⟨rfl, rfl, rfl, rfl, rfl, trivial⟩, (by repeat (first | exact Gets.done _ | exact Gets.all _ | (apply Gets.step; focus ((repeat (first | exact Pick.head _ _ | apply Pick.tail)); done)) | apply Gets.drop))⟩
                · omega
                · omega
              · refine XC.skip ?_
                refine hK25 _ _ ?_
                refine XC.keep [(3, _), (7, _), (8, _), (9, _), (10, _), (12, _), (34, _)] ⟨rfl, rfl, rfl, rfl, rfl, rfl, rfl, trivial⟩ ?_
                refine XC.seq fun K27 hK27 => ?_
                refine XC.seq fun K28 hK28 => ?_
                refine XC.region ?_
                refine x_v (r_mv rfl) rfl ?_
                refine x_v (r_as rfl) rfl ?_
                refine XL.nil ?_
                refine hK28 _ _ ?_
                refine XC.keep [(3, _), (7, _), (8, _), (10, _), (12, _), (14, _), (34, _)] ⟨rfl, rfl, rfl, rfl, rfl, rfl, rfl, trivial⟩ ?_
                refine XC.block ?_
                refine XC.loop (σ := Int × En × En) (fun s => [(3, .pointer (some ⟨sb, 0, none⟩)), (7, .pointer (some ⟨x.b, 0, none⟩)), (8, .pointer (some ⟨y.b, 0, none⟩)), (10, .pointer (some ⟨b10, 0, none⟩)), (12, .pointer (some ⟨b12, 0, none⟩)), (14, .int .i64 s.1), (34, .int .i64 n)]) (fun s => blk b10 48 (ec s.2.1) :: blk b12 48 (ec s.2.2) :: blk x.b 90 (pc x.p x.A x.c x.M) :: vmo x.M :: blk y.b 90 (pc y.p y.A y.c y.M) :: vmo y.M :: nds ((l.eraseIdx n.toNat).eraseIdx j) :: blk sb 68 (sic l wA L.length wc) :: K :: Fr) (fun s => s.1 ≤ i2 ∧ 0 ≤ s.1) (fun s => s.1.toNat) (i2, (entry x.p i2).getD en0, (entry y.p i2).getD en0) ?_ ⟨rfl, rfl, rfl, rfl, rfl, rfl, rfl, trivial⟩ (by repeat (first | exact Gets.done _ | exact Gets.all _ | (apply Gets.step; focus ((repeat (first | exact Pick.head _ _ | apply Pick.tail)); done)) | apply Gets.drop)) ?_
                · dsimp only; omega
                rintro ⟨k, e1, e2⟩ ⟨hk, hk0⟩
                dsimp only at hk hk0 ⊢
                unfold ec
                refine XC.seq fun K29 hK29 => ?_
                refine XC.seq fun K30 hK30 => ?_
                refine XC.region ?_
                refine x_v (r_mv rfl) rfl ?_
                refine x_v (r_gt rfl rfl) rfl ?_
                refine XL.nil ?_
                refine hK30 _ _ ?_
                refine XC.keep [(3, _), (7, _), (8, _), (10, _), (12, _), (14, _), (34, _), (87, _)] ⟨rfl, rfl, rfl, rfl, rfl, rfl, rfl, rfl, trivial⟩ ?_
                refine XC.cond_d rfl (fun hc8 => ?_) (fun hc8 => ?_)
                · refine XC.skip ?_
                  refine hK29 _ _ ?_
                  refine XC.keep [(3, _), (7, _), (8, _), (10, _), (12, _), (14, _), (34, _)] ⟨rfl, rfl, rfl, rfl, rfl, rfl, rfl, trivial⟩ ?_
                  refine XC.seq fun K31 hK31 => ?_
                  refine XC.block ?_
                  refine XC.seq fun K32 hK32 => ?_
                  refine XC.region ?_
                  refine x_v (r_mv rfl) rfl ?_
                  refine x_v (r_mv rfl) rfl ?_
                  refine x_c (r_call0 (args := [_, _]) ⟨rfl, rfl, rfl⟩ (entry_tr (k := K) x.b x.M k hpx) (by repeat (first | exact Gets.done _ | exact Gets.all _ | (apply Gets.step; focus ((repeat (first | exact Pick.head _ _ | apply Pick.tail)); done)) | apply Gets.drop))) rfl ?_
                  rintro _ _ ⟨rfl, rfl⟩
                  refine x_v (r_mv rfl) rfl ?_
                  refine x_v (r_ex rfl rfl) rfl ?_
                  refine x_v (r_ex rfl rfl) rfl ?_
                  refine x_e (r_st ty48 rfl rfl rfl rfl rfl (by repeat (first | exact Upd.head _ _ _ | apply Upd.tail)) (by repeat (first | exact Over.nil _ | apply Over.put | apply Over.skip))) ?_
                  refine x_v (r_as rfl) rfl ?_
                  refine XL.nil ?_
                  refine hK32 _ _ ?_
                  refine XC.keep [(3, _), (7, _), (8, _), (10, _), (11, _), (12, _), (14, _), (34, _)] ⟨rfl, rfl, rfl, rfl, rfl, rfl, rfl, rfl, trivial⟩ ?_
                  refine XC.seq fun K33 hK33 => ?_
                  refine XC.region ?_
                  refine x_v (r_mv rfl) rfl ?_
                  refine x_v (r_mv rfl) rfl ?_
                  refine x_c (r_call0 (args := [_, _]) ⟨rfl, rfl, rfl⟩ (entry_tr (k := K) y.b y.M k hpy) (by repeat (first | exact Gets.done _ | exact Gets.all _ | (apply Gets.step; focus ((repeat (first | exact Pick.head _ _ | apply Pick.tail)); done)) | apply Gets.drop))) rfl ?_
                  rintro _ _ ⟨rfl, rfl⟩
                  refine x_v (r_mv rfl) rfl ?_
                  refine x_v (r_ex rfl rfl) rfl ?_
                  refine x_v (r_ex rfl rfl) rfl ?_
                  refine x_e (r_st ty48 rfl rfl rfl rfl rfl (by repeat (first | exact Upd.head _ _ _ | apply Upd.tail)) (by repeat (first | exact Over.nil _ | apply Over.put | apply Over.skip))) ?_
                  refine x_v (r_as rfl) rfl ?_
                  refine XL.nil ?_
                  refine hK33 _ _ ?_
                  refine XC.keep [(3, _), (7, _), (8, _), (10, _), (11, _), (12, _), (13, _), (14, _), (34, _)] ⟨rfl, rfl, rfl, rfl, rfl, rfl, rfl, rfl, rfl, trivial⟩ ?_
                  refine XC.seq fun K34 hK34 => ?_
                  refine XC.region ?_
                  refine x_v (r_mv rfl) rfl ?_
                  refine x_v (r_mv rfl) rfl ?_
                  refine XL.split 103 rfl (fun hg103 => ?_) (fun hg103 => ?_)
                  · refine x_want rfl rfl rfl ?_
                    refine x_v (r_mv rfl) rfl ?_
                    refine x_v (r_pk_t rfl rfl) rfl ?_
                    refine x_v (r_mv rfl) rfl ?_
                    refine XL.split 106 rfl (fun hg106 => ?_) (fun hg106 => ?_)
                    · refine x_want rfl rfl rfl ?_
                      refine x_v (r_lda (l' := [_, _]) ty48 rfl (by repeat (first | exact Pick.head _ _ | apply Pick.tail)) rfl (Sub.get (by repeat (first | exact Sub.nil _ | apply Sub.take | apply Sub.skip)))) rfl ?_
                      refine x_want rfl rfl rfl ?_
                      refine x_v (r_lda (l' := [_, _]) ty48 rfl (by repeat (first | exact Pick.head _ _ | apply Pick.tail)) rfl (Sub.get (by repeat (first | exact Sub.nil _ | apply Sub.take | apply Sub.skip)))) rfl ?_
                      refine x_want rfl rfl rfl ?_
                      refine x_v (r_stne (by kernel_rfl) (fun w => eq48 _ _ _ _ w) rfl rfl) rfl ?_
                      refine x_v (r_pk_t rfl rfl) rfl ?_
                      refine XL.nil ?_
                      refine hK34 _ _ ?_
                      refine XC.keep [(3, _), (7, _), (8, _), (10, _), (12, _), (14, _), (34, _), (110, _)] ⟨rfl, rfl, rfl, rfl, rfl, rfl, rfl, rfl, trivial⟩ ?_
                      refine XC.cond_d rfl (fun hc9 => ?_) (fun hc9 => ?_)
                      · refine XC.seq fun K35 hK35 => ?_
                        refine XC.region ?_
                        refine x_v (r_as rfl) rfl ?_
                        refine XL.nil ?_
                        refine hK35 _ _ ?_
                        refine XC.keep [(2, _)] ⟨rfl, trivial⟩ ?_
                        refine XC.ret ?_
                        exact absurd (same_at hnx hny hg74 hg78 hc7 hk hg103 hg106) hc9
                      · refine XC.skip ?_
                        refine hK31 _ _ ?_
                        refine XC.keep [(3, _), (7, _), (8, _), (10, _), (12, _), (14, _), (34, _)] ⟨rfl, rfl, rfl, rfl, rfl, rfl, rfl, trivial⟩ ?_
                        refine XC.region ?_
                        refine x_v (r_mv rfl) rfl ?_
                        refine x_v (r_sub rfl rfl (by omega)) rfl ?_
                        refine x_v (r_as rfl) rfl ?_
                        refine XL.nil ?_
                        refine ⟨(k - 1, (entry x.p k).getD en0, (entry y.p k).getD en0), ?_, ?_, ⟨rfl, rfl, rfl, rfl, rfl, rfl, rfl, trivial⟩, (by repeat (first | exact Gets.done _ | exact Gets.all _ | (apply Gets.step; focus ((repeat (first | exact Pick.head _ _ | apply Pick.tail)); done)) | apply Gets.drop))⟩
                        · dsimp only; omega
                        · dsimp only; omega
                    · refine x_unwant rfl rfl rfl rfl rfl ?_
                      refine x_unwant rfl rfl rfl rfl rfl ?_
                      refine x_unwant rfl rfl rfl rfl rfl ?_
                      refine x_v (r_pk_f rfl rfl) rfl ?_
                      refine XL.nil ?_
                      refine hK34 _ _ ?_
                      refine XC.keep [(3, _), (7, _), (8, _), (10, _), (12, _), (14, _), (34, _), (110, _)] ⟨rfl, rfl, rfl, rfl, rfl, rfl, rfl, rfl, trivial⟩ ?_
                      refine XC.cond_f rfl ?_
                      refine XC.skip ?_
                      refine hK31 _ _ ?_
                      refine XC.keep [(3, _), (7, _), (8, _), (10, _), (12, _), (14, _), (34, _)] ⟨rfl, rfl, rfl, rfl, rfl, rfl, rfl, trivial⟩ ?_
                      refine XC.region ?_
                      refine x_v (r_mv rfl) rfl ?_
                      refine x_v (r_sub rfl rfl (by omega)) rfl ?_
                      refine x_v (r_as rfl) rfl ?_
                      refine XL.nil ?_
                      refine ⟨(k - 1, (entry x.p k).getD en0, (entry y.p k).getD en0), ?_, ?_, ⟨rfl, rfl, rfl, rfl, rfl, rfl, rfl, trivial⟩, (by repeat (first | exact Gets.done _ | exact Gets.all _ | (apply Gets.step; focus ((repeat (first | exact Pick.head _ _ | apply Pick.tail)); done)) | apply Gets.drop))⟩
                      · dsimp only; omega
                      · dsimp only; omega
                  · refine x_unwant rfl rfl rfl rfl rfl ?_
                    refine x_v (r_pk_f rfl rfl) rfl ?_
                    refine x_v (r_mv rfl) rfl ?_
                    refine x_unwant rfl rfl rfl rfl rfl ?_
                    refine x_unwant rfl rfl rfl rfl rfl ?_
                    refine x_unwant rfl rfl rfl rfl rfl ?_
                    refine x_v (r_pk_f rfl rfl) rfl ?_
                    refine XL.nil ?_
                    refine hK34 _ _ ?_
                    refine XC.keep [(3, _), (7, _), (8, _), (10, _), (12, _), (14, _), (34, _), (110, _)] ⟨rfl, rfl, rfl, rfl, rfl, rfl, rfl, rfl, trivial⟩ ?_
                    refine XC.cond_f rfl ?_
                    refine XC.skip ?_
                    refine hK31 _ _ ?_
                    refine XC.keep [(3, _), (7, _), (8, _), (10, _), (12, _), (14, _), (34, _)] ⟨rfl, rfl, rfl, rfl, rfl, rfl, rfl, trivial⟩ ?_
                    refine XC.region ?_
                    refine x_v (r_mv rfl) rfl ?_
                    refine x_v (r_sub rfl rfl (by omega)) rfl ?_
                    refine x_v (r_as rfl) rfl ?_
                    refine XL.nil ?_
                    refine ⟨(k - 1, (entry x.p k).getD en0, (entry y.p k).getD en0), ?_, ?_, ⟨rfl, rfl, rfl, rfl, rfl, rfl, rfl, trivial⟩, (by repeat (first | exact Gets.done _ | exact Gets.all _ | (apply Gets.step; focus ((repeat (first | exact Pick.head _ _ | apply Pick.tail)); done)) | apply Gets.drop))⟩
                    · dsimp only; omega
                    · dsimp only; omega
                · refine XC.exit rfl ?_
                  refine hK27 _ _ ?_
                  refine XC.keep [(3, _), (34, _)] ⟨rfl, rfl, trivial⟩ ?_
                  refine XC.exit rfl ?_
                  refine hK16 _ _ ?_
                  refine XC.keep [(3, _), (34, _)] ⟨rfl, rfl, trivial⟩ ?_
                  refine XC.mem (blk sb 68 (sic l wA L.length wc) :: nds l :: K :: Fr) (fun w h => by (have h1 := own_shut hj (Gets.own (by repeat (first | exact Gets.done _ | exact Gets.all _ | (apply Gets.step; focus ((repeat (first | exact Pick.head _ _ | apply Pick.tail)); done)) | apply Gets.drop)) h : Own _ w (blk y.b 90 (pc y.p y.A y.c y.M) :: vmo y.M :: nds ((l.eraseIdx n.toNat).eraseIdx j) :: blk x.b 90 (pc x.p x.A x.c x.M) :: vmo x.M :: blk sb 68 (sic l wA L.length wc) :: K :: Fr)); have h2 := own_shut hx (Gets.own (by repeat (first | exact Gets.done _ | exact Gets.all _ | (apply Gets.step; focus ((repeat (first | exact Pick.head _ _ | apply Pick.tail)); done)) | apply Gets.drop)) h1 : Own _ w (blk x.b 90 (pc x.p x.A x.c x.M) :: vmo x.M :: nds (l.eraseIdx n.toNat) :: blk sb 68 (sic l wA L.length wc) :: K :: Fr)); exact Gets.own (by repeat (first | exact Gets.done _ | exact Gets.all _ | (apply Gets.step; focus ((repeat (first | exact Pick.head _ _ | apply Pick.tail)); done)) | apply Gets.drop)) h2)) ?_
                  refine XC.region ?_
                  refine x_v (r_add rfl rfl (by omega)) rfl ?_
                  refine x_v (r_mv rfl) rfl ?_
                  refine XL.nil ?_
                  refine ⟨n + 1, ?_, ?_, ⟨rfl, rfl, trivial⟩, (by repeat (first | exact Gets.done _ | exact Gets.all _ | (apply Gets.step; focus ((repeat (first | exact Pick.head _ _ | apply Pick.tail)); done)) | apply Gets.drop))⟩
                  · omega
                  · omega
        · refine XC.exit rfl ?_
          refine hK16 _ _ ?_
          refine XC.keep [(3, _), (34, _)] ⟨rfl, rfl, trivial⟩ ?_
          refine XC.mem (blk sb 68 (sic l wA L.length wc) :: nds l :: K :: Fr) (fun w h => by (have h1 := own_shut hj (Gets.own (by repeat (first | exact Gets.done _ | exact Gets.all _ | (apply Gets.step; focus ((repeat (first | exact Pick.head _ _ | apply Pick.tail)); done)) | apply Gets.drop)) h : Own _ w (blk y.b 90 (pc y.p y.A y.c y.M) :: vmo y.M :: nds ((l.eraseIdx n.toNat).eraseIdx j) :: blk x.b 90 (pc x.p x.A x.c x.M) :: vmo x.M :: blk sb 68 (sic l wA L.length wc) :: K :: Fr)); have h2 := own_shut hx (Gets.own (by repeat (first | exact Gets.done _ | exact Gets.all _ | (apply Gets.step; focus ((repeat (first | exact Pick.head _ _ | apply Pick.tail)); done)) | apply Gets.drop)) h1 : Own _ w (blk x.b 90 (pc x.p x.A x.c x.M) :: vmo x.M :: nds (l.eraseIdx n.toNat) :: blk sb 68 (sic l wA L.length wc) :: K :: Fr)); exact Gets.own (by repeat (first | exact Gets.done _ | exact Gets.all _ | (apply Gets.step; focus ((repeat (first | exact Pick.head _ _ | apply Pick.tail)); done)) | apply Gets.drop)) h2)) ?_
          refine XC.region ?_
          refine x_v (r_add rfl rfl (by omega)) rfl ?_
          refine x_v (r_mv rfl) rfl ?_
          refine XL.nil ?_
          refine ⟨n + 1, ?_, ?_, ⟨rfl, rfl, trivial⟩, (by repeat (first | exact Gets.done _ | exact Gets.all _ | (apply Gets.step; focus ((repeat (first | exact Pick.head _ _ | apply Pick.tail)); done)) | apply Gets.drop))⟩
          · omega
          · omega
      · refine XC.exit rfl ?_
        refine hK12 _ _ ?_
        refine XC.keep [] trivial ?_
        refine XC.seq fun K36 hK36 => ?_
        refine XC.region ?_
        refine x_v (r_as rfl) rfl ?_
        refine XL.nil ?_
        refine hK36 _ _ ?_
        refine XC.keep [(2, _)] ⟨rfl, trivial⟩ ?_
        refine XC.ret ?_
        exact fin1 rfl (rfl) (by repeat (first | exact Gets.done _ | exact Gets.all _ | (apply Gets.step; focus ((repeat (first | exact Pick.head _ _ | apply Pick.tail)); done)) | apply Gets.drop))
end Go.Proofs.Ytlogcldbflemfaa

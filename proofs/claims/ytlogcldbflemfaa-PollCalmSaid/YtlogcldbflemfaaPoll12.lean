/- Polls: how far another node is. -/
import Derived.Test.YtlogcldbflemfaaPoll11
namespace Go.Proofs.Ytlogcldbflemfaa
open Go.Sx Go.Rf
set_option linter.unusedVariables false

theorem set_nx {p : Pl} {A : Option Addr} {c : Nat} {M : Option Nat} {n v : Int} (hl : p.nx.length = 3) (hn : Rf.Node n) : (pc p A c M).set (0 + 17 + n.toNat * 1) (.int .i64 v) = pc { p with nx := p.nx.set n.toNat v } A c M := by
  obtain ⟨t, vo, ba, bt, sn, es, fr, to, me, cb, sp, ro, le, ag, ck, wt, nx, mt⟩ := p
  dsimp only at hl
  match nx, hl with
  | [a0, a1, a2], _ => unfold Rf.Node at hn; rcases hn with rfl | rfl | rfl <;> rfl
theorem set_mt {p : Pl} {A : Option Addr} {c : Nat} {M : Option Nat} {n v : Int} (hl : p.mt.length = 3) (hn : Rf.Node n) : (pc p A c M).set (0 + 20 + n.toNat * 1) (.int .i64 v) = pc { p with mt := p.mt.set n.toNat v } A c M := by
  obtain ⟨t, vo, ba, bt, sn, es, fr, to, me, cb, sp, ro, le, ag, ck, wt, nx, mt⟩ := p
  dsimp only at hl
  match mt, hl with
  | [a0, a1, a2], _ => unfold Rf.Node at hn; rcases hn with rfl | rfl | rfl <;> rfl
theorem pc_len (p : Pl) (A : Option Addr) (c : Nat) (M : Option Nat) : (pc p A c M).length = 23 := rfl
theorem fit_lim {B : Nat} {p : Pl} {from_ : Int} {m : Ml} (h : Lim B p) (hf : Fit p from_ m) : Lim B { p with mt := p.mt.set from_.toNat (max (mtc p from_) (min m.index (lastI p))), nx := p.nx.set from_.toNat (max (nxt p from_) (max (mtc p from_) (min m.index (lastI p)) + 1)) } := by
  have hel := h.el; have hb0 := h.b0; have ha := h.a0; have ha1 := h.a1; have hag := h.ag
  have hi0 := hf.i0; have hi1 := hf.i1
  have hm := h.mtc from_; have hn := h.nxt from_
  have hl : 0 ≤ lastI p ∧ lastI p ≤ most + 8 * B := by unfold lastI; omega
  exact h.nms (nx := p.nx.set from_.toNat (max (Rf.nxt p from_) (max (Rf.mtc p from_) (min m.index (lastI p)) + 1))) (mt := p.mt.set from_.toNat (max (Rf.mtc p from_) (min m.index (lastI p)))) (by rw [List.length_set]; exact h.nxl) (by rw [List.length_set]; exact h.mtl) (set_all h.nx0 (by omega)) (set_all h.mt0 (by omega))

theorem heard_tr {W0 : World} {Fr : List HP} {k : HP} {p : Pl} {A : Option Addr} {c : Nat} {B : Nat} (b : Nat) (M : Option Nat) (f : Int) (x : Mx) (h : PB W0 k p A c) (hL : Lim B p) (hB : B ≤ 1000000) (hf : Fit p f x.m) :
    Tr W0 Try.prog 43 [.pointer (some ⟨b, 0, none⟩), .int .i64 f, .agg (mc x).toArray] (blk b 90 (pc p A c M) :: k :: Fr) (SP W0 k Fr b (heard p f x.m).1 M (heard p f x.m).2) := by
  have hb0 := h.b0; have hb1 := h.b1; have hel := h.el; have hmost : most = 1099511627776 := rfl
  have hi0 := hf.i0; have hi1 := hf.i1; have hn := hf.nd; have hf3 := nd_lt hf.nd
  have hmm := hL.mtc f; have hnn := hL.nxt f; have hli := last_in hL
  obtain ⟨t, ht⟩ : ∃ t, t = max (min (nxt p f - 1) (x.m.index + 1)) (mtc p f + 1) := ⟨_, rfl⟩
  obtain ⟨m1, hm1⟩ : ∃ m1, m1 = max (mtc p f) (min x.m.index (lastI p)) := ⟨_, rfl⟩
  obtain ⟨n1, hn1⟩ : ∃ n1, n1 = max (nxt p f) (m1 + 1) := ⟨_, rfl⟩
  obtain ⟨q, hq⟩ : ∃ q : Pl, q = { p with mt := p.mt.set f.toNat m1, nx := p.nx.set f.toNat n1 } := ⟨_, rfl⟩
  have hLq : Lim B q := by rw [hq, hn1, hm1]; exact fit_lim hL hf
  have hPq : PB W0 k q A c := by rw [hq]; exact ⟨h.rd, h.el, h.ec, h.b0, h.b1⟩
  have hqn : nxt q f = n1 := by rw [hq]; unfold nxt; dsimp only; rw [set_get hL.nxl hn hn, if_pos rfl]
  have hqm : mtc q f = m1 := by rw [hq]; unfold mtc; dsimp only; rw [set_get hL.mtl hn hn, if_pos rfl]
  have hqt : q.term = p.term := by rw [hq]
  have e1 : x.m.good = false → nxt p f ≤ t → heard p f x.m = (p, []) := fun hg h2 => by unfold heard; rw [if_pos hg]; dsimp only; rw [← ht, if_pos h2]
  have e2 : x.m.good = false → ¬ nxt p f ≤ t → heard p f x.m = ({ p with nx := p.nx.set f.toNat t }, [feed1 { p with nx := p.nx.set f.toNat t } f]) := fun hg h2 => by unfold heard; rw [if_pos hg]; dsimp only; rw [← ht, if_neg h2]
  obtain ⟨r, hr⟩ : ∃ r, r = agreed q := ⟨_, rfl⟩
  have e3 : x.m.good = true → heard p f x.m = if n1 ≤ lastI r ∧ m1 = n1 - 1 then (r, [feed1 r f]) else (r, []) := fun hg => by unfold heard; rw [if_neg (by rw [hg]; decide)]; dsimp only; rw [← hm1, ← hn1, ← hq, ← hr]
  have hLr : Lim B r := by
    rw [hr]; have := hLq
    unfold agreed; split
    · rename_i hk
      have hk2 := termAt_known hk
      have ha0 := hLq.a0; have ha1 := hLq.a1; have hag := hLq.ag
      have hbm : bestOf q ≤ most := by
        unfold bestOf
        rcases foldl_max (f := mtc q) (others q) 0 with hh | ⟨y, _, hh⟩
        · rw [hh, hmost]; omega
        · rw [hh]; exact (hLq.mtc y).2
      exact hLq.agree (by omega) (by omega) (by omega)
    · exact this
  have hPr : PB W0 k r A c := by rw [hr]; unfold agreed; split <;> exact ⟨hPq.rd, hPq.el, hPq.ec, hPq.b0, hPq.b1⟩
  have hrn : nxt r f = n1 := by rw [hr]; unfold agreed; split <;> exact hqn
  have hrm : mtc r f = m1 := by rw [hr]; unfold agreed; split <;> exact hqm
  obtain ⟨q1, hq1⟩ : ∃ q1 : Pl, q1 = { p with nx := p.nx.set f.toNat t } := ⟨_, rfl⟩
  obtain ⟨p2, hp2⟩ : ∃ p2 : Pl, p2 = { p with mt := p.mt.set f.toNat m1 } := ⟨_, rfl⟩
  have hp2n : nxt p2 f = nxt p f := by rw [hp2]; rfl
  have hp2m : mtc p2 f = m1 := by rw [hp2]; unfold mtc; dsimp only; rw [set_get hL.mtl hn hn, if_pos rfl]
  have hbo : 0 ≤ bestOf q ∧ bestOf q ≤ most := by
    unfold bestOf
    rcases foldl_max (f := mtc q) (others q) 0 with hh | ⟨y, _, hh⟩
    · rw [hh, hmost]; omega
    · rw [hh]; exact hLq.mtc y
  refine Entry.tr (N := 162) (rs := [.tmp 6]) ⟨_, Try.func43, rfl, by kernel_rfl, rfl, rfl⟩ rfl ?_
  refine XC.seq fun K1 hK1 => ?_
  refine XC.region ?_
  refine x_a (r_bx rfl rfl) rfl fun b5 => ?_
  unfold mc
  refine x_v (r_as rfl) rfl ?_
  refine XL.nil ?_
  refine hK1 _ _ ?_
  refine XC.keep [(0, _), (1, _), (5, _)] ⟨rfl, rfl, rfl, trivial⟩ ?_
  refine XC.seq fun K2 hK2 => ?_
  refine XC.seq fun K3 hK3 => ?_
  refine XC.region ?_
  refine x_v (r_fa fo42_5 rfl) rfl ?_
  refine x_v (r_ld ty4 rfl (by repeat (first | exact Pick.head _ _ | apply Pick.tail)) (by rfl)) rfl ?_
  refine x_v (r_not rfl) rfl ?_
  refine XL.nil ?_
  refine hK3 _ _ ?_
  refine XC.keep [(0, _), (1, _), (5, _), (15, _)] ⟨rfl, rfl, rfl, rfl, trivial⟩ ?_
  refine XC.cond rfl (fun hc1 => ?_) (fun hc1 => ?_)
  · have hg : x.m.good = false := by (cases hgg : x.m.good with | false => rfl | true => (rw [hgg] at hc1; cases hc1))
    refine XC.seq fun K4 hK4 => ?_
    refine XC.draw [blk b5 42 (mc x), blk b 90 (pc p A c M)] false [(0, false), (1, false), (2, false), (3, false), (4, false), (5, false), (6, false), (7, false), (8, false), (9, false), (10, false), (11, false), (12, false), (13, false), (14, false), (15, false), (16, false), (17, false), (18, false), (19, false)] (by kernel_rfl) (by kernel_rfl) ?_
    refine y_v rfl (r_mv rfl) (fun _ h => Gets.own (by repeat (first | exact Gets.done _ | exact Gets.all _ | (apply Gets.step; focus ((repeat (first | exact Pick.head _ _ | apply Pick.tail)); done)) | apply Gets.drop)) h) rfl ?_
    refine y_v rfl (r_mv rfl) (fun _ h => Gets.own (by repeat (first | exact Gets.done _ | exact Gets.all _ | (apply Gets.step; focus ((repeat (first | exact Pick.head _ _ | apply Pick.tail)); done)) | apply Gets.drop)) h) rfl ?_
    refine y_v rfl (r_nc rfl) (fun _ h => Gets.own (by repeat (first | exact Gets.done _ | exact Gets.all _ | (apply Gets.step; focus ((repeat (first | exact Pick.head _ _ | apply Pick.tail)); done)) | apply Gets.drop)) h) rfl ?_
    refine y_v rfl (r_fa fo90_10 rfl) (fun _ h => Gets.own (by repeat (first | exact Gets.done _ | exact Gets.all _ | (apply Gets.step; focus ((repeat (first | exact Pick.head _ _ | apply Pick.tail)); done)) | apply Gets.drop)) h) rfl ?_
    refine y_v rfl (r_iaa (k := f.toNat) Try.underlying88 ty3 rfl rfl (by omega) (by omega)) (fun _ h => Gets.own (by repeat (first | exact Gets.done _ | exact Gets.all _ | (apply Gets.step; focus ((repeat (first | exact Pick.head _ _ | apply Pick.tail)); done)) | apply Gets.drop)) h) rfl ?_
    refine y_v rfl (r_ld ty3 rfl (by repeat (first | exact Pick.head _ _ | apply Pick.tail)) (nx_at hn)) (fun _ h => Gets.own (by repeat (first | exact Gets.done _ | exact Gets.all _ | (apply Gets.step; focus ((repeat (first | exact Pick.head _ _ | apply Pick.tail)); done)) | apply Gets.drop)) h) rfl ?_
    refine y_v rfl (r_sub rfl rfl (by omega)) (fun _ h => Gets.own (by repeat (first | exact Gets.done _ | exact Gets.all _ | (apply Gets.step; focus ((repeat (first | exact Pick.head _ _ | apply Pick.tail)); done)) | apply Gets.drop)) h) rfl ?_
    refine y_v rfl (r_fa fo42_2 rfl) (fun _ h => Gets.own (by repeat (first | exact Gets.done _ | exact Gets.all _ | (apply Gets.step; focus ((repeat (first | exact Pick.head _ _ | apply Pick.tail)); done)) | apply Gets.drop)) h) rfl ?_
    refine y_v rfl (r_ld ty3 rfl (by repeat (first | exact Pick.head _ _ | apply Pick.tail)) (by rfl)) (fun _ h => Gets.own (by repeat (first | exact Gets.done _ | exact Gets.all _ | (apply Gets.step; focus ((repeat (first | exact Pick.head _ _ | apply Pick.tail)); done)) | apply Gets.drop)) h) rfl ?_
    refine y_v rfl (r_add rfl rfl (by omega)) (fun _ h => Gets.own (by repeat (first | exact Gets.done _ | exact Gets.all _ | (apply Gets.step; focus ((repeat (first | exact Pick.head _ _ | apply Pick.tail)); done)) | apply Gets.drop)) h) rfl ?_
    refine y_v rfl (r_min rfl rfl) (fun _ h => Gets.own (by repeat (first | exact Gets.done _ | exact Gets.all _ | (apply Gets.step; focus ((repeat (first | exact Pick.head _ _ | apply Pick.tail)); done)) | apply Gets.drop)) h) rfl ?_
    refine y_v rfl (r_mv rfl) (fun _ h => Gets.own (by repeat (first | exact Gets.done _ | exact Gets.all _ | (apply Gets.step; focus ((repeat (first | exact Pick.head _ _ | apply Pick.tail)); done)) | apply Gets.drop)) h) rfl ?_
    refine y_v rfl (r_mv rfl) (fun _ h => Gets.own (by repeat (first | exact Gets.done _ | exact Gets.all _ | (apply Gets.step; focus ((repeat (first | exact Pick.head _ _ | apply Pick.tail)); done)) | apply Gets.drop)) h) rfl ?_
    refine y_v rfl (r_nc rfl) (fun _ h => Gets.own (by repeat (first | exact Gets.done _ | exact Gets.all _ | (apply Gets.step; focus ((repeat (first | exact Pick.head _ _ | apply Pick.tail)); done)) | apply Gets.drop)) h) rfl ?_
    refine y_v rfl (r_fa fo90_11 rfl) (fun _ h => Gets.own (by repeat (first | exact Gets.done _ | exact Gets.all _ | (apply Gets.step; focus ((repeat (first | exact Pick.head _ _ | apply Pick.tail)); done)) | apply Gets.drop)) h) rfl ?_
    refine y_v rfl (r_iaa (k := f.toNat) Try.underlying88 ty3 rfl rfl (by omega) (by omega)) (fun _ h => Gets.own (by repeat (first | exact Gets.done _ | exact Gets.all _ | (apply Gets.step; focus ((repeat (first | exact Pick.head _ _ | apply Pick.tail)); done)) | apply Gets.drop)) h) rfl ?_
    refine y_v rfl (r_ld ty3 rfl (by repeat (first | exact Pick.head _ _ | apply Pick.tail)) (mt_at hn)) (fun _ h => Gets.own (by repeat (first | exact Gets.done _ | exact Gets.all _ | (apply Gets.step; focus ((repeat (first | exact Pick.head _ _ | apply Pick.tail)); done)) | apply Gets.drop)) h) rfl ?_
    refine y_v rfl (r_add rfl rfl (by omega)) (fun _ h => Gets.own (by repeat (first | exact Gets.done _ | exact Gets.all _ | (apply Gets.step; focus ((repeat (first | exact Pick.head _ _ | apply Pick.tail)); done)) | apply Gets.drop)) h) rfl ?_
    refine y_v rfl (r_max rfl rfl) (fun _ h => Gets.own (by repeat (first | exact Gets.done _ | exact Gets.all _ | (apply Gets.step; focus ((repeat (first | exact Pick.head _ _ | apply Pick.tail)); done)) | apply Gets.drop)) h) rfl ?_
    rw [← ht]
    refine y_v rfl (r_as rfl) (fun _ h => Gets.own (by repeat (first | exact Gets.done _ | exact Gets.all _ | (apply Gets.step; focus ((repeat (first | exact Pick.head _ _ | apply Pick.tail)); done)) | apply Gets.drop)) h) rfl ?_
    refine XH.nil ?_
    refine hK4 _ _ ?_
    refine XC.keep [(0, _), (1, _), (7, _)] ⟨rfl, rfl, rfl, trivial⟩ ?_
    refine XC.seq fun K5 hK5 => ?_
    refine XC.seq fun K6 hK6 => ?_
    refine XC.region ?_
    refine x_v (r_mv rfl) rfl ?_
    refine x_v (r_mv rfl) rfl ?_
    refine x_v (r_mv rfl) rfl ?_
    refine x_v (r_nc rfl) rfl ?_
    refine x_v (r_fa fo90_10 rfl) rfl ?_
    refine x_v (r_iaa (k := f.toNat) Try.underlying88 ty3 rfl rfl (by omega) (by omega)) rfl ?_
    refine x_v (r_ld ty3 rfl (by repeat (first | exact Pick.head _ _ | apply Pick.tail)) (nx_at hn)) rfl ?_
    refine x_v (r_ge rfl rfl) rfl ?_
    refine XL.nil ?_
    refine hK6 _ _ ?_
    refine XC.keep [(0, _), (1, _), (7, _), (42, _)] ⟨rfl, rfl, rfl, rfl, trivial⟩ ?_
    refine XC.cond_d rfl (fun hc2 => ?_) (fun hc2 => ?_)
    · rw [e1 hg (by omega)]
      refine XC.nil_ 92 18 ?_
      refine XC.seq fun K7 hK7 => ?_
      refine XC.region ?_
      refine x_v (r_as rfl) rfl ?_
      refine XL.nil ?_
      refine hK7 _ _ ?_
      refine XC.keep [(6, _)] ⟨rfl, trivial⟩ ?_
      refine XC.ret ?_
      exact fin1 rfl (⟨[], none, 0, A, c, k, rfl, rfl, rfl, Ex.refl W0 k, h, by simp⟩) (by repeat (first | exact Gets.done _ | exact Gets.all _ | (apply Gets.step; focus ((repeat (first | exact Pick.head _ _ | apply Pick.tail)); done)) | apply Gets.drop))
    · have hlt : t < nxt p f := by omega
      refine XC.skip ?_
      refine hK5 _ _ ?_
      refine XC.keep [(0, _), (1, _), (7, _)] ⟨rfl, rfl, rfl, trivial⟩ ?_
      refine XC.seq fun K8 hK8 => ?_
      refine XC.region ?_
      refine x_v (r_mv rfl) rfl ?_
      refine x_v (r_mv rfl) rfl ?_
      refine x_v (r_mv rfl) rfl ?_
      refine x_v (r_nc rfl) rfl ?_
      refine x_v (r_fa fo90_10 rfl) rfl ?_
      refine x_v (r_iaa (k := f.toNat) Try.underlying88 ty3 rfl rfl (by omega) (by omega)) rfl ?_
      refine x_e (r_st (vs := [.int .i64 t]) ty3 rfl rfl rfl rfl rfl (by repeat (first | exact Upd.head _ _ _ | apply Upd.tail)) (Over.set (by rw [pc_len]; omega) _)) ?_
      refine XL.nil ?_
      refine hK8 _ _ ?_
      refine XC.keep [(0, _), (1, _)] ⟨rfl, rfl, trivial⟩ ?_
      refine XC.seq fun K9 hK9 => ?_
      rw [set_nx hL.nxl hn, ← hq1]
      have hP1 : PB W0 k q1 A c := by rw [hq1]; exact ⟨h.rd, h.el, h.ec, h.b0, h.b1⟩
      have hL1 : Lim B q1 := by rw [hq1]; exact hL.nms (by rw [List.length_set]; exact hL.nxl) hL.mtl (set_all hL.nx0 (by omega)) hL.mt0
      refine XC.region ?_
      refine x_v (r_mv rfl) rfl ?_
      refine x_v (r_mv rfl) rfl ?_
      refine x_a (r_bs (vs := [_]) rfl ⟨rfl, rfl⟩ (bs39_1_0 _)) rfl fun b51 => ?_
      refine x_c (r_call0 (args := [_, _]) ⟨rfl, rfl, rfl⟩ (feed_tr (k := k) (Fr := blk b51 3 (iv [f]) :: Fr) b M (some ⟨b51, 0, none⟩) 1 [f] hP1 hL1 (by omega) (Rdb.of_blk (.head _ _) 0 rfl (fun _ _ h => by rw [Nat.zero_add]; exact h)) (by simpa using hn) (by simp)) (by repeat (first | exact Gets.done _ | exact Gets.all _ | (apply Gets.step; focus ((repeat (first | exact Pick.head _ _ | apply Pick.tail)); done)) | apply Gets.drop))) rfl ?_
      rintro _ _ ⟨L, A5, c5, A6, c6, k6, rfl, rfl, hLs, hx6, hp6, hrd⟩
      refine x_v (r_as rfl) rfl ?_
      refine XL.nil ?_
      refine hK9 _ _ ?_
      refine XC.keep [(6, _)] ⟨rfl, trivial⟩ ?_
      refine XC.ret ?_
      rw [e2 hg (by omega), ← hq1]
      exact fin1 rfl (⟨L, A5, c5, A6, c6, k6, rfl, rfl, hLs, hx6, hp6, hrd⟩) (by repeat (first | exact Gets.done _ | exact Gets.all _ | (apply Gets.step; focus ((repeat (first | exact Pick.head _ _ | apply Pick.tail)); done)) | apply Gets.drop))
  · have hg : x.m.good = true := by (cases hgg : x.m.good with | true => rfl | false => (rw [hgg] at hc1; cases hc1))
    refine XC.skip ?_
    refine hK2 _ _ ?_
    refine XC.keep [(0, _), (1, _), (5, _)] ⟨rfl, rfl, rfl, trivial⟩ ?_
    refine XC.seq fun K10 hK10 => ?_
    refine XC.draw [blk b5 42 (mc x), blk b 90 (pc p A c M)] true [(0, false), (1, false), (2, false), (3, false), (4, false), (5, false), (6, false), (7, false), (8, false), (9, false), (10, false), (14, false), (15, false), (11, true), (12, false), (13, false), (16, false), (17, true)] (by kernel_rfl) (by kernel_rfl) ?_
    refine y_v rfl (r_mv rfl) (fun _ h => Gets.own (by repeat (first | exact Gets.done _ | exact Gets.all _ | (apply Gets.step; focus ((repeat (first | exact Pick.head _ _ | apply Pick.tail)); done)) | apply Gets.drop)) h) rfl ?_
    refine y_v rfl (r_mv rfl) (fun _ h => Gets.own (by repeat (first | exact Gets.done _ | exact Gets.all _ | (apply Gets.step; focus ((repeat (first | exact Pick.head _ _ | apply Pick.tail)); done)) | apply Gets.drop)) h) rfl ?_
    refine y_v rfl (r_mv rfl) (fun _ h => Gets.own (by repeat (first | exact Gets.done _ | exact Gets.all _ | (apply Gets.step; focus ((repeat (first | exact Pick.head _ _ | apply Pick.tail)); done)) | apply Gets.drop)) h) rfl ?_
    refine y_v rfl (r_mv rfl) (fun _ h => Gets.own (by repeat (first | exact Gets.done _ | exact Gets.all _ | (apply Gets.step; focus ((repeat (first | exact Pick.head _ _ | apply Pick.tail)); done)) | apply Gets.drop)) h) rfl ?_
    refine y_v rfl (r_nc rfl) (fun _ h => Gets.own (by repeat (first | exact Gets.done _ | exact Gets.all _ | (apply Gets.step; focus ((repeat (first | exact Pick.head _ _ | apply Pick.tail)); done)) | apply Gets.drop)) h) rfl ?_
    refine y_v rfl (r_fa fo90_11 rfl) (fun _ h => Gets.own (by repeat (first | exact Gets.done _ | exact Gets.all _ | (apply Gets.step; focus ((repeat (first | exact Pick.head _ _ | apply Pick.tail)); done)) | apply Gets.drop)) h) rfl ?_
    refine y_v rfl (r_iaa (k := f.toNat) Try.underlying88 ty3 rfl rfl (by omega) (by omega)) (fun _ h => Gets.own (by repeat (first | exact Gets.done _ | exact Gets.all _ | (apply Gets.step; focus ((repeat (first | exact Pick.head _ _ | apply Pick.tail)); done)) | apply Gets.drop)) h) rfl ?_
    refine y_v rfl (r_ld ty3 rfl (by repeat (first | exact Pick.head _ _ | apply Pick.tail)) (mt_at hn)) (fun _ h => Gets.own (by repeat (first | exact Gets.done _ | exact Gets.all _ | (apply Gets.step; focus ((repeat (first | exact Pick.head _ _ | apply Pick.tail)); done)) | apply Gets.drop)) h) rfl ?_
    refine y_v rfl (r_fa fo42_2 rfl) (fun _ h => Gets.own (by repeat (first | exact Gets.done _ | exact Gets.all _ | (apply Gets.step; focus ((repeat (first | exact Pick.head _ _ | apply Pick.tail)); done)) | apply Gets.drop)) h) rfl ?_
    refine y_v rfl (r_ld ty3 rfl (by repeat (first | exact Pick.head _ _ | apply Pick.tail)) (by rfl)) (fun _ h => Gets.own (by repeat (first | exact Gets.done _ | exact Gets.all _ | (apply Gets.step; focus ((repeat (first | exact Pick.head _ _ | apply Pick.tail)); done)) | apply Gets.drop)) h) rfl ?_
    refine y_v rfl (r_mv rfl) (fun _ h => Gets.own (by repeat (first | exact Gets.done _ | exact Gets.all _ | (apply Gets.step; focus ((repeat (first | exact Pick.head _ _ | apply Pick.tail)); done)) | apply Gets.drop)) h) rfl ?_
    refine y_v rfl (r_nc rfl) (fun _ h => Gets.own (by repeat (first | exact Gets.done _ | exact Gets.all _ | (apply Gets.step; focus ((repeat (first | exact Pick.head _ _ | apply Pick.tail)); done)) | apply Gets.drop)) h) rfl ?_
    refine y_v rfl (r_fa fo90_11 rfl) (fun _ h => Gets.own (by repeat (first | exact Gets.done _ | exact Gets.all _ | (apply Gets.step; focus ((repeat (first | exact Pick.head _ _ | apply Pick.tail)); done)) | apply Gets.drop)) h) rfl ?_
    refine y_c rfl (r_call0 (args := [_]) ⟨rfl, rfl⟩ (plast_tr (k := k) b M h) (by repeat (first | exact Gets.done _ | exact Gets.all _ | (apply Gets.step; focus ((repeat (first | exact Pick.head _ _ | apply Pick.tail)); done)) | apply Gets.drop))) (by rintro _ _ _ _ ⟨rfl, rfl⟩ h; exact Gets.own (by repeat (first | exact Gets.done _ | exact Gets.all _ | (apply Gets.step; focus ((repeat (first | exact Pick.head _ _ | apply Pick.tail)); done)) | apply Gets.drop)) h) rfl ?_
    rintro _ _ ⟨rfl, rfl⟩
    refine y_v rfl (r_min rfl rfl) (fun _ h => Gets.own (by repeat (first | exact Gets.done _ | exact Gets.all _ | (apply Gets.step; focus ((repeat (first | exact Pick.head _ _ | apply Pick.tail)); done)) | apply Gets.drop)) h) rfl ?_
    refine y_v rfl (r_max rfl rfl) (fun _ h => Gets.own (by repeat (first | exact Gets.done _ | exact Gets.all _ | (apply Gets.step; focus ((repeat (first | exact Pick.head _ _ | apply Pick.tail)); done)) | apply Gets.drop)) h) rfl ?_
    rw [← hm1]
    refine y_v rfl (r_iaa (k := f.toNat) Try.underlying88 ty3 rfl rfl (by omega) (by omega)) (fun _ h => Gets.own (by repeat (first | exact Gets.done _ | exact Gets.all _ | (apply Gets.step; focus ((repeat (first | exact Pick.head _ _ | apply Pick.tail)); done)) | apply Gets.drop)) h) rfl ?_
    refine y_e rfl (r_st (vs := [.int .i64 m1]) ty3 rfl rfl rfl rfl rfl (by repeat (first | exact Upd.head _ _ _ | apply Upd.tail)) (Over.set (by rw [pc_len]; omega) _)) (fun h => absurd h (by decide)) ?_
    refine XH.nil ?_
    refine hK10 _ _ ?_
    refine XC.keep [(0, _), (1, _)] ⟨rfl, rfl, trivial⟩ ?_
    refine XC.seq fun K11 hK11 => ?_
    rw [set_mt hL.mtl hn, ← hp2]
    refine XC.draw [blk b 90 (pc p2 A c M)] true [(0, false), (1, false), (2, false), (3, false), (4, false), (5, false), (6, false), (7, false), (8, false), (9, false), (10, false), (11, false), (12, false), (13, false), (14, false), (15, false), (16, false), (17, false), (18, false), (19, true)] (by kernel_rfl) (by kernel_rfl) ?_
    refine y_v rfl (r_mv rfl) (fun _ h => Gets.own (by repeat (first | exact Gets.done _ | exact Gets.all _ | (apply Gets.step; focus ((repeat (first | exact Pick.head _ _ | apply Pick.tail)); done)) | apply Gets.drop)) h) rfl ?_
    refine y_v rfl (r_mv rfl) (fun _ h => Gets.own (by repeat (first | exact Gets.done _ | exact Gets.all _ | (apply Gets.step; focus ((repeat (first | exact Pick.head _ _ | apply Pick.tail)); done)) | apply Gets.drop)) h) rfl ?_
    refine y_v rfl (r_mv rfl) (fun _ h => Gets.own (by repeat (first | exact Gets.done _ | exact Gets.all _ | (apply Gets.step; focus ((repeat (first | exact Pick.head _ _ | apply Pick.tail)); done)) | apply Gets.drop)) h) rfl ?_
    refine y_v rfl (r_mv rfl) (fun _ h => Gets.own (by repeat (first | exact Gets.done _ | exact Gets.all _ | (apply Gets.step; focus ((repeat (first | exact Pick.head _ _ | apply Pick.tail)); done)) | apply Gets.drop)) h) rfl ?_
    refine y_v rfl (r_nc rfl) (fun _ h => Gets.own (by repeat (first | exact Gets.done _ | exact Gets.all _ | (apply Gets.step; focus ((repeat (first | exact Pick.head _ _ | apply Pick.tail)); done)) | apply Gets.drop)) h) rfl ?_
    refine y_v rfl (r_fa fo90_10 rfl) (fun _ h => Gets.own (by repeat (first | exact Gets.done _ | exact Gets.all _ | (apply Gets.step; focus ((repeat (first | exact Pick.head _ _ | apply Pick.tail)); done)) | apply Gets.drop)) h) rfl ?_
    refine y_v rfl (r_iaa (k := f.toNat) Try.underlying88 ty3 rfl rfl (by omega) (by omega)) (fun _ h => Gets.own (by repeat (first | exact Gets.done _ | exact Gets.all _ | (apply Gets.step; focus ((repeat (first | exact Pick.head _ _ | apply Pick.tail)); done)) | apply Gets.drop)) h) rfl ?_
    refine y_v rfl (r_ld ty3 rfl (by repeat (first | exact Pick.head _ _ | apply Pick.tail)) (nx_at hn)) (fun _ h => Gets.own (by repeat (first | exact Gets.done _ | exact Gets.all _ | (apply Gets.step; focus ((repeat (first | exact Pick.head _ _ | apply Pick.tail)); done)) | apply Gets.drop)) h) rfl ?_
    refine y_v rfl (r_mv rfl) (fun _ h => Gets.own (by repeat (first | exact Gets.done _ | exact Gets.all _ | (apply Gets.step; focus ((repeat (first | exact Pick.head _ _ | apply Pick.tail)); done)) | apply Gets.drop)) h) rfl ?_
    refine y_v rfl (r_mv rfl) (fun _ h => Gets.own (by repeat (first | exact Gets.done _ | exact Gets.all _ | (apply Gets.step; focus ((repeat (first | exact Pick.head _ _ | apply Pick.tail)); done)) | apply Gets.drop)) h) rfl ?_
    refine y_v rfl (r_nc rfl) (fun _ h => Gets.own (by repeat (first | exact Gets.done _ | exact Gets.all _ | (apply Gets.step; focus ((repeat (first | exact Pick.head _ _ | apply Pick.tail)); done)) | apply Gets.drop)) h) rfl ?_
    refine y_v rfl (r_fa fo90_11 rfl) (fun _ h => Gets.own (by repeat (first | exact Gets.done _ | exact Gets.all _ | (apply Gets.step; focus ((repeat (first | exact Pick.head _ _ | apply Pick.tail)); done)) | apply Gets.drop)) h) rfl ?_
    refine y_v rfl (r_iaa (k := f.toNat) Try.underlying88 ty3 rfl rfl (by omega) (by omega)) (fun _ h => Gets.own (by repeat (first | exact Gets.done _ | exact Gets.all _ | (apply Gets.step; focus ((repeat (first | exact Pick.head _ _ | apply Pick.tail)); done)) | apply Gets.drop)) h) rfl ?_
    refine y_v rfl (r_ld ty3 rfl (by repeat (first | exact Pick.head _ _ | apply Pick.tail)) (mt_at hn)) (fun _ h => Gets.own (by repeat (first | exact Gets.done _ | exact Gets.all _ | (apply Gets.step; focus ((repeat (first | exact Pick.head _ _ | apply Pick.tail)); done)) | apply Gets.drop)) h) rfl ?_
    rw [hp2m]
    refine y_v rfl (r_add rfl rfl (by omega)) (fun _ h => Gets.own (by repeat (first | exact Gets.done _ | exact Gets.all _ | (apply Gets.step; focus ((repeat (first | exact Pick.head _ _ | apply Pick.tail)); done)) | apply Gets.drop)) h) rfl ?_
    refine y_v rfl (r_max rfl rfl) (fun _ h => Gets.own (by repeat (first | exact Gets.done _ | exact Gets.all _ | (apply Gets.step; focus ((repeat (first | exact Pick.head _ _ | apply Pick.tail)); done)) | apply Gets.drop)) h) rfl ?_
    rw [hp2n, ← hn1]
    refine y_v rfl (r_nc rfl) (fun _ h => Gets.own (by repeat (first | exact Gets.done _ | exact Gets.all _ | (apply Gets.step; focus ((repeat (first | exact Pick.head _ _ | apply Pick.tail)); done)) | apply Gets.drop)) h) rfl ?_
    refine y_v rfl (r_fa fo90_10 rfl) (fun _ h => Gets.own (by repeat (first | exact Gets.done _ | exact Gets.all _ | (apply Gets.step; focus ((repeat (first | exact Pick.head _ _ | apply Pick.tail)); done)) | apply Gets.drop)) h) rfl ?_
    refine y_v rfl (r_iaa (k := f.toNat) Try.underlying88 ty3 rfl rfl (by omega) (by omega)) (fun _ h => Gets.own (by repeat (first | exact Gets.done _ | exact Gets.all _ | (apply Gets.step; focus ((repeat (first | exact Pick.head _ _ | apply Pick.tail)); done)) | apply Gets.drop)) h) rfl ?_
    refine y_e rfl (r_st (vs := [.int .i64 n1]) ty3 rfl rfl rfl rfl rfl (by repeat (first | exact Upd.head _ _ _ | apply Upd.tail)) (Over.set (by rw [pc_len]; omega) _)) (fun h => absurd h (by decide)) ?_
    refine XH.nil ?_
    refine hK11 _ _ ?_
    refine XC.keep [(0, _), (1, _)] ⟨rfl, rfl, trivial⟩ ?_
    refine XC.seq fun K12 hK12 => ?_
    refine XC.region ?_
    refine x_v (r_as rfl) rfl ?_
    refine XL.nil ?_
    refine hK12 _ _ ?_
    refine XC.keep [(0, _), (1, _), (8, _)] ⟨rfl, rfl, rfl, trivial⟩ ?_
    refine XC.seq fun K13 hK13 => ?_
    refine XC.seq fun K14 hK14 => ?_
    rw [set_nx (p := p2) (by rw [hp2]; exact hL.nxl) hn, show ({ p2 with nx := p2.nx.set f.toNat n1 } : Pl) = q by rw [hp2, hq]]
    refine XC.region ?_
    refine x_v (r_mv rfl) rfl ?_
    refine x_c (r_call0 (args := [_]) ⟨rfl, rfl⟩ (others_tr (p := q) (A := A) (c := c) b M) (by repeat (first | exact Gets.done _ | exact Gets.all _ | (apply Gets.step; focus ((repeat (first | exact Pick.head _ _ | apply Pick.tail)); done)) | apply Gets.drop))) rfl ?_
    rintro _ _ ⟨A13, c13, rfl, rfl⟩
    refine XL.slnn (A := A13) (by repeat (first | exact Pick.head _ _ | apply Pick.tail)) fun hl13 hA13 => ?_
    have hol := others_le q
    refine x_v (r_lensl Try.underlying39 rfl) rfl ?_
    refine x_v (r_mv rfl) rfl ?_
    refine XL.nil ?_
    refine hK14 _ _ ?_
    refine XC.keep [(0, _), (1, _), (8, _), (90, _), (91, _), (92, _)] ⟨rfl, rfl, rfl, rfl, rfl, rfl, trivial⟩ ?_
    refine XC.block ?_
    refine XC.loop (σ := Nat × Int) (fun s => [(0, .pointer (some ⟨b, 0, none⟩)), (1, .int .i64 f), (8, .int .i64 s.2), (90, .slice A13 (others q).length c13), (91, .int .i64 ((others q).length : Int)), (92, .int .i64 (s.1 : Int))]) (fun s => sl A13 (others q).length c13 3 1 (iv (others q)) :: blk b 90 (pc q A c M) :: k :: Fr) (fun s => s.1 ≤ (others q).length ∧ s.2 = ((others q).take s.1).foldl (fun b n => max b (mtc q n)) 0) (fun s => (others q).length - s.1) (0, 0) ?_ ⟨rfl, rfl, rfl, rfl, rfl, rfl, trivial⟩ (by repeat (first | exact Gets.done _ | exact Gets.all _ | (apply Gets.step; focus ((repeat (first | exact Pick.head _ _ | apply Pick.tail)); done)) | apply Gets.drop)) ?_
    · exact ⟨Nat.zero_le _, rfl⟩
    rintro ⟨i, bst⟩ ⟨hi, hbst⟩
    dsimp only at hi hbst ⊢
    refine XC.seq fun K15 hK15 => ?_
    refine XC.region ?_
    refine x_v (r_lt rfl rfl) rfl ?_
    refine XL.nil ?_
    refine hK15 _ _ ?_
    refine XC.keep [(0, _), (1, _), (8, _), (90, _), (91, _), (92, _), (93, _)] ⟨rfl, rfl, rfl, rfl, rfl, rfl, rfl, trivial⟩ ?_
    refine XC.seq fun K16 hK16 => ?_
    refine XC.cond_d rfl (fun hc3 => ?_) (fun hc3 => ?_)
    · refine XC.skip ?_
      refine hK16 _ _ ?_
      refine XC.keep [(0, _), (1, _), (8, _), (90, _), (91, _), (92, _)] ⟨rfl, rfl, rfl, rfl, rfl, rfl, trivial⟩ ?_
      refine XC.seq fun K17 hK17 => ?_
      refine XC.block ?_
      refine XC.seq fun K18 hK18 => ?_
      obtain ⟨y, hy⟩ : ∃ y, (others q)[i]? = some y := ⟨_, List.getElem?_eq_getElem (by omega)⟩
      have hyn := others_nd q y (List.mem_of_getElem? hy)
      have hy3 := nd_lt hyn
      obtain ⟨g13, rfl⟩ := hA13 (by omega)
      refine XC.region ?_
      refine x_v (r_ia (k := i) Try.underlying39 ty3 rfl rfl (by omega) (by omega)) rfl ?_
      refine x_v (r_ldr ty3 rfl (fun w hw => ints_at hy w (Gets.own (by repeat (first | exact Gets.done _ | exact Gets.all _ | (apply Gets.step; focus ((repeat (first | exact Pick.head _ _ | apply Pick.tail)); done)) | apply Gets.drop)) hw))) rfl ?_
      refine x_v (r_as rfl) rfl ?_
      refine XL.nil ?_
      refine hK18 _ _ ?_
      refine XC.keep [(0, _), (1, _), (8, _), (10, _), (90, _), (91, _), (92, _)] ⟨rfl, rfl, rfl, rfl, rfl, rfl, rfl, trivial⟩ ?_
      refine XC.region ?_
      refine x_v (r_mv rfl) rfl ?_
      refine x_v (r_mv rfl) rfl ?_
      refine x_v (r_mv rfl) rfl ?_
      refine x_v (r_nc rfl) rfl ?_
      refine x_v (r_fa fo90_11 rfl) rfl ?_
      refine x_v (r_iaa (k := y.toNat) Try.underlying88 ty3 rfl rfl (by omega) (by omega)) rfl ?_
      refine x_v (r_ld ty3 rfl (by repeat (first | exact Pick.head _ _ | apply Pick.tail)) (mt_at hyn)) rfl ?_
      refine x_v (r_max rfl rfl) rfl ?_
      refine x_v (r_as rfl) rfl ?_
      refine XL.nil ?_
      refine hK17 _ _ ?_
      refine XC.keep [(0, _), (1, _), (8, _), (90, _), (91, _), (92, _)] ⟨rfl, rfl, rfl, rfl, rfl, rfl, trivial⟩ ?_
      refine XC.region ?_
      refine x_v (r_add rfl rfl (by omega)) rfl ?_
      refine x_v (r_mv rfl) rfl ?_
      refine XL.nil ?_
      refine ⟨(i + 1, max bst (mtc q y)), ?_, ?_, ⟨rfl, rfl, rfl, rfl, rfl, rfl, trivial⟩, (by repeat (first | exact Gets.done _ | exact Gets.all _ | (apply Gets.step; focus ((repeat (first | exact Pick.head _ _ | apply Pick.tail)); done)) | apply Gets.drop))⟩
      · exact ⟨by dsimp only; omega, by dsimp only; rw [tk_snoc hy, List.foldl_append, ← hbst]; rfl⟩
      · dsimp only; omega
    · refine XC.exit rfl ?_
      refine hK13 _ _ ?_
      refine XC.keep [(0, _), (1, _), (8, _)] ⟨rfl, rfl, rfl, trivial⟩ ?_
      refine XC.seqcut (σ := PUnit) (fun s => [(0, .pointer (some ⟨b, 0, none⟩)), (1, .int .i64 f)]) (fun s => blk b 90 (pc r A c M) :: k :: Fr) (fun s => True) ?_ ?_
      · refine XC.seq fun K20 hK20 => ?_
        obtain rfl : i = (others q).length := by omega
        rw [List.take_length] at hbst
        obtain rfl : bst = bestOf q := hbst
        refine XC.region ?_
        refine x_v (r_mv rfl) rfl ?_
        refine x_v (r_nc rfl) rfl ?_
        refine x_v (r_fa fo90_0 rfl) rfl ?_
        refine x_v (r_mv rfl) rfl ?_
        refine x_c (r_call0 (args := [_, _]) ⟨rfl, rfl, rfl⟩ (term_tr (k := k) (p := q) (A := A) (c := c) b M (bestOf q) hPq (by omega)) (by repeat (first | exact Gets.done _ | exact Gets.all _ | (apply Gets.step; focus ((repeat (first | exact Pick.head _ _ | apply Pick.tail)); done)) | apply Gets.drop))) rfl ?_
        rintro _ _ ⟨rfl, rfl⟩
        refine x_v (r_mv rfl) rfl ?_
        refine x_v (r_ex rfl rfl) rfl ?_
        refine x_v (r_ex rfl rfl) rfl ?_
        refine x_v (r_as rfl) rfl ?_
        refine x_v (r_as rfl) rfl ?_
        refine XL.nil ?_
        refine hK20 _ _ ?_
        refine XC.keep [(0, _), (1, _), (8, _), (11, _), (12, _)] ⟨rfl, rfl, rfl, rfl, rfl, trivial⟩ ?_
        refine XC.seq fun K21 hK21 => ?_
        refine XC.region ?_
        refine x_v (r_mv rfl) rfl ?_
        refine x_v (r_mv rfl) rfl ?_
        refine XL.split 114 rfl (fun hg114 => ?_) (fun hg114 => ?_)
        · refine x_want rfl rfl rfl ?_
          refine x_v (r_mv rfl) rfl ?_
          refine x_want rfl rfl rfl ?_
          refine x_v (r_mv rfl) rfl ?_
          refine x_want rfl rfl rfl ?_
          refine x_v (r_nc rfl) rfl ?_
          refine x_want rfl rfl rfl ?_
          refine x_v (r_fa fo90_0 rfl) rfl ?_
          refine x_want rfl rfl rfl ?_
          refine x_v (r_fa fo86_0 rfl) rfl ?_
          refine x_want rfl rfl rfl ?_
          refine x_v (r_fa fo32_0 rfl) rfl ?_
          refine x_want rfl rfl rfl ?_
          refine x_v (r_ld ty3 rfl (by repeat (first | exact Pick.head _ _ | apply Pick.tail)) (by rfl)) rfl ?_
          refine x_want rfl rfl rfl ?_
          refine x_v (r_eq rfl rfl) rfl ?_
          refine x_v (r_pk_t rfl rfl) rfl ?_
          refine XL.nil ?_
          refine hK21 _ _ ?_
          refine XC.keep [(0, _), (1, _), (8, _), (123, _)] ⟨rfl, rfl, rfl, rfl, trivial⟩ ?_
          refine XC.cond_d rfl (fun hc4 => ?_) (fun hc4 => ?_)
          · refine XC.region ?_
            refine x_v (r_mv rfl) rfl ?_
            refine x_v (r_mv rfl) rfl ?_
            refine x_v (r_nc rfl) rfl ?_
            refine x_v (r_fa fo90_6 rfl) rfl ?_
            refine x_v (r_ld ty3 rfl (by repeat (first | exact Pick.head _ _ | apply Pick.tail)) (by rfl)) rfl ?_
            refine x_v (r_mv rfl) rfl ?_
            refine x_v (r_max rfl rfl) rfl ?_
            refine x_v (r_nc rfl) rfl ?_
            refine x_v (r_fa fo90_6 rfl) rfl ?_
            unfold pc
            refine x_e (r_st ty3 rfl rfl rfl rfl rfl (by repeat (first | exact Upd.head _ _ _ | apply Upd.tail)) (by repeat (first | exact Over.nil _ | apply Over.put | apply Over.skip))) ?_
            refine XL.nil ?_
            have hrq : r = { q with agree := max q.agree (bestOf q) } := by rw [hr]; unfold agreed; rw [if_pos (by cases hqq : termAt q (bestOf q) with | none => (rw [hqq] at hg114; cases hg114) | some u => (rw [hqq] at hc4; simp at hc4; rw [hc4]))]
            rw [hrq]
            exact ⟨⟨⟩, trivial, ⟨rfl, rfl, trivial⟩, (by repeat (first | exact Gets.done _ | exact Gets.all _ | (apply Gets.step; focus ((repeat (first | exact Pick.head _ _ | apply Pick.tail)); done)) | apply Gets.drop))⟩
          · refine XC.skip ?_
            have hrq : r = q := by rw [hr]; unfold agreed; rw [if_neg (fun hqq => hc4 (by rw [hqq]; rfl))]
            rw [hrq]
            exact ⟨⟨⟩, trivial, ⟨rfl, rfl, trivial⟩, (by repeat (first | exact Gets.done _ | exact Gets.all _ | (apply Gets.step; focus ((repeat (first | exact Pick.head _ _ | apply Pick.tail)); done)) | apply Gets.drop))⟩
        · refine x_unwant rfl rfl rfl rfl rfl ?_
          refine x_unwant rfl rfl rfl rfl rfl ?_
          refine x_unwant rfl rfl rfl rfl rfl ?_
          refine x_unwant rfl rfl rfl rfl rfl ?_
          refine x_unwant rfl rfl rfl rfl rfl ?_
          refine x_unwant rfl rfl rfl rfl rfl ?_
          refine x_unwant rfl rfl rfl rfl rfl ?_
          refine x_unwant rfl rfl rfl rfl rfl ?_
          refine x_v (r_pk_f rfl rfl) rfl ?_
          refine XL.nil ?_
          refine hK21 _ _ ?_
          refine XC.keep [(0, _), (1, _), (8, _), (123, _)] ⟨rfl, rfl, rfl, rfl, trivial⟩ ?_
          refine XC.cond_f rfl ?_
          refine XC.skip ?_
          have hrq : r = q := by rw [hr]; unfold agreed; rw [if_neg (fun hqq => by rw [hqq] at hg114; cases hg114)]
          rw [hrq]
          exact ⟨⟨⟩, trivial, ⟨rfl, rfl, trivial⟩, (by repeat (first | exact Gets.done _ | exact Gets.all _ | (apply Gets.step; focus ((repeat (first | exact Pick.head _ _ | apply Pick.tail)); done)) | apply Gets.drop))⟩
      · rintro ⟨⟩ _
        refine XC.seq fun K22 hK22 => ?_
        refine XC.seq fun K23 hK23 => ?_
        refine XC.draw [blk b 90 (pc r A c M)] false [(0, false), (1, false), (2, false), (3, false), (4, false), (5, false), (6, false), (7, true), (8, false), (9, false), (10, false), (11, false), (12, false), (13, false), (14, false), (15, false), (16, false), (17, false), (18, false), (19, false), (20, false), (21, false), (22, false), (23, false), (24, false)] (by kernel_rfl) (by kernel_rfl) ?_
        refine y_v rfl (r_mv rfl) (fun _ h => Gets.own (by repeat (first | exact Gets.done _ | exact Gets.all _ | (apply Gets.step; focus ((repeat (first | exact Pick.head _ _ | apply Pick.tail)); done)) | apply Gets.drop)) h) rfl ?_
        refine y_v rfl (r_mv rfl) (fun _ h => Gets.own (by repeat (first | exact Gets.done _ | exact Gets.all _ | (apply Gets.step; focus ((repeat (first | exact Pick.head _ _ | apply Pick.tail)); done)) | apply Gets.drop)) h) rfl ?_
        refine y_v rfl (r_nc rfl) (fun _ h => Gets.own (by repeat (first | exact Gets.done _ | exact Gets.all _ | (apply Gets.step; focus ((repeat (first | exact Pick.head _ _ | apply Pick.tail)); done)) | apply Gets.drop)) h) rfl ?_
        refine y_v rfl (r_fa fo90_10 rfl) (fun _ h => Gets.own (by repeat (first | exact Gets.done _ | exact Gets.all _ | (apply Gets.step; focus ((repeat (first | exact Pick.head _ _ | apply Pick.tail)); done)) | apply Gets.drop)) h) rfl ?_
        refine y_v rfl (r_iaa (k := f.toNat) Try.underlying88 ty3 rfl rfl (by omega) (by omega)) (fun _ h => Gets.own (by repeat (first | exact Gets.done _ | exact Gets.all _ | (apply Gets.step; focus ((repeat (first | exact Pick.head _ _ | apply Pick.tail)); done)) | apply Gets.drop)) h) rfl ?_
        refine y_v rfl (r_ld ty3 rfl (by repeat (first | exact Pick.head _ _ | apply Pick.tail)) (nx_at hn)) (fun _ h => Gets.own (by repeat (first | exact Gets.done _ | exact Gets.all _ | (apply Gets.step; focus ((repeat (first | exact Pick.head _ _ | apply Pick.tail)); done)) | apply Gets.drop)) h) rfl ?_
        rw [hrn]
        refine y_v rfl (r_mv rfl) (fun _ h => Gets.own (by repeat (first | exact Gets.done _ | exact Gets.all _ | (apply Gets.step; focus ((repeat (first | exact Pick.head _ _ | apply Pick.tail)); done)) | apply Gets.drop)) h) rfl ?_
        refine y_c rfl (r_call0 (args := [_]) ⟨rfl, rfl⟩ (plast_tr (k := k) (p := r) b M hPr) (by repeat (first | exact Gets.done _ | exact Gets.all _ | (apply Gets.step; focus ((repeat (first | exact Pick.head _ _ | apply Pick.tail)); done)) | apply Gets.drop))) (by rintro _ _ _ _ ⟨rfl, rfl⟩ h; exact Gets.own (by repeat (first | exact Gets.done _ | exact Gets.all _ | (apply Gets.step; focus ((repeat (first | exact Pick.head _ _ | apply Pick.tail)); done)) | apply Gets.drop)) h) rfl ?_
        rintro _ _ ⟨rfl, rfl⟩
        refine y_v rfl (r_le rfl rfl) (fun _ h => Gets.own (by repeat (first | exact Gets.done _ | exact Gets.all _ | (apply Gets.step; focus ((repeat (first | exact Pick.head _ _ | apply Pick.tail)); done)) | apply Gets.drop)) h) rfl ?_
        refine y_v rfl (r_mv rfl) (fun _ h => Gets.own (by repeat (first | exact Gets.done _ | exact Gets.all _ | (apply Gets.step; focus ((repeat (first | exact Pick.head _ _ | apply Pick.tail)); done)) | apply Gets.drop)) h) rfl ?_
        refine XH.splitd 142 rfl (fun hg142 => ?_) (fun hg142 => ?_)
        · refine y_vg rfl rfl rfl (r_mv rfl) (fun _ h => Gets.own (by repeat (first | exact Gets.done _ | exact Gets.all _ | (apply Gets.step; focus ((repeat (first | exact Pick.head _ _ | apply Pick.tail)); done)) | apply Gets.drop)) h) rfl ?_
          refine y_vg rfl rfl rfl (r_mv rfl) (fun _ h => Gets.own (by repeat (first | exact Gets.done _ | exact Gets.all _ | (apply Gets.step; focus ((repeat (first | exact Pick.head _ _ | apply Pick.tail)); done)) | apply Gets.drop)) h) rfl ?_
          refine y_vg rfl rfl rfl (r_nc rfl) (fun _ h => Gets.own (by repeat (first | exact Gets.done _ | exact Gets.all _ | (apply Gets.step; focus ((repeat (first | exact Pick.head _ _ | apply Pick.tail)); done)) | apply Gets.drop)) h) rfl ?_
          refine y_vg rfl rfl rfl (r_fa fo90_11 rfl) (fun _ h => Gets.own (by repeat (first | exact Gets.done _ | exact Gets.all _ | (apply Gets.step; focus ((repeat (first | exact Pick.head _ _ | apply Pick.tail)); done)) | apply Gets.drop)) h) rfl ?_
          refine y_vg rfl rfl rfl (r_iaa (k := f.toNat) Try.underlying88 ty3 rfl rfl (by omega) (by omega)) (fun _ h => Gets.own (by repeat (first | exact Gets.done _ | exact Gets.all _ | (apply Gets.step; focus ((repeat (first | exact Pick.head _ _ | apply Pick.tail)); done)) | apply Gets.drop)) h) rfl ?_
          refine y_vg rfl rfl rfl (r_ld ty3 rfl (by repeat (first | exact Pick.head _ _ | apply Pick.tail)) (mt_at hn)) (fun _ h => Gets.own (by repeat (first | exact Gets.done _ | exact Gets.all _ | (apply Gets.step; focus ((repeat (first | exact Pick.head _ _ | apply Pick.tail)); done)) | apply Gets.drop)) h) rfl ?_
          rw [hrm]
          refine y_vg rfl rfl rfl (r_mv rfl) (fun _ h => Gets.own (by repeat (first | exact Gets.done _ | exact Gets.all _ | (apply Gets.step; focus ((repeat (first | exact Pick.head _ _ | apply Pick.tail)); done)) | apply Gets.drop)) h) rfl ?_
          refine y_vg rfl rfl rfl (r_mv rfl) (fun _ h => Gets.own (by repeat (first | exact Gets.done _ | exact Gets.all _ | (apply Gets.step; focus ((repeat (first | exact Pick.head _ _ | apply Pick.tail)); done)) | apply Gets.drop)) h) rfl ?_
          refine y_vg rfl rfl rfl (r_nc rfl) (fun _ h => Gets.own (by repeat (first | exact Gets.done _ | exact Gets.all _ | (apply Gets.step; focus ((repeat (first | exact Pick.head _ _ | apply Pick.tail)); done)) | apply Gets.drop)) h) rfl ?_
          refine y_vg rfl rfl rfl (r_fa fo90_10 rfl) (fun _ h => Gets.own (by repeat (first | exact Gets.done _ | exact Gets.all _ | (apply Gets.step; focus ((repeat (first | exact Pick.head _ _ | apply Pick.tail)); done)) | apply Gets.drop)) h) rfl ?_
          refine y_vg rfl rfl rfl (r_iaa (k := f.toNat) Try.underlying88 ty3 rfl rfl (by omega) (by omega)) (fun _ h => Gets.own (by repeat (first | exact Gets.done _ | exact Gets.all _ | (apply Gets.step; focus ((repeat (first | exact Pick.head _ _ | apply Pick.tail)); done)) | apply Gets.drop)) h) rfl ?_
          refine y_vg rfl rfl rfl (r_ld ty3 rfl (by repeat (first | exact Pick.head _ _ | apply Pick.tail)) (nx_at hn)) (fun _ h => Gets.own (by repeat (first | exact Gets.done _ | exact Gets.all _ | (apply Gets.step; focus ((repeat (first | exact Pick.head _ _ | apply Pick.tail)); done)) | apply Gets.drop)) h) rfl ?_
          rw [hrn]
          refine y_vg rfl rfl rfl (r_sub rfl rfl (by omega)) (fun _ h => Gets.own (by repeat (first | exact Gets.done _ | exact Gets.all _ | (apply Gets.step; focus ((repeat (first | exact Pick.head _ _ | apply Pick.tail)); done)) | apply Gets.drop)) h) rfl ?_
          refine y_vg rfl rfl rfl (r_eq rfl rfl) (fun _ h => Gets.own (by repeat (first | exact Gets.done _ | exact Gets.all _ | (apply Gets.step; focus ((repeat (first | exact Pick.head _ _ | apply Pick.tail)); done)) | apply Gets.drop)) h) rfl ?_
          refine y_v rfl (r_pk_t rfl rfl) (fun _ h => Gets.own (by repeat (first | exact Gets.done _ | exact Gets.all _ | (apply Gets.step; focus ((repeat (first | exact Pick.head _ _ | apply Pick.tail)); done)) | apply Gets.drop)) h) rfl ?_
          refine XH.nil ?_
          refine hK23 _ _ ?_
          refine XC.keep [(0, _), (1, _), (157, _)] ⟨rfl, rfl, rfl, trivial⟩ ?_
          refine XC.cond_d rfl (fun hc6 => ?_) (fun hc6 => ?_)
          · refine XC.seq fun K24 hK24 => ?_
            refine XC.region ?_
            refine x_v (r_mv rfl) rfl ?_
            refine x_v (r_mv rfl) rfl ?_
            refine x_a (r_bs (vs := [_]) rfl ⟨rfl, rfl⟩ (bs39_1_0 _)) rfl fun b160 => ?_
            refine x_c (r_call0 (args := [_, _]) ⟨rfl, rfl, rfl⟩ (feed_tr (k := k) (Fr := blk b160 3 (iv [f]) :: Fr) b M (some ⟨b160, 0, none⟩) 1 [f] hPr hLr (by omega) (Rdb.of_blk (.head _ _) 0 rfl (fun _ _ h => by rw [Nat.zero_add]; exact h)) (by simpa using hn) (by simp)) (by repeat (first | exact Gets.done _ | exact Gets.all _ | (apply Gets.step; focus ((repeat (first | exact Pick.head _ _ | apply Pick.tail)); done)) | apply Gets.drop))) rfl ?_
            rintro _ _ ⟨L, A5, c5, A6, c6, k6, rfl, rfl, hLs, hx6, hp6, hrd⟩
            refine x_v (r_as rfl) rfl ?_
            refine XL.nil ?_
            refine hK24 _ _ ?_
            refine XC.keep [(6, _)] ⟨rfl, trivial⟩ ?_
            refine XC.ret ?_
            rw [e3 hg, if_pos (by omega)]
            exact fin1 rfl (⟨L, A5, c5, A6, c6, k6, rfl, rfl, hLs, hx6, hp6, hrd⟩) (by repeat (first | exact Gets.done _ | exact Gets.all _ | (apply Gets.step; focus ((repeat (first | exact Pick.head _ _ | apply Pick.tail)); done)) | apply Gets.drop))
          · refine XC.skip ?_
            refine hK22 _ _ ?_
            refine XC.keep [] trivial ?_
            refine XC.seq fun K25 hK25 => ?_
            refine XC.nil_ 92 18 ?_
            refine XC.region ?_
            refine x_v (r_as rfl) rfl ?_
            refine XL.nil ?_
            refine hK25 _ _ ?_
            refine XC.keep [(6, _)] ⟨rfl, trivial⟩ ?_
            refine XC.ret ?_
            rw [e3 hg, if_neg (by omega)]
            exact fin1 rfl (⟨[], none, 0, A, c, k, rfl, rfl, rfl, Ex.refl W0 k, hPr, by simp⟩) (by repeat (first | exact Gets.done _ | exact Gets.all _ | (apply Gets.step; focus ((repeat (first | exact Pick.head _ _ | apply Pick.tail)); done)) | apply Gets.drop))
        · refine y_un rfl rfl rfl (fun _ h => Gets.own (by repeat (first | exact Gets.done _ | exact Gets.all _ | (apply Gets.step; focus ((repeat (first | exact Pick.head _ _ | apply Pick.tail)); done)) | apply Gets.drop)) h) rfl ?_
          refine y_un rfl rfl rfl (fun _ h => Gets.own (by repeat (first | exact Gets.done _ | exact Gets.all _ | (apply Gets.step; focus ((repeat (first | exact Pick.head _ _ | apply Pick.tail)); done)) | apply Gets.drop)) h) rfl ?_
          refine y_un rfl rfl rfl (fun _ h => Gets.own (by repeat (first | exact Gets.done _ | exact Gets.all _ | (apply Gets.step; focus ((repeat (first | exact Pick.head _ _ | apply Pick.tail)); done)) | apply Gets.drop)) h) rfl ?_
          refine y_un rfl rfl rfl (fun _ h => Gets.own (by repeat (first | exact Gets.done _ | exact Gets.all _ | (apply Gets.step; focus ((repeat (first | exact Pick.head _ _ | apply Pick.tail)); done)) | apply Gets.drop)) h) rfl ?_
          refine y_un rfl rfl rfl (fun _ h => Gets.own (by repeat (first | exact Gets.done _ | exact Gets.all _ | (apply Gets.step; focus ((repeat (first | exact Pick.head _ _ | apply Pick.tail)); done)) | apply Gets.drop)) h) rfl ?_
          refine y_un rfl rfl rfl (fun _ h => Gets.own (by repeat (first | exact Gets.done _ | exact Gets.all _ | (apply Gets.step; focus ((repeat (first | exact Pick.head _ _ | apply Pick.tail)); done)) | apply Gets.drop)) h) rfl ?_
          refine y_un rfl rfl rfl (fun _ h => Gets.own (by repeat (first | exact Gets.done _ | exact Gets.all _ | (apply Gets.step; focus ((repeat (first | exact Pick.head _ _ | apply Pick.tail)); done)) | apply Gets.drop)) h) rfl ?_
          refine y_un rfl rfl rfl (fun _ h => Gets.own (by repeat (first | exact Gets.done _ | exact Gets.all _ | (apply Gets.step; focus ((repeat (first | exact Pick.head _ _ | apply Pick.tail)); done)) | apply Gets.drop)) h) rfl ?_
          refine y_un rfl rfl rfl (fun _ h => Gets.own (by repeat (first | exact Gets.done _ | exact Gets.all _ | (apply Gets.step; focus ((repeat (first | exact Pick.head _ _ | apply Pick.tail)); done)) | apply Gets.drop)) h) rfl ?_
          refine y_un rfl rfl rfl (fun _ h => Gets.own (by repeat (first | exact Gets.done _ | exact Gets.all _ | (apply Gets.step; focus ((repeat (first | exact Pick.head _ _ | apply Pick.tail)); done)) | apply Gets.drop)) h) rfl ?_
          refine y_un rfl rfl rfl (fun _ h => Gets.own (by repeat (first | exact Gets.done _ | exact Gets.all _ | (apply Gets.step; focus ((repeat (first | exact Pick.head _ _ | apply Pick.tail)); done)) | apply Gets.drop)) h) rfl ?_
          refine y_un rfl rfl rfl (fun _ h => Gets.own (by repeat (first | exact Gets.done _ | exact Gets.all _ | (apply Gets.step; focus ((repeat (first | exact Pick.head _ _ | apply Pick.tail)); done)) | apply Gets.drop)) h) rfl ?_
          refine y_un rfl rfl rfl (fun _ h => Gets.own (by repeat (first | exact Gets.done _ | exact Gets.all _ | (apply Gets.step; focus ((repeat (first | exact Pick.head _ _ | apply Pick.tail)); done)) | apply Gets.drop)) h) rfl ?_
          refine y_un rfl rfl rfl (fun _ h => Gets.own (by repeat (first | exact Gets.done _ | exact Gets.all _ | (apply Gets.step; focus ((repeat (first | exact Pick.head _ _ | apply Pick.tail)); done)) | apply Gets.drop)) h) rfl ?_
          refine y_v rfl (r_pk_f rfl rfl) (fun _ h => Gets.own (by repeat (first | exact Gets.done _ | exact Gets.all _ | (apply Gets.step; focus ((repeat (first | exact Pick.head _ _ | apply Pick.tail)); done)) | apply Gets.drop)) h) rfl ?_
          refine XH.nil ?_
          refine hK23 _ _ ?_
          refine XC.keep [(0, _), (1, _), (157, _)] ⟨rfl, rfl, rfl, trivial⟩ ?_
          refine XC.cond_f rfl ?_
          refine XC.skip ?_
          refine hK22 _ _ ?_
          refine XC.keep [] trivial ?_
          refine XC.seq fun K26 hK26 => ?_
          refine XC.nil_ 92 18 ?_
          refine XC.region ?_
          refine x_v (r_as rfl) rfl ?_
          refine XL.nil ?_
          refine hK26 _ _ ?_
          refine XC.keep [(6, _)] ⟨rfl, trivial⟩ ?_
          refine XC.ret ?_
          rw [e3 hg, if_neg (by omega)]
          exact fin1 rfl (⟨[], none, 0, A, c, k, rfl, rfl, rfl, Ex.refl W0 k, hPr, by simp⟩) (by repeat (first | exact Gets.done _ | exact Gets.all _ | (apply Gets.step; focus ((repeat (first | exact Pick.head _ _ | apply Pick.tail)); done)) | apply Gets.drop))
end Go.Proofs.Ytlogcldbflemfaa

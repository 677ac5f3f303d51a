/- Crowns: the reference's ledger: operations that were shipped. -/
import Derived.Test.YtheilpcbilnadaaCrown32
namespace Go.Proofs.Ytheilpcbilnadaa
open Go.Sx
set_option linter.unusedVariables false

theorem hasb_at {ops : List Pop} {n e : Int} {o : Pop} (h1 : 1 ≤ n) (h2 : n ≤ ops.length) (ho : ops[(n - 1).toNat]? = some o) : HasB ops n e = decide (o.epoch = e) := by
 unfold HasB
 rw [decide_eq_false (by omega : ¬ n = 0), decide_eq_true h2, Bool.false_or, Bool.true_and, ho]
theorem hasb_0 {ops : List Pop} {e : Int} : HasB ops 0 e = true := by
 unfold HasB
 rw [decide_eq_true (rfl : (0 : Int) = 0), Bool.true_or]
theorem hasb_gt {ops : List Pop} {n e : Int} (h : (ops.length : Int) < n) : HasB ops n e = false := by
 unfold HasB
 rw [decide_eq_false (by omega : ¬ n = 0), decide_eq_false (by omega : ¬ n ≤ ops.length), Bool.false_or, Bool.false_and]
theorem RI.fence {W0 : World} {k : HP} {l : Ls} {r : Rh} {L G : List Od} (hl : RI W0 k l r L G) (f : Int) : RI W0 k { l with fence := f } { r with fence := f } L G :=
 ⟨⟨hl.p.at_, hl.p.len⟩, hl.n, hl.o, rfl, hl.q, hl.rm, hl.rd, hl.g⟩
theorem rship_ri {W0 : World} {k k2 : HP} {l : Ls} {r r2 : Rh} {L G G2 M : List Od} {c : Cm} {j : Nat} {o : Pop} {q : List Pop}
  (hl : RI W0 k l r L G) (hx : Ex W0 k k2) (he : shipL l c = { l with fence := c.epoch, ops := l.ops.take (o.n - 1).toNat ++ (o :: q) }) (hj : o.n - 1 = (j : Int)) (hf : fst1 M = o :: q)
  (hk : ∀ q ∈ M, RdO W0 k2 q) (q1 : 1 ≤ o.n) (q2 : o.n ≤ l.ops.length + 1) (q4 : ∀ (j : Nat) p, (o :: q)[j]? = some p → p.n = o.n + j ∧ opOk p = true)
  (h1 : r2.n = j + M.length) (h2 : r2.fence = c.epoch) (h3 : r2.quota = r.quota) (h4 : r2.room = r.room) (h5 : G2.length = r2.gn) : RI W0 k2 (shipL l c) r2 (L.take j ++ M) G2 := by
 have hj2 : (o.n - 1).toNat = j := by omega
 have hp := hl.p.ship (f := c.epoch) q1 q2 q4
 have hll := hl.len
 have hLn := hl.n
 rw [hj2] at hp
 rw [he, hj2]
 refine ⟨hp, by rw [List.length_append, List.length_take, h1]; omega, ?_, h2, h3.trans hl.q, h4.trans hl.rm, fun x hx2 => ?_, h5⟩
 ·dsimp only; rw [← hl.o, ← hf]; unfold fst1; rw [List.map_append, List.map_take]
 ·rcases List.mem_append.1 hx2 with hh | hh
  ·exact (hl.rd x (List.mem_of_mem_take hh)).ex hx
  ·exact hk x hh
set_option maxHeartbeats 4000000 in
theorem rship_tr {W0 : World} {Fr : List HP} {k : HP} {l : Ls} {r : Rh} {L G : List Od} (b : Nat) (c : Cm) (hl : RI W0 k l r L G) (hr : Rdb W0 [k] c.pA c.ops.length 9 (cells odc c.ops)) (hro : ∀ o ∈ c.ops, RdO W0 k o) (hcap : c.ops.length ≤ c.pc) (hsh : ShipP c) (hrow : rowOk c.after c.since (fst1 c.ops) = true) (hgn : r.gn ≤ 400000) :
  Tr W0 Try.prog 48 [.pointer (some ⟨b, 0, none⟩), .agg (cmc c).toArray] (blk b 93 (rdc r) :: sl r.A r.n r.c 39 9 (cells odc L) :: sl r.gA r.gn r.gc 39 9 (cells odc G) :: k :: Fr) (RPost W0 k Fr b r.gn (shipL l c)) := by
 have hpl := hl.p.len
 have ho := hl.o
 have hle8 := hsh.2.2.2.1
 have hgo : rowGo c.after c.since (-1) (fst1 c.ops) = true := by unfold rowOk at hrow; rw [Bool.and_eq_true] at hrow; exact hrow.2
 have hpl2 : placeOk c.after c.since := by unfold rowOk at hrow; rw [Bool.and_eq_true, decide_eq_true_eq] at hrow; exact hrow.1
 have hpl3 : 0 ≤ c.after ∧ c.after ≤ 80 ∧ (c.after = 0 → c.since = 0) := by unfold placeOk at hpl2; omega
 have hat0 := row_at _ _ _ _ hgo
 have hopn : ∀ (i : Nat) o, c.ops[i]? = some o → 1 ≤ o.1.n ∧ o.1.n ≤ 80 := fun i o ho => by have := opOk_b (hat0 i o.1 (fst_at ho)).2; omega
 obtain ⟨A, n, rc, gA, gn, gc, fe, st, qu, rm⟩ := r
 have hlen : n = l.ops.length := hl.len
 have hLn : L.length = n := hl.n
 have hgl : G.length = gn := hl.g
 have hf : fe = l.fence := hl.f
 dsimp only at hgn
 subst hgl
 unfold rdc
 dsimp only
 refine Entry.tr (N := 220) (rs := [.cell 4 62]) ⟨_, Try.func48, rfl, by kernel_rfl, rfl, rfl⟩ rfl ?_
 refine XC.seq fun K1 hK1 => ?_
 refine XC.region ?_
 refine x_a (r_bx rfl rfl) rfl fun b3 => ?_
 unfold cmc
 refine x_a (r_al ty62 rfl) rfl fun b4 => ?_
 refine XL.nil ?_
 refine hK1 _ _ ?_
 refine XC.keep [(0, _), (3, _), (4, _)] ⟨rfl, rfl, rfl, trivial⟩ ?_
 refine XC.seq fun K2 hK2 => ?_
 refine XC.slnn (A := A) pK fun hsl hsA => ?_
 refine XC.sllen (A := A) pK fun _ hrc _ => ?_
 have hrd : Rdb W0 [sl A n rc 39 9 (cells odc L)] A n 9 (cells odc L) := Rdb.of_sl (.head _ _) hsl hsA
 have hfl := fst_ln L
 refine XC.region ?_
 refine x_v (r_mv rfl) rfl ?_
 refine x_c (r_call0 (args := [_]) ⟨rfl, rfl⟩ (rhold_tr (r := ⟨A, n, rc, gA, G.length, gc, fe, st, qu, rm⟩) b L hLn (by dsimp only; omega)) gS) rfl ?_
 rintro _ _ ⟨rfl, rfl⟩
 unfold rdc
 dsimp only
 rw [ho, ← hold_eq]
 refine x_a (r_al ty69 rfl) rfl fun b5 => ?_
 refine x_e (r_st ty69 rfl rfl rfl rfl rfl uD oV) ?_
 refine XL.nil ?_
 refine hK2 _ _ ?_
 refine XC.keep [(0, _), (3, _), (4, _), (5, _)] ⟨rfl, rfl, rfl, rfl, trivial⟩ ?_
 refine XC.seqcut (σ := Unit) (fun u => [(0, .pointer (some ⟨b, 0, none⟩)), (3, .pointer (some ⟨b3, 0, none⟩)), (4, .pointer (some ⟨b4, 0, none⟩))]) (fun u => blk b3 41 [.int .i64 c.kind, .int .i64 c.epoch, .int .i64 c.site, .int .i64 c.op.1.n, .int .i64 c.op.1.epoch, .int .i64 c.op.1.kind, .int .i64 c.op.1.site, .int .i64 c.op.1.client, .int .i64 c.op.1.seq, str c.op.1.name, .int .i64 c.op.1.size, .slice c.op.2.1 c.op.1.hs.length c.op.2.2, .int .i64 c.after, .int .i64 c.since, .slice c.pA c.ops.length c.pc, .int .i64 c.tag] :: blk b4 62 [.int .i64 0, .int .i64 0, .int .i64 0] :: blk b 93 [.slice A n rc, .slice gA G.length gc, .int .i64 fe, .int .i64 st, .int .i64 qu, .int .i64 rm] :: sl A n rc 39 9 (cells odc L) :: sl gA G.length gc 39 9 (cells odc G) :: k :: Fr) (fun u => ¬ (c.epoch < l.fence ∨ (c.epoch = (foldOf l.ops).hold.1 ∧ ¬ c.site = (foldOf l.ops).hold.2))) ?_ ?_
 ·refine XC.seq fun K4 hK4 => ?_
  refine XC.draw [blk b3 41 [.int .i64 c.kind, .int .i64 c.epoch, .int .i64 c.site, .int .i64 c.op.1.n, .int .i64 c.op.1.epoch, .int .i64 c.op.1.kind, .int .i64 c.op.1.site, .int .i64 c.op.1.client, .int .i64 c.op.1.seq, str c.op.1.name, .int .i64 c.op.1.size, .slice c.op.2.1 c.op.1.hs.length c.op.2.2, .int .i64 c.after, .int .i64 c.since, .slice c.pA c.ops.length c.pc, .int .i64 c.tag], blk b 93 [.slice A n rc, .slice gA G.length gc, .int .i64 fe, .int .i64 st, .int .i64 qu, .int .i64 rm], blk b5 69 [.int .i64 (foldOf l.ops).hold.1, .int .i64 (foldOf l.ops).hold.2]] false [(0, false), (1, false), (2, false), (3, false), (4, false), (5, false), (6, false), (7, false), (8, false), (9, false), (10, false), (11, false), (12, false), (13, false), (14, false), (15, false), (16, false), (17, false), (18, false), (19, false), (20, false)] (by kernel_rfl) (by kernel_rfl) ?_
  refine y_v rfl (r_fa fo41_1 rfl) gT rfl ?_
  refine y_v rfl (r_ld ty3 rfl pK (by rfl)) gT rfl ?_
  refine y_v rfl (r_mv rfl) gT rfl ?_
  refine y_v rfl (r_nc rfl) gT rfl ?_
  refine y_v rfl (r_fa fo93_2 rfl) gT rfl ?_
  refine y_v rfl (r_ld ty3 rfl pK (by rfl)) gT rfl ?_
  refine y_v rfl (r_lt rfl rfl) gT rfl ?_
  refine y_v rfl (r_mv rfl) gT rfl ?_
  refine XH.splitd 21 rfl (fun hg21 => ?_) (fun hg21 => ?_)
  ·refine y_un rfl rfl rfl (fun _ h => Gets.own gS h) rfl ?_
   refine y_un rfl rfl rfl (fun _ h => Gets.own gS h) rfl ?_
   refine y_un rfl rfl rfl (fun _ h => Gets.own gS h) rfl ?_
   refine y_un rfl rfl rfl (fun _ h => Gets.own gS h) rfl ?_
   refine y_un rfl rfl rfl (fun _ h => Gets.own gS h) rfl ?_
   refine y_un rfl rfl rfl (fun _ h => Gets.own gS h) rfl ?_
   refine y_unu rfl rfl rfl (fun _ h => Gets.own gS h) rfl ?_
   refine y_unu rfl rfl rfl (fun _ h => Gets.own gS h) rfl ?_
   refine y_unu rfl rfl rfl (fun _ h => Gets.own gS h) rfl ?_
   refine y_unu rfl rfl rfl (fun _ h => Gets.own gS h) rfl ?_
   refine y_unu rfl rfl rfl (fun _ h => Gets.own gS h) rfl ?_
   refine y_un rfl rfl rfl (fun _ h => Gets.own gS h) rfl ?_
   refine y_v rfl (r_pk_t rfl rfl) gT rfl ?_
   refine XH.nil ?_
   refine hK4 _ _ ?_
   refine XC.keep [(0, _), (3, _), (4, _), (34, _)] ⟨rfl, rfl, rfl, rfl, trivial⟩ ?_
   refine XC.cond_t rfl ?_
   refine XC.seq fun K5 hK5 => ?_
   refine XC.region ?_
   refine x_v (r_bd (vs := [_]) rfl ⟨rfl, rfl⟩ (bd62_0 _)) rfl ?_
   refine x_e (r_st ty62 rfl rfl rfl rfl rfl uD oV) ?_
   refine XL.nil ?_
   refine hK5 _ _ ?_
   refine XC.keep [(4, _)] ⟨rfl, trivial⟩ ?_
   refine XC.ret ?_
   rw [ship0 (by omega)]
   exact finc1 ty62 rfl pK (by rfl) (⟨⟨A, n, rc, gA, G.length, gc, fe, st, qu, rm⟩, L, G, k, ⟨_, _, _, rfl⟩, rfl, Ex.refl W0 k, hl, by dsimp only; omega⟩) gS
  ·refine y_vg rfl rfl rfl (r_fa fo41_1 rfl) gT rfl ?_
   refine y_vg rfl rfl rfl (r_ld ty3 rfl pK (by rfl)) gT rfl ?_
   refine y_vg rfl rfl rfl (r_fa fo69_0 rfl) gT rfl ?_
   refine y_vg rfl rfl rfl (r_ld ty3 rfl pK (by rfl)) gT rfl ?_
   refine y_vg rfl rfl rfl (r_eq rfl rfl) gT rfl ?_
   refine y_vg rfl rfl rfl (r_mv rfl) gT rfl ?_
   refine XH.splitd 27 rfl (fun hg27 => ?_) (fun hg27 => ?_)
   ·refine y_vg rfl rfl rfl (r_fa fo41_2 rfl) gT rfl ?_
    refine y_vg rfl rfl rfl (r_ld ty3 rfl pK (by rfl)) gT rfl ?_
    refine y_vg rfl rfl rfl (r_fa fo69_1 rfl) gT rfl ?_
    refine y_vg rfl rfl rfl (r_ld ty3 rfl pK (by rfl)) gT rfl ?_
    refine y_vg rfl rfl rfl (r_ne rfl rfl) gT rfl ?_
    refine y_vg rfl rfl rfl (r_pk_t rfl rfl) gT rfl ?_
    refine y_v rfl (r_pk_f rfl rfl) gT rfl ?_
    refine XH.nil ?_
    refine hK4 _ _ ?_
    refine XC.keep [(0, _), (3, _), (4, _), (34, _)] ⟨rfl, rfl, rfl, rfl, trivial⟩ ?_
    refine XC.cond_d rfl (fun hc2 => ?_) (fun hc2 => ?_)
    ·refine XC.seq fun K6 hK6 => ?_
     refine XC.region ?_
     refine x_v (r_bd (vs := [_]) rfl ⟨rfl, rfl⟩ (bd62_0 _)) rfl ?_
     refine x_e (r_st ty62 rfl rfl rfl rfl rfl uD oV) ?_
     refine XL.nil ?_
     refine hK6 _ _ ?_
     refine XC.keep [(4, _)] ⟨rfl, trivial⟩ ?_
     refine XC.ret ?_
     rw [ship0 (by omega)]
     exact finc1 ty62 rfl pK (by rfl) (⟨⟨A, n, rc, gA, G.length, gc, fe, st, qu, rm⟩, L, G, k, ⟨_, _, _, rfl⟩, rfl, Ex.refl W0 k, hl, by dsimp only; omega⟩) gS
    ·refine XC.skip ?_
     exact ⟨(), (by omega), ⟨rfl, rfl, rfl, trivial⟩, gS⟩
   ·refine y_un rfl rfl rfl (fun _ h => Gets.own gS h) rfl ?_
    refine y_un rfl rfl rfl (fun _ h => Gets.own gS h) rfl ?_
    refine y_un rfl rfl rfl (fun _ h => Gets.own gS h) rfl ?_
    refine y_un rfl rfl rfl (fun _ h => Gets.own gS h) rfl ?_
    refine y_un rfl rfl rfl (fun _ h => Gets.own gS h) rfl ?_
    refine y_vg rfl rfl rfl (r_pk_f rfl rfl) gT rfl ?_
    refine y_v rfl (r_pk_f rfl rfl) gT rfl ?_
    refine XH.nil ?_
    refine hK4 _ _ ?_
    refine XC.keep [(0, _), (3, _), (4, _), (34, _)] ⟨rfl, rfl, rfl, rfl, trivial⟩ ?_
    refine XC.cond_f rfl ?_
    refine XC.skip ?_
    exact ⟨(), (by omega), ⟨rfl, rfl, rfl, trivial⟩, gS⟩
 ·rintro _ hn0
  refine XC.seq fun K7 hK7 => ?_
  refine XC.region ?_
  refine x_v (r_mv rfl) rfl ?_
  refine x_v (r_fa fo41_1 rfl) rfl ?_
  refine x_v (r_ld ty3 rfl pK (by rfl)) rfl ?_
  refine x_v (r_nc rfl) rfl ?_
  refine x_v (r_fa fo93_2 rfl) rfl ?_
  refine x_e (r_st ty3 rfl rfl rfl rfl rfl uD oV) ?_
  refine XL.nil ?_
  refine hK7 _ _ ?_
  refine XC.keep [(0, _), (3, _), (4, _)] ⟨rfl, rfl, rfl, trivial⟩ ?_
  refine XC.seqcut (σ := Unit) (fun u => [(0, .pointer (some ⟨b, 0, none⟩)), (3, .pointer (some ⟨b3, 0, none⟩)), (4, .pointer (some ⟨b4, 0, none⟩))]) (fun u => blk b3 41 [.int .i64 c.kind, .int .i64 c.epoch, .int .i64 c.site, .int .i64 c.op.1.n, .int .i64 c.op.1.epoch, .int .i64 c.op.1.kind, .int .i64 c.op.1.site, .int .i64 c.op.1.client, .int .i64 c.op.1.seq, str c.op.1.name, .int .i64 c.op.1.size, .slice c.op.2.1 c.op.1.hs.length c.op.2.2, .int .i64 c.after, .int .i64 c.since, .slice c.pA c.ops.length c.pc, .int .i64 c.tag] :: blk b4 62 [.int .i64 0, .int .i64 0, .int .i64 0] :: blk b 93 [.slice A n rc, .slice gA G.length gc, .int .i64 c.epoch, .int .i64 st, .int .i64 qu, .int .i64 rm] :: sl A n rc 39 9 (cells odc L) :: sl gA G.length gc 39 9 (cells odc G) :: k :: Fr) (fun u => HasB l.ops c.after c.since = true) ?_ ?_
  ·refine XC.seq fun K9 hK9 => ?_
   refine XC.draw [blk b3 41 [.int .i64 c.kind, .int .i64 c.epoch, .int .i64 c.site, .int .i64 c.op.1.n, .int .i64 c.op.1.epoch, .int .i64 c.op.1.kind, .int .i64 c.op.1.site, .int .i64 c.op.1.client, .int .i64 c.op.1.seq, str c.op.1.name, .int .i64 c.op.1.size, .slice c.op.2.1 c.op.1.hs.length c.op.2.2, .int .i64 c.after, .int .i64 c.since, .slice c.pA c.ops.length c.pc, .int .i64 c.tag], blk b 93 [.slice A n rc, .slice gA G.length gc, .int .i64 c.epoch, .int .i64 st, .int .i64 qu, .int .i64 rm], sl A n rc 39 9 (cells odc L)] false [(0, false), (1, false), (2, false), (3, false), (4, false), (5, false), (6, false), (7, false), (8, false), (9, false), (10, false), (11, false), (12, false), (13, false), (14, false), (15, false), (16, false), (17, false), (18, false), (19, false), (20, false), (21, false), (22, false), (23, false), (24, false), (25, false), (26, false), (27, false)] (by kernel_rfl) (by kernel_rfl) ?_
   refine y_v rfl (r_fa fo41_4 rfl) gT rfl ?_
   refine y_v rfl (r_ld ty3 rfl pK (by rfl)) gT rfl ?_
   refine y_v rfl (r_mv rfl) gT rfl ?_
   refine y_v rfl (r_nc rfl) gT rfl ?_
   refine y_v rfl (r_fa fo93_0 rfl) gT rfl ?_
   refine y_v rfl (r_ld ty33 rfl pK (by rfl)) gT rfl ?_
   refine y_v rfl (r_lensl Try.underlying33 rfl) gT rfl ?_
   refine y_v rfl (r_gt rfl rfl) gT rfl ?_
   refine y_v rfl (r_mv rfl) gT rfl ?_
   refine XH.splitd 49 rfl (fun hg49 => ?_) (fun hg49 => ?_)
   ·refine y_un rfl rfl rfl (fun _ h => Gets.own gS h) rfl ?_
    refine y_un rfl rfl rfl (fun _ h => Gets.own gS h) rfl ?_
    refine y_un rfl rfl rfl (fun _ h => Gets.own gS h) rfl ?_
    refine y_un rfl rfl rfl (fun _ h => Gets.own gS h) rfl ?_
    refine y_unu rfl rfl rfl (fun _ h => Gets.own gS h) rfl ?_
    refine y_unu rfl rfl rfl (fun _ h => Gets.own gS h) rfl ?_
    refine y_unu rfl rfl rfl (fun _ h => Gets.own gS h) rfl ?_
    refine y_unu rfl rfl rfl (fun _ h => Gets.own gS h) rfl ?_
    refine y_unu rfl rfl rfl (fun _ h => Gets.own gS h) rfl ?_
    refine y_unu rfl rfl rfl (fun _ h => Gets.own gS h) rfl ?_
    refine y_unu rfl rfl rfl (fun _ h => Gets.own gS h) rfl ?_
    refine y_unu rfl rfl rfl (fun _ h => Gets.own gS h) rfl ?_
    refine y_unu rfl rfl rfl (fun _ h => Gets.own gS h) rfl ?_
    refine y_unu rfl rfl rfl (fun _ h => Gets.own gS h) rfl ?_
    refine y_unu rfl rfl rfl (fun _ h => Gets.own gS h) rfl ?_
    refine y_unu rfl rfl rfl (fun _ h => Gets.own gS h) rfl ?_
    refine y_unu rfl rfl rfl (fun _ h => Gets.own gS h) rfl ?_
    refine y_un rfl rfl rfl (fun _ h => Gets.own gS h) rfl ?_
    refine y_v rfl (r_pk_t rfl rfl) gT rfl ?_
    refine XH.nil ?_
    refine hK9 _ _ ?_
    refine XC.keep [(0, _), (3, _), (4, _), (68, _)] ⟨rfl, rfl, rfl, rfl, trivial⟩ ?_
    refine XC.cond_t rfl ?_
    refine XC.seq fun K10 hK10 => ?_
    refine XC.region ?_
    refine x_v (r_bd (vs := [_]) rfl ⟨rfl, rfl⟩ (bd62_0 _)) rfl ?_
    refine x_e (r_st ty62 rfl rfl rfl rfl rfl uD oV) ?_
    refine XL.nil ?_
    refine hK10 _ _ ?_
    refine XC.keep [(4, _)] ⟨rfl, trivial⟩ ?_
    refine XC.ret ?_
    rw [ship1 hn0 (hasb_gt (by omega))]
    exact finc1 ty62 rfl pK (by rfl) (⟨⟨A, n, rc, gA, G.length, gc, c.epoch, st, qu, rm⟩, L, G, k, ⟨_, _, _, rfl⟩, rfl, Ex.refl W0 k, hl.fence c.epoch, by dsimp only; omega⟩) gS
   ·refine y_vg rfl rfl rfl (r_fa fo41_4 rfl) gT rfl ?_
    refine y_vg rfl rfl rfl (r_ld ty3 rfl pK (by rfl)) gT rfl ?_
    refine y_vg rfl rfl rfl (r_gt rfl rfl) gT rfl ?_
    refine y_vg rfl rfl rfl (r_mv rfl) gT rfl ?_
    refine XH.splitd 53 rfl (fun hg53 => ?_) (fun hg53 => ?_)
    ·obtain ⟨pz, hpz⟩ : ∃ o, L[(c.after - 1).toNat]? = some o := ⟨_, List.getElem?_eq_getElem (by omega)⟩
     have hhb := hasb_at (ops := l.ops) (n := c.after) (e := c.since) (by omega) (by omega) (by rw [← ho]; exact fst_at hpz)
     obtain ⟨pb, po, hpL, hat2⟩ := hrd.at_ (by omega)
     refine y_vg rfl rfl rfl (r_mv rfl) gT rfl ?_
     refine y_vg rfl rfl rfl (r_nc rfl) gT rfl ?_
     refine y_vg rfl rfl rfl (r_fa fo93_0 rfl) gT rfl ?_
     refine y_vg rfl rfl rfl (r_ld ty33 rfl pK (by rfl)) gT rfl ?_
     refine y_vg rfl rfl rfl (r_fa fo41_4 rfl) gT rfl ?_
     refine y_vg rfl rfl rfl (r_ld ty3 rfl pK (by rfl)) gT rfl ?_
     refine y_vg rfl rfl rfl (r_sub rfl rfl (by omega)) gT rfl ?_
     refine y_vg rfl rfl rfl (r_ia (k := (c.after - 1).toNat) Try.underlying33 ty39 (by rw [hpL]; rfl) rfl (by omega) (by omega)) gT rfl ?_
     refine y_vg rfl rfl rfl (r_fa fo39_1 rfl) gT rfl ?_
     refine y_vg rfl rfl rfl (r_ldr ty3 rfl (fun w hw => by rw [Nat.add_assoc]; exact hat2 w (Gets.own gS hw) _ _ (cells_get odc_len L _ _ hpz 1 _ rfl))) gT rfl ?_
     refine y_vg rfl rfl rfl (r_fa fo41_5 rfl) gT rfl ?_
     refine y_vg rfl rfl rfl (r_ld ty3 rfl pK (by rfl)) gT rfl ?_
     refine y_vg rfl rfl rfl (r_ne rfl rfl) gT rfl ?_
     refine y_vg rfl rfl rfl (r_pk_t rfl rfl) gT rfl ?_
     refine y_v rfl (r_pk_f rfl rfl) gT rfl ?_
     refine XH.nil ?_
     refine hK9 _ _ ?_
     refine XC.keep [(0, _), (3, _), (4, _), (68, _)] ⟨rfl, rfl, rfl, rfl, trivial⟩ ?_
     refine XC.cond_d rfl (fun hc5 => ?_) (fun hc5 => ?_)
     ·refine XC.seq fun K11 hK11 => ?_
      refine XC.region ?_
      refine x_v (r_bd (vs := [_]) rfl ⟨rfl, rfl⟩ (bd62_0 _)) rfl ?_
      refine x_e (r_st ty62 rfl rfl rfl rfl rfl uD oV) ?_
      refine XL.nil ?_
      refine hK11 _ _ ?_
      refine XC.keep [(4, _)] ⟨rfl, trivial⟩ ?_
      refine XC.ret ?_
      rw [ship1 hn0 (by rw [hhb]; exact decide_eq_false (by omega))]
      exact finc1 ty62 rfl pK (by rfl) (⟨⟨A, n, rc, gA, G.length, gc, c.epoch, st, qu, rm⟩, L, G, k, ⟨_, _, _, rfl⟩, rfl, Ex.refl W0 k, hl.fence c.epoch, by dsimp only; omega⟩) gS
     ·refine XC.skip ?_
      exact ⟨(), (by rw [hhb]; exact decide_eq_true (by omega)), ⟨rfl, rfl, rfl, trivial⟩, gS⟩
    ·refine y_un rfl rfl rfl (fun _ h => Gets.own gS h) rfl ?_
     refine y_un rfl rfl rfl (fun _ h => Gets.own gS h) rfl ?_
     refine y_un rfl rfl rfl (fun _ h => Gets.own gS h) rfl ?_
     refine y_un rfl rfl rfl (fun _ h => Gets.own gS h) rfl ?_
     refine y_un rfl rfl rfl (fun _ h => Gets.own gS h) rfl ?_
     refine y_un rfl rfl rfl (fun _ h => Gets.own gS h) rfl ?_
     refine y_un rfl rfl rfl (fun _ h => Gets.own gS h) rfl ?_
     refine y_un rfl rfl rfl (fun _ h => Gets.own gS h) rfl ?_
     refine y_un rfl rfl rfl (fun _ h => Gets.own gS h) rfl ?_
     refine y_un rfl rfl rfl (fun _ h => Gets.own gS h) rfl ?_
     refine y_un rfl rfl rfl (fun _ h => Gets.own gS h) rfl ?_
     refine y_un rfl rfl rfl (fun _ h => Gets.own gS h) rfl ?_
     refine y_un rfl rfl rfl (fun _ h => Gets.own gS h) rfl ?_
     refine y_vg rfl rfl rfl (r_pk_f rfl rfl) gT rfl ?_
     refine y_v rfl (r_pk_f rfl rfl) gT rfl ?_
     refine XH.nil ?_
     refine hK9 _ _ ?_
     refine XC.keep [(0, _), (3, _), (4, _), (68, _)] ⟨rfl, rfl, rfl, rfl, trivial⟩ ?_
     refine XC.cond_f rfl ?_
     refine XC.skip ?_
     exact ⟨(), (by rw [show c.after = 0 by omega]; exact hasb_0), ⟨rfl, rfl, rfl, trivial⟩, gS⟩
  ·rintro _ hb1
   refine XC.seq fun K12 hK12 => ?_
   refine XC.region ?_
   refine x_v (r_fa fo41_4 rfl) rfl ?_
   refine x_v (r_ld ty3 rfl pK (by rfl)) rfl ?_
   refine x_v (r_fa fo41_5 rfl) rfl ?_
   refine x_v (r_ld ty3 rfl pK (by rfl)) rfl ?_
   refine x_v (r_bd (vs := [_, _]) rfl ⟨rfl, rfl, rfl⟩ (bd31_0_1 _ _)) rfl ?_
   refine x_a (r_al ty31 rfl) rfl fun b6 => ?_
   refine x_e (r_st ty31 rfl rfl rfl rfl rfl uD oV) ?_
   refine XL.nil ?_
   refine hK12 _ _ ?_
   refine XC.keep [(0, _), (3, _), (4, _), (6, _)] ⟨rfl, rfl, rfl, rfl, trivial⟩ ?_
   refine XC.seqcut (σ := Rh × List Od × List Od × HP) (fun s => [(0, .pointer (some ⟨b, 0, none⟩)), (3, .pointer (some ⟨b3, 0, none⟩)), (4, .pointer (some ⟨b4, 0, none⟩)), (6, .pointer (some ⟨b6, 0, none⟩))]) (fun s => blk b3 41 [.int .i64 c.kind, .int .i64 c.epoch, .int .i64 c.site, .int .i64 c.op.1.n, .int .i64 c.op.1.epoch, .int .i64 c.op.1.kind, .int .i64 c.op.1.site, .int .i64 c.op.1.client, .int .i64 c.op.1.seq, str c.op.1.name, .int .i64 c.op.1.size, .slice c.op.2.1 c.op.1.hs.length c.op.2.2, .int .i64 c.after, .int .i64 c.since, .slice c.pA c.ops.length c.pc, .int .i64 c.tag] :: blk b4 62 [.int .i64 0, .int .i64 0, .int .i64 0] :: blk b6 31 [.int .i64 c.after, .int .i64 c.since] :: blk b 93 (rdc s.1) :: sl s.1.A s.1.n s.1.c 39 9 (cells odc s.2.1) :: sl s.1.gA s.1.gn s.1.gc 39 9 (cells odc s.2.2.1) :: s.2.2.2 :: Fr) (fun s => Ex W0 k s.2.2.2 ∧ RI W0 s.2.2.2 (shipL l c) s.1 s.2.1 s.2.2.1 ∧ s.1.gn ≤ G.length + 80) ?_ ?_
   ·refine XC.seq fun K14 hK14 => ?_
    refine XC.region ?_
    refine x_v (r_as rfl) rfl ?_
    refine XL.nil ?_
    refine hK14 _ _ ?_
    refine XC.keep [(0, _), (3, _), (4, _), (6, _), (7, _)] ⟨rfl, rfl, rfl, rfl, rfl, trivial⟩ ?_
    refine XC.block ?_
    refine XC.loop (σ := Nat) (fun s => [(0, .pointer (some ⟨b, 0, none⟩)), (3, .pointer (some ⟨b3, 0, none⟩)), (4, .pointer (some ⟨b4, 0, none⟩)), (6, .pointer (some ⟨b6, 0, none⟩)), (7, .int .i64 (s : Int))]) (fun s => blk b3 41 [.int .i64 c.kind, .int .i64 c.epoch, .int .i64 c.site, .int .i64 c.op.1.n, .int .i64 c.op.1.epoch, .int .i64 c.op.1.kind, .int .i64 c.op.1.site, .int .i64 c.op.1.client, .int .i64 c.op.1.seq, str c.op.1.name, .int .i64 c.op.1.size, .slice c.op.2.1 c.op.1.hs.length c.op.2.2, .int .i64 c.after, .int .i64 c.since, .slice c.pA c.ops.length c.pc, .int .i64 c.tag] :: blk b4 62 [.int .i64 0, .int .i64 0, .int .i64 0] :: blk b6 31 [.int .i64 c.after, .int .i64 c.since] :: blk b 93 [.slice A n rc, .slice gA G.length gc, .int .i64 c.epoch, .int .i64 st, .int .i64 qu, .int .i64 rm] :: sl A n rc 39 9 (cells odc L) :: sl gA G.length gc 39 9 (cells odc G) :: k :: Fr) (fun s => s ≤ c.ops.length ∧ restL l.ops (fst1 c.ops) = restL l.ops (fst1 (c.ops.drop s))) (fun s => c.ops.length - s) 0 ?_ ⟨rfl, rfl, rfl, rfl, rfl, trivial⟩ gS ?_
    ·exact ⟨Nat.zero_le _, rfl⟩
    rintro i ⟨hi, hrs⟩
    refine XC.seq fun K15 hK15 => ?_
    refine XC.seq fun K16 hK16 => ?_
    refine XC.region ?_
    refine x_v (r_mv rfl) rfl ?_
    refine x_v (r_fa fo41_6 rfl) rfl ?_
    refine x_v (r_ld ty33 rfl pK (by rfl)) rfl ?_
    refine x_v (r_lensl Try.underlying33 rfl) rfl ?_
    refine x_v (r_lt rfl rfl) rfl ?_
    refine XL.nil ?_
    refine hK16 _ _ ?_
    refine XC.keep [(0, _), (3, _), (4, _), (6, _), (7, _), (79, _)] ⟨rfl, rfl, rfl, rfl, rfl, rfl, trivial⟩ ?_
    refine XC.cond_d rfl (fun hc7 => ?_) (fun hc7 => ?_)
    ·refine XC.skip ?_
     refine hK15 _ _ ?_
     refine XC.keep [(0, _), (3, _), (4, _), (6, _), (7, _)] ⟨rfl, rfl, rfl, rfl, rfl, trivial⟩ ?_
     refine XC.seq fun K17 hK17 => ?_
     refine XC.block ?_
     refine XC.seq fun K18 hK18 => ?_
     obtain ⟨o, hoi⟩ : ∃ o, c.ops[i]? = some o := ⟨_, List.getElem?_eq_getElem (by omega)⟩
     have hon := hopn i o hoi
     obtain ⟨ob, oo, hpC, hat⟩ := hr.at_ (by omega)
     refine XC.region ?_
     refine x_v (r_fa fo41_6 rfl) rfl ?_
     refine x_v (r_ld ty33 rfl pK (by rfl)) rfl ?_
     refine x_v (r_mv rfl) rfl ?_
     refine x_v (r_ia (k := i) Try.underlying33 ty39 (by rw [hpC]; rfl) rfl (by omega) (by omega)) rfl ?_
     refine x_v (r_ldar (l' := odc o) ty39 rfl rfl (fun w hw j2 u hu => by rw [Nat.add_assoc]; exact hat w (Gets.own gS hw) _ u (cells_get odc_len c.ops _ _ hoi j2 u hu))) rfl ?_
     rw [odc_def o]
     refine x_a (r_al ty39 rfl) rfl fun b8 => ?_
     refine x_e (r_st ty39 rfl rfl rfl rfl rfl uD oV) ?_
     refine XL.nil ?_
     refine hK18 _ _ ?_
     refine XC.keep [(0, _), (3, _), (4, _), (6, _), (7, _), (8, _)] ⟨rfl, rfl, rfl, rfl, rfl, rfl, trivial⟩ ?_
     refine XC.seqcut (σ := Unit) (fun u => [(0, .pointer (some ⟨b, 0, none⟩)), (3, .pointer (some ⟨b3, 0, none⟩)), (4, .pointer (some ⟨b4, 0, none⟩)), (6, .pointer (some ⟨b6, 0, none⟩)), (7, .int .i64 (i : Int)), (8, .pointer (some ⟨b8, 0, none⟩))]) (fun u => blk b3 41 [.int .i64 c.kind, .int .i64 c.epoch, .int .i64 c.site, .int .i64 c.op.1.n, .int .i64 c.op.1.epoch, .int .i64 c.op.1.kind, .int .i64 c.op.1.site, .int .i64 c.op.1.client, .int .i64 c.op.1.seq, str c.op.1.name, .int .i64 c.op.1.size, .slice c.op.2.1 c.op.1.hs.length c.op.2.2, .int .i64 c.after, .int .i64 c.since, .slice c.pA c.ops.length c.pc, .int .i64 c.tag] :: blk b4 62 [.int .i64 0, .int .i64 0, .int .i64 0] :: blk b6 31 [.int .i64 c.after, .int .i64 c.since] :: blk b8 39 [.int .i64 o.1.n, .int .i64 o.1.epoch, .int .i64 o.1.kind, .int .i64 o.1.site, .int .i64 o.1.client, .int .i64 o.1.seq, str o.1.name, .int .i64 o.1.size, .slice o.2.1 o.1.hs.length o.2.2] :: blk b 93 [.slice A n rc, .slice gA G.length gc, .int .i64 c.epoch, .int .i64 st, .int .i64 qu, .int .i64 rm] :: sl A n rc 39 9 (cells odc L) :: sl gA G.length gc 39 9 (cells odc G) :: k :: Fr) (fun u => HasB l.ops o.1.n o.1.epoch = false) ?_ ?_
     ·refine XC.seq fun K20 hK20 => ?_
      refine XC.draw [blk b8 39 [.int .i64 o.1.n, .int .i64 o.1.epoch, .int .i64 o.1.kind, .int .i64 o.1.site, .int .i64 o.1.client, .int .i64 o.1.seq, str o.1.name, .int .i64 o.1.size, .slice o.2.1 o.1.hs.length o.2.2], blk b 93 [.slice A n rc, .slice gA G.length gc, .int .i64 c.epoch, .int .i64 st, .int .i64 qu, .int .i64 rm], sl A n rc 39 9 (cells odc L)] false [(0, false), (1, false), (2, false), (3, false), (4, false), (5, false), (6, false), (7, false), (8, false), (9, false), (10, false), (11, false), (12, false), (13, false), (14, false), (15, false), (16, false), (17, false), (18, false), (19, false), (20, false), (21, false), (22, false)] (by kernel_rfl) (by kernel_rfl) ?_
      refine y_v rfl (r_fa fo39_0 rfl) gT rfl ?_
      refine y_v rfl (r_ld ty3 rfl pK (by rfl)) gT rfl ?_
      refine y_v rfl (r_mv rfl) gT rfl ?_
      refine y_v rfl (r_nc rfl) gT rfl ?_
      refine y_v rfl (r_fa fo93_0 rfl) gT rfl ?_
      refine y_v rfl (r_ld ty33 rfl pK (by rfl)) gT rfl ?_
      refine y_v rfl (r_lensl Try.underlying33 rfl) gT rfl ?_
      refine y_v rfl (r_le rfl rfl) gT rfl ?_
      refine y_v rfl (r_mv rfl) gT rfl ?_
      refine XH.splitd 95 rfl (fun hg95 => ?_) (fun hg95 => ?_)
      ·obtain ⟨pz, hpz⟩ : ∃ p, L[(o.1.n - 1).toNat]? = some p := ⟨_, List.getElem?_eq_getElem (by omega)⟩
       have hhb2 := hasb_at (ops := l.ops) (n := o.1.n) (e := o.1.epoch) (by omega) (by omega) (by rw [← ho]; exact fst_at hpz)
       obtain ⟨pb, po, hpL, hat2⟩ := hrd.at_ (by omega)
       refine y_vg rfl rfl rfl (r_mv rfl) gT rfl ?_
       refine y_vg rfl rfl rfl (r_nc rfl) gT rfl ?_
       refine y_vg rfl rfl rfl (r_fa fo93_0 rfl) gT rfl ?_
       refine y_vg rfl rfl rfl (r_ld ty33 rfl pK (by rfl)) gT rfl ?_
       refine y_vg rfl rfl rfl (r_fa fo39_0 rfl) gT rfl ?_
       refine y_vg rfl rfl rfl (r_ld ty3 rfl pK (by rfl)) gT rfl ?_
       refine y_vg rfl rfl rfl (r_sub rfl rfl (by omega)) gT rfl ?_
       refine y_vg rfl rfl rfl (r_ia (k := (o.1.n - 1).toNat) Try.underlying33 ty39 (by rw [hpL]; rfl) rfl (by omega) (by omega)) gT rfl ?_
       refine y_vg rfl rfl rfl (r_fa fo39_1 rfl) gT rfl ?_
       refine y_vg rfl rfl rfl (r_ldr ty3 rfl (fun w hw => by rw [Nat.add_assoc]; exact hat2 w (Gets.own gS hw) _ _ (cells_get odc_len L _ _ hpz 1 _ rfl))) gT rfl ?_
       refine y_vg rfl rfl rfl (r_fa fo39_1 rfl) gT rfl ?_
       refine y_vg rfl rfl rfl (r_ld ty3 rfl pK (by rfl)) gT rfl ?_
       refine y_vg rfl rfl rfl (r_eq rfl rfl) gT rfl ?_
       refine y_v rfl (r_pk_t rfl rfl) gT rfl ?_
       refine XH.nil ?_
       refine hK20 _ _ ?_
       refine XC.keep [(0, _), (3, _), (4, _), (6, _), (7, _), (8, _), (109, _)] ⟨rfl, rfl, rfl, rfl, rfl, rfl, rfl, trivial⟩ ?_
       refine XC.cond_d rfl (fun hc8 => ?_) (fun hc8 => ?_)
       ·refine XC.exit rfl ?_
        refine hK17 _ _ ?_
        refine XC.keep [(0, _), (3, _), (4, _), (6, _), (7, _)] ⟨rfl, rfl, rfl, rfl, rfl, trivial⟩ ?_
        refine XC.region ?_
        refine x_v (r_mv rfl) rfl ?_
        refine x_v (r_add rfl rfl (by omega)) rfl ?_
        refine x_v (r_as rfl) rfl ?_
        refine XL.nil ?_
        refine ⟨i + 1, ?_, ?_, ⟨rfl, rfl, rfl, rfl, rfl, trivial⟩, gS⟩
        ·exact ⟨by omega, by rw [hrs, rest_yes (fst_get hoi) (by rw [hhb2]; exact decide_eq_true (by omega))]⟩
        ·omega
       ·refine XC.skip ?_
        exact ⟨(), (by rw [hhb2]; exact decide_eq_false (by omega)), ⟨rfl, rfl, rfl, rfl, rfl, rfl, trivial⟩, gS⟩
      ·refine y_un rfl rfl rfl (fun _ h => Gets.own gS h) rfl ?_
       refine y_un rfl rfl rfl (fun _ h => Gets.own gS h) rfl ?_
       refine y_un rfl rfl rfl (fun _ h => Gets.own gS h) rfl ?_
       refine y_un rfl rfl rfl (fun _ h => Gets.own gS h) rfl ?_
       refine y_un rfl rfl rfl (fun _ h => Gets.own gS h) rfl ?_
       refine y_un rfl rfl rfl (fun _ h => Gets.own gS h) rfl ?_
       refine y_un rfl rfl rfl (fun _ h => Gets.own gS h) rfl ?_
       refine y_un rfl rfl rfl (fun _ h => Gets.own gS h) rfl ?_
       refine y_un rfl rfl rfl (fun _ h => Gets.own gS h) rfl ?_
       refine y_un rfl rfl rfl (fun _ h => Gets.own gS h) rfl ?_
       refine y_un rfl rfl rfl (fun _ h => Gets.own gS h) rfl ?_
       refine y_un rfl rfl rfl (fun _ h => Gets.own gS h) rfl ?_
       refine y_un rfl rfl rfl (fun _ h => Gets.own gS h) rfl ?_
       refine y_v rfl (r_pk_f rfl rfl) gT rfl ?_
       refine XH.nil ?_
       refine hK20 _ _ ?_
       refine XC.keep [(0, _), (3, _), (4, _), (6, _), (7, _), (8, _), (109, _)] ⟨rfl, rfl, rfl, rfl, rfl, rfl, rfl, trivial⟩ ?_
       refine XC.cond_f rfl ?_
       refine XC.skip ?_
       exact ⟨(), (hasb_gt (by omega)), ⟨rfl, rfl, rfl, rfl, rfl, rfl, trivial⟩, gS⟩
     ·rintro _ hb2
      have hfo := fst_get hoi
      have hrs2 := hrs.trans (rest_no hfo hb2)
      obtain ⟨q1, q2, q3, q4⟩ := rest_fact l.ops _ _ _ _ hgo hpl3.1 (has_le hb1) hpl3.2.2 _ _ hrs2
      refine XC.seqcut (σ := Unit) (fun u => [(0, .pointer (some ⟨b, 0, none⟩)), (3, .pointer (some ⟨b3, 0, none⟩)), (4, .pointer (some ⟨b4, 0, none⟩)), (6, .pointer (some ⟨b6, 0, none⟩)), (7, .int .i64 (i : Int)), (8, .pointer (some ⟨b8, 0, none⟩))]) (fun u => blk b3 41 [.int .i64 c.kind, .int .i64 c.epoch, .int .i64 c.site, .int .i64 c.op.1.n, .int .i64 c.op.1.epoch, .int .i64 c.op.1.kind, .int .i64 c.op.1.site, .int .i64 c.op.1.client, .int .i64 c.op.1.seq, str c.op.1.name, .int .i64 c.op.1.size, .slice c.op.2.1 c.op.1.hs.length c.op.2.2, .int .i64 c.after, .int .i64 c.since, .slice c.pA c.ops.length c.pc, .int .i64 c.tag] :: blk b4 62 [.int .i64 0, .int .i64 0, .int .i64 0] :: blk b6 31 [.int .i64 c.after, .int .i64 c.since] :: blk b8 39 [.int .i64 o.1.n, .int .i64 o.1.epoch, .int .i64 o.1.kind, .int .i64 o.1.site, .int .i64 o.1.client, .int .i64 o.1.seq, str o.1.name, .int .i64 o.1.size, .slice o.2.1 o.1.hs.length o.2.2] :: blk b 93 [.slice A n rc, .slice gA G.length gc, .int .i64 c.epoch, .int .i64 st, .int .i64 qu, .int .i64 rm] :: sl A n rc 39 9 (cells odc L) :: sl gA G.length gc 39 9 (cells odc G) :: k :: Fr) (fun u => ¬ (¬ o.1.kind = 3 ∧ siteAt l.ops (o.1.n - 2) o.1.site = false)) ?_ ?_
      ·refine XC.seq fun K22 hK22 => ?_
       refine XC.draw [blk b8 39 [.int .i64 o.1.n, .int .i64 o.1.epoch, .int .i64 o.1.kind, .int .i64 o.1.site, .int .i64 o.1.client, .int .i64 o.1.seq, str o.1.name, .int .i64 o.1.size, .slice o.2.1 o.1.hs.length o.2.2], blk b 93 [.slice A n rc, .slice gA G.length gc, .int .i64 c.epoch, .int .i64 st, .int .i64 qu, .int .i64 rm], sl A n rc 39 9 (cells odc L)] false [(0, false), (1, false), (2, false), (3, false), (4, false), (5, false), (6, false), (7, false), (8, false), (9, false), (10, false), (11, false), (12, false), (13, false), (14, false), (15, false), (16, false), (17, false)] (by kernel_rfl) (by kernel_rfl) ?_
       refine y_v rfl (r_fa fo39_2 rfl) gT rfl ?_
       refine y_v rfl (r_ld ty3 rfl pK (by rfl)) gT rfl ?_
       refine y_v rfl (r_ne rfl rfl) gT rfl ?_
       refine y_v rfl (r_mv rfl) gT rfl ?_
       refine XH.splitd 113 rfl (fun hg113 => ?_) (fun hg113 => ?_)
       ·have hn2 := q3 (by assumption)
        obtain ⟨p, hpi⟩ : ∃ p, L[(o.1.n - 2).toNat]? = some p := ⟨_, List.getElem?_eq_getElem (by omega)⟩
        have hsat : siteAt l.ops (o.1.n - 2) o.1.site = decide (p.1.site = o.1.site) := by (unfold siteAt; rw [← ho, fst_at hpi])
        obtain ⟨pb, po, hpL, hat2⟩ := hrd.at_ (by omega)
        refine y_vg rfl rfl rfl (r_mv rfl) gT rfl ?_
        refine y_vg rfl rfl rfl (r_nc rfl) gT rfl ?_
        refine y_vg rfl rfl rfl (r_fa fo93_0 rfl) gT rfl ?_
        refine y_vg rfl rfl rfl (r_ld ty33 rfl pK (by rfl)) gT rfl ?_
        refine y_vg rfl rfl rfl (r_fa fo39_0 rfl) gT rfl ?_
        refine y_vg rfl rfl rfl (r_ld ty3 rfl pK (by rfl)) gT rfl ?_
        refine y_vg rfl rfl rfl (r_sub rfl rfl (by omega)) gT rfl ?_
        refine y_vg rfl rfl rfl (r_ia (k := (o.1.n - 2).toNat) Try.underlying33 ty39 (by rw [hpL]; rfl) rfl (by omega) (by omega)) gT rfl ?_
        refine y_vg rfl rfl rfl (r_fa fo39_3 rfl) gT rfl ?_
        refine y_vg rfl rfl rfl (r_ldr ty3 rfl (fun w hw => by rw [Nat.add_assoc]; exact hat2 w (Gets.own gS hw) _ _ (cells_get odc_len L _ _ hpi 3 _ rfl))) gT rfl ?_
        refine y_vg rfl rfl rfl (r_fa fo39_3 rfl) gT rfl ?_
        refine y_vg rfl rfl rfl (r_ld ty3 rfl pK (by rfl)) gT rfl ?_
        refine y_vg rfl rfl rfl (r_ne rfl rfl) gT rfl ?_
        refine y_v rfl (r_pk_t rfl rfl) gT rfl ?_
        refine XH.nil ?_
        refine hK22 _ _ ?_
        refine XC.keep [(0, _), (3, _), (4, _), (6, _), (7, _), (8, _), (127, _)] ⟨rfl, rfl, rfl, rfl, rfl, rfl, rfl, trivial⟩ ?_
        refine XC.cond_d rfl (fun hc10 => ?_) (fun hc10 => ?_)
        ·refine XC.seq fun K23 hK23 => ?_
         refine XC.region ?_
         refine x_v (r_bd (vs := [_]) rfl ⟨rfl, rfl⟩ (bd62_0 _)) rfl ?_
         refine x_e (r_st ty62 rfl rfl rfl rfl rfl uD oV) ?_
         refine XL.nil ?_
         refine hK23 _ _ ?_
         refine XC.keep [(4, _)] ⟨rfl, trivial⟩ ?_
         refine XC.ret ?_
         rw [ship3 hn0 hb1 hrs2 ⟨by assumption, by rw [hsat]; exact decide_eq_false (by omega)⟩]
         exact finc1 ty62 rfl pK (by rfl) (⟨⟨A, n, rc, gA, G.length, gc, c.epoch, st, qu, rm⟩, L, G, k, ⟨_, _, _, rfl⟩, rfl, Ex.refl W0 k, hl.fence c.epoch, by dsimp only; omega⟩) gS
        ·refine XC.skip ?_
         exact ⟨(), (fun q => by rw [hsat] at q; have := of_decide_eq_false q.2; omega), ⟨rfl, rfl, rfl, rfl, rfl, rfl, trivial⟩, gS⟩
       ·refine y_un rfl rfl rfl (fun _ h => Gets.own gS h) rfl ?_
        refine y_un rfl rfl rfl (fun _ h => Gets.own gS h) rfl ?_
        refine y_un rfl rfl rfl (fun _ h => Gets.own gS h) rfl ?_
        refine y_un rfl rfl rfl (fun _ h => Gets.own gS h) rfl ?_
        refine y_un rfl rfl rfl (fun _ h => Gets.own gS h) rfl ?_
        refine y_un rfl rfl rfl (fun _ h => Gets.own gS h) rfl ?_
        refine y_un rfl rfl rfl (fun _ h => Gets.own gS h) rfl ?_
        refine y_un rfl rfl rfl (fun _ h => Gets.own gS h) rfl ?_
        refine y_un rfl rfl rfl (fun _ h => Gets.own gS h) rfl ?_
        refine y_un rfl rfl rfl (fun _ h => Gets.own gS h) rfl ?_
        refine y_un rfl rfl rfl (fun _ h => Gets.own gS h) rfl ?_
        refine y_un rfl rfl rfl (fun _ h => Gets.own gS h) rfl ?_
        refine y_un rfl rfl rfl (fun _ h => Gets.own gS h) rfl ?_
        refine y_v rfl (r_pk_f rfl rfl) gT rfl ?_
        refine XH.nil ?_
        refine hK22 _ _ ?_
        refine XC.keep [(0, _), (3, _), (4, _), (6, _), (7, _), (8, _), (127, _)] ⟨rfl, rfl, rfl, rfl, rfl, rfl, rfl, trivial⟩ ?_
        refine XC.cond_f rfl ?_
        refine XC.skip ?_
        exact ⟨(), (fun q => by have := q.1; omega), ⟨rfl, rfl, rfl, rfl, rfl, rfl, trivial⟩, gS⟩
      ·rintro _ hs4
       obtain ⟨j, hj⟩ : ∃ j : Nat, o.1.n - 1 = (j : Int) := ⟨(o.1.n - 1).toNat, by omega⟩
       refine XC.seq fun K24 hK24 => ?_
       refine XC.seq fun K25 hK25 => ?_
       refine XC.region ?_
       refine x_v (r_fa fo39_0 rfl) rfl ?_
       refine x_v (r_ld ty3 rfl pK (by rfl)) rfl ?_
       refine x_v (r_sub rfl rfl (by omega)) rfl ?_
       rw [hj]
       refine x_v (r_as rfl) rfl ?_
       refine XL.nil ?_
       refine hK25 _ _ ?_
       refine XC.keep [(0, _), (3, _), (4, _), (6, _), (7, _), (8, _), (9, _)] ⟨rfl, rfl, rfl, rfl, rfl, rfl, rfl, trivial⟩ ?_
       refine XC.block ?_
       refine XC.loop (σ := Nat × Option Addr × Nat × List Od) (fun s => [(0, .pointer (some ⟨b, 0, none⟩)), (3, .pointer (some ⟨b3, 0, none⟩)), (4, .pointer (some ⟨b4, 0, none⟩)), (6, .pointer (some ⟨b6, 0, none⟩)), (7, .int .i64 (i : Int)), (8, .pointer (some ⟨b8, 0, none⟩)), (9, .int .i64 (s.1 : Int))]) (fun s => blk b3 41 [.int .i64 c.kind, .int .i64 c.epoch, .int .i64 c.site, .int .i64 c.op.1.n, .int .i64 c.op.1.epoch, .int .i64 c.op.1.kind, .int .i64 c.op.1.site, .int .i64 c.op.1.client, .int .i64 c.op.1.seq, str c.op.1.name, .int .i64 c.op.1.size, .slice c.op.2.1 c.op.1.hs.length c.op.2.2, .int .i64 c.after, .int .i64 c.since, .slice c.pA c.ops.length c.pc, .int .i64 c.tag] :: blk b4 62 [.int .i64 0, .int .i64 0, .int .i64 0] :: blk b6 31 [.int .i64 c.after, .int .i64 c.since] :: blk b8 39 [.int .i64 o.1.n, .int .i64 o.1.epoch, .int .i64 o.1.kind, .int .i64 o.1.site, .int .i64 o.1.client, .int .i64 o.1.seq, str o.1.name, .int .i64 o.1.size, .slice o.2.1 o.1.hs.length o.2.2] :: blk b 93 [.slice A n rc, .slice s.2.1 s.2.2.2.length s.2.2.1, .int .i64 c.epoch, .int .i64 st, .int .i64 qu, .int .i64 rm] :: sl A n rc 39 9 (cells odc L) :: sl s.2.1 s.2.2.2.length s.2.2.1 39 9 (cells odc s.2.2.2) :: k :: Fr) (fun s => j ≤ s.1 ∧ s.1 ≤ n ∧ s.2.2.2.length = G.length + (s.1 - j)) (fun s => n - s.1) (j, gA, gc, G) ?_ ⟨rfl, rfl, rfl, rfl, rfl, rfl, rfl, trivial⟩ gS ?_
       ·exact ⟨Nat.le_refl _, by dsimp only; omega, by dsimp only; omega⟩
       rintro ⟨m, A3, c3, G3⟩ ⟨hm1, hm2, hg3⟩
       dsimp only at hm1 hm2 hg3 ⊢
       refine XC.seq fun K26 hK26 => ?_
       refine XC.seq fun K27 hK27 => ?_
       refine XC.region ?_
       refine x_v (r_mv rfl) rfl ?_
       refine x_v (r_mv rfl) rfl ?_
       refine x_v (r_nc rfl) rfl ?_
       refine x_v (r_fa fo93_0 rfl) rfl ?_
       refine x_v (r_ld ty33 rfl pK (by rfl)) rfl ?_
       refine x_v (r_lensl Try.underlying33 rfl) rfl ?_
       refine x_v (r_lt rfl rfl) rfl ?_
       refine XL.nil ?_
       refine hK27 _ _ ?_
       refine XC.keep [(0, _), (3, _), (4, _), (6, _), (7, _), (8, _), (9, _), (138, _)] ⟨rfl, rfl, rfl, rfl, rfl, rfl, rfl, rfl, trivial⟩ ?_
       refine XC.cond_d rfl (fun hc12 => ?_) (fun hc12 => ?_)
       ·refine XC.skip ?_
        refine hK26 _ _ ?_
        refine XC.keep [(0, _), (3, _), (4, _), (6, _), (7, _), (8, _), (9, _)] ⟨rfl, rfl, rfl, rfl, rfl, rfl, rfl, trivial⟩ ?_
        refine XC.seq fun K28 hK28 => ?_
        refine XC.block ?_
        refine XC.seq fun K29 hK29 => ?_
        obtain ⟨x, hxi⟩ : ∃ x, L[m]? = some x := ⟨_, List.getElem?_eq_getElem (by omega)⟩
        obtain ⟨pb, po, hpL, hat2⟩ := hrd.at_ (by omega)
        obtain ⟨o2, ho2⟩ : ∃ o2 : Od, o2 = ({ x.1 with hs := [] }, none, 0) := ⟨_, rfl⟩
        refine XC.region ?_
        refine x_v (r_mv rfl) rfl ?_
        refine x_v (r_nc rfl) rfl ?_
        refine x_v (r_fa fo93_0 rfl) rfl ?_
        refine x_v (r_ld ty33 rfl pK (by rfl)) rfl ?_
        refine x_v (r_mv rfl) rfl ?_
        refine x_v (r_ia (k := m) Try.underlying33 ty39 (by rw [hpL]; rfl) rfl (by omega) (by omega)) rfl ?_
        refine x_v (r_ldar (l' := odc x) ty39 rfl rfl (fun w hw j2 u hu => by rw [Nat.add_assoc]; exact hat2 w (Gets.own gS hw) _ u (cells_get odc_len L _ _ hxi j2 u hu))) rfl ?_
        rw [odc_def x]
        refine x_a (r_al ty39 rfl) rfl fun b10 => ?_
        refine x_e (r_st ty39 rfl rfl rfl rfl rfl uD oV) ?_
        refine XL.nil ?_
        refine hK29 _ _ ?_
        refine XC.keep [(0, _), (3, _), (4, _), (6, _), (7, _), (8, _), (9, _), (10, _)] ⟨rfl, rfl, rfl, rfl, rfl, rfl, rfl, rfl, trivial⟩ ?_
        refine XC.seq fun K30 hK30 => ?_
        refine XC.region ?_
        refine x_v (r_fa fo39_7 rfl) rfl ?_
        refine x_v (r_fa fo37_1 rfl) rfl ?_
        refine x_e (r_st ty29 rfl rfl rfl rfl rfl uD oV) ?_
        refine XL.nil ?_
        refine hK30 _ _ ?_
        refine XC.keep [(0, _), (3, _), (4, _), (6, _), (7, _), (8, _), (9, _), (10, _)] ⟨rfl, rfl, rfl, rfl, rfl, rfl, rfl, rfl, trivial⟩ ?_
        refine XC.draw [blk b 93 [.slice A n rc, .slice A3 G3.length c3, .int .i64 c.epoch, .int .i64 st, .int .i64 qu, .int .i64 rm], blk b10 39 [.int .i64 x.1.n, .int .i64 x.1.epoch, .int .i64 x.1.kind, .int .i64 x.1.site, .int .i64 x.1.client, .int .i64 x.1.seq, str x.1.name, .int .i64 x.1.size, .slice none 0 0]] true [(0, false), (1, false), (2, false), (3, false), (4, false), (5, false), (6, true), (7, true), (8, false), (9, false), (10, true)] (by kernel_rfl) (by kernel_rfl) ?_
        refine y_v rfl (r_mv rfl) gT rfl ?_
        refine y_v rfl (r_mv rfl) gT rfl ?_
        refine y_v rfl (r_nc rfl) gT rfl ?_
        refine y_v rfl (r_fa fo93_1 rfl) gT rfl ?_
        refine y_v rfl (r_ld ty33 rfl pK (by rfl)) gT rfl ?_
        refine y_v rfl (r_lda (l' := [_, _, _, _, _, _, _, _, _]) ty39 rfl pK rfl (Sub.get sU)) gT rfl ?_
        refine y_a rfl (r_bs (vs := [_]) rfl ⟨rfl, rfl⟩ (bs33_1_0 _ _ _ _ _ _ _ _ _ _ _)) (fun _ _ _ h => Gets.own gS h) rfl fun b156 => ?_
        refine y_a rfl (r_app Try.underlying33 ty39 rfl (by decide) rfl rfl pK (Rdb.of_blk (b := b156) (n := 1) (sz := 9) (xs := odc o2) pK 0 rfl (fun _ _ h => by rw [ho2] at h; rw [Nat.zero_add]; exact h)) (odc_one o2) (by unfold maxLen; omega) (by omega)) (fun _ _ _ h => Gets.own gS h) rfl fun ⟨A157, c157⟩ => ?_
        dsimp only
        rw [show G3.length + 1 = (G3 ++ [o2]).length by simp, ← cells_one odc o2, ← cells_app]
        refine y_v rfl (r_nc rfl) gT rfl ?_
        refine y_v rfl (r_fa fo93_1 rfl) gT rfl ?_
        refine y_e rfl (r_st ty33 rfl rfl rfl rfl rfl uD oV) (fun h => absurd h (by decide)) ?_
        refine XH.nil ?_
        refine hK28 _ _ ?_
        refine XC.keep [(0, _), (3, _), (4, _), (6, _), (7, _), (8, _), (9, _)] ⟨rfl, rfl, rfl, rfl, rfl, rfl, rfl, trivial⟩ ?_
        refine XC.region ?_
        refine x_v (r_mv rfl) rfl ?_
        refine x_v (r_add rfl rfl (by omega)) rfl ?_
        refine x_v (r_as rfl) rfl ?_
        refine XL.nil ?_
        refine ⟨(m + 1, A157, c157, G3 ++ [o2]), ?_, ?_, ⟨rfl, rfl, rfl, rfl, rfl, rfl, rfl, trivial⟩, gS⟩
        ·exact ⟨by dsimp only; omega, by dsimp only; omega, by dsimp only; rw [List.length_append, hg3]; simp; omega⟩
        ·dsimp only; omega
       ·refine XC.exit rfl ?_
        refine hK24 _ _ ?_
        refine XC.keep [(0, _), (3, _), (4, _), (6, _), (7, _), (8, _)] ⟨rfl, rfl, rfl, rfl, rfl, rfl, trivial⟩ ?_
        refine XC.seq fun K31 hK31 => ?_
        refine XC.draw [blk b 93 [.slice A n rc, .slice A3 G3.length c3, .int .i64 c.epoch, .int .i64 st, .int .i64 qu, .int .i64 rm], blk b8 39 [.int .i64 o.1.n, .int .i64 o.1.epoch, .int .i64 o.1.kind, .int .i64 o.1.site, .int .i64 o.1.client, .int .i64 o.1.seq, str o.1.name, .int .i64 o.1.size, .slice o.2.1 o.1.hs.length o.2.2]] true [(0, false), (1, false), (2, false), (3, false), (4, false), (5, false), (6, false), (7, false), (8, false), (9, false), (10, false), (11, true)] (by kernel_rfl) (by kernel_rfl) ?_
        refine y_v rfl (r_mv rfl) gT rfl ?_
        refine y_v rfl (r_mv rfl) gT rfl ?_
        refine y_v rfl (r_nc rfl) gT rfl ?_
        refine y_v rfl (r_fa fo93_3 rfl) gT rfl ?_
        refine y_v rfl (r_ld ty3 rfl pK (by rfl)) gT rfl ?_
        refine y_v rfl (r_fa fo39_0 rfl) gT rfl ?_
        refine y_v rfl (r_ld ty3 rfl pK (by rfl)) gT rfl ?_
        refine y_v rfl (r_sub rfl rfl (by omega)) gT rfl ?_
        rw [hj]
        refine y_v rfl (r_min rfl rfl) gT rfl ?_
        refine y_v rfl (r_nc rfl) gT rfl ?_
        refine y_v rfl (r_fa fo93_3 rfl) gT rfl ?_
        refine y_e rfl (r_st ty3 rfl rfl rfl rfl rfl uD oV) (fun h => absurd h (by decide)) ?_
        refine XH.nil ?_
        refine hK31 _ _ ?_
        refine XC.keep [(0, _), (3, _), (4, _), (6, _), (7, _), (8, _)] ⟨rfl, rfl, rfl, rfl, rfl, rfl, trivial⟩ ?_
        refine XC.seq fun K32 hK32 => ?_
        obtain ⟨XA, hXA⟩ : ∃ X, X = (if c.pc = i then c.pA else c.pA.map (·.add (i * 9))) := ⟨_, rfl⟩
        have hrd2 := rd_drop hr hcap hi
        rw [← hXA] at hrd2
        have hdl : (c.ops.drop i).length = c.ops.length - i := List.length_drop ..
        have hic : i < c.ops.length := by omega
        refine XC.draw [blk b 93 [.slice A n rc, .slice A3 G3.length c3, .int .i64 c.epoch, .int .i64 (min st (j : Int)), .int .i64 qu, .int .i64 rm], blk b8 39 [.int .i64 o.1.n, .int .i64 o.1.epoch, .int .i64 o.1.kind, .int .i64 o.1.site, .int .i64 o.1.client, .int .i64 o.1.seq, str o.1.name, .int .i64 o.1.size, .slice o.2.1 o.1.hs.length o.2.2], blk b3 41 [.int .i64 c.kind, .int .i64 c.epoch, .int .i64 c.site, .int .i64 c.op.1.n, .int .i64 c.op.1.epoch, .int .i64 c.op.1.kind, .int .i64 c.op.1.site, .int .i64 c.op.1.client, .int .i64 c.op.1.seq, str c.op.1.name, .int .i64 c.op.1.size, .slice c.op.2.1 c.op.1.hs.length c.op.2.2, .int .i64 c.after, .int .i64 c.since, .slice c.pA c.ops.length c.pc, .int .i64 c.tag]] true [(0, false), (1, false), (2, false), (3, false), (4, false), (5, false), (6, false), (7, false), (8, false), (9, false), (10, false), (11, false), (12, false), (13, false), (14, false), (15, false), (16, true), (17, true), (18, false), (19, false), (20, true)] (by kernel_rfl) (by kernel_rfl) ?_
        refine y_v rfl (r_mv rfl) gT rfl ?_
        refine y_v rfl (r_mv rfl) gT rfl ?_
        refine y_v rfl (r_nc rfl) gT rfl ?_
        refine y_v rfl (r_fa fo93_0 rfl) gT rfl ?_
        refine y_v rfl (r_ld ty33 rfl pK (by rfl)) gT rfl ?_
        refine y_v rfl (r_fa fo39_0 rfl) gT rfl ?_
        refine y_v rfl (r_ld ty3 rfl pK (by rfl)) gT rfl ?_
        refine y_v rfl (r_sub rfl rfl (by omega)) gT rfl ?_
        rw [hj]
        refine y_v rfl (r_fa fo39_0 rfl) gT rfl ?_
        refine y_v rfl (r_ld ty3 rfl pK (by rfl)) gT rfl ?_
        refine y_v rfl (r_sub rfl rfl (by omega)) gT rfl ?_
        rw [hj]
        refine y_v rfl (r_slf j Try.underlying33 ty39 rfl ⟨_, _, rfl, rfl⟩ ⟨_, _, rfl, rfl⟩ (by omega)) gT rfl ?_
        refine y_v rfl (r_fa fo41_6 rfl) gT rfl ?_
        refine y_v rfl (r_ld ty33 rfl pK (by rfl)) gT rfl ?_
        refine y_v rfl (r_mv rfl) gT rfl ?_
        refine y_v rfl (r_sll (i) (c.ops.length) Try.underlying33 ty39 rfl ⟨_, by rfl⟩ rfl (by omega) (by omega)) gT rfl ?_
        rw [← hXA, show Value.slice XA (c.ops.length - i) (c.pc - i) = .slice XA (c.ops.drop i).length (c.pc - i) by rw [hdl]]
        refine y_c rfl (r_call0 (args := [_]) ⟨rfl, rfl⟩ (ownops_tr (k := k) (Fr := blk b3 41 [.int .i64 c.kind, .int .i64 c.epoch, .int .i64 c.site, .int .i64 c.op.1.n, .int .i64 c.op.1.epoch, .int .i64 c.op.1.kind, .int .i64 c.op.1.site, .int .i64 c.op.1.client, .int .i64 c.op.1.seq, str c.op.1.name, .int .i64 c.op.1.size, .slice c.op.2.1 c.op.1.hs.length c.op.2.2, .int .i64 c.after, .int .i64 c.since, .slice c.pA c.ops.length c.pc, .int .i64 c.tag] :: blk b4 62 [.int .i64 0, .int .i64 0, .int .i64 0] :: blk b6 31 [.int .i64 c.after, .int .i64 c.since] :: blk b8 39 [.int .i64 o.1.n, .int .i64 o.1.epoch, .int .i64 o.1.kind, .int .i64 o.1.site, .int .i64 o.1.client, .int .i64 o.1.seq, str o.1.name, .int .i64 o.1.size, .slice o.2.1 o.1.hs.length o.2.2] :: blk b 93 [.slice A n rc, .slice A3 G3.length c3, .int .i64 c.epoch, .int .i64 (min st (j : Int)), .int .i64 qu, .int .i64 rm] :: sl A n rc 39 9 (cells odc L) :: sl A3 G3.length c3 39 9 (cells odc G3) :: Fr) XA (c.pc - i) (c.ops.drop i) (fun k2 hx2 => (hrd2.ex hx2).mono (fun w hw => Gets.own gS hw)) (fun q hq => hro q (List.mem_of_mem_drop hq)) (by omega)) gS) (by rintro _ _ _ _ ⟨A187, c187, k187, M, rfl, rfl, hx187, hf187, hk187⟩ h; exact Gets.own gS h) rfl ?_
        rintro _ _ ⟨A187, c187, k187, M, rfl, rfl, hx187, hf187, hk187⟩
        refine XH.slnn (A := A187) pK fun hsl187 hsA187 => ?_
        have hml : M.length = c.ops.length - i := by rw [← hdl]; exact fst_len hf187
        refine y_a rfl (r_appf (xs := cells odc (L.take j)) (news := cells odc M) Try.underlying33 ty39 rfl (by decide) rfl rfl ((rd_takei odc_len (by rw [hLn]; exact hrd) (by omega)).mono (fun w h => Gets.own gS h)) (Rdb.of_sl pK hsl187 hsA187) (by omega) (by unfold maxLen; omega) (by omega)) (fun _ _ _ h => Gets.own gS h) rfl fun ⟨A188, c188⟩ => ?_
        dsimp only
        rw [← cells_app]
        refine y_v rfl (r_nc rfl) gT rfl ?_
        refine y_v rfl (r_fa fo93_0 rfl) gT rfl ?_
        refine y_e rfl (r_st ty33 rfl rfl rfl rfl rfl uD oV) (fun h => absurd h (by decide)) ?_
        refine XH.nil ?_
        refine hK32 _ _ ?_
        refine XC.keep [(0, _), (3, _), (4, _), (6, _)] ⟨rfl, rfl, rfl, rfl, trivial⟩ ?_
        refine XC.exit rfl ?_
        exact ⟨(⟨A188, j + M.length, c188, A3, G3.length, c3, c.epoch, min st (j : Int), qu, rm⟩, L.take j ++ M, G3, k187), ⟨hx187, rship_ri hl hx187 (ship4 hn0 hb1 hrs2 hs4) hj (hf187.trans hfo) hk187 q1 q2 q4 rfl rfl rfl rfl rfl, by dsimp only; omega⟩, ⟨rfl, rfl, rfl, rfl, trivial⟩, gS⟩
    ·refine XC.exit rfl ?_
     exact ⟨(⟨A, n, rc, gA, G.length, gc, c.epoch, st, qu, rm⟩, L, G, k), ⟨Ex.refl W0 k, by (rw [ship2 hn0 hb1 (by rw [hrs, List.drop_eq_nil_of_le (by omega)]; rfl)]; exact hl.fence c.epoch), by dsimp only; omega⟩, ⟨rfl, rfl, rfl, rfl, trivial⟩, gS⟩
   ·rintro ⟨r3, L3, G3, k3⟩ ⟨hx3, hl3, hln3⟩
    dsimp only at hx3 hl3 hln3 ⊢
    unfold rdc
    refine XC.seqcut (σ := Int × Int) (fun s => [(0, .pointer (some ⟨b, 0, none⟩)), (4, .pointer (some ⟨b4, 0, none⟩)), (6, .pointer (some ⟨b6, 0, none⟩))]) (fun s => blk b4 62 [.int .i64 0, .int .i64 0, .int .i64 0] :: blk b6 31 [.int .i64 s.1, .int .i64 s.2] :: blk b 93 [.slice r3.A r3.n r3.c, .slice r3.gA r3.gn r3.gc, .int .i64 r3.fence, .int .i64 r3.set, .int .i64 r3.quota, .int .i64 r3.room] :: sl r3.A r3.n r3.c 39 9 (cells odc L3) :: sl r3.gA r3.gn r3.gc 39 9 (cells odc G3) :: k3 :: Fr) (fun s => True) ?_ ?_
    ·refine XC.seq fun K34 hK34 => ?_
     refine XC.region ?_
     refine x_v (r_fa fo41_6 rfl) rfl ?_
     refine x_v (r_ld ty33 rfl pK (by rfl)) rfl ?_
     refine x_v (r_lensl Try.underlying33 rfl) rfl ?_
     refine x_v (r_gt rfl rfl) rfl ?_
     refine XL.nil ?_
     refine hK34 _ _ ?_
     refine XC.keep [(0, _), (3, _), (4, _), (6, _), (194, _)] ⟨rfl, rfl, rfl, rfl, rfl, trivial⟩ ?_
     refine XC.cond_d rfl (fun hc13 => ?_) (fun hc13 => ?_)
     ·refine XC.seq fun K35 hK35 => ?_
      obtain ⟨z, hz⟩ : ∃ z, c.ops[c.ops.length - 1]? = some z := ⟨_, List.getElem?_eq_getElem (by omega)⟩
      obtain ⟨ob, oo, hpC, hat⟩ := (hr.ex hx3).at_ (by omega)
      refine XC.region ?_
      refine x_v (r_fa fo41_6 rfl) rfl ?_
      refine x_v (r_ld ty33 rfl pK (by rfl)) rfl ?_
      refine x_v (r_fa fo41_6 rfl) rfl ?_
      refine x_v (r_ld ty33 rfl pK (by rfl)) rfl ?_
      refine x_v (r_lensl Try.underlying33 rfl) rfl ?_
      refine x_v (r_sub rfl rfl (by omega)) rfl ?_
      refine x_v (r_ia (k := c.ops.length - 1) Try.underlying33 ty39 (by rw [hpC]; rfl) rfl (by omega) (by omega)) rfl ?_
      refine x_v (r_ldar (l' := odc z) ty39 rfl rfl (fun w hw j2 u hu => by rw [Nat.add_assoc]; exact hat w (Gets.own gS hw) _ u (cells_get odc_len c.ops _ _ hz j2 u hu))) rfl ?_
      rw [odc_def z]
      refine x_a (r_al ty39 rfl) rfl fun b11 => ?_
      refine x_e (r_st ty39 rfl rfl rfl rfl rfl uD oV) ?_
      refine XL.nil ?_
      refine hK35 _ _ ?_
      refine XC.keep [(0, _), (4, _), (6, _), (11, _)] ⟨rfl, rfl, rfl, rfl, trivial⟩ ?_
      refine XC.region ?_
      refine x_v (r_fa fo39_0 rfl) rfl ?_
      refine x_v (r_ld ty3 rfl pK (by rfl)) rfl ?_
      refine x_v (r_fa fo39_1 rfl) rfl ?_
      refine x_v (r_ld ty3 rfl pK (by rfl)) rfl ?_
      refine x_v (r_bd (vs := [_, _]) rfl ⟨rfl, rfl, rfl⟩ (bd31_0_1 _ _)) rfl ?_
      refine x_e (r_st ty31 rfl rfl rfl rfl rfl uD oV) ?_
      refine XL.nil ?_
      exact ⟨(z.1.n, z.1.epoch), trivial, ⟨rfl, rfl, rfl, trivial⟩, gS⟩
     ·refine XC.skip ?_
      exact ⟨(c.after, c.since), trivial, ⟨rfl, rfl, rfl, trivial⟩, gS⟩
    ·rintro ⟨xN, xE⟩ _
     dsimp only
     refine XC.seq fun K36 hK36 => ?_
     refine XC.draw [blk b 93 [.slice r3.A r3.n r3.c, .slice r3.gA r3.gn r3.gc, .int .i64 r3.fence, .int .i64 r3.set, .int .i64 r3.quota, .int .i64 r3.room], blk b6 31 [.int .i64 xN, .int .i64 xE]] true [(0, false), (1, false), (2, false), (3, false), (4, false), (5, false), (6, false), (7, false), (8, false), (9, false), (10, true)] (by kernel_rfl) (by kernel_rfl) ?_
     refine y_v rfl (r_mv rfl) gT rfl ?_
     refine y_v rfl (r_mv rfl) gT rfl ?_
     refine y_v rfl (r_nc rfl) gT rfl ?_
     refine y_v rfl (r_fa fo93_3 rfl) gT rfl ?_
     refine y_v rfl (r_ld ty3 rfl pK (by rfl)) gT rfl ?_
     refine y_v rfl (r_fa fo31_0 rfl) gT rfl ?_
     refine y_v rfl (r_ld ty3 rfl pK (by rfl)) gT rfl ?_
     refine y_v rfl (r_max rfl rfl) gT rfl ?_
     refine y_v rfl (r_nc rfl) gT rfl ?_
     refine y_v rfl (r_fa fo93_3 rfl) gT rfl ?_
     refine y_e rfl (r_st ty3 rfl rfl rfl rfl rfl uD oV) (fun h => absurd h (by decide)) ?_
     refine XH.nil ?_
     refine hK36 _ _ ?_
     refine XC.keep [(4, _), (6, _)] ⟨rfl, rfl, trivial⟩ ?_
     refine XC.seq fun K37 hK37 => ?_
     refine XC.region ?_
     refine x_v (r_lda (l' := [_, _]) ty31 rfl pK rfl (Sub.get sU)) rfl ?_
     refine x_v (r_bd (vs := [_]) rfl ⟨rfl, rfl⟩ (bd62_1 _ _)) rfl ?_
     refine x_e (r_st ty62 rfl rfl rfl rfl rfl uD oV) ?_
     refine XL.nil ?_
     refine hK37 _ _ ?_
     refine XC.keep [(4, _)] ⟨rfl, trivial⟩ ?_
     refine XC.ret ?_
     exact finc1 ty62 rfl pK (by rfl) (⟨{ r3 with set := max r3.set xN }, L3, G3, k3, ⟨_, _, _, rfl⟩, rfl, hx3, hl3.settled _, by dsimp only; omega⟩) gS
end Go.Proofs.Ytheilpcbilnadaa

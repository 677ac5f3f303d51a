/- Crowns: ledgers: operations that were shipped. -/
import Derived.Test.YtheilpcbilnadaaCrown25
namespace Go.Proofs.Ytheilpcbilnadaa
open Go.Sx
set_option linter.unusedVariables false

theorem fst_drop (L : List Od) (i : Nat) : fst1 (L.drop i) = (fst1 L).drop i := by unfold fst1; rw [List.map_drop]
section
variable {l : Ls} {c : Cm}
theorem ship0 (h : c.epoch < l.fence ∨ (c.epoch = (foldOf l.ops).hold.1 ∧ ¬ c.site = (foldOf l.ops).hold.2)) : shipL l c = l := by unfold shipL; rw [if_pos h]
theorem ship1 (h : ¬ (c.epoch < l.fence ∨ (c.epoch = (foldOf l.ops).hold.1 ∧ ¬ c.site = (foldOf l.ops).hold.2))) (h2 : HasB l.ops c.after c.since = false) : shipL l c = { l with fence := c.epoch } := by unfold shipL; rw [if_neg h, if_pos h2]
theorem ship2 (h : ¬ (c.epoch < l.fence ∨ (c.epoch = (foldOf l.ops).hold.1 ∧ ¬ c.site = (foldOf l.ops).hold.2))) (h2 : HasB l.ops c.after c.since = true) (h3 : restL l.ops (fst1 c.ops) = []) : shipL l c = { l with fence := c.epoch } := by
 unfold shipL; rw [if_neg h, if_neg (by rw [h2]; decide), h3]
theorem ship3 (h : ¬ (c.epoch < l.fence ∨ (c.epoch = (foldOf l.ops).hold.1 ∧ ¬ c.site = (foldOf l.ops).hold.2))) (h2 : HasB l.ops c.after c.since = true) {o : Pop} {r : List Pop} (h3 : restL l.ops (fst1 c.ops) = o :: r) (h4 : ¬ o.kind = 3 ∧ siteAt l.ops (o.n - 2) o.site = false) : shipL l c = { l with fence := c.epoch } := by
 unfold shipL; rw [if_neg h, if_neg (by rw [h2]; decide), h3]; dsimp only; rw [if_pos h4]
theorem ship4 (h : ¬ (c.epoch < l.fence ∨ (c.epoch = (foldOf l.ops).hold.1 ∧ ¬ c.site = (foldOf l.ops).hold.2))) (h2 : HasB l.ops c.after c.since = true) {o : Pop} {r : List Pop} (h3 : restL l.ops (fst1 c.ops) = o :: r) (h4 : ¬ (¬ o.kind = 3 ∧ siteAt l.ops (o.n - 2) o.site = false)) : shipL l c = { l with fence := c.epoch, ops := l.ops.take (o.n - 1).toNat ++ (o :: r) } := by
 unfold shipL; rw [if_neg h, if_neg (by rw [h2]; decide), h3]; dsimp only; rw [if_neg h4]
end
theorem ship_li {W0 : World} {k k2 : HP} {l : Ls} {h h2 : Lh} {gL gO gL2 gO2 gL3 gO3 : Value → Option Value} {L G L2 G2 L120 : List Od} {c : Cm} {j c127 : Nat} {A127 : Option Addr} {s3 : Fs} {o : Pop} {r : List Pop}
  (hl : LI W0 k l h gL gO L G) (hl2 : LI W0 k { { l with fence := c.epoch } with ops := l.ops.take j } h2 gL2 gO2 L2 G2) (hx : Ex W0 k k2) (he : shipL l c = { l with fence := c.epoch, ops := l.ops.take (o.n - 1).toNat ++ (o :: r) }) (hj : o.n - 1 = (j : Int)) (hf : fst1 L120 = o :: r)
  (hs : s3 = (fst1 L120).foldl foldR (foldOf (l.ops.take j))) (hm : FM s3 gL3 gO3) (hk : ∀ q ∈ L120, RdO W0 k2 q) (q1 : 1 ≤ o.n) (q2 : o.n ≤ l.ops.length + 1) (q4 : ∀ (j : Nat) p, (o :: r)[j]? = some p → p.n = o.n + j ∧ opOk p = true) :
  LI W0 k2 (shipL l c) { h2 with A := A127, n := h2.n + L120.length, c := c127, used := s3.used, hE := s3.hold.1, hS := s3.hold.2 } gL3 gO3 (L2 ++ L120) G2 := by
 have hj2 : (o.n - 1).toNat = j := by omega
 have hp := hl.p.ship (f := c.epoch) q1 q2 q4
 rw [hj2] at hp
 have hfold : s3 = foldOf (l.ops.take j ++ (o :: r)) := by rw [hs, hf]; unfold foldOf; rw [List.foldl_append]
 rw [he, hj2]
 exact ⟨hp, by rw [List.length_append, hl2.n], by (unfold fst1 at *; rw [List.map_append, hf]; have := hl2.o; unfold fst1 at this; rw [this]), by rw [← hfold]; exact hm, by rw [← hfold], by rw [← hfold], hl2.f, hl2.q, hl2.r, fun q hq => by (rcases List.mem_append.1 hq with hh | hh; exact (hl2.rd q hh).ex hx; exact hk q hh), hl2.g⟩
set_option maxHeartbeats 2000000 in
theorem ship_tr {W0 : World} {Fr : List HP} {k : HP} {l : Ls} {h : Lh} {gL gO : Value → Option Value} {L G : List Od} (b : Nat) (c : Cm) (hl : LI W0 k l h gL gO L G) (hr : Rdb W0 [k] c.pA c.ops.length 9 (cells odc c.ops)) (hro : ∀ o ∈ c.ops, RdO W0 k o) (hcap : c.ops.length ≤ c.pc) (hsh : ShipP c) (hrow : rowOk c.after c.since (fst1 c.ops) = true) (hln : h.ln ≤ 400000) :
  Tr W0 Try.prog 42 [.pointer (some ⟨b, 0, none⟩), .agg (cmc c).toArray] (blk b 91 (ldc h) :: mpf h.mL .string gL :: mpf h.mO (.int .i64) gO :: sl h.A h.n h.c 39 9 (cells odc L) :: sl h.lA h.ln h.lc 39 9 (cells odc G) :: k :: Fr) (LPost W0 k Fr b h.ln (shipL l c)) := by
 have hlen := hl.len
 have hpl := hl.p.len
 have hLn := hl.n
 have hf := hl.f
 have hhd := hl.hd
 have hle8 := hsh.2.2.2.1
 have hgo : rowGo c.after c.since (-1) (fst1 c.ops) = true := by unfold rowOk at hrow; rw [Bool.and_eq_true] at hrow; exact hrow.2
 have hpl2 : placeOk c.after c.since := by unfold rowOk at hrow; rw [Bool.and_eq_true, decide_eq_true_eq] at hrow; exact hrow.1
 have hpl3 : 0 ≤ c.after ∧ c.after ≤ 80 ∧ (c.after = 0 → c.since = 0) := by unfold placeOk at hpl2; omega
 have hat0 := row_at _ _ _ _ hgo
 have hopn : ∀ (i : Nat) o, c.ops[i]? = some o → 1 ≤ o.1.n ∧ o.1.n ≤ 80 := fun i o ho => by have := opOk_b (hat0 i o.1 (fst_at ho)).2; omega
 have hh1 : h.hE = (foldOf l.ops).hold.1 := by rw [← hhd]
 have hh2 : h.hS = (foldOf l.ops).hold.2 := by rw [← hhd]
 refine Entry.tr (N := 147) (rs := [.cell 4 62]) ⟨_, Try.func42, rfl, by kernel_rfl, rfl, rfl⟩ rfl ?_
 refine XC.seq fun K1 hK1 => ?_
 refine XC.region ?_
 refine x_a (r_bx rfl rfl) rfl fun b3 => ?_
 unfold cmc ldc
 refine x_a (r_al ty62 rfl) rfl fun b4 => ?_
 refine XL.nil ?_
 refine hK1 _ _ ?_
 refine XC.keep [(0, _), (3, _), (4, _)] ⟨rfl, rfl, rfl, trivial⟩ ?_
 refine XC.seqcut (σ := Unit) (fun u => [(0, .pointer (some ⟨b, 0, none⟩)), (3, .pointer (some ⟨b3, 0, none⟩)), (4, .pointer (some ⟨b4, 0, none⟩))]) (fun u => blk b3 41 [.int .i64 c.kind, .int .i64 c.epoch, .int .i64 c.site, .int .i64 c.op.1.n, .int .i64 c.op.1.epoch, .int .i64 c.op.1.kind, .int .i64 c.op.1.site, .int .i64 c.op.1.client, .int .i64 c.op.1.seq, str c.op.1.name, .int .i64 c.op.1.size, .slice c.op.2.1 c.op.1.hs.length c.op.2.2, .int .i64 c.after, .int .i64 c.since, .slice c.pA c.ops.length c.pc, .int .i64 c.tag] :: blk b4 62 [.int .i64 0, .int .i64 0, .int .i64 0] :: blk b 91 [.map (some h.mL), .int .i64 h.used, .map (some h.mO), .int .i64 h.hE, .int .i64 h.hS, .slice h.A h.n h.c, .slice h.lA h.ln h.lc, .int .i64 h.fence, .int .i64 h.settled, .int .i64 h.quota, .int .i64 h.room] :: mpf h.mL .string gL :: mpf h.mO (.int .i64) gO :: sl h.A h.n h.c 39 9 (cells odc L) :: sl h.lA h.ln h.lc 39 9 (cells odc G) :: k :: Fr) (fun u => ¬ (c.epoch < l.fence ∨ (c.epoch = (foldOf l.ops).hold.1 ∧ ¬ c.site = (foldOf l.ops).hold.2))) ?_ ?_
 ·refine XC.seq fun K3 hK3 => ?_
  refine XC.draw [blk b3 41 [.int .i64 c.kind, .int .i64 c.epoch, .int .i64 c.site, .int .i64 c.op.1.n, .int .i64 c.op.1.epoch, .int .i64 c.op.1.kind, .int .i64 c.op.1.site, .int .i64 c.op.1.client, .int .i64 c.op.1.seq, str c.op.1.name, .int .i64 c.op.1.size, .slice c.op.2.1 c.op.1.hs.length c.op.2.2, .int .i64 c.after, .int .i64 c.since, .slice c.pA c.ops.length c.pc, .int .i64 c.tag], blk b 91 [.map (some h.mL), .int .i64 h.used, .map (some h.mO), .int .i64 h.hE, .int .i64 h.hS, .slice h.A h.n h.c, .slice h.lA h.ln h.lc, .int .i64 h.fence, .int .i64 h.settled, .int .i64 h.quota, .int .i64 h.room]] false [(0, false), (1, false), (2, false), (3, false), (4, false), (5, false), (6, false), (7, false), (8, false), (9, false), (10, false), (11, false), (12, false), (13, false), (14, false), (15, false), (16, false), (17, false), (18, false), (19, false), (20, false), (21, false), (22, false), (23, false), (24, false), (25, false), (26, false), (27, false), (28, false)] (by kernel_rfl) (by kernel_rfl) ?_
  refine y_v rfl (r_fa fo41_1 rfl) gT rfl ?_
  refine y_v rfl (r_ld ty3 rfl pK (by rfl)) gT rfl ?_
  refine y_v rfl (r_mv rfl) gT rfl ?_
  refine y_v rfl (r_nc rfl) gT rfl ?_
  refine y_v rfl (r_fa fo91_3 rfl) gT rfl ?_
  refine y_v rfl (r_ld ty3 rfl pK (by rfl)) gT rfl ?_
  refine y_v rfl (r_lt rfl rfl) gT rfl ?_
  refine y_v rfl (r_mv rfl) gT rfl ?_
  refine XH.splitd 18 rfl (fun hg18 => ?_) (fun hg18 => ?_)
  ·refine y_un rfl rfl rfl (fun _ h => Gets.own gS h) rfl ?_
   refine y_un rfl rfl rfl (fun _ h => Gets.own gS h) rfl ?_
   refine y_un rfl rfl rfl (fun _ h => Gets.own gS h) rfl ?_
   refine y_un rfl rfl rfl (fun _ h => Gets.own gS h) rfl ?_
   refine y_un rfl rfl rfl (fun _ h => Gets.own gS h) rfl ?_
   refine y_un rfl rfl rfl (fun _ h => Gets.own gS h) rfl ?_
   refine y_un rfl rfl rfl (fun _ h => Gets.own gS h) rfl ?_
   refine y_un rfl rfl rfl (fun _ h => Gets.own gS h) rfl ?_
   refine y_un rfl rfl rfl (fun _ h => Gets.own gS h) rfl ?_
   refine y_un rfl rfl rfl (fun _ h => Gets.own gS h) rfl ?_
   refine y_unu rfl rfl rfl (fun _ h => Gets.own gS h) rfl ?_
   refine y_unu rfl rfl rfl (fun _ h => Gets.own gS h) rfl ?_
   refine y_unu rfl rfl rfl (fun _ h => Gets.own gS h) rfl ?_
   refine y_unu rfl rfl rfl (fun _ h => Gets.own gS h) rfl ?_
   refine y_unu rfl rfl rfl (fun _ h => Gets.own gS h) rfl ?_
   refine y_unu rfl rfl rfl (fun _ h => Gets.own gS h) rfl ?_
   refine y_unu rfl rfl rfl (fun _ h => Gets.own gS h) rfl ?_
   refine y_unu rfl rfl rfl (fun _ h => Gets.own gS h) rfl ?_
   refine y_unu rfl rfl rfl (fun _ h => Gets.own gS h) rfl ?_
   refine y_un rfl rfl rfl (fun _ h => Gets.own gS h) rfl ?_
   refine y_v rfl (r_pk_t rfl rfl) gT rfl ?_
   refine XH.nil ?_
   refine hK3 _ _ ?_
   refine XC.keep [(0, _), (3, _), (4, _), (39, _)] ⟨rfl, rfl, rfl, rfl, trivial⟩ ?_
   refine XC.cond_t rfl ?_
   refine XC.seq fun K4 hK4 => ?_
   refine XC.region ?_
   refine x_c (r_call0 (args := [_]) ⟨rfl, rfl⟩ (failed_tr 120) gS) rfl ?_
   rintro _ _ ⟨rfl, rfl⟩
   refine x_e (r_st ty62 rfl rfl rfl rfl rfl uD oV) ?_
   refine XL.nil ?_
   refine hK4 _ _ ?_
   refine XC.keep [(4, _)] ⟨rfl, trivial⟩ ?_
   refine XC.ret ?_
   rw [ship0 (by omega)]
   exact finc1 ty62 rfl pK (by rfl) (⟨h, gL, gO, L, G, k, ⟨_, _, _, rfl⟩, rfl, Ex.refl W0 k, hl, by omega⟩) gS
  ·refine y_vg rfl rfl rfl (r_fa fo41_1 rfl) gT rfl ?_
   refine y_vg rfl rfl rfl (r_ld ty3 rfl pK (by rfl)) gT rfl ?_
   refine y_vg rfl rfl rfl (r_mv rfl) gT rfl ?_
   refine y_vg rfl rfl rfl (r_nc rfl) gT rfl ?_
   refine y_vg rfl rfl rfl (r_fa fo91_0 rfl) gT rfl ?_
   refine y_vg rfl rfl rfl (r_fa fo88_3 rfl) gT rfl ?_
   refine y_vg rfl rfl rfl (r_fa fo69_0 rfl) gT rfl ?_
   refine y_vg rfl rfl rfl (r_ld ty3 rfl pK (by rfl)) gT rfl ?_
   refine y_vg rfl rfl rfl (r_eq rfl rfl) gT rfl ?_
   refine y_vg rfl rfl rfl (r_mv rfl) gT rfl ?_
   refine XH.splitd 28 rfl (fun hg28 => ?_) (fun hg28 => ?_)
   ·refine y_vg rfl rfl rfl (r_fa fo41_2 rfl) gT rfl ?_
    refine y_vg rfl rfl rfl (r_ld ty3 rfl pK (by rfl)) gT rfl ?_
    refine y_vg rfl rfl rfl (r_mv rfl) gT rfl ?_
    refine y_vg rfl rfl rfl (r_nc rfl) gT rfl ?_
    refine y_vg rfl rfl rfl (r_fa fo91_0 rfl) gT rfl ?_
    refine y_vg rfl rfl rfl (r_fa fo88_3 rfl) gT rfl ?_
    refine y_vg rfl rfl rfl (r_fa fo69_1 rfl) gT rfl ?_
    refine y_vg rfl rfl rfl (r_ld ty3 rfl pK (by rfl)) gT rfl ?_
    refine y_vg rfl rfl rfl (r_ne rfl rfl) gT rfl ?_
    refine y_vg rfl rfl rfl (r_pk_t rfl rfl) gT rfl ?_
    refine y_v rfl (r_pk_f rfl rfl) gT rfl ?_
    refine XH.nil ?_
    refine hK3 _ _ ?_
    refine XC.keep [(0, _), (3, _), (4, _), (39, _)] ⟨rfl, rfl, rfl, rfl, trivial⟩ ?_
    refine XC.cond_d rfl (fun hc2 => ?_) (fun hc2 => ?_)
    ·refine XC.seq fun K5 hK5 => ?_
     refine XC.region ?_
     refine x_c (r_call0 (args := [_]) ⟨rfl, rfl⟩ (failed_tr 120) gS) rfl ?_
     rintro _ _ ⟨rfl, rfl⟩
     refine x_e (r_st ty62 rfl rfl rfl rfl rfl uD oV) ?_
     refine XL.nil ?_
     refine hK5 _ _ ?_
     refine XC.keep [(4, _)] ⟨rfl, trivial⟩ ?_
     refine XC.ret ?_
     rw [ship0 (by omega)]
     exact finc1 ty62 rfl pK (by rfl) (⟨h, gL, gO, L, G, k, ⟨_, _, _, rfl⟩, rfl, Ex.refl W0 k, hl, by omega⟩) gS
    ·refine XC.skip ?_
     exact ⟨(), (by omega), ⟨rfl, rfl, rfl, trivial⟩, gS⟩
   ·refine y_un rfl rfl rfl (fun _ h => Gets.own gS h) rfl ?_
    refine y_un rfl rfl rfl (fun _ h => Gets.own gS h) rfl ?_
    refine y_un rfl rfl rfl (fun _ h => Gets.own gS h) rfl ?_
    refine y_un rfl rfl rfl (fun _ h => Gets.own gS h) rfl ?_
    refine y_un rfl rfl rfl (fun _ h => Gets.own gS h) rfl ?_
    refine y_un rfl rfl rfl (fun _ h => Gets.own gS h) rfl ?_
    refine y_un rfl rfl rfl (fun _ h => Gets.own gS h) rfl ?_
    refine y_un rfl rfl rfl (fun _ h => Gets.own gS h) rfl ?_
    refine y_un rfl rfl rfl (fun _ h => Gets.own gS h) rfl ?_
    refine y_vg rfl rfl rfl (r_pk_f rfl rfl) gT rfl ?_
    refine y_v rfl (r_pk_f rfl rfl) gT rfl ?_
    refine XH.nil ?_
    refine hK3 _ _ ?_
    refine XC.keep [(0, _), (3, _), (4, _), (39, _)] ⟨rfl, rfl, rfl, rfl, trivial⟩ ?_
    refine XC.cond_f rfl ?_
    refine XC.skip ?_
    exact ⟨(), (by omega), ⟨rfl, rfl, rfl, trivial⟩, gS⟩
 ·rintro _ hn0
  refine XC.seq fun K6 hK6 => ?_
  refine XC.region ?_
  refine x_v (r_mv rfl) rfl ?_
  refine x_v (r_fa fo41_1 rfl) rfl ?_
  refine x_v (r_ld ty3 rfl pK (by rfl)) rfl ?_
  refine x_v (r_nc rfl) rfl ?_
  refine x_v (r_fa fo91_3 rfl) rfl ?_
  refine x_e (r_st ty3 rfl rfl rfl rfl rfl uD oV) ?_
  refine XL.nil ?_
  refine hK6 _ _ ?_
  refine XC.keep [(0, _), (3, _), (4, _)] ⟨rfl, rfl, rfl, trivial⟩ ?_
  refine XC.seq fun K7 hK7 => ?_
  refine XC.region ?_
  refine x_v (r_fa fo41_4 rfl) rfl ?_
  refine x_v (r_ld ty3 rfl pK (by rfl)) rfl ?_
  refine x_v (r_fa fo41_5 rfl) rfl ?_
  refine x_v (r_ld ty3 rfl pK (by rfl)) rfl ?_
  refine x_v (r_bd (vs := [_, _]) rfl ⟨rfl, rfl, rfl⟩ (bd31_0_1 _ _)) rfl ?_
  refine x_a (r_al ty31 rfl) rfl fun b5 => ?_
  refine x_e (r_st ty31 rfl rfl rfl rfl rfl uD oV) ?_
  refine XL.nil ?_
  refine hK7 _ _ ?_
  refine XC.keep [(0, _), (3, _), (4, _), (5, _)] ⟨rfl, rfl, rfl, rfl, trivial⟩ ?_
  refine XC.seq fun K8 hK8 => ?_
  refine XC.seq fun K9 hK9 => ?_
  refine XC.region ?_
  refine x_v (r_mv rfl) rfl ?_
  refine x_v (r_lda (l' := [_, _]) ty31 rfl pK rfl (Sub.get sU)) rfl ?_
  refine x_c (r_call0 (args := [_, _]) ⟨rfl, rfl, rfl⟩ (has_tr (h := { h with fence := c.epoch }) b c.after c.since hLn (by omega) (by dsimp only; omega)) gS) rfl ?_
  rintro _ _ ⟨⟨g53, rfl, hg53⟩, rfl⟩
  unfold ldc
  dsimp only
  refine x_v (r_not rfl) rfl ?_
  refine XL.nil ?_
  refine hK9 _ _ ?_
  refine XC.keep [(0, _), (3, _), (4, _), (5, _), (54, _)] ⟨rfl, rfl, rfl, rfl, rfl, trivial⟩ ?_
  refine XC.cond rfl (fun hc4 => ?_) (fun hc4 => ?_)
  ·refine XC.seq fun K10 hK10 => ?_
   refine XC.region ?_
   refine x_c (r_call0 (args := [_]) ⟨rfl, rfl⟩ (failed_tr 121) gS) rfl ?_
   rintro _ _ ⟨rfl, rfl⟩
   refine x_e (r_st ty62 rfl rfl rfl rfl rfl uD oV) ?_
   refine XL.nil ?_
   refine hK10 _ _ ?_
   refine XC.keep [(4, _)] ⟨rfl, trivial⟩ ?_
   refine XC.ret ?_
   have hb0 : HasB l.ops c.after c.since = false := by (cases hq : HasB l.ops c.after c.since with | false => rfl | true => (have := hg53.2 (by rw [hl.o]; exact has_b.2 hq); rw [this] at hc4; cases hc4))
   rw [ship1 hn0 hb0]
   exact finc1 ty62 rfl pK (by rfl) (⟨{ h with fence := c.epoch }, gL, gO, L, G, k, ⟨_, _, _, rfl⟩, rfl, Ex.refl W0 k, hl.fence c.epoch, by dsimp only; omega⟩) gS
  ·refine XC.skip ?_
   refine hK8 _ _ ?_
   refine XC.keep [(0, _), (3, _), (4, _), (5, _)] ⟨rfl, rfl, rfl, rfl, trivial⟩ ?_
   refine XC.seq fun K11 hK11 => ?_
   have hb1 : HasB l.ops c.after c.since = true := by (have hq : g53 = true := (by cases hq2 : g53 with | false => (rw [hq2] at hc4; cases hc4) | true => rfl); have := hg53.1 hq; rw [hl.o] at this; exact has_b.1 this)
   refine XC.region ?_
   refine x_v (r_as rfl) rfl ?_
   refine XL.nil ?_
   refine hK11 _ _ ?_
   refine XC.keep [(0, _), (3, _), (4, _), (5, _), (6, _)] ⟨rfl, rfl, rfl, rfl, rfl, trivial⟩ ?_
   refine XC.seqcut (σ := Nat) (fun s => [(0, .pointer (some ⟨b, 0, none⟩)), (3, .pointer (some ⟨b3, 0, none⟩)), (4, .pointer (some ⟨b4, 0, none⟩)), (5, .pointer (some ⟨b5, 0, none⟩)), (6, .int .i64 (s : Int))]) (fun s => blk b3 41 [.int .i64 c.kind, .int .i64 c.epoch, .int .i64 c.site, .int .i64 c.op.1.n, .int .i64 c.op.1.epoch, .int .i64 c.op.1.kind, .int .i64 c.op.1.site, .int .i64 c.op.1.client, .int .i64 c.op.1.seq, str c.op.1.name, .int .i64 c.op.1.size, .slice c.op.2.1 c.op.1.hs.length c.op.2.2, .int .i64 c.after, .int .i64 c.since, .slice c.pA c.ops.length c.pc, .int .i64 c.tag] :: blk b4 62 [.int .i64 0, .int .i64 0, .int .i64 0] :: blk b5 31 [.int .i64 c.after, .int .i64 c.since] :: blk b 91 [.map (some h.mL), .int .i64 h.used, .map (some h.mO), .int .i64 h.hE, .int .i64 h.hS, .slice h.A h.n h.c, .slice h.lA h.ln h.lc, .int .i64 c.epoch, .int .i64 h.settled, .int .i64 h.quota, .int .i64 h.room] :: mpf h.mL .string gL :: mpf h.mO (.int .i64) gO :: sl h.A h.n h.c 39 9 (cells odc L) :: sl h.lA h.ln h.lc 39 9 (cells odc G) :: k :: Fr) (fun s => s ≤ c.ops.length ∧ restL l.ops (fst1 c.ops) = fst1 (c.ops.drop s)) ?_ ?_
   ·refine XC.block ?_
    refine XC.loop (σ := Nat) (fun s => [(0, .pointer (some ⟨b, 0, none⟩)), (3, .pointer (some ⟨b3, 0, none⟩)), (4, .pointer (some ⟨b4, 0, none⟩)), (5, .pointer (some ⟨b5, 0, none⟩)), (6, .int .i64 (s : Int))]) (fun s => blk b3 41 [.int .i64 c.kind, .int .i64 c.epoch, .int .i64 c.site, .int .i64 c.op.1.n, .int .i64 c.op.1.epoch, .int .i64 c.op.1.kind, .int .i64 c.op.1.site, .int .i64 c.op.1.client, .int .i64 c.op.1.seq, str c.op.1.name, .int .i64 c.op.1.size, .slice c.op.2.1 c.op.1.hs.length c.op.2.2, .int .i64 c.after, .int .i64 c.since, .slice c.pA c.ops.length c.pc, .int .i64 c.tag] :: blk b4 62 [.int .i64 0, .int .i64 0, .int .i64 0] :: blk b5 31 [.int .i64 c.after, .int .i64 c.since] :: blk b 91 [.map (some h.mL), .int .i64 h.used, .map (some h.mO), .int .i64 h.hE, .int .i64 h.hS, .slice h.A h.n h.c, .slice h.lA h.ln h.lc, .int .i64 c.epoch, .int .i64 h.settled, .int .i64 h.quota, .int .i64 h.room] :: mpf h.mL .string gL :: mpf h.mO (.int .i64) gO :: sl h.A h.n h.c 39 9 (cells odc L) :: sl h.lA h.ln h.lc 39 9 (cells odc G) :: k :: Fr) (fun s => s ≤ c.ops.length ∧ restL l.ops (fst1 c.ops) = restL l.ops (fst1 (c.ops.drop s))) (fun s => c.ops.length - s) 0 ?_ ⟨rfl, rfl, rfl, rfl, rfl, trivial⟩ gS ?_
    ·exact ⟨Nat.zero_le _, rfl⟩
    rintro i ⟨hi, hrs⟩
    refine XC.seq fun K13 hK13 => ?_
    refine XC.seq fun K14 hK14 => ?_
    refine XC.region ?_
    refine x_v (r_mv rfl) rfl ?_
    refine x_v (r_fa fo41_6 rfl) rfl ?_
    refine x_v (r_ld ty33 rfl pK (by rfl)) rfl ?_
    refine x_v (r_lensl Try.underlying33 rfl) rfl ?_
    refine x_v (r_lt rfl rfl) rfl ?_
    refine x_v (r_mv rfl) rfl ?_
    refine XL.splitd 61 rfl (fun hg61 => ?_) (fun hg61 => ?_)
    ·refine x_want rfl rfl rfl ?_
     refine x_v (r_mv rfl) rfl ?_
     refine x_want rfl rfl rfl ?_
     refine x_v (r_fa fo41_6 rfl) rfl ?_
     refine x_want rfl rfl rfl ?_
     obtain ⟨o, hoi⟩ : ∃ o, c.ops[i]? = some o := ⟨_, List.getElem?_eq_getElem (by omega)⟩
     have hon := hopn i o hoi
     obtain ⟨ob, oo, hpC, hat⟩ := hr.at_ (by omega)
     refine x_v (r_ld ty33 rfl pK (by rfl)) rfl ?_
     refine x_want rfl rfl rfl ?_
     refine x_v (r_mv rfl) rfl ?_
     refine x_want rfl rfl rfl ?_
     refine x_v (r_ia (k := i) Try.underlying33 ty39 (by rw [hpC]; rfl) rfl (by omega) (by omega)) rfl ?_
     refine x_want rfl rfl rfl ?_
     refine x_v (r_ldar (l' := odc o) ty39 rfl rfl (fun w hw j2 u hu => by rw [Nat.add_assoc]; exact hat w (Gets.own gS hw) _ u (cells_get odc_len c.ops _ _ hoi j2 u hu))) rfl ?_
     refine x_want rfl rfl rfl ?_
     refine x_c (r_call0 (args := [_]) ⟨rfl, rfl⟩ (spot_tr o) gS) rfl ?_
     rintro _ _ ⟨rfl, rfl⟩
     refine x_want rfl rfl rfl ?_
     refine x_c (r_call0 (args := [_, _]) ⟨rfl, rfl, rfl⟩ (has_tr (h := { h with fence := c.epoch }) b o.1.n o.1.epoch hLn (by omega) (by dsimp only; omega)) gS) rfl ?_
     rintro _ _ ⟨⟨g69, rfl, hg69⟩, rfl⟩
     unfold ldc
     dsimp only
     refine x_v (r_pk_t rfl rfl) rfl ?_
     refine XL.nil ?_
     refine hK14 _ _ ?_
     refine XC.keep [(0, _), (3, _), (4, _), (5, _), (6, _), (70, _)] ⟨rfl, rfl, rfl, rfl, rfl, rfl, trivial⟩ ?_
     refine XC.cond rfl (fun hc5 => ?_) (fun hc5 => ?_)
     ·refine XC.skip ?_
      refine hK13 _ _ ?_
      refine XC.keep [(0, _), (3, _), (4, _), (5, _), (6, _)] ⟨rfl, rfl, rfl, rfl, rfl, trivial⟩ ?_
      refine XC.block ?_
      refine XC.region ?_
      refine x_v (r_mv rfl) rfl ?_
      refine x_v (r_add rfl rfl (by omega)) rfl ?_
      refine x_v (r_as rfl) rfl ?_
      refine XL.nil ?_
      refine ⟨i + 1, ?_, ?_, ⟨rfl, rfl, rfl, rfl, rfl, trivial⟩, gS⟩
      ·exact ⟨by omega, by rw [hrs, rest_yes (fst_get hoi) (has_b.1 (by have := hg69.1 hc5; rw [hl.o] at this; exact this))]⟩
      ·omega
     ·refine XC.exit rfl ?_
      exact ⟨i, ⟨hi, by rw [hrs, rest_no (fst_get hoi) (by (cases hq : HasB l.ops o.1.n o.1.epoch with | false => rfl | true => (have := hg69.2 (by rw [hl.o]; exact has_b.2 hq); rw [this] at hc5; cases hc5))), fst_get hoi]⟩, ⟨rfl, rfl, rfl, rfl, rfl, trivial⟩, gS⟩
    ·refine x_unwant rfl rfl rfl rfl rfl ?_
     refine x_unwant rfl rfl rfl rfl rfl ?_
     refine x_unwant rfl rfl rfl rfl rfl ?_
     refine x_unwant rfl rfl rfl rfl rfl ?_
     refine x_unwant rfl rfl rfl rfl rfl ?_
     refine x_unwant rfl rfl rfl rfl rfl ?_
     refine x_unwant rfl rfl rfl rfl rfl ?_
     refine x_unwant rfl rfl rfl rfl rfl ?_
     refine x_v (r_pk_f rfl rfl) rfl ?_
     refine XL.nil ?_
     refine hK14 _ _ ?_
     refine XC.keep [(0, _), (3, _), (4, _), (5, _), (6, _), (70, _)] ⟨rfl, rfl, rfl, rfl, rfl, rfl, trivial⟩ ?_
     refine XC.cond_f rfl ?_
     refine XC.exit rfl ?_
     exact ⟨i, ⟨hi, by rw [hrs, List.drop_eq_nil_of_le (by omega)]; rfl⟩, ⟨rfl, rfl, rfl, rfl, rfl, trivial⟩, gS⟩
   ·rintro i ⟨hi, hrs⟩
    refine XC.seqcut (σ := Int × Int) (fun s => [(0, .pointer (some ⟨b, 0, none⟩)), (3, .pointer (some ⟨b3, 0, none⟩)), (4, .pointer (some ⟨b4, 0, none⟩)), (5, .pointer (some ⟨b5, 0, none⟩)), (6, .int .i64 (i : Int))]) (fun s => blk b3 41 [.int .i64 c.kind, .int .i64 c.epoch, .int .i64 c.site, .int .i64 c.op.1.n, .int .i64 c.op.1.epoch, .int .i64 c.op.1.kind, .int .i64 c.op.1.site, .int .i64 c.op.1.client, .int .i64 c.op.1.seq, str c.op.1.name, .int .i64 c.op.1.size, .slice c.op.2.1 c.op.1.hs.length c.op.2.2, .int .i64 c.after, .int .i64 c.since, .slice c.pA c.ops.length c.pc, .int .i64 c.tag] :: blk b4 62 [.int .i64 0, .int .i64 0, .int .i64 0] :: blk b5 31 [.int .i64 s.1, .int .i64 s.2] :: blk b 91 [.map (some h.mL), .int .i64 h.used, .map (some h.mO), .int .i64 h.hE, .int .i64 h.hS, .slice h.A h.n h.c, .slice h.lA h.ln h.lc, .int .i64 c.epoch, .int .i64 h.settled, .int .i64 h.quota, .int .i64 h.room] :: mpf h.mL .string gL :: mpf h.mO (.int .i64) gO :: sl h.A h.n h.c 39 9 (cells odc L) :: sl h.lA h.ln h.lc 39 9 (cells odc G) :: k :: Fr) (fun s => True) ?_ ?_
    ·refine XC.seq fun K16 hK16 => ?_
     refine XC.region ?_
     refine x_v (r_fa fo41_6 rfl) rfl ?_
     refine x_v (r_ld ty33 rfl pK (by rfl)) rfl ?_
     refine x_v (r_lensl Try.underlying33 rfl) rfl ?_
     refine x_v (r_as rfl) rfl ?_
     refine XL.nil ?_
     refine hK16 _ _ ?_
     refine XC.keep [(0, _), (3, _), (4, _), (5, _), (6, _), (7, _)] ⟨rfl, rfl, rfl, rfl, rfl, rfl, trivial⟩ ?_
     refine XC.seq fun K17 hK17 => ?_
     refine XC.region ?_
     refine x_v (r_mv rfl) rfl ?_
     refine x_v (r_gt rfl rfl) rfl ?_
     refine XL.nil ?_
     refine hK17 _ _ ?_
     refine XC.keep [(0, _), (3, _), (4, _), (5, _), (6, _), (7, _), (77, _)] ⟨rfl, rfl, rfl, rfl, rfl, rfl, rfl, trivial⟩ ?_
     refine XC.cond_d rfl (fun hc7 => ?_) (fun hc7 => ?_)
     ·refine XC.region ?_
      refine x_v (r_fa fo41_6 rfl) rfl ?_
      obtain ⟨z, hz⟩ : ∃ z, c.ops[c.ops.length - 1]? = some z := ⟨_, List.getElem?_eq_getElem (by omega)⟩
      obtain ⟨ob, oo, hpC, hat⟩ := hr.at_ (by omega)
      refine x_v (r_ld ty33 rfl pK (by rfl)) rfl ?_
      refine x_v (r_mv rfl) rfl ?_
      refine x_v (r_sub rfl rfl (by omega)) rfl ?_
      refine x_v (r_ia (k := c.ops.length - 1) Try.underlying33 ty39 (by rw [hpC]; rfl) rfl (by omega) (by omega)) rfl ?_
      refine x_v (r_ldar (l' := odc z) ty39 rfl rfl (fun w hw j2 u hu => by rw [Nat.add_assoc]; exact hat w (Gets.own gS hw) _ u (cells_get odc_len c.ops _ _ hz j2 u hu))) rfl ?_
      refine x_c (r_call0 (args := [_]) ⟨rfl, rfl⟩ (spot_tr z) gS) rfl ?_
      rintro _ _ ⟨rfl, rfl⟩
      refine x_e (r_st ty31 rfl rfl rfl rfl rfl uD oV) ?_
      refine XL.nil ?_
      exact ⟨(z.1.n, z.1.epoch), trivial, ⟨rfl, rfl, rfl, rfl, rfl, trivial⟩, gS⟩
     ·refine XC.skip ?_
      exact ⟨(c.after, c.since), trivial, ⟨rfl, rfl, rfl, rfl, rfl, trivial⟩, gS⟩
    ·rintro ⟨xN, xE⟩ _
     dsimp only
     refine XC.seqcut (σ := Lh × (Value → Option Value) × (Value → Option Value) × List Od × List Od × HP) (fun s => [(0, .pointer (some ⟨b, 0, none⟩)), (4, .pointer (some ⟨b4, 0, none⟩)), (5, .pointer (some ⟨b5, 0, none⟩))]) (fun s => blk b4 62 [.int .i64 0, .int .i64 0, .int .i64 0] :: blk b5 31 [.int .i64 xN, .int .i64 xE] :: blk b 91 (ldc s.1) :: mpf s.1.mL .string s.2.1 :: mpf s.1.mO (.int .i64) s.2.2.1 :: sl s.1.A s.1.n s.1.c 39 9 (cells odc s.2.2.2.1) :: sl s.1.lA s.1.ln s.1.lc 39 9 (cells odc s.2.2.2.2.1) :: s.2.2.2.2.2 :: Fr) (fun s => Ex W0 k s.2.2.2.2.2 ∧ LI W0 s.2.2.2.2.2 (shipL l c) s.1 s.2.1 s.2.2.1 s.2.2.2.1 s.2.2.2.2.1 ∧ s.1.ln ≤ h.ln + 80) ?_ ?_
     ·refine XC.seq fun K19 hK19 => ?_
      obtain ⟨XA, hXA⟩ : ∃ X, X = (if c.pc = i then c.pA else c.pA.map (·.add (i * 9))) := ⟨_, rfl⟩
      have hrd2 := rd_drop hr hcap hi
      rw [← hXA] at hrd2
      have hdl : (c.ops.drop i).length = c.ops.length - i := List.length_drop ..
      refine XC.region ?_
      refine x_v (r_fa fo41_6 rfl) rfl ?_
      refine x_v (r_ld ty33 rfl pK (by rfl)) rfl ?_
      refine x_v (r_mv rfl) rfl ?_
      refine x_v (r_sll (i) (c.ops.length) Try.underlying33 ty39 rfl ⟨_, by rfl⟩ rfl (by omega) (by omega)) rfl ?_
      rw [← hXA]
      refine x_v (r_as rfl) rfl ?_
      refine XL.nil ?_
      refine hK19 _ _ ?_
      refine XC.keep [(0, _), (4, _), (5, _), (8, _)] ⟨rfl, rfl, rfl, rfl, trivial⟩ ?_
      refine XC.seq fun K20 hK20 => ?_
      refine XC.region ?_
      refine x_v (r_mv rfl) rfl ?_
      refine x_v (r_lensl Try.underlying33 rfl) rfl ?_
      refine x_v (r_gt rfl rfl) rfl ?_
      refine XL.nil ?_
      refine hK20 _ _ ?_
      refine XC.keep [(0, _), (4, _), (5, _), (8, _), (91, _)] ⟨rfl, rfl, rfl, rfl, rfl, trivial⟩ ?_
      refine XC.cond_d rfl (fun hc8 => ?_) (fun hc8 => ?_)
      ·refine XC.seq fun K21 hK21 => ?_
       obtain ⟨o, hoi⟩ : ∃ o, (c.ops.drop i)[0]? = some o := ⟨_, List.getElem?_eq_getElem (by omega)⟩
       have hfo := fst_get hoi
       rw [List.drop_zero] at hfo
       obtain ⟨q1, q2, q3, q4⟩ := rest_fact l.ops _ _ _ _ hgo hpl3.1 (has_le hb1) hpl3.2.2 _ _ (hrs.trans hfo)
       have hon : o.1.n ≤ 81 := by omega
       obtain ⟨ob, oo, hpX, hat⟩ := hrd2.at_ (by omega)
       refine XC.region ?_
       refine x_v (r_mv rfl) rfl ?_
       refine x_v (r_ia (k := 0) Try.underlying33 ty39 (by rw [hpX]; rfl) rfl rfl (by omega)) rfl ?_
       refine x_v (r_ldar (l' := odc o) ty39 rfl rfl (fun w hw j2 u hu => by rw [Nat.add_assoc]; exact hat w (Gets.own gS hw) _ u (cells_get odc_len (c.ops.drop i) _ _ hoi j2 u hu))) rfl ?_
       rw [odc_def o]
       refine x_a (r_al ty39 rfl) rfl fun b9 => ?_
       refine x_e (r_st ty39 rfl rfl rfl rfl rfl uD oV) ?_
       refine XL.nil ?_
       refine hK21 _ _ ?_
       refine XC.keep [(0, _), (4, _), (5, _), (8, _), (9, _)] ⟨rfl, rfl, rfl, rfl, rfl, trivial⟩ ?_
       refine XC.seqcut (σ := Unit) (fun u => [(0, .pointer (some ⟨b, 0, none⟩)), (4, .pointer (some ⟨b4, 0, none⟩)), (5, .pointer (some ⟨b5, 0, none⟩)), (8, .slice XA (c.ops.length - i) (c.pc - i)), (9, .pointer (some ⟨b9, 0, none⟩))]) (fun u => blk b4 62 [.int .i64 0, .int .i64 0, .int .i64 0] :: blk b5 31 [.int .i64 xN, .int .i64 xE] :: blk b9 39 [.int .i64 o.1.n, .int .i64 o.1.epoch, .int .i64 o.1.kind, .int .i64 o.1.site, .int .i64 o.1.client, .int .i64 o.1.seq, str o.1.name, .int .i64 o.1.size, .slice o.2.1 o.1.hs.length o.2.2] :: blk b 91 [.map (some h.mL), .int .i64 h.used, .map (some h.mO), .int .i64 h.hE, .int .i64 h.hS, .slice h.A h.n h.c, .slice h.lA h.ln h.lc, .int .i64 c.epoch, .int .i64 h.settled, .int .i64 h.quota, .int .i64 h.room] :: mpf h.mL .string gL :: mpf h.mO (.int .i64) gO :: sl h.A h.n h.c 39 9 (cells odc L) :: sl h.lA h.ln h.lc 39 9 (cells odc G) :: k :: Fr) (fun u => ¬ (¬ o.1.kind = 3 ∧ siteAt l.ops (o.1.n - 2) o.1.site = false)) ?_ ?_
       ·refine XC.seq fun K23 hK23 => ?_
        refine XC.slnn (A := h.A) pK fun hsl hsA => ?_
        have hrdL : Rdb W0 [sl h.A h.n h.c 39 9 (cells odc L)] h.A h.n 9 (cells odc L) := Rdb.of_sl (.head _ _) hsl hsA
        have hfl := fst_ln L
        refine XC.draw [blk b9 39 [.int .i64 o.1.n, .int .i64 o.1.epoch, .int .i64 o.1.kind, .int .i64 o.1.site, .int .i64 o.1.client, .int .i64 o.1.seq, str o.1.name, .int .i64 o.1.size, .slice o.2.1 o.1.hs.length o.2.2], blk b 91 [.map (some h.mL), .int .i64 h.used, .map (some h.mO), .int .i64 h.hE, .int .i64 h.hS, .slice h.A h.n h.c, .slice h.lA h.ln h.lc, .int .i64 c.epoch, .int .i64 h.settled, .int .i64 h.quota, .int .i64 h.room], sl h.A h.n h.c 39 9 (cells odc L)] false [(0, false), (1, false), (2, false), (3, false), (4, false), (5, false), (6, false), (7, false), (8, false), (9, false), (10, false), (11, false), (12, false), (13, false), (14, false), (15, false), (16, false), (17, false)] (by kernel_rfl) (by kernel_rfl) ?_
        refine y_v rfl (r_fa fo39_2 rfl) gT rfl ?_
        refine y_v rfl (r_ld ty3 rfl pK (by rfl)) gT rfl ?_
        refine y_v rfl (r_ne rfl rfl) gT rfl ?_
        refine y_v rfl (r_mv rfl) gT rfl ?_
        refine XH.splitd 98 rfl (fun hg98 => ?_) (fun hg98 => ?_)
        ·refine y_vg rfl rfl rfl (r_mv rfl) gT rfl ?_
         refine y_vg rfl rfl rfl (r_nc rfl) gT rfl ?_
         refine y_vg rfl rfl rfl (r_fa fo91_1 rfl) gT rfl ?_
         have hn2 := q3 hg98
         obtain ⟨p, hpi⟩ : ∃ p, L[(o.1.n - 2).toNat]? = some p := ⟨_, List.getElem?_eq_getElem (by omega)⟩
         have hsat : siteAt l.ops (o.1.n - 2) o.1.site = decide (p.1.site = o.1.site) := by (unfold siteAt; rw [← hl.o, fst_at hpi])
         obtain ⟨pb, po, hpL, hat2⟩ := hrdL.at_ (by omega)
         refine y_vg rfl rfl rfl (r_ld ty33 rfl pK (by rfl)) gT rfl ?_
         refine y_vg rfl rfl rfl (r_fa fo39_0 rfl) gT rfl ?_
         refine y_vg rfl rfl rfl (r_ld ty3 rfl pK (by rfl)) gT rfl ?_
         refine y_vg rfl rfl rfl (r_sub rfl rfl (by omega)) gT rfl ?_
         refine y_vg rfl rfl rfl (r_ia (k := (o.1.n - 2).toNat) Try.underlying33 ty39 (by rw [hpL]; rfl) rfl (by omega) (by omega)) gT rfl ?_
         refine y_vg rfl rfl rfl (r_fa fo39_3 rfl) gT rfl ?_
         refine y_vg rfl rfl rfl (r_ldr ty3 rfl (fun w hw => by rw [Nat.add_assoc]; exact hat2 w (Gets.own gS hw) _ _ (cells_get odc_len L _ _ hpi 3 _ rfl))) gT rfl ?_
         refine y_vg rfl rfl rfl (r_fa fo39_3 rfl) gT rfl ?_
         refine y_vg rfl rfl rfl (r_ld ty3 rfl pK (by rfl)) gT rfl ?_
         refine y_vg rfl rfl rfl (r_ne rfl rfl) gT rfl ?_
         refine y_v rfl (r_pk_t rfl rfl) gT rfl ?_
         refine XH.nil ?_
         refine hK23 _ _ ?_
         refine XC.keep [(0, _), (4, _), (5, _), (8, _), (9, _), (112, _)] ⟨rfl, rfl, rfl, rfl, rfl, rfl, trivial⟩ ?_
         refine XC.cond_d rfl (fun hc9 => ?_) (fun hc9 => ?_)
         ·refine XC.seq fun K24 hK24 => ?_
          refine XC.region ?_
          refine x_c (r_call0 (args := [_]) ⟨rfl, rfl⟩ (failed_tr 121) gS) rfl ?_
          rintro _ _ ⟨rfl, rfl⟩
          refine x_e (r_st ty62 rfl rfl rfl rfl rfl uD oV) ?_
          refine XL.nil ?_
          refine hK24 _ _ ?_
          refine XC.keep [(4, _)] ⟨rfl, trivial⟩ ?_
          refine XC.ret ?_
          rw [ship3 hn0 hb1 (hrs.trans hfo) ⟨hg98, by rw [hsat]; exact decide_eq_false hc9⟩]
          exact finc1 ty62 rfl pK (by rfl) (⟨{ h with fence := c.epoch }, gL, gO, L, G, k, ⟨_, _, _, rfl⟩, rfl, Ex.refl W0 k, hl.fence c.epoch, by dsimp only; omega⟩) gS
         ·refine XC.skip ?_
          exact ⟨(), (fun q => by rw [hsat] at q; exact of_decide_eq_false q.2 (Classical.not_not.1 hc9)), ⟨rfl, rfl, rfl, rfl, rfl, trivial⟩, gS⟩
        ·refine y_un rfl rfl rfl (fun _ h => Gets.own gS h) rfl ?_
         refine y_un rfl rfl rfl (fun _ h => Gets.own gS h) rfl ?_
         refine y_un rfl rfl rfl (fun _ h => Gets.own gS h) rfl ?_
         refine y_un rfl rfl rfl (fun _ h => Gets.own gS h) rfl ?_
         refine y_un rfl rfl rfl (fun _ h => Gets.own gS h) rfl ?_
         refine y_un rfl rfl rfl (fun _ h => Gets.own gS h) rfl ?_
         refine y_un rfl rfl rfl (fun _ h => Gets.own gS h) rfl ?_
         refine y_un rfl rfl rfl (fun _ h => Gets.own gS h) rfl ?_
         refine y_un rfl rfl rfl (fun _ h => Gets.own gS h) rfl ?_
         refine y_un rfl rfl rfl (fun _ h => Gets.own gS h) rfl ?_
         refine y_un rfl rfl rfl (fun _ h => Gets.own gS h) rfl ?_
         refine y_un rfl rfl rfl (fun _ h => Gets.own gS h) rfl ?_
         refine y_un rfl rfl rfl (fun _ h => Gets.own gS h) rfl ?_
         refine y_v rfl (r_pk_f rfl rfl) gT rfl ?_
         refine XH.nil ?_
         refine hK23 _ _ ?_
         refine XC.keep [(0, _), (4, _), (5, _), (8, _), (9, _), (112, _)] ⟨rfl, rfl, rfl, rfl, rfl, rfl, trivial⟩ ?_
         refine XC.cond_f rfl ?_
         refine XC.skip ?_
         exact ⟨(), (fun q => hg98 q.1), ⟨rfl, rfl, rfl, rfl, rfl, trivial⟩, gS⟩
       ·rintro _ hs4
        refine XC.seq fun K25 hK25 => ?_
        obtain ⟨j, hj⟩ : ∃ j : Nat, o.1.n - 1 = (j : Int) := ⟨(o.1.n - 1).toNat, by omega⟩
        refine XC.region ?_
        refine x_v (r_mv rfl) rfl ?_
        refine x_v (r_fa fo39_0 rfl) rfl ?_
        refine x_v (r_ld ty3 rfl pK (by rfl)) rfl ?_
        refine x_v (r_sub rfl rfl (by omega)) rfl ?_
        rw [hj]
        refine x_c (r_call0 (args := [_, _]) ⟨rfl, rfl, rfl⟩ (part_tr (k := k) (h := { h with fence := c.epoch }) b j (hl.fence c.epoch) (by omega) (by dsimp only; omega)) gS) rfl ?_
        rintro _ _ ⟨h2, gL2, gO2, L2, G2, rfl, rfl, hl2, hln2⟩
        refine XL.nil ?_
        refine hK25 _ _ ?_
        refine XC.keep [(0, _), (4, _), (5, _), (8, _)] ⟨rfl, rfl, rfl, rfl, trivial⟩ ?_
        refine XC.seq fun K26 hK26 => ?_
        have hlen2 := hl2.len
        have hLn2 := hl2.n
        have hpl4 := hl2.p.len
        have hzs2 := hl2.p.szs
        rw [← hlen2] at hzs2
        dsimp only at hln2
        refine XC.region ?_
        refine x_v (r_mv rfl) rfl ?_
        rw [show Value.slice XA (c.ops.length - i) (c.pc - i) = .slice XA (c.ops.drop i).length (c.pc - i) by rw [hdl]]
        refine x_c (r_call0 (args := [_]) ⟨rfl, rfl⟩ (own_tr (k := k) (Fr := blk b 91 (ldc h2) :: mpf h2.mL .string gL2 :: mpf h2.mO (.int .i64) gO2 :: sl h2.A h2.n h2.c 39 9 (cells odc L2) :: sl h2.lA h2.ln h2.lc 39 9 (cells odc G2) :: blk b4 62 [.int .i64 0, .int .i64 0, .int .i64 0] :: blk b5 31 [.int .i64 xN, .int .i64 xE] :: Fr) XA (c.pc - i) (c.ops.drop i) (hrd2.mono (fun w hw => Gets.own gS hw)) (fun q hq => hro q (List.mem_of_mem_drop hq)) (by omega)) gS) rfl ?_
        rintro _ _ ⟨A120, c120, k120, L120, rfl, rfl, hx120, hf120, hk120⟩
        refine x_v (r_as rfl) rfl ?_
        refine XL.nil ?_
        refine hK26 _ _ ?_
        refine XC.keep [(0, _), (4, _), (5, _), (10, _)] ⟨rfl, rfl, rfl, rfl, trivial⟩ ?_
        refine XC.seq fun K27 hK27 => ?_
        refine XC.slnn (A := A120) pK fun hsl120 hsA120 => ?_
        have hl120 := fst_len hf120
        unfold ldc
        refine XC.region ?_
        refine x_v (r_mv rfl) rfl ?_
        refine x_v (r_mv rfl) rfl ?_
        refine x_v (r_nc rfl) rfl ?_
        refine x_v (r_fa fo91_1 rfl) rfl ?_
        refine x_v (r_ld ty33 rfl pK (by rfl)) rfl ?_
        refine x_v (r_mv rfl) rfl ?_
        refine x_a (r_app Try.underlying33 ty39 rfl (by decide) rfl rfl pK (Rdb.of_sl pK hsl120 hsA120) (cells_one' odc_one L120) (by unfold maxLen; omega) (by omega)) rfl fun ⟨A127, c127⟩ => ?_
        dsimp only
        rw [← cells_app]
        refine x_v (r_nc rfl) rfl ?_
        refine x_v (r_fa fo91_1 rfl) rfl ?_
        refine x_e (r_st ty33 rfl rfl rfl rfl rfl uD oV) ?_
        refine XL.nil ?_
        refine hK27 _ _ ?_
        refine XC.keep [(0, _), (4, _), (5, _), (10, _)] ⟨rfl, rfl, rfl, rfl, trivial⟩ ?_
        refine XC.region ?_
        refine x_v (r_mv rfl) rfl ?_
        refine x_v (r_nc rfl) rfl ?_
        refine x_v (r_fa fo91_0 rfl) rfl ?_
        refine x_v (r_mv rfl) rfl ?_
        refine x_c (r_call0 (args := [_, _]) ⟨rfl, rfl, rfl⟩ (ftake_tr (Fr := sl A120 L120.length c120 39 9 (cells odc L120) :: sl A127 (h2.n + L120.length) c127 39 9 (cells odc (L2 ++ L120)) :: sl h2.lA h2.ln h2.lc 39 9 (cells odc G2) :: k120 :: blk b4 62 [.int .i64 0, .int .i64 0, .int .i64 0] :: blk b5 31 [.int .i64 xN, .int .i64 xE] :: Fr) (h := { h2 with A := A127, n := h2.n + L120.length, c := c127 }) b A120 c120 L120 (n0 := h2.n) (Rdb.of_sl (.head _ _) hsl120 hsA120) (fun q hq => by obtain ⟨j2, hj2⟩ := List.mem_iff_getElem?.1 hq; have e1 := fst_at hj2; rw [hf120, hfo] at e1; exact size_of (q4 j2 _ e1).2) (by omega) (by omega) hl2.m hzs2 hl2.u hl2.hd) gS) rfl ?_
        rintro _ _ ⟨rfl, s3, gL3, gO3, hs3, rfl, hm3, hz3⟩
        refine XL.nil ?_
        exact ⟨({ h2 with A := A127, n := h2.n + L120.length, c := c127, used := s3.used, hE := s3.hold.1, hS := s3.hold.2 }, gL3, gO3, L2 ++ L120, G2, k120), ⟨hx120, ship_li hl hl2 hx120 (ship4 hn0 hb1 (hrs.trans hfo) hs4) hj (hf120.trans hfo) hs3 hm3 hk120 q1 q2 q4, hln2⟩, ⟨rfl, rfl, rfl, trivial⟩, gS⟩
      ·refine XC.skip ?_
       exact ⟨({ h with fence := c.epoch }, gL, gO, L, G, k), ⟨Ex.refl W0 k, by (rw [ship2 hn0 hb1 (by rw [hrs, List.eq_nil_of_length_eq_zero (show (c.ops.drop i).length = 0 by omega)]; rfl)]; exact hl.fence c.epoch), by dsimp only; omega⟩, ⟨rfl, rfl, rfl, trivial⟩, gS⟩
     ·rintro ⟨h3, g3, g4, L3, G3, k3⟩ ⟨hx3, hl3, hln3⟩
      dsimp only at hx3 hl3 hln3 ⊢
      unfold ldc
      refine XC.seq fun K28 hK28 => ?_
      refine XC.draw [blk b 91 [.map (some h3.mL), .int .i64 h3.used, .map (some h3.mO), .int .i64 h3.hE, .int .i64 h3.hS, .slice h3.A h3.n h3.c, .slice h3.lA h3.ln h3.lc, .int .i64 h3.fence, .int .i64 h3.settled, .int .i64 h3.quota, .int .i64 h3.room], blk b5 31 [.int .i64 xN, .int .i64 xE]] true [(0, false), (1, false), (2, false), (3, false), (4, false), (5, false), (6, false), (7, false), (8, false), (9, false), (10, true)] (by kernel_rfl) (by kernel_rfl) ?_
      refine y_v rfl (r_mv rfl) gT rfl ?_
      refine y_v rfl (r_mv rfl) gT rfl ?_
      refine y_v rfl (r_nc rfl) gT rfl ?_
      refine y_v rfl (r_fa fo91_4 rfl) gT rfl ?_
      refine y_v rfl (r_ld ty3 rfl pK (by rfl)) gT rfl ?_
      refine y_v rfl (r_fa fo31_0 rfl) gT rfl ?_
      refine y_v rfl (r_ld ty3 rfl pK (by rfl)) gT rfl ?_
      refine y_v rfl (r_max rfl rfl) gT rfl ?_
      refine y_v rfl (r_nc rfl) gT rfl ?_
      refine y_v rfl (r_fa fo91_4 rfl) gT rfl ?_
      refine y_e rfl (r_st ty3 rfl rfl rfl rfl rfl uD oV) (fun h => absurd h (by decide)) ?_
      refine XH.nil ?_
      refine hK28 _ _ ?_
      refine XC.keep [(4, _), (5, _)] ⟨rfl, rfl, trivial⟩ ?_
      refine XC.seq fun K29 hK29 => ?_
      refine XC.region ?_
      refine x_v (r_lda (l' := [_, _]) ty31 rfl pK rfl (Sub.get sU)) rfl ?_
      refine x_v (r_bd (vs := [_]) rfl ⟨rfl, rfl⟩ (bd62_1 _ _)) rfl ?_
      refine x_e (r_st ty62 rfl rfl rfl rfl rfl uD oV) ?_
      refine XL.nil ?_
      refine hK29 _ _ ?_
      refine XC.keep [(4, _)] ⟨rfl, trivial⟩ ?_
      refine XC.ret ?_
      exact finc1 ty62 rfl pK (by rfl) (⟨{ h3 with settled := max h3.settled xN }, g3, g4, L3, G3, k3, ⟨_, _, _, rfl⟩, rfl, hx3, hl3.settled _, by dsimp only; omega⟩) gS
end Go.Proofs.Ytheilpcbilnadaa

/- Crowns: the reference's ledger: an operation put behind, the last one, what is settled. -/
import Derived.Test.YtheilpcbilnadaaCrown28
namespace Go.Proofs.Ytheilpcbilnadaa
open Go.Sx
set_option linter.unusedVariables false

theorem rput_ri {W0 : World} {k k2 : HP} {l : Ls} {r : Rh} {L G : List Od} {o o2 o3 : Od} {e s : Int} {A2 : Option Addr} {c2 : Nat} (hl : RI W0 k l r L G) (hn : l.ops.length < 80) (hok : opOk { o.1 with n := (l.ops.length : Int) + 1, epoch := e, site := s } = true)
  (ho2 : o2 = (opAt o r.n e s, o.2)) (ho3 : o3.1 = o2.1) (hro : RdO W0 k2 o3) (hx : Ex W0 k k2) : RI W0 k2 (putL l o.1 e s) { r with A := A2, n := r.n + 1, c := c2 } (L ++ [o3]) G := by
 refine ⟨hl.p.put hn hok, by rw [List.length_append, hl.n]; rfl, ?_, hl.f, hl.q, hl.rm, fun q hq => ?_, hl.g⟩
 ·unfold putL; rw [← hl.len, ← hl.o]; unfold fst1; rw [List.map_append, List.map_singleton, ho3, ho2]; rfl
 ·rcases List.mem_append.1 hq with hh | hh
  ·exact (hl.rd q hh).ex hx
  ·rw [List.mem_singleton.1 hh]; exact hro
set_option maxHeartbeats 1000000 in
theorem rput_tr {W0 : World} {Fr : List HP} {k : HP} {l : Ls} {r : Rh} {L G : List Od} (b : Nat) (o : Od) (e s : Int) (hl : RI W0 k l r L G) (hro : RdO W0 k o) (hn : l.ops.length < 80) (hok : opOk { o.1 with n := (l.ops.length : Int) + 1, epoch := e, site := s } = true) :
  Tr W0 Try.prog 50 [.pointer (some ⟨b, 0, none⟩), .agg (odc o).toArray, .int .i64 e, .int .i64 s] (blk b 93 (rdc r) :: sl r.A r.n r.c 39 9 (cells odc L) :: sl r.gA r.gn r.gc 39 9 (cells odc G) :: k :: Fr) (RPost W0 k Fr b r.gn (putL l o.1 e s)) := by
 have hlen := hl.len
 have hLn := hl.n
 obtain ⟨o2, ho2⟩ : ∃ o2 : Od, o2 = (opAt o r.n e s, o.2) := ⟨_, rfl⟩
 have hro2 : RdO W0 k o2 := by rw [ho2]; exact hro
 have ho2c : odc o2 = [.int .i64 ((r.n : Int) + 1), .int .i64 e, .int .i64 o.1.kind, .int .i64 s, .int .i64 o.1.client, .int .i64 o.1.seq, str o.1.name, .int .i64 o.1.size, .slice o.2.1 o.1.hs.length o.2.2] := by rw [ho2]; rfl
 unfold rdc
 refine Entry.tr (N := 36) (rs := [.cell 8 62]) ⟨_, Try.func50, rfl, by kernel_rfl, rfl, rfl⟩ rfl ?_
 refine XC.seq fun K1 hK1 => ?_
 refine XC.region ?_
 refine x_a (r_bx rfl rfl) rfl fun b5 => ?_
 rw [odc_def o]
 refine x_a (r_al ty62 rfl) rfl fun b8 => ?_
 refine XL.nil ?_
 refine hK1 _ _ ?_
 refine XC.keep [(0, _), (2, _), (3, _), (5, _), (8, _)] ⟨rfl, rfl, rfl, rfl, rfl, trivial⟩ ?_
 refine XC.seq fun K2 hK2 => ?_
 refine XC.region ?_
 refine x_v (r_mv rfl) rfl ?_
 refine x_v (r_nc rfl) rfl ?_
 refine x_v (r_fa fo93_0 rfl) rfl ?_
 refine x_v (r_ld ty33 rfl pK (by rfl)) rfl ?_
 refine x_v (r_lensl Try.underlying33 rfl) rfl ?_
 refine x_v (r_add rfl rfl (by omega)) rfl ?_
 refine x_v (r_fa fo39_0 rfl) rfl ?_
 refine x_e (r_st ty3 rfl rfl rfl rfl rfl uD oV) ?_
 refine XL.nil ?_
 refine hK2 _ _ ?_
 refine XC.keep [(0, _), (2, _), (3, _), (5, _), (8, _)] ⟨rfl, rfl, rfl, rfl, rfl, trivial⟩ ?_
 refine XC.seq fun K3 hK3 => ?_
 refine XC.region ?_
 refine x_v (r_mv rfl) rfl ?_
 refine x_v (r_fa fo39_1 rfl) rfl ?_
 refine x_e (r_st ty3 rfl rfl rfl rfl rfl uD oV) ?_
 refine XL.nil ?_
 refine hK3 _ _ ?_
 refine XC.keep [(0, _), (2, _), (3, _), (5, _), (8, _)] ⟨rfl, rfl, rfl, rfl, rfl, trivial⟩ ?_
 refine XC.seq fun K4 hK4 => ?_
 refine XC.region ?_
 refine x_v (r_mv rfl) rfl ?_
 refine x_v (r_fa fo39_3 rfl) rfl ?_
 refine x_e (r_st ty3 rfl rfl rfl rfl rfl uD oV) ?_
 refine XL.nil ?_
 refine hK4 _ _ ?_
 refine XC.keep [(0, _), (2, _), (5, _), (8, _)] ⟨rfl, rfl, rfl, rfl, trivial⟩ ?_
 refine XC.seq fun K5 hK5 => ?_
 refine XC.draw [blk b 93 [.slice r.A r.n r.c, .slice r.gA r.gn r.gc, .int .i64 r.fence, .int .i64 r.set, .int .i64 r.quota, .int .i64 r.room], blk b5 39 [.int .i64 ((r.n : Int) + 1), .int .i64 e, .int .i64 o.1.kind, .int .i64 s, .int .i64 o.1.client, .int .i64 o.1.seq, str o.1.name, .int .i64 o.1.size, .slice o.2.1 o.1.hs.length o.2.2]] true [(0, false), (1, false), (2, false), (3, false), (4, false), (5, false), (6, true), (7, true), (8, true), (9, false), (10, false), (11, true)] (by kernel_rfl) (by kernel_rfl) ?_
 refine y_v rfl (r_mv rfl) gT rfl ?_
 refine y_v rfl (r_mv rfl) gT rfl ?_
 refine y_v rfl (r_nc rfl) gT rfl ?_
 refine y_v rfl (r_fa fo93_0 rfl) gT rfl ?_
 refine y_v rfl (r_ld ty33 rfl pK (by rfl)) gT rfl ?_
 refine y_v rfl (r_lda (l' := [_, _, _, _, _, _, _, _, _]) ty39 rfl pK rfl (Sub.get sU)) gT rfl ?_
 refine y_a rfl (r_bs (vs := [_]) rfl ⟨rfl, rfl⟩ (bs33_1_0 _ _ _ _ _ _ _ _ _ _ _)) (fun _ _ _ h => Gets.own gS h) rfl fun b26 => ?_
 rw [← ho2c]
 refine y_c rfl (r_call0 (args := [_]) ⟨rfl, rfl⟩ (ownops_tr (k := k) (Fr := blk b26 39 (odc o2) :: blk b 93 [.slice r.A r.n r.c, .slice r.gA r.gn r.gc, .int .i64 r.fence, .int .i64 r.set, .int .i64 r.quota, .int .i64 r.room] :: blk b5 39 (odc o2) :: blk b8 62 [.int .i64 0, .int .i64 0, .int .i64 0] :: sl r.A r.n r.c 39 9 (cells odc L) :: sl r.gA r.gn r.gc 39 9 (cells odc G) :: Fr) (some ⟨b26, 0, none⟩) 1 [o2] (fun k2 _ => rd_one o2 pK) (fun q hq => by rw [List.mem_singleton.1 hq]; exact hro2) (by simp only [List.length_singleton]; omega)) gS) (by rintro _ _ _ _ ⟨A27, c27, k27, L27, rfl, rfl, hx27, hf27, hk27⟩ h; exact Gets.own gS h) rfl ?_
 rintro _ _ ⟨A27, c27, k27, L27, rfl, rfl, hx27, hf27, hk27⟩
 obtain ⟨o3, rfl, ho3⟩ := one_of hf27
 have hro3 := hk27 o3 (List.mem_singleton.2 rfl)
 refine XH.slnn (A := A27) pK fun hl27 hA27 => ?_
 refine y_a rfl (r_app Try.underlying33 ty39 rfl (by decide) rfl rfl pK (Rdb.of_sl pK hl27 hA27) (cells_one' odc_one [o3]) (by unfold maxLen; simp only [List.length_singleton]; omega) (by simp only [List.length_singleton]; omega)) (fun _ _ _ h => Gets.own gS h) rfl fun ⟨A28, c28⟩ => ?_
 dsimp only [List.length_singleton]
 rw [← cells_app, ho2c]
 refine y_v rfl (r_nc rfl) gT rfl ?_
 refine y_v rfl (r_fa fo93_0 rfl) gT rfl ?_
 refine y_e rfl (r_st ty33 rfl rfl rfl rfl rfl uD oV) (fun h => absurd h (by decide)) ?_
 refine XH.nil ?_
 refine hK5 _ _ ?_
 refine XC.keep [(2, _), (5, _), (8, _)] ⟨rfl, rfl, rfl, trivial⟩ ?_
 refine XC.seq fun K6 hK6 => ?_
 refine XC.region ?_
 refine x_v (r_fa fo39_0 rfl) rfl ?_
 refine x_v (r_ld ty3 rfl pK (by rfl)) rfl ?_
 refine x_v (r_mv rfl) rfl ?_
 refine x_v (r_bd (vs := [_, _]) rfl ⟨rfl, rfl, rfl⟩ (bd31_0_1 _ _)) rfl ?_
 refine x_v (r_bd (vs := [_]) rfl ⟨rfl, rfl⟩ (bd62_1 _ _)) rfl ?_
 refine x_e (r_st ty62 rfl rfl rfl rfl rfl uD oV) ?_
 refine XL.nil ?_
 refine hK6 _ _ ?_
 refine XC.keep [(8, _)] ⟨rfl, trivial⟩ ?_
 refine XC.ret ?_
 exact finc1 ty62 rfl pK (by rfl) (⟨{ r with A := A28, n := r.n + 1, c := c28 }, L ++ [o3], G, k27, ⟨_, _, _, rfl⟩, rfl, hx27, rput_ri hl hn hok ho2 ho3 hro3 hx27, by dsimp only; omega⟩) gS
theorem rlast_tr {W0 : World} {Fr : List HP} {r : Rh} {L : List Od} (b : Nat) (hLn : L.length = r.n) (hle : r.n ≤ 1000000) :
  Tr W0 Try.prog 51 [.pointer (some ⟨b, 0, none⟩)] (blk b 93 (rdc r) :: sl r.A r.n r.c 39 9 (cells odc L) :: Fr) (fun v Rs' => (∃ n e : Int, v = .agg #[.int .i64 n, .int .i64 e]) ∧ Rs' = blk b 93 (rdc r) :: sl r.A r.n r.c 39 9 (cells odc L) :: Fr) := by
 obtain ⟨A, n, c, gA, gn, gc, f, st, q, rm⟩ := r
 dsimp only at hLn hle ⊢
 unfold rdc
 dsimp only
 refine Entry.tr (N := 28) (rs := [.cell 2 31]) ⟨_, Try.func51, rfl, by kernel_rfl, rfl, rfl⟩ rfl ?_
 refine XC.seq fun K1 hK1 => ?_
 refine XC.region ?_
 refine x_a (r_al ty31 rfl) rfl fun b2 => ?_
 refine XL.nil ?_
 refine hK1 _ _ ?_
 refine XC.keep [(0, _), (2, _)] ⟨rfl, rfl, trivial⟩ ?_
 refine XC.seq fun K2 hK2 => ?_
 refine XC.seq fun K3 hK3 => ?_
 refine XC.region ?_
 refine x_v (r_mv rfl) rfl ?_
 refine x_v (r_nc rfl) rfl ?_
 refine x_v (r_fa fo93_0 rfl) rfl ?_
 refine x_v (r_ld ty33 rfl pK (by rfl)) rfl ?_
 refine x_v (r_lensl Try.underlying33 rfl) rfl ?_
 refine x_v (r_eq rfl rfl) rfl ?_
 refine XL.nil ?_
 refine hK3 _ _ ?_
 refine XC.keep [(0, _), (2, _), (9, _)] ⟨rfl, rfl, rfl, trivial⟩ ?_
 refine XC.cond_d rfl (fun hc1 => ?_) (fun hc1 => ?_)
 ·refine XC.seq fun K4 hK4 => ?_
  refine XC.region ?_
  refine x_v (r_bd (vs := []) rfl rfl bd31_z) rfl ?_
  refine x_e (r_st ty31 rfl rfl rfl rfl rfl uD oV) ?_
  refine XL.nil ?_
  refine hK4 _ _ ?_
  refine XC.keep [(2, _)] ⟨rfl, trivial⟩ ?_
  refine XC.ret ?_
  exact finc1 ty31 rfl pK (by rfl) (⟨⟨_, _, rfl⟩, rfl⟩) gS
 ·refine XC.skip ?_
  refine hK2 _ _ ?_
  refine XC.keep [(0, _), (2, _)] ⟨rfl, rfl, trivial⟩ ?_
  refine XC.seq fun K5 hK5 => ?_
  refine XC.slnn (A := A) pK fun hsl hsA => ?_
  have hrd : Rdb W0 [sl A n c 39 9 (cells odc L)] A n 9 (cells odc L) := Rdb.of_sl (.head _ _) hsl hsA
  obtain ⟨o, ho⟩ : ∃ o, L[n - 1]? = some o := ⟨_, List.getElem?_eq_getElem (by omega)⟩
  obtain ⟨sb, so, hpA, hat⟩ := hrd.at_ (by omega)
  refine XC.draw [blk b 93 [.slice A n c, .slice gA gn gc, .int .i64 f, .int .i64 st, .int .i64 q, .int .i64 rm], sl A n c 39 9 (cells odc L)] true [(0, false), (1, false), (2, false), (3, false), (4, false), (5, false), (6, false), (7, false), (8, false), (9, false), (10, false), (11, false), (12, true), (13, true)] (by kernel_rfl) (by kernel_rfl) ?_
  refine y_v rfl (r_mv rfl) gT rfl ?_
  refine y_v rfl (r_nc rfl) gT rfl ?_
  refine y_v rfl (r_fa fo93_0 rfl) gT rfl ?_
  refine y_v rfl (r_ld ty33 rfl pK (by rfl)) gT rfl ?_
  refine y_v rfl (r_mv rfl) gT rfl ?_
  refine y_v rfl (r_nc rfl) gT rfl ?_
  refine y_v rfl (r_fa fo93_0 rfl) gT rfl ?_
  refine y_v rfl (r_ld ty33 rfl pK (by rfl)) gT rfl ?_
  refine y_v rfl (r_lensl Try.underlying33 rfl) gT rfl ?_
  refine y_v rfl (r_sub rfl rfl (by omega)) gT rfl ?_
  refine y_v rfl (r_ia (k := n - 1) Try.underlying33 ty39 (by rw [hpA]; rfl) rfl (by omega) (by omega)) gT rfl ?_
  refine y_v rfl (r_ldar (l' := odc o) ty39 rfl rfl (fun w hw j u hu => by rw [Nat.add_assoc]; exact hat w (Gets.own gS hw) _ u (cells_get odc_len L _ _ ho j u hu))) gT rfl ?_
  rw [odc_def o]
  refine y_a rfl (r_al ty39 rfl) (fun _ _ _ h => Gets.own gS h) rfl fun b3 => ?_
  refine y_e rfl (r_st ty39 rfl rfl rfl rfl rfl uD oV) (fun h => absurd h (by decide)) ?_
  refine XH.nil ?_
  refine hK5 _ _ ?_
  refine XC.keep [(2, _), (3, _)] ⟨rfl, rfl, trivial⟩ ?_
  refine XC.seq fun K6 hK6 => ?_
  refine XC.region ?_
  refine x_v (r_fa fo39_0 rfl) rfl ?_
  refine x_v (r_ld ty3 rfl pK (by rfl)) rfl ?_
  refine x_v (r_fa fo39_1 rfl) rfl ?_
  refine x_v (r_ld ty3 rfl pK (by rfl)) rfl ?_
  refine x_v (r_bd (vs := [_, _]) rfl ⟨rfl, rfl, rfl⟩ (bd31_0_1 _ _)) rfl ?_
  refine x_e (r_st ty31 rfl rfl rfl rfl rfl uD oV) ?_
  refine XL.nil ?_
  refine hK6 _ _ ?_
  refine XC.keep [(2, _)] ⟨rfl, trivial⟩ ?_
  refine XC.ret ?_
  exact finc1 ty31 rfl pK (by rfl) (⟨⟨_, _, rfl⟩, rfl⟩) gS
theorem RI.settled {W0 : World} {k : HP} {l : Ls} {r : Rh} {L G : List Od} (hl : RI W0 k l r L G) (s : Int) : RI W0 k l { r with set := s } L G :=
 ⟨hl.p, hl.n, hl.o, hl.f, hl.q, hl.rm, hl.rd, hl.g⟩
theorem rmark_tr {W0 : World} {Fr : List HP} {k : HP} {l : Ls} {r : Rh} {L G : List Od} (b : Nat) (c : Cm) (hl : RI W0 k l r L G) (hm : MarkP c) :
  Tr W0 Try.prog 49 [.pointer (some ⟨b, 0, none⟩), .agg (cmc c).toArray] (blk b 93 (rdc r) :: sl r.A r.n r.c 39 9 (cells odc L) :: sl r.gA r.gn r.gc 39 9 (cells odc G) :: k :: Fr) (RPost W0 k Fr b r.gn l) := by
 have hlen := hl.len
 have hLn := hl.n
 have hpl := hl.p.len
 have hm2 : 1 ≤ c.after ∧ c.after ≤ 80 := ⟨hm.2.2.2.2.1, hm.2.2.2.2.2.1⟩
 refine Entry.tr (N := 70) (rs := [.cell 4 62]) ⟨_, Try.func49, rfl, by kernel_rfl, rfl, rfl⟩ rfl ?_
 refine XC.seq fun K1 hK1 => ?_
 refine XC.region ?_
 refine x_a (r_bx rfl rfl) rfl fun b3 => ?_
 unfold cmc
 refine x_a (r_al ty62 rfl) rfl fun b4 => ?_
 refine XL.nil ?_
 refine hK1 _ _ ?_
 refine XC.keep [(0, _), (3, _), (4, _)] ⟨rfl, rfl, rfl, trivial⟩ ?_
 refine XC.seq fun K2 hK2 => ?_
 refine XC.region ?_
 refine x_v (r_mv rfl) rfl ?_
 refine x_c (r_call0 (args := [_]) ⟨rfl, rfl⟩ (rhold_tr (r := r) b L hLn (by omega)) gS) rfl ?_
 rintro _ _ ⟨rfl, rfl⟩
 refine x_a (r_al ty69 rfl) rfl fun b5 => ?_
 refine x_e (r_st ty69 rfl rfl rfl rfl rfl uD oV) ?_
 refine XL.nil ?_
 refine hK2 _ _ ?_
 refine XC.keep [(0, _), (3, _), (4, _), (5, _)] ⟨rfl, rfl, rfl, rfl, trivial⟩ ?_
 refine XC.seq fun K3 hK3 => ?_
 refine XC.seq fun K4 hK4 => ?_
 refine XC.slnn (A := r.A) pK fun hsl hsA => ?_
 have hrd : Rdb W0 [sl r.A r.n r.c 39 9 (cells odc L)] r.A r.n 9 (cells odc L) := Rdb.of_sl (.head _ _) hsl hsA
 unfold rdc
 refine XC.draw [blk b3 41 [.int .i64 c.kind, .int .i64 c.epoch, .int .i64 c.site, .int .i64 c.op.1.n, .int .i64 c.op.1.epoch, .int .i64 c.op.1.kind, .int .i64 c.op.1.site, .int .i64 c.op.1.client, .int .i64 c.op.1.seq, str c.op.1.name, .int .i64 c.op.1.size, .slice c.op.2.1 c.op.1.hs.length c.op.2.2, .int .i64 c.after, .int .i64 c.since, .slice c.pA c.ops.length c.pc, .int .i64 c.tag], blk b 93 [.slice r.A r.n r.c, .slice r.gA r.gn r.gc, .int .i64 r.fence, .int .i64 r.set, .int .i64 r.quota, .int .i64 r.room], blk b5 69 [.int .i64 (holdOf (fst1 L)).1, .int .i64 (holdOf (fst1 L)).2]] false [(0, false), (1, false), (2, false), (3, false), (4, false), (5, false), (6, false), (7, false), (8, false), (9, false), (10, false), (11, false), (12, false), (13, false), (14, false), (15, false), (16, false), (17, false), (18, false), (19, false), (20, false)] (by kernel_rfl) (by kernel_rfl) ?_
 refine y_v rfl (r_fa fo41_1 rfl) gT rfl ?_
 refine y_v rfl (r_ld ty3 rfl pK (by rfl)) gT rfl ?_
 refine y_v rfl (r_mv rfl) gT rfl ?_
 refine y_v rfl (r_nc rfl) gT rfl ?_
 refine y_v rfl (r_fa fo93_2 rfl) gT rfl ?_
 refine y_v rfl (r_ld ty3 rfl pK (by rfl)) gT rfl ?_
 refine y_v rfl (r_ne rfl rfl) gT rfl ?_
 refine y_v rfl (r_mv rfl) gT rfl ?_
 refine XH.splitd 15 rfl (fun hg15 => ?_) (fun hg15 => ?_)
 ·refine y_un rfl rfl rfl (fun _ h => Gets.own gS h) rfl ?_
  refine y_un rfl rfl rfl (fun _ h => Gets.own gS h) rfl ?_
  refine y_un rfl rfl rfl (fun _ h => Gets.own gS h) rfl ?_
  refine y_un rfl rfl rfl (fun _ h => Gets.own gS h) rfl ?_
  refine y_un rfl rfl rfl (fun _ h => Gets.own gS h) rfl ?_
  refine y_v rfl (r_pk_t rfl rfl) gT rfl ?_
  refine y_v rfl (r_mv rfl) gT rfl ?_
  refine y_un rfl rfl rfl (fun _ h => Gets.own gS h) rfl ?_
  refine y_un rfl rfl rfl (fun _ h => Gets.own gS h) rfl ?_
  refine y_un rfl rfl rfl (fun _ h => Gets.own gS h) rfl ?_
  refine y_un rfl rfl rfl (fun _ h => Gets.own gS h) rfl ?_
  refine y_un rfl rfl rfl (fun _ h => Gets.own gS h) rfl ?_
  refine y_v rfl (r_pk_t rfl rfl) gT rfl ?_
  refine XH.nil ?_
  refine hK4 _ _ ?_
  refine XC.keep [(0, _), (3, _), (4, _), (28, _)] ⟨rfl, rfl, rfl, rfl, trivial⟩ ?_
  refine XC.cond_t rfl ?_
  refine XC.seq fun K5 hK5 => ?_
  refine XC.region ?_
  refine x_v (r_bd (vs := [_]) rfl ⟨rfl, rfl⟩ (bd62_0 _)) rfl ?_
  refine x_e (r_st ty62 rfl rfl rfl rfl rfl uD oV) ?_
  refine XL.nil ?_
  refine hK5 _ _ ?_
  refine XC.keep [(4, _)] ⟨rfl, trivial⟩ ?_
  refine XC.ret ?_
  exact finc1 ty62 rfl pK (by rfl) (⟨r, L, G, k, ⟨_, _, _, rfl⟩, rfl, Ex.refl W0 k, hl, by omega⟩) gS
 ·refine y_vg rfl rfl rfl (r_fa fo69_0 rfl) gT rfl ?_
  refine y_vg rfl rfl rfl (r_ld ty3 rfl pK (by rfl)) gT rfl ?_
  refine y_vg rfl rfl rfl (r_fa fo41_1 rfl) gT rfl ?_
  refine y_vg rfl rfl rfl (r_ld ty3 rfl pK (by rfl)) gT rfl ?_
  refine y_vg rfl rfl rfl (r_ne rfl rfl) gT rfl ?_
  refine y_v rfl (r_pk_f rfl rfl) gT rfl ?_
  refine y_v rfl (r_mv rfl) gT rfl ?_
  refine XH.splitd 22 rfl (fun hg22 => ?_) (fun hg22 => ?_)
  ·refine y_un rfl rfl rfl (fun _ h => Gets.own gS h) rfl ?_
   refine y_un rfl rfl rfl (fun _ h => Gets.own gS h) rfl ?_
   refine y_un rfl rfl rfl (fun _ h => Gets.own gS h) rfl ?_
   refine y_un rfl rfl rfl (fun _ h => Gets.own gS h) rfl ?_
   refine y_un rfl rfl rfl (fun _ h => Gets.own gS h) rfl ?_
   refine y_v rfl (r_pk_t rfl rfl) gT rfl ?_
   refine XH.nil ?_
   refine hK4 _ _ ?_
   refine XC.keep [(0, _), (3, _), (4, _), (28, _)] ⟨rfl, rfl, rfl, rfl, trivial⟩ ?_
   refine XC.cond_t rfl ?_
   refine XC.seq fun K6 hK6 => ?_
   refine XC.region ?_
   refine x_v (r_bd (vs := [_]) rfl ⟨rfl, rfl⟩ (bd62_0 _)) rfl ?_
   refine x_e (r_st ty62 rfl rfl rfl rfl rfl uD oV) ?_
   refine XL.nil ?_
   refine hK6 _ _ ?_
   refine XC.keep [(4, _)] ⟨rfl, trivial⟩ ?_
   refine XC.ret ?_
   exact finc1 ty62 rfl pK (by rfl) (⟨r, L, G, k, ⟨_, _, _, rfl⟩, rfl, Ex.refl W0 k, hl, by omega⟩) gS
  ·refine y_vg rfl rfl rfl (r_fa fo69_1 rfl) gT rfl ?_
   refine y_vg rfl rfl rfl (r_ld ty3 rfl pK (by rfl)) gT rfl ?_
   refine y_vg rfl rfl rfl (r_fa fo41_2 rfl) gT rfl ?_
   refine y_vg rfl rfl rfl (r_ld ty3 rfl pK (by rfl)) gT rfl ?_
   refine y_vg rfl rfl rfl (r_ne rfl rfl) gT rfl ?_
   refine y_v rfl (r_pk_f rfl rfl) gT rfl ?_
   refine XH.nil ?_
   refine hK4 _ _ ?_
   refine XC.keep [(0, _), (3, _), (4, _), (28, _)] ⟨rfl, rfl, rfl, rfl, trivial⟩ ?_
   refine XC.cond_d rfl (fun hc3 => ?_) (fun hc3 => ?_)
   ·refine XC.seq fun K7 hK7 => ?_
    refine XC.region ?_
    refine x_v (r_bd (vs := [_]) rfl ⟨rfl, rfl⟩ (bd62_0 _)) rfl ?_
    refine x_e (r_st ty62 rfl rfl rfl rfl rfl uD oV) ?_
    refine XL.nil ?_
    refine hK7 _ _ ?_
    refine XC.keep [(4, _)] ⟨rfl, trivial⟩ ?_
    refine XC.ret ?_
    exact finc1 ty62 rfl pK (by rfl) (⟨r, L, G, k, ⟨_, _, _, rfl⟩, rfl, Ex.refl W0 k, hl, by omega⟩) gS
   ·refine XC.skip ?_
    refine hK3 _ _ ?_
    refine XC.keep [(0, _), (3, _), (4, _)] ⟨rfl, rfl, rfl, trivial⟩ ?_
    refine XC.seq fun K8 hK8 => ?_
    refine XC.seq fun K9 hK9 => ?_
    refine XC.draw [blk b3 41 [.int .i64 c.kind, .int .i64 c.epoch, .int .i64 c.site, .int .i64 c.op.1.n, .int .i64 c.op.1.epoch, .int .i64 c.op.1.kind, .int .i64 c.op.1.site, .int .i64 c.op.1.client, .int .i64 c.op.1.seq, str c.op.1.name, .int .i64 c.op.1.size, .slice c.op.2.1 c.op.1.hs.length c.op.2.2, .int .i64 c.after, .int .i64 c.since, .slice c.pA c.ops.length c.pc, .int .i64 c.tag], blk b 93 [.slice r.A r.n r.c, .slice r.gA r.gn r.gc, .int .i64 r.fence, .int .i64 r.set, .int .i64 r.quota, .int .i64 r.room], sl r.A r.n r.c 39 9 (cells odc L)] false [(0, false), (1, false), (2, false), (3, false), (4, false), (5, false), (6, false), (7, false), (8, false), (9, false), (10, false), (11, false), (12, false), (13, false), (14, false), (15, false), (16, false), (17, false), (18, false), (19, false), (20, false), (21, false), (22, false)] (by kernel_rfl) (by kernel_rfl) ?_
    refine y_v rfl (r_fa fo41_4 rfl) gT rfl ?_
    refine y_v rfl (r_ld ty3 rfl pK (by rfl)) gT rfl ?_
    refine y_v rfl (r_mv rfl) gT rfl ?_
    refine y_v rfl (r_nc rfl) gT rfl ?_
    refine y_v rfl (r_fa fo93_0 rfl) gT rfl ?_
    refine y_v rfl (r_ld ty33 rfl pK (by rfl)) gT rfl ?_
    refine y_v rfl (r_lensl Try.underlying33 rfl) gT rfl ?_
    refine y_v rfl (r_gt rfl rfl) gT rfl ?_
    refine y_v rfl (r_mv rfl) gT rfl ?_
    refine XH.splitd 38 rfl (fun hg38 => ?_) (fun hg38 => ?_)
    ·refine y_un rfl rfl rfl (fun _ h => Gets.own gS h) rfl ?_
     refine y_un rfl rfl rfl (fun _ h => Gets.own gS h) rfl ?_
     refine y_un rfl rfl rfl (fun _ h => Gets.own gS h) rfl ?_
     refine y_un rfl rfl rfl (fun _ h => Gets.own gS h) rfl ?_
     refine y_un rfl rfl rfl (fun _ h => Gets.own gS h) rfl ?_
     refine y_un rfl rfl rfl (fun _ h => Gets.own gS h) rfl ?_
     refine y_un rfl rfl rfl (fun _ h => Gets.own gS h) rfl ?_
     refine y_un rfl rfl rfl (fun _ h => Gets.own gS h) rfl ?_
     refine y_un rfl rfl rfl (fun _ h => Gets.own gS h) rfl ?_
     refine y_un rfl rfl rfl (fun _ h => Gets.own gS h) rfl ?_
     refine y_un rfl rfl rfl (fun _ h => Gets.own gS h) rfl ?_
     refine y_un rfl rfl rfl (fun _ h => Gets.own gS h) rfl ?_
     refine y_un rfl rfl rfl (fun _ h => Gets.own gS h) rfl ?_
     refine y_v rfl (r_pk_t rfl rfl) gT rfl ?_
     refine XH.nil ?_
     refine hK9 _ _ ?_
     refine XC.keep [(0, _), (3, _), (4, _), (52, _)] ⟨rfl, rfl, rfl, rfl, trivial⟩ ?_
     refine XC.cond_t rfl ?_
     refine XC.seq fun K10 hK10 => ?_
     refine XC.region ?_
     refine x_v (r_bd (vs := [_]) rfl ⟨rfl, rfl⟩ (bd62_0 _)) rfl ?_
     refine x_e (r_st ty62 rfl rfl rfl rfl rfl uD oV) ?_
     refine XL.nil ?_
     refine hK10 _ _ ?_
     refine XC.keep [(4, _)] ⟨rfl, trivial⟩ ?_
     refine XC.ret ?_
     exact finc1 ty62 rfl pK (by rfl) (⟨r, L, G, k, ⟨_, _, _, rfl⟩, rfl, Ex.refl W0 k, hl, by omega⟩) gS
    ·obtain ⟨o, ho⟩ : ∃ o, L[(c.after - 1).toNat]? = some o := ⟨_, List.getElem?_eq_getElem (by omega)⟩
     obtain ⟨sb, so, hpA, hat⟩ := hrd.at_ (by omega)
     refine y_vg rfl rfl rfl (r_mv rfl) gT rfl ?_
     refine y_vg rfl rfl rfl (r_nc rfl) gT rfl ?_
     refine y_vg rfl rfl rfl (r_fa fo93_0 rfl) gT rfl ?_
     refine y_vg rfl rfl rfl (r_ld ty33 rfl pK (by rfl)) gT rfl ?_
     refine y_vg rfl rfl rfl (r_fa fo41_4 rfl) gT rfl ?_
     refine y_vg rfl rfl rfl (r_ld ty3 rfl pK (by rfl)) gT rfl ?_
     refine y_vg rfl rfl rfl (r_sub rfl rfl (by omega)) gT rfl ?_
     refine y_vg rfl rfl rfl (r_ia (k := (c.after - 1).toNat) Try.underlying33 ty39 (by rw [hpA]; rfl) rfl (by omega) (by omega)) gT rfl ?_
     refine y_vg rfl rfl rfl (r_fa fo39_1 rfl) gT rfl ?_
     refine y_vg rfl rfl rfl (r_ldr ty3 rfl (fun w hw => by rw [Nat.add_assoc]; exact hat w (Gets.own gS hw) _ _ (cells_get odc_len L _ _ ho 1 _ rfl))) gT rfl ?_
     refine y_vg rfl rfl rfl (r_fa fo41_5 rfl) gT rfl ?_
     refine y_vg rfl rfl rfl (r_ld ty3 rfl pK (by rfl)) gT rfl ?_
     refine y_vg rfl rfl rfl (r_ne rfl rfl) gT rfl ?_
     refine y_v rfl (r_pk_f rfl rfl) gT rfl ?_
     refine XH.nil ?_
     refine hK9 _ _ ?_
     refine XC.keep [(0, _), (3, _), (4, _), (52, _)] ⟨rfl, rfl, rfl, rfl, trivial⟩ ?_
     refine XC.cond_d rfl (fun hc5 => ?_) (fun hc5 => ?_)
     ·refine XC.seq fun K11 hK11 => ?_
      refine XC.region ?_
      refine x_v (r_bd (vs := [_]) rfl ⟨rfl, rfl⟩ (bd62_0 _)) rfl ?_
      refine x_e (r_st ty62 rfl rfl rfl rfl rfl uD oV) ?_
      refine XL.nil ?_
      refine hK11 _ _ ?_
      refine XC.keep [(4, _)] ⟨rfl, trivial⟩ ?_
      refine XC.ret ?_
      exact finc1 ty62 rfl pK (by rfl) (⟨r, L, G, k, ⟨_, _, _, rfl⟩, rfl, Ex.refl W0 k, hl, by omega⟩) gS
     ·refine XC.skip ?_
      refine hK8 _ _ ?_
      refine XC.keep [(0, _), (3, _), (4, _)] ⟨rfl, rfl, rfl, trivial⟩ ?_
      refine XC.seq fun K12 hK12 => ?_
      refine XC.draw [blk b3 41 [.int .i64 c.kind, .int .i64 c.epoch, .int .i64 c.site, .int .i64 c.op.1.n, .int .i64 c.op.1.epoch, .int .i64 c.op.1.kind, .int .i64 c.op.1.site, .int .i64 c.op.1.client, .int .i64 c.op.1.seq, str c.op.1.name, .int .i64 c.op.1.size, .slice c.op.2.1 c.op.1.hs.length c.op.2.2, .int .i64 c.after, .int .i64 c.since, .slice c.pA c.ops.length c.pc, .int .i64 c.tag], blk b 93 [.slice r.A r.n r.c, .slice r.gA r.gn r.gc, .int .i64 r.fence, .int .i64 r.set, .int .i64 r.quota, .int .i64 r.room]] true [(0, false), (1, false), (2, false), (3, false), (4, false), (5, false), (6, false), (7, false), (8, false), (9, false), (10, true)] (by kernel_rfl) (by kernel_rfl) ?_
      refine y_v rfl (r_mv rfl) gT rfl ?_
      refine y_v rfl (r_mv rfl) gT rfl ?_
      refine y_v rfl (r_nc rfl) gT rfl ?_
      refine y_v rfl (r_fa fo93_3 rfl) gT rfl ?_
      refine y_v rfl (r_ld ty3 rfl pK (by rfl)) gT rfl ?_
      refine y_v rfl (r_fa fo41_4 rfl) gT rfl ?_
      refine y_v rfl (r_ld ty3 rfl pK (by rfl)) gT rfl ?_
      refine y_v rfl (r_max rfl rfl) gT rfl ?_
      refine y_v rfl (r_nc rfl) gT rfl ?_
      refine y_v rfl (r_fa fo93_3 rfl) gT rfl ?_
      refine y_e rfl (r_st ty3 rfl rfl rfl rfl rfl uD oV) (fun h => absurd h (by decide)) ?_
      refine XH.nil ?_
      refine hK12 _ _ ?_
      refine XC.keep [(3, _), (4, _)] ⟨rfl, rfl, trivial⟩ ?_
      refine XC.seq fun K13 hK13 => ?_
      refine XC.region ?_
      refine x_v (r_fa fo41_4 rfl) rfl ?_
      refine x_v (r_ld ty3 rfl pK (by rfl)) rfl ?_
      refine x_v (r_fa fo41_5 rfl) rfl ?_
      refine x_v (r_ld ty3 rfl pK (by rfl)) rfl ?_
      refine x_v (r_bd (vs := [_, _]) rfl ⟨rfl, rfl, rfl⟩ (bd31_0_1 _ _)) rfl ?_
      refine x_v (r_bd (vs := [_]) rfl ⟨rfl, rfl⟩ (bd62_1 _ _)) rfl ?_
      refine x_e (r_st ty62 rfl rfl rfl rfl rfl uD oV) ?_
      refine XL.nil ?_
      refine hK13 _ _ ?_
      refine XC.keep [(4, _)] ⟨rfl, trivial⟩ ?_
      refine XC.ret ?_
      exact finc1 ty62 rfl pK (by rfl) (⟨{ r with set := max r.set c.after }, L, G, k, ⟨_, _, _, rfl⟩, rfl, Ex.refl W0 k, hl.settled _, by dsimp only; omega⟩) gS
end Go.Proofs.Ytheilpcbilnadaa

/- Crowns: the reference's ledger: a client's operation. -/
import Derived.Test.YtheilpcbilnadaaCrown31
namespace Go.Proofs.Ytheilpcbilnadaa
open Go.Sx
set_option linter.unusedVariables false

theorem hold_go : ∀ (M : List Pop) (s : Fs), (M.foldl foldR s).hold = M.foldl holdR s.hold
 | [], _ => rfl
 | p :: M, s => by
  rw [List.foldl_cons, List.foldl_cons, hold_go M]
  congr 1
  unfold foldR holdR; split <;> rfl
theorem hold_eq (M : List Pop) : (foldOf M).hold = holdOf M := hold_go M fs0
theorem last3 {s : Fs} {o : Pop} (h : o.kind = 3) (c : Int) : (foldR s o).last c = s.last c := by unfold foldR; rw [if_pos h]
theorem lastN {s : Fs} {o : Pop} {c : Int} (h : ¬ c = o.client) : (foldR s o).last c = s.last c := by
 unfold foldR; split
 ·rfl
 ·dsimp only [lastUp]; rw [if_neg h]
theorem lastY {s : Fs} {o : Pop} (h : ¬ o.kind = 3) : (foldR s o).last o.client = some o := by
 unfold foldR; rw [if_neg h]; dsimp only [lastUp]; rw [if_pos rfl]
set_option maxHeartbeats 2000000 in
theorem rdo_tr {W0 : World} {Fr : List HP} {k : HP} {l : Ls} {r : Rh} {L G : List Od} (b : Nat) (c : Cm) (hl : RI W0 k l r L G) (hro : RdO W0 k c.op) (hok : opOk (opIn c) = true) (hroom : l.room ≤ 64) :
  Tr W0 Try.prog 47 [.pointer (some ⟨b, 0, none⟩), .agg (cmc c).toArray] (blk b 93 (rdc r) :: sl r.A r.n r.c 39 9 (cells odc L) :: sl r.gA r.gn r.gc 39 9 (cells odc G) :: k :: Fr) (RPost W0 k Fr b r.gn (doL l c)) := by
 have hlen := hl.len
 have hLn := hl.n
 have ho := hl.o
 have hf := hl.f
 have hq := hl.q
 have hrm := hl.rm
 have hzs := hl.p.szs.2
 have hpl := hl.p.len
 have hsz := size_of (o := opIn c) hok
 have hsz2 : 0 ≤ c.op.1.size ∧ c.op.1.size ≤ 512 := hsz
 have hzz : ∀ o ∈ fst1 L, 0 ≤ o.size ∧ o.size ≤ 512 := fun o q => by rw [ho] at q; obtain ⟨i, hi⟩ := List.mem_iff_getElem?.1 q; exact size_of (hl.p.at_ i o hi).2
 refine Entry.tr (N := 144) (rs := [.cell 4 62]) ⟨_, Try.func47, rfl, by kernel_rfl, rfl, rfl⟩ rfl ?_
 refine XC.seq fun K1 hK1 => ?_
 refine XC.region ?_
 refine x_a (r_bx rfl rfl) rfl fun b3 => ?_
 unfold cmc
 refine x_a (r_al ty62 rfl) rfl fun b4 => ?_
 refine XL.nil ?_
 refine hK1 _ _ ?_
 refine XC.keep [(0, _), (3, _), (4, _)] ⟨rfl, rfl, rfl, trivial⟩ ?_
 refine XC.seq fun K2 hK2 => ?_
 refine XC.region ?_
 refine x_v (r_mv rfl) rfl ?_
 refine x_c (r_call0 (args := [_]) ⟨rfl, rfl⟩ (rhold_tr (r := r) b L hLn (by omega)) gS) rfl ?_
 rintro _ _ ⟨rfl, rfl⟩
 rw [ho, ← hold_eq]
 refine x_a (r_al ty69 rfl) rfl fun b5 => ?_
 refine x_e (r_st ty69 rfl rfl rfl rfl rfl uD oV) ?_
 refine XL.nil ?_
 refine hK2 _ _ ?_
 refine XC.keep [(0, _), (3, _), (4, _), (5, _)] ⟨rfl, rfl, rfl, rfl, trivial⟩ ?_
 refine XC.seq fun K3 hK3 => ?_
 refine XC.seq fun K4 hK4 => ?_
 refine XC.slnn (A := r.A) pK fun hsl hsA => ?_
 have hrd : Rdb W0 [sl r.A r.n r.c 39 9 (cells odc L)] r.A r.n 9 (cells odc L) := Rdb.of_sl (.head _ _) hsl hsA
 unfold rdc
 refine XC.draw [blk b3 41 [.int .i64 c.kind, .int .i64 c.epoch, .int .i64 c.site, .int .i64 c.op.1.n, .int .i64 c.op.1.epoch, .int .i64 c.op.1.kind, .int .i64 c.op.1.site, .int .i64 c.op.1.client, .int .i64 c.op.1.seq, str c.op.1.name, .int .i64 c.op.1.size, .slice c.op.2.1 c.op.1.hs.length c.op.2.2, .int .i64 c.after, .int .i64 c.since, .slice c.pA c.ops.length c.pc, .int .i64 c.tag], blk b 93 [.slice r.A r.n r.c, .slice r.gA r.gn r.gc, .int .i64 r.fence, .int .i64 r.set, .int .i64 r.quota, .int .i64 r.room], blk b5 69 [.int .i64 (foldOf l.ops).hold.1, .int .i64 (foldOf l.ops).hold.2]] false [(0, false), (1, false), (2, false), (3, false), (4, false), (5, false), (6, false), (7, false), (8, false), (9, false), (10, false), (11, false), (12, false), (13, false), (14, false), (15, false), (16, false), (17, false), (18, false), (19, false), (20, false)] (by kernel_rfl) (by kernel_rfl) ?_
 refine y_v rfl (r_fa fo41_1 rfl) gT rfl ?_
 refine y_v rfl (r_ld ty3 rfl pK (by rfl)) gT rfl ?_
 refine y_v rfl (r_mv rfl) gT rfl ?_
 refine y_v rfl (r_nc rfl) gT rfl ?_
 refine y_v rfl (r_fa fo93_2 rfl) gT rfl ?_
 refine y_v rfl (r_ld ty3 rfl pK (by rfl)) gT rfl ?_
 refine y_v rfl (r_ne rfl rfl) gT rfl ?_
 refine y_v rfl (r_mv rfl) gT rfl ?_
 refine XH.splitd 19 rfl (fun hg19 => ?_) (fun hg19 => ?_)
 ·refine y_un rfl rfl rfl (fun _ h => Gets.own gS h) rfl ?_
  refine y_un rfl rfl rfl (fun _ h => Gets.own gS h) rfl ?_
  refine y_un rfl rfl rfl (fun _ h => Gets.own gS h) rfl ?_
  refine y_un rfl rfl rfl (fun _ h => Gets.own gS h) rfl ?_
  refine y_un rfl rfl rfl (fun _ h => Gets.own gS h) rfl ?_
  refine y_v rfl (r_pk_t rfl rfl) gT rfl ?_
  refine y_v rfl (r_mv rfl) gT rfl ?_
  refine y_un rfl rfl rfl (fun _ h => Gets.own gS h) rfl ?_
  refine y_un rfl rfl rfl (fun _ h => Gets.own gS h) rfl ?_
  refine y_un rfl rfl rfl (fun _ h => Gets.own gS h) rfl ?_
  refine y_un rfl rfl rfl (fun _ h => Gets.own gS h) rfl ?_
  refine y_un rfl rfl rfl (fun _ h => Gets.own gS h) rfl ?_
  refine y_v rfl (r_pk_t rfl rfl) gT rfl ?_
  refine XH.nil ?_
  refine hK4 _ _ ?_
  refine XC.keep [(0, _), (3, _), (4, _), (32, _)] ⟨rfl, rfl, rfl, rfl, trivial⟩ ?_
  refine XC.cond_t rfl ?_
  refine XC.seq fun K5 hK5 => ?_
  refine XC.region ?_
  refine x_v (r_bd (vs := [_]) rfl ⟨rfl, rfl⟩ (bd62_0 _)) rfl ?_
  refine x_e (r_st ty62 rfl rfl rfl rfl rfl uD oV) ?_
  refine XL.nil ?_
  refine hK5 _ _ ?_
  refine XC.keep [(4, _)] ⟨rfl, trivial⟩ ?_
  refine XC.ret ?_
  rw [do_no (fun q => by obtain ⟨q1, q2, q3, q4, q5, q6, q7⟩ := q; first | omega | exact q4 ⟨by assumption, by assumption⟩ | exact q5 ⟨by assumption, by omega⟩ | exact q6 ⟨by assumption, by simp_all⟩ | (have := q3 _ hlast; omega) | (have e1 := congrArg Prod.fst q2; have e2 := congrArg Prod.snd q2; dsimp only at e1 e2; omega))]
  exact finc1 ty62 rfl pK (by rfl) (⟨r, L, G, k, ⟨_, _, _, rfl⟩, rfl, Ex.refl W0 k, hl, by omega⟩) gS
 ·refine y_vg rfl rfl rfl (r_fa fo69_0 rfl) gT rfl ?_
  refine y_vg rfl rfl rfl (r_ld ty3 rfl pK (by rfl)) gT rfl ?_
  refine y_vg rfl rfl rfl (r_fa fo41_1 rfl) gT rfl ?_
  refine y_vg rfl rfl rfl (r_ld ty3 rfl pK (by rfl)) gT rfl ?_
  refine y_vg rfl rfl rfl (r_ne rfl rfl) gT rfl ?_
  refine y_v rfl (r_pk_f rfl rfl) gT rfl ?_
  refine y_v rfl (r_mv rfl) gT rfl ?_
  refine XH.splitd 26 rfl (fun hg26 => ?_) (fun hg26 => ?_)
  ·refine y_un rfl rfl rfl (fun _ h => Gets.own gS h) rfl ?_
   refine y_un rfl rfl rfl (fun _ h => Gets.own gS h) rfl ?_
   refine y_un rfl rfl rfl (fun _ h => Gets.own gS h) rfl ?_
   refine y_un rfl rfl rfl (fun _ h => Gets.own gS h) rfl ?_
   refine y_un rfl rfl rfl (fun _ h => Gets.own gS h) rfl ?_
   refine y_v rfl (r_pk_t rfl rfl) gT rfl ?_
   refine XH.nil ?_
   refine hK4 _ _ ?_
   refine XC.keep [(0, _), (3, _), (4, _), (32, _)] ⟨rfl, rfl, rfl, rfl, trivial⟩ ?_
   refine XC.cond_t rfl ?_
   refine XC.seq fun K6 hK6 => ?_
   refine XC.region ?_
   refine x_v (r_bd (vs := [_]) rfl ⟨rfl, rfl⟩ (bd62_0 _)) rfl ?_
   refine x_e (r_st ty62 rfl rfl rfl rfl rfl uD oV) ?_
   refine XL.nil ?_
   refine hK6 _ _ ?_
   refine XC.keep [(4, _)] ⟨rfl, trivial⟩ ?_
   refine XC.ret ?_
   rw [do_no (fun q => by obtain ⟨q1, q2, q3, q4, q5, q6, q7⟩ := q; first | omega | exact q4 ⟨by assumption, by assumption⟩ | exact q5 ⟨by assumption, by omega⟩ | exact q6 ⟨by assumption, by simp_all⟩ | (have := q3 _ hlast; omega) | (have e1 := congrArg Prod.fst q2; have e2 := congrArg Prod.snd q2; dsimp only at e1 e2; omega))]
   exact finc1 ty62 rfl pK (by rfl) (⟨r, L, G, k, ⟨_, _, _, rfl⟩, rfl, Ex.refl W0 k, hl, by omega⟩) gS
  ·refine y_vg rfl rfl rfl (r_fa fo69_1 rfl) gT rfl ?_
   refine y_vg rfl rfl rfl (r_ld ty3 rfl pK (by rfl)) gT rfl ?_
   refine y_vg rfl rfl rfl (r_fa fo41_2 rfl) gT rfl ?_
   refine y_vg rfl rfl rfl (r_ld ty3 rfl pK (by rfl)) gT rfl ?_
   refine y_vg rfl rfl rfl (r_ne rfl rfl) gT rfl ?_
   refine y_v rfl (r_pk_f rfl rfl) gT rfl ?_
   refine XH.nil ?_
   refine hK4 _ _ ?_
   refine XC.keep [(0, _), (3, _), (4, _), (32, _)] ⟨rfl, rfl, rfl, rfl, trivial⟩ ?_
   refine XC.cond_d rfl (fun hc3 => ?_) (fun hc3 => ?_)
   ·refine XC.seq fun K7 hK7 => ?_
    refine XC.region ?_
    refine x_v (r_bd (vs := [_]) rfl ⟨rfl, rfl⟩ (bd62_0 _)) rfl ?_
    refine x_e (r_st ty62 rfl rfl rfl rfl rfl uD oV) ?_
    refine XL.nil ?_
    refine hK7 _ _ ?_
    refine XC.keep [(4, _)] ⟨rfl, trivial⟩ ?_
    refine XC.ret ?_
    rw [do_no (fun q => by obtain ⟨q1, q2, q3, q4, q5, q6, q7⟩ := q; first | omega | exact q4 ⟨by assumption, by assumption⟩ | exact q5 ⟨by assumption, by omega⟩ | exact q6 ⟨by assumption, by simp_all⟩ | (have := q3 _ hlast; omega) | (have e1 := congrArg Prod.fst q2; have e2 := congrArg Prod.snd q2; dsimp only at e1 e2; omega))]
    exact finc1 ty62 rfl pK (by rfl) (⟨r, L, G, k, ⟨_, _, _, rfl⟩, rfl, Ex.refl W0 k, hl, by omega⟩) gS
   ·refine XC.skip ?_
    refine hK3 _ _ ?_
    refine XC.keep [(0, _), (3, _), (4, _)] ⟨rfl, rfl, rfl, trivial⟩ ?_
    refine XC.seqcut (σ := Unit) (fun u => [(0, .pointer (some ⟨b, 0, none⟩)), (3, .pointer (some ⟨b3, 0, none⟩)), (4, .pointer (some ⟨b4, 0, none⟩))]) (fun u => blk b3 41 [.int .i64 c.kind, .int .i64 c.epoch, .int .i64 c.site, .int .i64 c.op.1.n, .int .i64 c.op.1.epoch, .int .i64 c.op.1.kind, .int .i64 c.op.1.site, .int .i64 c.op.1.client, .int .i64 c.op.1.seq, str c.op.1.name, .int .i64 c.op.1.size, .slice c.op.2.1 c.op.1.hs.length c.op.2.2, .int .i64 c.after, .int .i64 c.since, .slice c.pA c.ops.length c.pc, .int .i64 c.tag] :: blk b4 62 [.int .i64 0, .int .i64 0, .int .i64 0] :: blk b 93 [.slice r.A r.n r.c, .slice r.gA r.gn r.gc, .int .i64 r.fence, .int .i64 r.set, .int .i64 r.quota, .int .i64 r.room] :: sl r.A r.n r.c 39 9 (cells odc L) :: sl r.gA r.gn r.gc 39 9 (cells odc G) :: k :: Fr) (fun u => (foldOf l.ops).hold = (c.epoch, c.site) ∧ ∀ was, (foldOf l.ops).last c.op.1.client = some was → was.seq < c.op.1.seq) ?_ ?_
    ·refine XC.seq fun K9 hK9 => ?_
     have hho : (foldOf l.ops).hold = (c.epoch, c.site) := Prod.ext (by omega) (by omega)
     refine XC.region ?_
     refine x_v (r_mv rfl) rfl ?_
     refine x_v (r_nc rfl) rfl ?_
     refine x_v (r_fa fo93_0 rfl) rfl ?_
     refine x_v (r_ld ty33 rfl pK (by rfl)) rfl ?_
     refine x_v (r_lensl Try.underlying33 rfl) rfl ?_
     refine x_v (r_sub rfl rfl (by omega)) rfl ?_
     refine x_v (r_as rfl) rfl ?_
     refine XL.nil ?_
     refine hK9 _ _ ?_
     refine XC.keep [(0, _), (3, _), (4, _), (6, _)] ⟨rfl, rfl, rfl, rfl, trivial⟩ ?_
     refine XC.block ?_
     refine XC.loop (σ := Nat) (fun s => [(0, .pointer (some ⟨b, 0, none⟩)), (3, .pointer (some ⟨b3, 0, none⟩)), (4, .pointer (some ⟨b4, 0, none⟩)), (6, .int .i64 ((s : Int) - 1))]) (fun s => blk b3 41 [.int .i64 c.kind, .int .i64 c.epoch, .int .i64 c.site, .int .i64 c.op.1.n, .int .i64 c.op.1.epoch, .int .i64 c.op.1.kind, .int .i64 c.op.1.site, .int .i64 c.op.1.client, .int .i64 c.op.1.seq, str c.op.1.name, .int .i64 c.op.1.size, .slice c.op.2.1 c.op.1.hs.length c.op.2.2, .int .i64 c.after, .int .i64 c.since, .slice c.pA c.ops.length c.pc, .int .i64 c.tag] :: blk b4 62 [.int .i64 0, .int .i64 0, .int .i64 0] :: blk b 93 [.slice r.A r.n r.c, .slice r.gA r.gn r.gc, .int .i64 r.fence, .int .i64 r.set, .int .i64 r.quota, .int .i64 r.room] :: sl r.A r.n r.c 39 9 (cells odc L) :: sl r.gA r.gn r.gc 39 9 (cells odc G) :: k :: Fr) (fun s => s ≤ r.n ∧ (foldOf l.ops).last c.op.1.client = (foldOf (fst1 (L.take s))).last c.op.1.client) (fun s => s) r.n ?_ ⟨rfl, rfl, rfl, rfl, trivial⟩ gS ?_
     ·exact ⟨Nat.le_refl _, by rw [List.take_of_length_le (by omega), ho]⟩
     rintro s ⟨hi, hg⟩
     refine XC.seq fun K10 hK10 => ?_
     refine XC.seq fun K11 hK11 => ?_
     refine XC.region ?_
     refine x_v (r_mv rfl) rfl ?_
     refine x_v (r_ge rfl rfl) rfl ?_
     refine XL.nil ?_
     refine hK11 _ _ ?_
     refine XC.keep [(0, _), (3, _), (4, _), (6, _), (41, _)] ⟨rfl, rfl, rfl, rfl, rfl, trivial⟩ ?_
     refine XC.cond_d rfl (fun hc4 => ?_) (fun hc4 => ?_)
     ·refine XC.skip ?_
      refine hK10 _ _ ?_
      refine XC.keep [(0, _), (3, _), (4, _), (6, _)] ⟨rfl, rfl, rfl, rfl, trivial⟩ ?_
      refine XC.seq fun K12 hK12 => ?_
      refine XC.block ?_
      refine XC.seq fun K13 hK13 => ?_
      obtain ⟨i, rfl⟩ : ∃ i, s = i + 1 := ⟨s - 1, by omega⟩
      obtain ⟨o, hoi⟩ : ∃ o, L[i]? = some o := ⟨_, List.getElem?_eq_getElem (by omega)⟩
      have hsn := fold_snoc1 hoi
      obtain ⟨sb, so, hpA, hat⟩ := hrd.at_ (by omega)
      refine XC.region ?_
      refine x_v (r_mv rfl) rfl ?_
      refine x_v (r_nc rfl) rfl ?_
      refine x_v (r_fa fo93_0 rfl) rfl ?_
      refine x_v (r_ld ty33 rfl pK (by rfl)) rfl ?_
      refine x_v (r_mv rfl) rfl ?_
      refine x_v (r_ia (k := i) Try.underlying33 ty39 (by rw [hpA]; rfl) rfl (by omega) (by omega)) rfl ?_
      refine x_v (r_ldar (l' := odc o) ty39 rfl rfl (fun w hw j u hu => by rw [Nat.add_assoc]; exact hat w (Gets.own gS hw) _ u (cells_get odc_len L _ _ hoi j u hu))) rfl ?_
      rw [odc_def o]
      refine x_a (r_al ty39 rfl) rfl fun b7 => ?_
      refine x_e (r_st ty39 rfl rfl rfl rfl rfl uD oV) ?_
      refine XL.nil ?_
      refine hK13 _ _ ?_
      refine XC.keep [(0, _), (3, _), (4, _), (6, _), (7, _)] ⟨rfl, rfl, rfl, rfl, rfl, trivial⟩ ?_
      refine XC.seq fun K14 hK14 => ?_
      refine XC.seq fun K15 hK15 => ?_
      refine XC.region ?_
      refine x_v (r_fa fo39_2 rfl) rfl ?_
      refine x_v (r_ld ty3 rfl pK (by rfl)) rfl ?_
      refine x_v (r_eq rfl rfl) rfl ?_
      refine x_v (r_mv rfl) rfl ?_
      refine XL.splitd 54 rfl (fun hg54 => ?_) (fun hg54 => ?_)
      ·refine x_unwant rfl rfl rfl rfl rfl ?_
       refine x_unwant rfl rfl rfl rfl rfl ?_
       refine x_unwant rfl rfl rfl rfl rfl ?_
       refine x_unwant rfl rfl rfl rfl rfl ?_
       refine x_unwant rfl rfl rfl rfl rfl ?_
       refine x_unwant rfl rfl rfl rfl rfl ?_
       refine x_v (r_pk_t rfl rfl) rfl ?_
       refine XL.nil ?_
       refine hK15 _ _ ?_
       refine XC.keep [(0, _), (3, _), (4, _), (6, _), (7, _), (61, _)] ⟨rfl, rfl, rfl, rfl, rfl, rfl, trivial⟩ ?_
       refine XC.cond_t rfl ?_
       refine XC.exit rfl ?_
       refine hK12 _ _ ?_
       refine XC.keep [(0, _), (3, _), (4, _), (6, _)] ⟨rfl, rfl, rfl, rfl, trivial⟩ ?_
       refine XC.region ?_
       refine x_v (r_mv rfl) rfl ?_
       refine x_v (r_sub rfl rfl (by omega)) rfl ?_
       refine x_v (r_as rfl) rfl ?_
       refine XL.nil ?_
       rw [show (((i + 1 : Nat) : Int) - 1 - 1) = (i : Int) - 1 by omega]
       refine ⟨i, ?_, ?_, ⟨rfl, rfl, rfl, rfl, trivial⟩, gS⟩
       ·exact ⟨by omega, by (rw [hg, hsn]; by_cases h3 : o.1.kind = 3; exact last3 h3 _; exact lastN (fun e => by omega))⟩
       ·omega
      ·refine x_want rfl rfl rfl ?_
       refine x_v (r_fa fo39_4 rfl) rfl ?_
       refine x_want rfl rfl rfl ?_
       refine x_v (r_ld ty3 rfl pK (by rfl)) rfl ?_
       refine x_want rfl rfl rfl ?_
       refine x_v (r_fa fo41_3 rfl) rfl ?_
       refine x_want rfl rfl rfl ?_
       refine x_v (r_fa fo39_4 rfl) rfl ?_
       refine x_want rfl rfl rfl ?_
       refine x_v (r_ld ty3 rfl pK (by rfl)) rfl ?_
       refine x_want rfl rfl rfl ?_
       refine x_v (r_ne rfl rfl) rfl ?_
       refine x_v (r_pk_f rfl rfl) rfl ?_
       refine XL.nil ?_
       refine hK15 _ _ ?_
       refine XC.keep [(0, _), (3, _), (4, _), (6, _), (7, _), (61, _)] ⟨rfl, rfl, rfl, rfl, rfl, rfl, trivial⟩ ?_
       refine XC.cond_d rfl (fun hc6 => ?_) (fun hc6 => ?_)
       ·refine XC.exit rfl ?_
        refine hK12 _ _ ?_
        refine XC.keep [(0, _), (3, _), (4, _), (6, _)] ⟨rfl, rfl, rfl, rfl, trivial⟩ ?_
        refine XC.region ?_
        refine x_v (r_mv rfl) rfl ?_
        refine x_v (r_sub rfl rfl (by omega)) rfl ?_
        refine x_v (r_as rfl) rfl ?_
        refine XL.nil ?_
        rw [show (((i + 1 : Nat) : Int) - 1 - 1) = (i : Int) - 1 by omega]
        refine ⟨i, ?_, ?_, ⟨rfl, rfl, rfl, rfl, trivial⟩, gS⟩
        ·exact ⟨by omega, by (rw [hg, hsn]; by_cases h3 : o.1.kind = 3; exact last3 h3 _; exact lastN (fun e => by omega))⟩
        ·omega
       ·refine XC.skip ?_
        refine hK14 _ _ ?_
        refine XC.keep [(0, _), (3, _), (4, _), (7, _)] ⟨rfl, rfl, rfl, rfl, trivial⟩ ?_
        refine XC.seq fun K16 hK16 => ?_
        refine XC.seq fun K17 hK17 => ?_
        have hcl : o.1.client = c.op.1.client := by omega
        have hlast : (foldOf l.ops).last c.op.1.client = some o.1 := by rw [hg, hsn, ← hcl]; exact lastY (by omega)
        refine XC.region ?_
        refine x_v (r_fa fo39_5 rfl) rfl ?_
        refine x_v (r_ld ty3 rfl pK (by rfl)) rfl ?_
        refine x_v (r_fa fo41_3 rfl) rfl ?_
        refine x_v (r_fa fo39_5 rfl) rfl ?_
        refine x_v (r_ld ty3 rfl pK (by rfl)) rfl ?_
        refine x_v (r_gt rfl rfl) rfl ?_
        refine XL.nil ?_
        refine hK17 _ _ ?_
        refine XC.keep [(0, _), (3, _), (4, _), (7, _), (67, _)] ⟨rfl, rfl, rfl, rfl, rfl, trivial⟩ ?_
        refine XC.cond_d rfl (fun hc7 => ?_) (fun hc7 => ?_)
        ·refine XC.seq fun K18 hK18 => ?_
         refine XC.region ?_
         refine x_v (r_bd (vs := [_]) rfl ⟨rfl, rfl⟩ (bd62_0 _)) rfl ?_
         refine x_e (r_st ty62 rfl rfl rfl rfl rfl uD oV) ?_
         refine XL.nil ?_
         refine hK18 _ _ ?_
         refine XC.keep [(4, _)] ⟨rfl, trivial⟩ ?_
         refine XC.ret ?_
         rw [do_no (fun q => by obtain ⟨q1, q2, q3, q4, q5, q6, q7⟩ := q; first | omega | exact q4 ⟨by assumption, by assumption⟩ | exact q5 ⟨by assumption, by omega⟩ | exact q6 ⟨by assumption, by simp_all⟩ | (have := q3 _ hlast; omega) | (have e1 := congrArg Prod.fst q2; have e2 := congrArg Prod.snd q2; dsimp only at e1 e2; omega))]
         exact finc1 ty62 rfl pK (by rfl) (⟨r, L, G, k, ⟨_, _, _, rfl⟩, rfl, Ex.refl W0 k, hl, by omega⟩) gS
        ·refine XC.skip ?_
         refine hK16 _ _ ?_
         refine XC.keep [(0, _), (3, _), (4, _), (7, _)] ⟨rfl, rfl, rfl, rfl, trivial⟩ ?_
         refine XC.seq fun K19 hK19 => ?_
         refine XC.seq fun K20 hK20 => ?_
         refine XC.region ?_
         refine x_v (r_fa fo39_5 rfl) rfl ?_
         refine x_v (r_ld ty3 rfl pK (by rfl)) rfl ?_
         refine x_v (r_fa fo41_3 rfl) rfl ?_
         refine x_v (r_fa fo39_5 rfl) rfl ?_
         refine x_v (r_ld ty3 rfl pK (by rfl)) rfl ?_
         refine x_v (r_eq rfl rfl) rfl ?_
         refine XL.nil ?_
         refine hK20 _ _ ?_
         refine XC.keep [(0, _), (3, _), (4, _), (7, _), (74, _)] ⟨rfl, rfl, rfl, rfl, rfl, trivial⟩ ?_
         refine XC.cond_d rfl (fun hc8 => ?_) (fun hc8 => ?_)
         ·refine XC.seq fun K21 hK21 => ?_
          refine XC.region ?_
          refine x_v (r_fa fo39_0 rfl) rfl ?_
          refine x_v (r_ld ty3 rfl pK (by rfl)) rfl ?_
          refine x_v (r_fa fo39_1 rfl) rfl ?_
          refine x_v (r_ld ty3 rfl pK (by rfl)) rfl ?_
          refine x_v (r_bd (vs := [_, _]) rfl ⟨rfl, rfl, rfl⟩ (bd31_0_1 _ _)) rfl ?_
          refine x_v (r_bd (vs := [_]) rfl ⟨rfl, rfl⟩ (bd62_1 _ _)) rfl ?_
          refine x_e (r_st ty62 rfl rfl rfl rfl rfl uD oV) ?_
          refine XL.nil ?_
          refine hK21 _ _ ?_
          refine XC.keep [(4, _)] ⟨rfl, trivial⟩ ?_
          refine XC.ret ?_
          rw [do_no (fun q => by obtain ⟨q1, q2, q3, q4, q5, q6, q7⟩ := q; first | omega | exact q4 ⟨by assumption, by assumption⟩ | exact q5 ⟨by assumption, by omega⟩ | exact q6 ⟨by assumption, by simp_all⟩ | (have := q3 _ hlast; omega) | (have e1 := congrArg Prod.fst q2; have e2 := congrArg Prod.snd q2; dsimp only at e1 e2; omega))]
          exact finc1 ty62 rfl pK (by rfl) (⟨r, L, G, k, ⟨_, _, _, rfl⟩, rfl, Ex.refl W0 k, hl, by omega⟩) gS
         ·refine XC.skip ?_
          refine hK19 _ _ ?_
          refine XC.keep [(0, _), (3, _), (4, _)] ⟨rfl, rfl, rfl, trivial⟩ ?_
          refine XC.exit rfl ?_
          exact ⟨(), ⟨hho, fun was q => by rw [hlast] at q; injection q with q; rw [← q]; omega⟩, ⟨rfl, rfl, rfl, trivial⟩, gS⟩
     ·refine XC.exit rfl ?_
      exact ⟨(), ⟨hho, fun was q => by have hs0 : s = 0 := (by omega); subst hs0; rw [hg] at q; cases q⟩, ⟨rfl, rfl, rfl, trivial⟩, gS⟩
    ·rintro _ ⟨hho, hseq⟩
     refine XC.seq fun K22 hK22 => ?_
     refine XC.region ?_
     refine x_v (r_mv rfl) rfl ?_
     refine x_v (r_fa fo41_3 rfl) rfl ?_
     refine x_v (r_fa fo39_6 rfl) rfl ?_
     refine x_v (r_ld ty9 rfl pK (by rfl)) rfl ?_
     refine x_c (r_call0 (args := [_, _]) ⟨rfl, rfl, rfl⟩ (rsheet_tr (r := r) b L c.op.1.name hLn (by omega)) gS) rfl ?_
     rintro _ _ ⟨⟨Az, nz, cz, z, rfl, hz86⟩, rfl⟩
     unfold rdc
     rw [ho]
     refine x_v (r_mv rfl) rfl ?_
     refine x_v (r_ex rfl rfl) rfl ?_
     refine x_v (r_ex rfl rfl) rfl ?_
     refine x_a (r_al ty37 rfl) rfl fun b8 => ?_
     refine x_e (r_st ty37 rfl rfl rfl rfl rfl uD oV) ?_
     refine x_v (r_as rfl) rfl ?_
     refine XL.nil ?_
     refine hK22 _ _ ?_
     refine XC.keep [(0, _), (3, _), (4, _), (9, _)] ⟨rfl, rfl, rfl, rfl, trivial⟩ ?_
     refine XC.seqcut (σ := Unit) (fun u => [(0, .pointer (some ⟨b, 0, none⟩)), (3, .pointer (some ⟨b3, 0, none⟩)), (4, .pointer (some ⟨b4, 0, none⟩)), (9, .bool ((foldOf l.ops).live c.op.1.name).isSome)]) (fun u => blk b3 41 [.int .i64 c.kind, .int .i64 c.epoch, .int .i64 c.site, .int .i64 c.op.1.n, .int .i64 c.op.1.epoch, .int .i64 c.op.1.kind, .int .i64 c.op.1.site, .int .i64 c.op.1.client, .int .i64 c.op.1.seq, str c.op.1.name, .int .i64 c.op.1.size, .slice c.op.2.1 c.op.1.hs.length c.op.2.2, .int .i64 c.after, .int .i64 c.since, .slice c.pA c.ops.length c.pc, .int .i64 c.tag] :: blk b4 62 [.int .i64 0, .int .i64 0, .int .i64 0] :: blk b 93 [.slice r.A r.n r.c, .slice r.gA r.gn r.gc, .int .i64 r.fence, .int .i64 r.set, .int .i64 r.quota, .int .i64 r.room] :: sl r.A r.n r.c 39 9 (cells odc L) :: sl r.gA r.gn r.gc 39 9 (cells odc G) :: k :: Fr) (fun u => ¬ (c.op.1.kind = 1 ∧ ((foldOf l.ops).live c.op.1.name).isSome = true)) ?_ ?_
     ·refine XC.seq fun K24 hK24 => ?_
      refine XC.region ?_
      refine x_v (r_fa fo41_3 rfl) rfl ?_
      refine x_v (r_fa fo39_2 rfl) rfl ?_
      refine x_v (r_ld ty3 rfl pK (by rfl)) rfl ?_
      refine x_v (r_eq rfl rfl) rfl ?_
      refine x_v (r_mv rfl) rfl ?_
      refine XL.splitd 93 rfl (fun hg93 => ?_) (fun hg93 => ?_)
      ·refine x_want rfl rfl rfl ?_
       refine x_v (r_mv rfl) rfl ?_
       refine x_v (r_pk_t rfl rfl) rfl ?_
       refine XL.nil ?_
       refine hK24 _ _ ?_
       refine XC.keep [(0, _), (3, _), (4, _), (9, _), (95, _)] ⟨rfl, rfl, rfl, rfl, rfl, trivial⟩ ?_
       refine XC.cond rfl (fun hc9 => ?_) (fun hc9 => ?_)
       ·refine XC.seq fun K25 hK25 => ?_
        refine XC.region ?_
        refine x_v (r_bd (vs := [_]) rfl ⟨rfl, rfl⟩ (bd62_0 _)) rfl ?_
        refine x_e (r_st ty62 rfl rfl rfl rfl rfl uD oV) ?_
        refine XL.nil ?_
        refine hK25 _ _ ?_
        refine XC.keep [(4, _)] ⟨rfl, trivial⟩ ?_
        refine XC.ret ?_
        rw [do_no (fun q => by obtain ⟨q1, q2, q3, q4, q5, q6, q7⟩ := q; first | omega | exact q4 ⟨by assumption, by assumption⟩ | exact q5 ⟨by assumption, by omega⟩ | exact q6 ⟨by assumption, by simp_all⟩ | (have := q3 _ hlast; omega) | (have e1 := congrArg Prod.fst q2; have e2 := congrArg Prod.snd q2; dsimp only at e1 e2; omega))]
        exact finc1 ty62 rfl pK (by rfl) (⟨r, L, G, k, ⟨_, _, _, rfl⟩, rfl, Ex.refl W0 k, hl, by omega⟩) gS
       ·refine XC.skip ?_
        exact ⟨(), (by rintro ⟨q1, q2⟩; first | omega | simp_all), ⟨rfl, rfl, rfl, rfl, trivial⟩, gS⟩
      ·refine x_unwant rfl rfl rfl rfl rfl ?_
       refine x_v (r_pk_f rfl rfl) rfl ?_
       refine XL.nil ?_
       refine hK24 _ _ ?_
       refine XC.keep [(0, _), (3, _), (4, _), (9, _), (95, _)] ⟨rfl, rfl, rfl, rfl, rfl, trivial⟩ ?_
       refine XC.cond_f rfl ?_
       refine XC.skip ?_
       exact ⟨(), (by rintro ⟨q1, q2⟩; first | omega | simp_all), ⟨rfl, rfl, rfl, rfl, trivial⟩, gS⟩
     ·rintro _ hq4
      refine XC.seqcut (σ := Unit) (fun u => [(0, .pointer (some ⟨b, 0, none⟩)), (3, .pointer (some ⟨b3, 0, none⟩)), (4, .pointer (some ⟨b4, 0, none⟩)), (9, .bool ((foldOf l.ops).live c.op.1.name).isSome)]) (fun u => blk b3 41 [.int .i64 c.kind, .int .i64 c.epoch, .int .i64 c.site, .int .i64 c.op.1.n, .int .i64 c.op.1.epoch, .int .i64 c.op.1.kind, .int .i64 c.op.1.site, .int .i64 c.op.1.client, .int .i64 c.op.1.seq, str c.op.1.name, .int .i64 c.op.1.size, .slice c.op.2.1 c.op.1.hs.length c.op.2.2, .int .i64 c.after, .int .i64 c.since, .slice c.pA c.ops.length c.pc, .int .i64 c.tag] :: blk b4 62 [.int .i64 0, .int .i64 0, .int .i64 0] :: blk b 93 [.slice r.A r.n r.c, .slice r.gA r.gn r.gc, .int .i64 r.fence, .int .i64 r.set, .int .i64 r.quota, .int .i64 r.room] :: sl r.A r.n r.c 39 9 (cells odc L) :: sl r.gA r.gn r.gc 39 9 (cells odc G) :: k :: Fr) (fun u => ¬ (c.op.1.kind = 1 ∧ l.quota < (foldOf l.ops).used + c.op.1.size)) ?_ ?_
      ·refine XC.seq fun K27 hK27 => ?_
       refine XC.draw [blk b3 41 [.int .i64 c.kind, .int .i64 c.epoch, .int .i64 c.site, .int .i64 c.op.1.n, .int .i64 c.op.1.epoch, .int .i64 c.op.1.kind, .int .i64 c.op.1.site, .int .i64 c.op.1.client, .int .i64 c.op.1.seq, str c.op.1.name, .int .i64 c.op.1.size, .slice c.op.2.1 c.op.1.hs.length c.op.2.2, .int .i64 c.after, .int .i64 c.since, .slice c.pA c.ops.length c.pc, .int .i64 c.tag], blk b 93 [.slice r.A r.n r.c, .slice r.gA r.gn r.gc, .int .i64 r.fence, .int .i64 r.set, .int .i64 r.quota, .int .i64 r.room]] false [(0, false), (1, false), (2, false), (3, false), (4, false), (5, false), (7, false), (8, false), (9, false), (10, false), (12, false), (13, false), (14, false), (15, false), (6, true), (11, false), (16, false), (17, false)] (by kernel_rfl) (by kernel_rfl) ?_
       refine y_v rfl (r_fa fo41_3 rfl) gT rfl ?_
       refine y_v rfl (r_fa fo39_2 rfl) gT rfl ?_
       refine y_v rfl (r_ld ty3 rfl pK (by rfl)) gT rfl ?_
       refine y_v rfl (r_eq rfl rfl) gT rfl ?_
       refine y_v rfl (r_mv rfl) gT rfl ?_
       refine XH.splitd 101 rfl (fun hg101 => ?_) (fun hg101 => ?_)
       ·refine y_vg rfl rfl rfl (r_mv rfl) gT rfl ?_
        refine y_vg rfl rfl rfl (r_fa fo41_3 rfl) gT rfl ?_
        refine y_vg rfl rfl rfl (r_fa fo39_7 rfl) gT rfl ?_
        refine y_vg rfl rfl rfl (r_fa fo37_0 rfl) gT rfl ?_
        refine y_vg rfl rfl rfl (r_ld ty3 rfl pK (by rfl)) gT rfl ?_
        refine y_vg rfl rfl rfl (r_mv rfl) gT rfl ?_
        refine y_vg rfl rfl rfl (r_nc rfl) gT rfl ?_
        refine y_vg rfl rfl rfl (r_fa fo93_4 rfl) gT rfl ?_
        refine y_vg rfl rfl rfl (r_ld ty3 rfl pK (by rfl)) gT rfl ?_
        refine y_cg rfl rfl rfl (r_call0 (args := [_]) ⟨rfl, rfl⟩ (rused_tr (r := r) b L hLn (by omega) hzz) gS) (by rintro _ _ _ _ ⟨rfl, rfl⟩ h; exact Gets.own gS h) rfl ?_
        rintro _ _ ⟨rfl, rfl⟩
        unfold rdc
        rw [ho]
        refine y_vg rfl rfl rfl (r_add rfl rfl (by omega)) gT rfl ?_
        refine y_vg rfl rfl rfl (r_gt rfl rfl) gT rfl ?_
        refine y_v rfl (r_pk_t rfl rfl) gT rfl ?_
        refine XH.nil ?_
        refine hK27 _ _ ?_
        refine XC.keep [(0, _), (3, _), (4, _), (9, _), (114, _)] ⟨rfl, rfl, rfl, rfl, rfl, trivial⟩ ?_
        refine XC.cond_d rfl (fun hc11 => ?_) (fun hc11 => ?_)
        ·refine XC.seq fun K28 hK28 => ?_
         refine XC.region ?_
         refine x_v (r_bd (vs := [_]) rfl ⟨rfl, rfl⟩ (bd62_0 _)) rfl ?_
         refine x_e (r_st ty62 rfl rfl rfl rfl rfl uD oV) ?_
         refine XL.nil ?_
         refine hK28 _ _ ?_
         refine XC.keep [(4, _)] ⟨rfl, trivial⟩ ?_
         refine XC.ret ?_
         rw [do_no (fun q => by obtain ⟨q1, q2, q3, q4, q5, q6, q7⟩ := q; first | omega | exact q4 ⟨by assumption, by assumption⟩ | exact q5 ⟨by assumption, by omega⟩ | exact q6 ⟨by assumption, by simp_all⟩ | (have := q3 _ hlast; omega) | (have e1 := congrArg Prod.fst q2; have e2 := congrArg Prod.snd q2; dsimp only at e1 e2; omega))]
         exact finc1 ty62 rfl pK (by rfl) (⟨r, L, G, k, ⟨_, _, _, rfl⟩, rfl, Ex.refl W0 k, hl, by omega⟩) gS
        ·refine XC.skip ?_
         exact ⟨(), (by rintro ⟨q1, q2⟩; first | omega | simp_all), ⟨rfl, rfl, rfl, rfl, trivial⟩, gS⟩
       ·refine y_un rfl rfl rfl (fun _ h => Gets.own gS h) rfl ?_
        refine y_un rfl rfl rfl (fun _ h => Gets.own gS h) rfl ?_
        refine y_un rfl rfl rfl (fun _ h => Gets.own gS h) rfl ?_
        refine y_un rfl rfl rfl (fun _ h => Gets.own gS h) rfl ?_
        refine y_un rfl rfl rfl (fun _ h => Gets.own gS h) rfl ?_
        refine y_un rfl rfl rfl (fun _ h => Gets.own gS h) rfl ?_
        refine y_un rfl rfl rfl (fun _ h => Gets.own gS h) rfl ?_
        refine y_un rfl rfl rfl (fun _ h => Gets.own gS h) rfl ?_
        refine y_un rfl rfl rfl (fun _ h => Gets.own gS h) rfl ?_
        refine y_unl rfl rfl rfl (fun _ h => Gets.own gS h) rfl ?_
        refine y_un rfl rfl rfl (fun _ h => Gets.own gS h) rfl ?_
        refine y_un rfl rfl rfl (fun _ h => Gets.own gS h) rfl ?_
        refine y_v rfl (r_pk_f rfl rfl) gT rfl ?_
        refine XH.nil ?_
        refine hK27 _ _ ?_
        refine XC.keep [(0, _), (3, _), (4, _), (9, _), (114, _)] ⟨rfl, rfl, rfl, rfl, rfl, trivial⟩ ?_
        refine XC.cond_f rfl ?_
        refine XC.skip ?_
        exact ⟨(), (by rintro ⟨q1, q2⟩; first | omega | simp_all), ⟨rfl, rfl, rfl, rfl, trivial⟩, gS⟩
      ·rintro _ hq5
       refine XC.seqcut (σ := Unit) (fun u => [(0, .pointer (some ⟨b, 0, none⟩)), (3, .pointer (some ⟨b3, 0, none⟩)), (4, .pointer (some ⟨b4, 0, none⟩))]) (fun u => blk b3 41 [.int .i64 c.kind, .int .i64 c.epoch, .int .i64 c.site, .int .i64 c.op.1.n, .int .i64 c.op.1.epoch, .int .i64 c.op.1.kind, .int .i64 c.op.1.site, .int .i64 c.op.1.client, .int .i64 c.op.1.seq, str c.op.1.name, .int .i64 c.op.1.size, .slice c.op.2.1 c.op.1.hs.length c.op.2.2, .int .i64 c.after, .int .i64 c.since, .slice c.pA c.ops.length c.pc, .int .i64 c.tag] :: blk b4 62 [.int .i64 0, .int .i64 0, .int .i64 0] :: blk b 93 [.slice r.A r.n r.c, .slice r.gA r.gn r.gc, .int .i64 r.fence, .int .i64 r.set, .int .i64 r.quota, .int .i64 r.room] :: sl r.A r.n r.c 39 9 (cells odc L) :: sl r.gA r.gn r.gc 39 9 (cells odc G) :: k :: Fr) (fun u => ¬ (c.op.1.kind = 2 ∧ ((foldOf l.ops).live c.op.1.name).isSome = false)) ?_ ?_
       ·refine XC.seq fun K30 hK30 => ?_
        refine XC.region ?_
        refine x_v (r_fa fo41_3 rfl) rfl ?_
        refine x_v (r_fa fo39_2 rfl) rfl ?_
        refine x_v (r_ld ty3 rfl pK (by rfl)) rfl ?_
        refine x_v (r_eq rfl rfl) rfl ?_
        refine x_v (r_mv rfl) rfl ?_
        refine XL.splitd 120 rfl (fun hg120 => ?_) (fun hg120 => ?_)
        ·refine x_want rfl rfl rfl ?_
         refine x_v (r_mv rfl) rfl ?_
         refine x_want rfl rfl rfl ?_
         refine x_v (r_not rfl) rfl ?_
         refine x_v (r_pk_t rfl rfl) rfl ?_
         refine XL.nil ?_
         refine hK30 _ _ ?_
         refine XC.keep [(0, _), (3, _), (4, _), (123, _)] ⟨rfl, rfl, rfl, rfl, trivial⟩ ?_
         refine XC.cond rfl (fun hc13 => ?_) (fun hc13 => ?_)
         ·refine XC.seq fun K31 hK31 => ?_
          refine XC.region ?_
          refine x_v (r_bd (vs := [_]) rfl ⟨rfl, rfl⟩ (bd62_0 _)) rfl ?_
          refine x_e (r_st ty62 rfl rfl rfl rfl rfl uD oV) ?_
          refine XL.nil ?_
          refine hK31 _ _ ?_
          refine XC.keep [(4, _)] ⟨rfl, trivial⟩ ?_
          refine XC.ret ?_
          rw [do_no (fun q => by obtain ⟨q1, q2, q3, q4, q5, q6, q7⟩ := q; first | omega | exact q4 ⟨by assumption, by assumption⟩ | exact q5 ⟨by assumption, by omega⟩ | exact q6 ⟨by assumption, by simp_all⟩ | (have := q3 _ hlast; omega) | (have e1 := congrArg Prod.fst q2; have e2 := congrArg Prod.snd q2; dsimp only at e1 e2; omega))]
          exact finc1 ty62 rfl pK (by rfl) (⟨r, L, G, k, ⟨_, _, _, rfl⟩, rfl, Ex.refl W0 k, hl, by omega⟩) gS
         ·refine XC.skip ?_
          exact ⟨(), (by rintro ⟨q1, q2⟩; first | omega | simp_all), ⟨rfl, rfl, rfl, trivial⟩, gS⟩
        ·refine x_unwant rfl rfl rfl rfl rfl ?_
         refine x_unwant rfl rfl rfl rfl rfl ?_
         refine x_v (r_pk_f rfl rfl) rfl ?_
         refine XL.nil ?_
         refine hK30 _ _ ?_
         refine XC.keep [(0, _), (3, _), (4, _), (123, _)] ⟨rfl, rfl, rfl, rfl, trivial⟩ ?_
         refine XC.cond_f rfl ?_
         refine XC.skip ?_
         exact ⟨(), (by rintro ⟨q1, q2⟩; first | omega | simp_all), ⟨rfl, rfl, rfl, trivial⟩, gS⟩
       ·rintro _ hq6
        refine XC.seqcut (σ := Unit) (fun u => [(0, .pointer (some ⟨b, 0, none⟩)), (3, .pointer (some ⟨b3, 0, none⟩)), (4, .pointer (some ⟨b4, 0, none⟩))]) (fun u => blk b3 41 [.int .i64 c.kind, .int .i64 c.epoch, .int .i64 c.site, .int .i64 c.op.1.n, .int .i64 c.op.1.epoch, .int .i64 c.op.1.kind, .int .i64 c.op.1.site, .int .i64 c.op.1.client, .int .i64 c.op.1.seq, str c.op.1.name, .int .i64 c.op.1.size, .slice c.op.2.1 c.op.1.hs.length c.op.2.2, .int .i64 c.after, .int .i64 c.since, .slice c.pA c.ops.length c.pc, .int .i64 c.tag] :: blk b4 62 [.int .i64 0, .int .i64 0, .int .i64 0] :: blk b 93 [.slice r.A r.n r.c, .slice r.gA r.gn r.gc, .int .i64 r.fence, .int .i64 r.set, .int .i64 r.quota, .int .i64 r.room] :: sl r.A r.n r.c 39 9 (cells odc L) :: sl r.gA r.gn r.gc 39 9 (cells odc G) :: k :: Fr) (fun u => DoOk l c) ?_ ?_
        ·refine XC.seq fun K33 hK33 => ?_
         refine XC.draw [blk b 93 [.slice r.A r.n r.c, .slice r.gA r.gn r.gc, .int .i64 r.fence, .int .i64 r.set, .int .i64 r.quota, .int .i64 r.room]] false [(0, false), (1, false), (2, false), (3, false), (4, false), (5, false), (6, false), (7, false), (8, false), (9, false)] (by kernel_rfl) (by kernel_rfl) ?_
         refine y_v rfl (r_mv rfl) gT rfl ?_
         refine y_v rfl (r_nc rfl) gT rfl ?_
         refine y_v rfl (r_fa fo93_0 rfl) gT rfl ?_
         refine y_v rfl (r_ld ty33 rfl pK (by rfl)) gT rfl ?_
         refine y_v rfl (r_lensl Try.underlying33 rfl) gT rfl ?_
         refine y_v rfl (r_mv rfl) gT rfl ?_
         refine y_v rfl (r_nc rfl) gT rfl ?_
         refine y_v rfl (r_fa fo93_5 rfl) gT rfl ?_
         refine y_v rfl (r_ld ty3 rfl pK (by rfl)) gT rfl ?_
         refine y_v rfl (r_ge rfl rfl) gT rfl ?_
         refine XH.nil ?_
         refine hK33 _ _ ?_
         refine XC.keep [(0, _), (3, _), (4, _), (134, _)] ⟨rfl, rfl, rfl, rfl, trivial⟩ ?_
         refine XC.cond_d rfl (fun hc15 => ?_) (fun hc15 => ?_)
         ·refine XC.seq fun K34 hK34 => ?_
          refine XC.region ?_
          refine x_v (r_bd (vs := [_]) rfl ⟨rfl, rfl⟩ (bd62_0 _)) rfl ?_
          refine x_e (r_st ty62 rfl rfl rfl rfl rfl uD oV) ?_
          refine XL.nil ?_
          refine hK34 _ _ ?_
          refine XC.keep [(4, _)] ⟨rfl, trivial⟩ ?_
          refine XC.ret ?_
          rw [do_no (fun q => by obtain ⟨q1, q2, q3, q4, q5, q6, q7⟩ := q; first | omega | exact q4 ⟨by assumption, by assumption⟩ | exact q5 ⟨by assumption, by omega⟩ | exact q6 ⟨by assumption, by simp_all⟩ | (have := q3 _ hlast; omega) | (have e1 := congrArg Prod.fst q2; have e2 := congrArg Prod.snd q2; dsimp only at e1 e2; omega))]
          exact finc1 ty62 rfl pK (by rfl) (⟨r, L, G, k, ⟨_, _, _, rfl⟩, rfl, Ex.refl W0 k, hl, by omega⟩) gS
         ·refine XC.skip ?_
          exact ⟨(), ⟨by omega, hho, hseq, hq4, hq5, hq6, by omega⟩, ⟨rfl, rfl, rfl, trivial⟩, gS⟩
        ·rintro _ hdo
         have hrl : (l.ops.length : Int) < l.room := hdo.2.2.2.2.2.2
         refine XC.seq fun K35 hK35 => ?_
         refine XC.region ?_
         refine x_v (r_mv rfl) rfl ?_
         refine x_v (r_fa fo41_3 rfl) rfl ?_
         refine x_v (r_lda (l' := [_, _, _, _, _, _, _, _, _]) ty39 rfl pK rfl (Sub.get sU)) rfl ?_
         refine x_v (r_fa fo41_1 rfl) rfl ?_
         refine x_v (r_ld ty3 rfl pK (by rfl)) rfl ?_
         refine x_v (r_fa fo41_2 rfl) rfl ?_
         refine x_v (r_ld ty3 rfl pK (by rfl)) rfl ?_
         refine x_c (r_call0 (args := [_, _, _, _]) ⟨rfl, rfl, rfl, rfl, rfl⟩ (rput_tr (k := k) (r := r) b c.op c.epoch c.site hl hro (by omega) (opOk_n hok (by omega))) gS) rfl ?_
         rintro _ _ ⟨r2, L2, G2, k2, ⟨a33, d33, f33, rfl⟩, rfl, hx2, hl2, hln2⟩
         refine x_e (r_st ty62 rfl rfl rfl rfl rfl uD oV) ?_
         refine XL.nil ?_
         refine hK35 _ _ ?_
         refine XC.keep [(4, _)] ⟨rfl, trivial⟩ ?_
         refine XC.ret ?_
         have e : doL l c = putL l c.op.1 c.epoch c.site := by unfold doL; rw [if_pos hdo]
         rw [e]
         exact finc1 ty62 rfl pK (by rfl) (⟨r2, L2, G2, k2, ⟨_, _, _, rfl⟩, rfl, hx2, hl2, by omega⟩) gS
end Go.Proofs.Ytheilpcbilnadaa

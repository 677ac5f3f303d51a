/- Crowns: ledgers: is it there; the last one; what is settled; some are lost. -/
import Derived.Test.YtheilpcbilnadaaCrown22
namespace Go.Proofs.Ytheilpcbilnadaa
open Go.Sx
set_option linter.unusedVariables false

/-- There is an operation at a place. -/
def HasL (ops : List Pop) (n e : Int) : Prop := n = 0 ∨ (n ≤ ops.length ∧ ∃ o, ops[(n - 1).toNat]? = some o ∧ o.epoch = e)
theorem fst_at {L : List Od} {i : Nat} {o : Od} (h : L[i]? = some o) : (fst1 L)[i]? = some o.1 := by unfold fst1; rw [List.getElem?_map, h]; rfl
theorem fst_ln (L : List Od) : (fst1 L).length = L.length := by unfold fst1; rw [List.length_map]
theorem has_tr {W0 : World} {Fr : List HP} {h : Lh} {L : List Od} (b : Nat) (n e : Int) (hLn : L.length = h.n) (hn0 : 0 ≤ n ∧ n ≤ 1000000) (hle : h.n ≤ 1000000) :
  Tr W0 Try.prog 72 [.pointer (some ⟨b, 0, none⟩), .agg #[.int .i64 n, .int .i64 e]] (blk b 91 (ldc h) :: sl h.A h.n h.c 39 9 (cells odc L) :: Fr) (fun v Rs' => (∃ g : Bool, v = .bool g ∧ (g = true ↔ HasL (fst1 L) n e)) ∧ Rs' = blk b 91 (ldc h) :: sl h.A h.n h.c 39 9 (cells odc L) :: Fr) := by
 obtain ⟨mL, us, mO, hE, hS, hA, hn, hc, lA, ln, lc, fe, se, qu, ro⟩ := h
 dsimp only at hLn hle ⊢
 have hfl := fst_ln L
 unfold ldc
 dsimp only
 refine Entry.tr (N := 33) (rs := [.tmp 4]) ⟨_, Try.func72, rfl, by kernel_rfl, rfl, rfl⟩ rfl ?_
 refine XC.seq fun K1 hK1 => ?_
 refine XC.region ?_
 refine x_a (r_bx rfl rfl) rfl fun b3 => ?_
 refine x_v (r_as rfl) rfl ?_
 refine XL.nil ?_
 refine hK1 _ _ ?_
 refine XC.keep [(0, _), (3, _)] ⟨rfl, rfl, trivial⟩ ?_
 refine XC.seq fun K2 hK2 => ?_
 refine XC.slnn (A := hA) pK fun hsl hsA => ?_
 have hrd : Rdb W0 [sl hA hn hc 39 9 (cells odc L)] hA hn 9 (cells odc L) := Rdb.of_sl (.head _ _) hsl hsA
 refine XC.draw [blk b3 31 [.int .i64 n, .int .i64 e], blk b 91 [.map (some mL), .int .i64 us, .map (some mO), .int .i64 hE, .int .i64 hS, .slice hA hn hc, .slice lA ln lc, .int .i64 fe, .int .i64 se, .int .i64 qu, .int .i64 ro], sl hA hn hc 39 9 (cells odc L)] false [(0, false), (1, false), (2, false), (3, false), (4, false), (5, false), (6, false), (7, false), (8, false), (9, false), (10, false), (11, false), (12, false), (13, false), (14, false), (15, false), (16, false), (17, false), (18, false), (19, false), (20, false), (21, false), (22, false), (23, false), (24, false), (25, false), (26, false), (27, false), (28, false)] (by kernel_rfl) (by kernel_rfl) ?_
 refine y_v rfl (r_fa fo31_0 rfl) gT rfl ?_
 refine y_v rfl (r_ld ty3 rfl pK (by rfl)) gT rfl ?_
 refine y_v rfl (r_eq rfl rfl) gT rfl ?_
 refine y_v rfl (r_mv rfl) gT rfl ?_
 refine XH.splitd 8 rfl (fun hg8 => ?_) (fun hg8 => ?_)
 ·refine y_un rfl rfl rfl (fun _ h => Gets.own gS h) rfl ?_
  refine y_un rfl rfl rfl (fun _ h => Gets.own gS h) rfl ?_
  refine y_un rfl rfl rfl (fun _ h => Gets.own gS h) rfl ?_
  refine y_un rfl rfl rfl (fun _ h => Gets.own gS h) rfl ?_
  refine y_un rfl rfl rfl (fun _ h => Gets.own gS h) rfl ?_
  refine y_un rfl rfl rfl (fun _ h => Gets.own gS h) rfl ?_
  refine y_un rfl rfl rfl (fun _ h => Gets.own gS h) rfl ?_
  refine y_un rfl rfl rfl (fun _ h => Gets.own gS h) rfl ?_
  refine y_un rfl rfl rfl (fun _ h => Gets.own gS h) rfl ?_
  refine y_unu rfl rfl rfl (fun _ h => Gets.own gS h) rfl ?_
  refine y_unu rfl rfl rfl (fun _ h => Gets.own gS h) rfl ?_
  refine y_unu rfl rfl rfl (fun _ h => Gets.own gS h) rfl ?_
  refine y_unu rfl rfl rfl (fun _ h => Gets.own gS h) rfl ?_
  refine y_unu rfl rfl rfl (fun _ h => Gets.own gS h) rfl ?_
  refine y_unu rfl rfl rfl (fun _ h => Gets.own gS h) rfl ?_
  refine y_unu rfl rfl rfl (fun _ h => Gets.own gS h) rfl ?_
  refine y_unu rfl rfl rfl (fun _ h => Gets.own gS h) rfl ?_
  refine y_unu rfl rfl rfl (fun _ h => Gets.own gS h) rfl ?_
  refine y_unu rfl rfl rfl (fun _ h => Gets.own gS h) rfl ?_
  refine y_unu rfl rfl rfl (fun _ h => Gets.own gS h) rfl ?_
  refine y_unu rfl rfl rfl (fun _ h => Gets.own gS h) rfl ?_
  refine y_unu rfl rfl rfl (fun _ h => Gets.own gS h) rfl ?_
  refine y_un rfl rfl rfl (fun _ h => Gets.own gS h) rfl ?_
  refine y_v rfl (r_pk_t rfl rfl) gT rfl ?_
  refine y_v rfl (r_as rfl) gT rfl ?_
  refine XH.nil ?_
  refine hK2 _ _ ?_
  refine XC.keep [(4, _)] ⟨rfl, trivial⟩ ?_
  refine XC.ret ?_
  exact fin1 rfl (⟨⟨true, rfl, ⟨fun _ => .inl hg8, fun _ => rfl⟩⟩, rfl⟩) gS
 ·refine y_vg rfl rfl rfl (r_fa fo31_0 rfl) gT rfl ?_
  refine y_vg rfl rfl rfl (r_ld ty3 rfl pK (by rfl)) gT rfl ?_
  refine y_vg rfl rfl rfl (r_mv rfl) gT rfl ?_
  refine y_vg rfl rfl rfl (r_nc rfl) gT rfl ?_
  refine y_vg rfl rfl rfl (r_fa fo91_1 rfl) gT rfl ?_
  refine y_vg rfl rfl rfl (r_ld ty33 rfl pK (by rfl)) gT rfl ?_
  refine y_vg rfl rfl rfl (r_lensl Try.underlying33 rfl) gT rfl ?_
  refine y_vg rfl rfl rfl (r_le rfl rfl) gT rfl ?_
  refine y_vg rfl rfl rfl (r_mv rfl) gT rfl ?_
  refine XH.splitd 17 rfl (fun hg17 => ?_) (fun hg17 => ?_)
  ·refine y_vg rfl rfl rfl (r_mv rfl) gT rfl ?_
   refine y_vg rfl rfl rfl (r_nc rfl) gT rfl ?_
   refine y_vg rfl rfl rfl (r_fa fo91_1 rfl) gT rfl ?_
   obtain ⟨o, ho⟩ : ∃ o, L[(n - 1).toNat]? = some o := ⟨_, List.getElem?_eq_getElem (by omega)⟩
   have hfo := fst_at ho
   obtain ⟨sb, so, hpA, hat⟩ := hrd.at_ (by omega)
   refine y_vg rfl rfl rfl (r_ld ty33 rfl pK (by rfl)) gT rfl ?_
   refine y_vg rfl rfl rfl (r_fa fo31_0 rfl) gT rfl ?_
   refine y_vg rfl rfl rfl (r_ld ty3 rfl pK (by rfl)) gT rfl ?_
   refine y_vg rfl rfl rfl (r_sub rfl rfl (by omega)) gT rfl ?_
   refine y_vg rfl rfl rfl (r_ia (k := (n - 1).toNat) Try.underlying33 ty39 (by rw [hpA]; rfl) rfl (by omega) (by omega)) gT rfl ?_
   refine y_vg rfl rfl rfl (r_fa fo39_1 rfl) gT rfl ?_
   refine y_vg rfl rfl rfl (r_ldr ty3 rfl (fun w hw => by rw [Nat.add_assoc]; exact hat w (Gets.own gS hw) _ _ (cells_get odc_len L _ _ ho 1 _ rfl))) gT rfl ?_
   refine y_vg rfl rfl rfl (r_fa fo31_1 rfl) gT rfl ?_
   refine y_vg rfl rfl rfl (r_ld ty3 rfl pK (by rfl)) gT rfl ?_
   refine y_vg rfl rfl rfl (r_eq rfl rfl) gT rfl ?_
   refine y_vg rfl rfl rfl (r_pk_t rfl rfl) gT rfl ?_
   refine y_v rfl (r_pk_f rfl rfl) gT rfl ?_
   refine y_v rfl (r_as rfl) gT rfl ?_
   refine XH.nil ?_
   refine hK2 _ _ ?_
   refine XC.keep [(4, _)] ⟨rfl, trivial⟩ ?_
   refine XC.ret ?_
   exact fin1 rfl (⟨⟨_, rfl, ⟨fun q => .inr ⟨by omega, o.1, hfo, of_decide_eq_true q⟩, fun q => by (rcases q with q | ⟨_, x, q1, q2⟩; exact absurd q hg8; rw [hfo] at q1; injection q1 with q1; subst q1; exact decide_eq_true q2)⟩⟩, rfl⟩) gS
  ·refine y_un rfl rfl rfl (fun _ h => Gets.own gS h) rfl ?_
   refine y_un rfl rfl rfl (fun _ h => Gets.own gS h) rfl ?_
   refine y_un rfl rfl rfl (fun _ h => Gets.own gS h) rfl ?_
   refine y_un rfl rfl rfl (fun _ h => Gets.own gS h) rfl ?_
   refine y_un rfl rfl rfl (fun _ h => Gets.own gS h) rfl ?_
   refine y_un rfl rfl rfl (fun _ h => Gets.own gS h) rfl ?_
   refine y_un rfl rfl rfl (fun _ h => Gets.own gS h) rfl ?_
   refine y_un rfl rfl rfl (fun _ h => Gets.own gS h) rfl ?_
   refine y_un rfl rfl rfl (fun _ h => Gets.own gS h) rfl ?_
   refine y_un rfl rfl rfl (fun _ h => Gets.own gS h) rfl ?_
   refine y_un rfl rfl rfl (fun _ h => Gets.own gS h) rfl ?_
   refine y_un rfl rfl rfl (fun _ h => Gets.own gS h) rfl ?_
   refine y_un rfl rfl rfl (fun _ h => Gets.own gS h) rfl ?_
   refine y_vg rfl rfl rfl (r_pk_f rfl rfl) gT rfl ?_
   refine y_v rfl (r_pk_f rfl rfl) gT rfl ?_
   refine y_v rfl (r_as rfl) gT rfl ?_
   refine XH.nil ?_
   refine hK2 _ _ ?_
   refine XC.keep [(4, _)] ⟨rfl, trivial⟩ ?_
   refine XC.ret ?_
   exact fin1 rfl (⟨⟨false, rfl, ⟨fun q => (by cases q), fun q => by (rcases q with q | ⟨q1, _⟩; exact absurd q hg8; omega)⟩⟩, rfl⟩) gS
theorem last_tr {W0 : World} {Fr : List HP} {h : Lh} {L : List Od} (b : Nat) (hLn : L.length = h.n) (hle : h.n ≤ 1000000) :
  Tr W0 Try.prog 45 [.pointer (some ⟨b, 0, none⟩)] (blk b 91 (ldc h) :: sl h.A h.n h.c 39 9 (cells odc L) :: Fr) (fun v Rs' => (∃ n e : Int, v = .agg #[.int .i64 n, .int .i64 e]) ∧ Rs' = blk b 91 (ldc h) :: sl h.A h.n h.c 39 9 (cells odc L) :: Fr) := by
 obtain ⟨mL, us, mO, hE, hS, hA, hn, hc, lA, ln, lc, fe, se, qu, ro⟩ := h
 dsimp only at hLn hle ⊢
 unfold ldc
 dsimp only
 refine Entry.tr (N := 27) (rs := [.cell 2 31]) ⟨_, Try.func45, rfl, by kernel_rfl, rfl, rfl⟩ rfl ?_
 refine XC.seq fun K1 hK1 => ?_
 refine XC.region ?_
 refine x_a (r_al ty31 rfl) rfl fun b2 => ?_
 refine XL.nil ?_
 refine hK1 _ _ ?_
 refine XC.keep [(0, _), (2, _)] ⟨rfl, rfl, trivial⟩ ?_
 refine XC.seq fun K2 hK2 => ?_
 refine XC.seq fun K3 hK3 => ?_
 refine XC.region ?_
 refine x_v (r_mv rfl) rfl ?_
 refine x_v (r_peq_some Try.underlying54 rfl rfl) rfl ?_
 refine x_v (r_mv rfl) rfl ?_
 refine x_want rfl rfl rfl ?_
 refine x_v (r_mv rfl) rfl ?_
 refine x_want rfl rfl rfl ?_
 refine x_v (r_nc rfl) rfl ?_
 refine x_want rfl rfl rfl ?_
 refine x_v (r_fa fo91_1 rfl) rfl ?_
 refine x_want rfl rfl rfl ?_
 refine x_v (r_ld ty33 rfl pK (by rfl)) rfl ?_
 refine x_want rfl rfl rfl ?_
 refine x_v (r_lensl Try.underlying33 rfl) rfl ?_
 refine x_want rfl rfl rfl ?_
 refine x_v (r_eq rfl rfl) rfl ?_
 refine x_v (r_pk_f rfl rfl) rfl ?_
 refine XL.nil ?_
 refine hK3 _ _ ?_
 refine XC.keep [(0, _), (2, _), (12, _)] ⟨rfl, rfl, rfl, trivial⟩ ?_
 refine XC.cond_d rfl (fun hc1 => ?_) (fun hc1 => ?_)
 ·refine XC.seq fun K4 hK4 => ?_
  refine XC.region ?_
  refine x_v (r_bd (vs := []) rfl rfl bd31_z) rfl ?_
  refine x_e (r_st ty31 rfl rfl rfl rfl rfl uD oV) ?_
  refine XL.nil ?_
  refine hK4 _ _ ?_
  refine XC.keep [(2, _)] ⟨rfl, trivial⟩ ?_
  refine XC.ret ?_
  exact finc1 ty31 rfl pK (by rfl) (⟨⟨_, _, rfl⟩, rfl⟩) gS
 ·refine XC.skip ?_
  refine hK2 _ _ ?_
  refine XC.keep [(0, _), (2, _)] ⟨rfl, rfl, trivial⟩ ?_
  refine XC.seq fun K5 hK5 => ?_
  refine XC.slnn (A := hA) pK fun hsl hsA => ?_
  have hrd : Rdb W0 [sl hA hn hc 39 9 (cells odc L)] hA hn 9 (cells odc L) := Rdb.of_sl (.head _ _) hsl hsA
  obtain ⟨o, ho⟩ : ∃ o, L[hn - 1]? = some o := ⟨_, List.getElem?_eq_getElem (by omega)⟩
  obtain ⟨sb, so, hpA, hat⟩ := hrd.at_ (by omega)
  refine XC.draw [blk b 91 [.map (some mL), .int .i64 us, .map (some mO), .int .i64 hE, .int .i64 hS, .slice hA hn hc, .slice lA ln lc, .int .i64 fe, .int .i64 se, .int .i64 qu, .int .i64 ro], sl hA hn hc 39 9 (cells odc L)] true [(0, false), (1, false), (2, false), (3, false), (4, false), (5, false), (6, false), (7, false), (8, false), (9, false), (10, false), (11, false), (12, true), (13, true)] (by kernel_rfl) (by kernel_rfl) ?_
  refine y_v rfl (r_mv rfl) gT rfl ?_
  refine y_v rfl (r_nc rfl) gT rfl ?_
  refine y_v rfl (r_fa fo91_1 rfl) gT rfl ?_
  refine y_v rfl (r_ld ty33 rfl pK (by rfl)) gT rfl ?_
  refine y_v rfl (r_mv rfl) gT rfl ?_
  refine y_v rfl (r_nc rfl) gT rfl ?_
  refine y_v rfl (r_fa fo91_1 rfl) gT rfl ?_
  refine y_v rfl (r_ld ty33 rfl pK (by rfl)) gT rfl ?_
  refine y_v rfl (r_lensl Try.underlying33 rfl) gT rfl ?_
  refine y_v rfl (r_sub rfl rfl (by omega)) gT rfl ?_
  refine y_v rfl (r_ia (k := hn - 1) Try.underlying33 ty39 (by rw [hpA]; rfl) rfl (by omega) (by omega)) gT rfl ?_
  refine y_v rfl (r_ldar (l' := odc o) ty39 rfl rfl (fun w hw j u hu => by rw [Nat.add_assoc]; exact hat w (Gets.own gS hw) _ u (cells_get odc_len L _ _ ho j u hu))) gT rfl ?_
  refine y_c rfl (r_call0 (args := [_]) ⟨rfl, rfl⟩ (spot_tr o) gS) (by rintro _ _ _ _ ⟨rfl, rfl⟩ h; exact Gets.own gS h) rfl ?_
  rintro _ _ ⟨rfl, rfl⟩
  refine y_e rfl (r_st ty31 rfl rfl rfl rfl rfl uD oV) (fun h => absurd h (by decide)) ?_
  refine XH.nil ?_
  refine hK5 _ _ ?_
  refine XC.keep [(2, _)] ⟨rfl, trivial⟩ ?_
  refine XC.ret ?_
  exact finc1 ty31 rfl pK (by rfl) (⟨⟨_, _, rfl⟩, rfl⟩) gS
theorem LI.settled {W0 : World} {k : HP} {l : Ls} {h : Lh} {gL gO : Value → Option Value} {L G : List Od} (hl : LI W0 k l h gL gO L G) (s : Int) : LI W0 k l { h with settled := s } gL gO L G :=
 ⟨hl.p, hl.n, hl.o, hl.m, hl.u, hl.hd, hl.f, hl.q, hl.r, hl.rd, hl.g⟩
theorem mark_tr {W0 : World} {Fr : List HP} {k : HP} {l : Ls} {h : Lh} {gL gO : Value → Option Value} {L G : List Od} (b : Nat) (c : Cm) (hl : LI W0 k l h gL gO L G) (hm : MarkP c) :
  Tr W0 Try.prog 44 [.pointer (some ⟨b, 0, none⟩), .agg (cmc c).toArray] (blk b 91 (ldc h) :: mpf h.mL .string gL :: mpf h.mO (.int .i64) gO :: sl h.A h.n h.c 39 9 (cells odc L) :: sl h.lA h.ln h.lc 39 9 (cells odc G) :: k :: Fr) (LPost W0 k Fr b h.ln l) := by
 have hlen := hl.len
 have hpl := hl.p.len
 have hm2 : 1 ≤ c.after ∧ c.after ≤ 80 := ⟨hm.2.2.2.2.1, hm.2.2.2.2.2.1⟩
 refine Entry.tr (N := 51) (rs := [.cell 4 62]) ⟨_, Try.func44, rfl, by kernel_rfl, rfl, rfl⟩ rfl ?_
 refine XC.seq fun K1 hK1 => ?_
 refine XC.region ?_
 refine x_a (r_bx rfl rfl) rfl fun b3 => ?_
 unfold cmc
 refine x_a (r_al ty62 rfl) rfl fun b4 => ?_
 refine XL.nil ?_
 refine hK1 _ _ ?_
 refine XC.keep [(0, _), (3, _), (4, _)] ⟨rfl, rfl, rfl, trivial⟩ ?_
 refine XC.seq fun K2 hK2 => ?_
 refine XC.region ?_
 refine x_v (r_fa fo41_4 rfl) rfl ?_
 refine x_v (r_ld ty3 rfl pK (by rfl)) rfl ?_
 refine x_v (r_fa fo41_5 rfl) rfl ?_
 refine x_v (r_ld ty3 rfl pK (by rfl)) rfl ?_
 refine x_v (r_bd (vs := [_, _]) rfl ⟨rfl, rfl, rfl⟩ (bd31_0_1 _ _)) rfl ?_
 refine x_a (r_al ty31 rfl) rfl fun b5 => ?_
 refine x_e (r_st ty31 rfl rfl rfl rfl rfl uD oV) ?_
 refine XL.nil ?_
 refine hK2 _ _ ?_
 refine XC.keep [(0, _), (3, _), (4, _), (5, _)] ⟨rfl, rfl, rfl, rfl, trivial⟩ ?_
 refine XC.seq fun K3 hK3 => ?_
 refine XC.block ?_
 refine XC.seq fun K4 hK4 => ?_
 unfold ldc
 refine XC.draw [blk b3 41 [.int .i64 c.kind, .int .i64 c.epoch, .int .i64 c.site, .int .i64 c.op.1.n, .int .i64 c.op.1.epoch, .int .i64 c.op.1.kind, .int .i64 c.op.1.site, .int .i64 c.op.1.client, .int .i64 c.op.1.seq, str c.op.1.name, .int .i64 c.op.1.size, .slice c.op.2.1 c.op.1.hs.length c.op.2.2, .int .i64 c.after, .int .i64 c.since, .slice c.pA c.ops.length c.pc, .int .i64 c.tag], blk b 91 [.map (some h.mL), .int .i64 h.used, .map (some h.mO), .int .i64 h.hE, .int .i64 h.hS, .slice h.A h.n h.c, .slice h.lA h.ln h.lc, .int .i64 h.fence, .int .i64 h.settled, .int .i64 h.quota, .int .i64 h.room]] false [(0, false), (1, false), (2, false), (3, false), (4, false), (5, false), (6, false), (7, false), (8, false), (9, false), (10, false), (11, false), (12, false), (13, false), (14, false), (15, false), (16, false), (17, false), (18, false), (19, false), (20, false)] (by kernel_rfl) (by kernel_rfl) ?_
 refine y_v rfl (r_fa fo41_1 rfl) gT rfl ?_
 refine y_v rfl (r_ld ty3 rfl pK (by rfl)) gT rfl ?_
 refine y_v rfl (r_mv rfl) gT rfl ?_
 refine y_v rfl (r_nc rfl) gT rfl ?_
 refine y_v rfl (r_fa fo91_3 rfl) gT rfl ?_
 refine y_v rfl (r_ld ty3 rfl pK (by rfl)) gT rfl ?_
 refine y_v rfl (r_ne rfl rfl) gT rfl ?_
 refine y_v rfl (r_mv rfl) gT rfl ?_
 refine XH.splitd 19 rfl (fun hg19 => ?_) (fun hg19 => ?_)
 ·refine y_un rfl rfl rfl (fun _ h => Gets.own gS h) rfl ?_
  refine y_un rfl rfl rfl (fun _ h => Gets.own gS h) rfl ?_
  refine y_un rfl rfl rfl (fun _ h => Gets.own gS h) rfl ?_
  refine y_un rfl rfl rfl (fun _ h => Gets.own gS h) rfl ?_
  refine y_un rfl rfl rfl (fun _ h => Gets.own gS h) rfl ?_
  refine y_un rfl rfl rfl (fun _ h => Gets.own gS h) rfl ?_
  refine y_un rfl rfl rfl (fun _ h => Gets.own gS h) rfl ?_
  refine y_un rfl rfl rfl (fun _ h => Gets.own gS h) rfl ?_
  refine y_un rfl rfl rfl (fun _ h => Gets.own gS h) rfl ?_
  refine y_un rfl rfl rfl (fun _ h => Gets.own gS h) rfl ?_
  refine y_un rfl rfl rfl (fun _ h => Gets.own gS h) rfl ?_
  refine y_v rfl (r_pk_t rfl rfl) gT rfl ?_
  refine y_v rfl (r_as rfl) gT rfl ?_
  refine XH.nil ?_
  refine hK4 _ _ ?_
  refine XC.keep [(0, _), (4, _), (5, _), (11, _)] ⟨rfl, rfl, rfl, rfl, trivial⟩ ?_
  refine XC.cond_t rfl ?_
  refine XC.seq fun K5 hK5 => ?_
  refine XC.region ?_
  refine x_c (r_call0 (args := [_]) ⟨rfl, rfl⟩ (failed_tr 120) gS) rfl ?_
  rintro _ _ ⟨rfl, rfl⟩
  refine x_e (r_st ty62 rfl rfl rfl rfl rfl uD oV) ?_
  refine XL.nil ?_
  refine hK5 _ _ ?_
  refine XC.keep [(4, _)] ⟨rfl, trivial⟩ ?_
  refine XC.ret ?_
  exact finc1 ty62 rfl pK (by rfl) (⟨h, gL, gO, L, G, k, ⟨_, _, _, rfl⟩, rfl, Ex.refl W0 k, hl, by omega⟩) gS
 ·refine y_vg rfl rfl rfl (r_mv rfl) gT rfl ?_
  refine y_vg rfl rfl rfl (r_nc rfl) gT rfl ?_
  refine y_vg rfl rfl rfl (r_fa fo91_0 rfl) gT rfl ?_
  refine y_vg rfl rfl rfl (r_fa fo88_3 rfl) gT rfl ?_
  refine y_vg rfl rfl rfl (r_lda (l' := [_, _]) ty69 rfl pK rfl (Sub.get sU)) gT rfl ?_
  refine y_vg rfl rfl rfl (r_fa fo41_1 rfl) gT rfl ?_
  refine y_vg rfl rfl rfl (r_ld ty3 rfl pK (by rfl)) gT rfl ?_
  refine y_vg rfl rfl rfl (r_fa fo41_2 rfl) gT rfl ?_
  refine y_vg rfl rfl rfl (r_ld ty3 rfl pK (by rfl)) gT rfl ?_
  refine y_vg rfl rfl rfl (r_bd (vs := [_, _]) rfl ⟨rfl, rfl, rfl⟩ (bd69_0_1 _ _)) gT rfl ?_
  refine y_vg rfl rfl rfl (r_stne (by kernel_rfl) (fun w => eq69 _ _ _ _ w) rfl rfl) gT rfl ?_
  refine y_v rfl (r_pk_f rfl rfl) gT rfl ?_
  refine y_v rfl (r_as rfl) gT rfl ?_
  refine XH.nil ?_
  refine hK4 _ _ ?_
  refine XC.keep [(0, _), (4, _), (5, _), (11, _)] ⟨rfl, rfl, rfl, rfl, trivial⟩ ?_
  refine XC.cond_d rfl (fun hc2 => ?_) (fun hc2 => ?_)
  ·refine XC.seq fun K6 hK6 => ?_
   refine XC.region ?_
   refine x_c (r_call0 (args := [_]) ⟨rfl, rfl⟩ (failed_tr 120) gS) rfl ?_
   rintro _ _ ⟨rfl, rfl⟩
   refine x_e (r_st ty62 rfl rfl rfl rfl rfl uD oV) ?_
   refine XL.nil ?_
   refine hK6 _ _ ?_
   refine XC.keep [(4, _)] ⟨rfl, trivial⟩ ?_
   refine XC.ret ?_
   exact finc1 ty62 rfl pK (by rfl) (⟨h, gL, gO, L, G, k, ⟨_, _, _, rfl⟩, rfl, Ex.refl W0 k, hl, by omega⟩) gS
  ·refine XC.seq fun K7 hK7 => ?_
   refine XC.region ?_
   refine x_v (r_mv rfl) rfl ?_
   refine x_v (r_lda (l' := [_, _]) ty31 rfl pK rfl (Sub.get sU)) rfl ?_
   refine x_c (r_call0 (args := [_, _]) ⟨rfl, rfl, rfl⟩ (has_tr (h := h) b c.after c.since hl.n (by omega) (by omega)) gS) rfl ?_
   rintro _ _ ⟨⟨g36, rfl, hg36⟩, rfl⟩
   refine x_v (r_not rfl) rfl ?_
   refine x_v (r_as rfl) rfl ?_
   refine XL.nil ?_
   refine hK7 _ _ ?_
   refine XC.keep [(0, _), (4, _), (5, _), (33, _)] ⟨rfl, rfl, rfl, rfl, trivial⟩ ?_
   refine XC.cond rfl (fun hc3 => ?_) (fun hc3 => ?_)
   ·refine XC.seq fun K8 hK8 => ?_
    refine XC.region ?_
    refine x_c (r_call0 (args := [_]) ⟨rfl, rfl⟩ (failed_tr 121) gS) rfl ?_
    rintro _ _ ⟨rfl, rfl⟩
    refine x_e (r_st ty62 rfl rfl rfl rfl rfl uD oV) ?_
    refine XL.nil ?_
    refine hK8 _ _ ?_
    refine XC.keep [(4, _)] ⟨rfl, trivial⟩ ?_
    refine XC.ret ?_
    exact finc1 ty62 rfl pK (by rfl) (⟨h, gL, gO, L, G, k, ⟨_, _, _, rfl⟩, rfl, Ex.refl W0 k, hl, by omega⟩) gS
   ·refine XC.skip ?_
    refine hK3 _ _ ?_
    refine XC.keep [(0, _), (4, _), (5, _)] ⟨rfl, rfl, rfl, trivial⟩ ?_
    refine XC.seq fun K9 hK9 => ?_
    unfold ldc
    refine XC.draw [blk b5 31 [.int .i64 c.after, .int .i64 c.since], blk b 91 [.map (some h.mL), .int .i64 h.used, .map (some h.mO), .int .i64 h.hE, .int .i64 h.hS, .slice h.A h.n h.c, .slice h.lA h.ln h.lc, .int .i64 h.fence, .int .i64 h.settled, .int .i64 h.quota, .int .i64 h.room]] true [(0, false), (1, false), (2, false), (3, false), (4, false), (5, false), (6, false), (7, false), (8, false), (9, false), (10, true)] (by kernel_rfl) (by kernel_rfl) ?_
    refine y_v rfl (r_mv rfl) gT rfl ?_
    refine y_v rfl (r_mv rfl) gT rfl ?_
    refine y_v rfl (r_nc rfl) gT rfl ?_
    refine y_v rfl (r_fa fo91_4 rfl) gT rfl ?_
    refine y_v rfl (r_ld ty3 rfl pK (by rfl)) gT rfl ?_
    refine y_v rfl (r_fa fo31_0 rfl) gT rfl ?_
    refine y_v rfl (r_ld ty3 rfl pK (by rfl)) gT rfl ?_
    refine y_v rfl (r_max rfl rfl) gT rfl ?_
    refine y_v rfl (r_nc rfl) gT rfl ?_
    refine y_v rfl (r_fa fo91_4 rfl) gT rfl ?_
    refine y_e rfl (r_st ty3 rfl rfl rfl rfl rfl uD oV) (fun h => absurd h (by decide)) ?_
    refine XH.nil ?_
    refine hK9 _ _ ?_
    refine XC.keep [(4, _), (5, _)] ⟨rfl, rfl, trivial⟩ ?_
    refine XC.seq fun K10 hK10 => ?_
    refine XC.region ?_
    refine x_v (r_lda (l' := [_, _]) ty31 rfl pK rfl (Sub.get sU)) rfl ?_
    refine x_v (r_bd (vs := [_]) rfl ⟨rfl, rfl⟩ (bd62_1 _ _)) rfl ?_
    refine x_e (r_st ty62 rfl rfl rfl rfl rfl uD oV) ?_
    refine XL.nil ?_
    refine hK10 _ _ ?_
    refine XC.keep [(4, _)] ⟨rfl, trivial⟩ ?_
    refine XC.ret ?_
    exact finc1 ty62 rfl pK (by rfl) (⟨{ h with settled := max h.settled c.after }, gL, gO, L, G, k, ⟨_, _, _, rfl⟩, rfl, Ex.refl W0 k, hl.settled _, by dsimp only; omega⟩) gS

theorem rd_take {α : Type} {f : α → List Value} {m : Nat} (hf : ∀ x, (f x).length = m) {W0 : World} {Fr : List HP} {A : Option Addr} {L : List α} (h : Rdb W0 Fr A L.length m (cells f L)) {j : Nat} (hj : j ≤ L.length) : Rdb W0 Fr A (L.take j).length m (cells f (L.take j)) := by
 have hl : (L.take j).length = j := by rw [List.length_take]; omega
 refine ⟨by rw [cells_len hf], fun hn => ?_⟩
 obtain ⟨b, o, e, k⟩ := h.at_ (by omega)
 refine ⟨b, o, e, fun w hw i u hu => k w hw i u ?_⟩
 rw [← cells_take hf, List.getElem?_take] at hu
 split at hu
 ·exact hu
 ·cases hu
theorem rd_drop {W0 : World} {Fr : List HP} {A : Option Addr} {L : List Od} {c : Nat} (h : Rdb W0 Fr A L.length 9 (cells odc L)) (hc : L.length ≤ c) {j : Nat} (hj : j ≤ L.length) : Rdb W0 Fr (if c = j then A else A.map (·.add (j * 9))) (L.drop j).length 9 (cells odc (L.drop j)) := by
 have h1 := h.cut (lo := j) (hi := L.length) (cap := c) hj (Nat.le_refl _) hc
 have hl : (L.drop j).length = L.length - j := List.length_drop ..
 rw [hl]
 rw [cells_drop odc_len, show ((L.length - j) * 9) = (L.drop j).length * 9 by rw [hl], List.take_of_length_le (by rw [cells_len odc_len]; exact Nat.le_refl _)] at h1
 exact h1
theorem LP.take {l : Ls} (h : LP l) (n : Nat) : LP { l with ops := l.ops.take n } := by
 refine ⟨fun i o ho => ?_, by dsimp only; rw [List.length_take]; have := h.len; omega⟩
 dsimp only at ho
 rw [List.getElem?_take] at ho
 split at ho
 ·exact h.at_ i o ho
 ·cases ho
theorem fst_tk (L : List Od) (n : Nat) : fst1 (L.take n) = (fst1 L).take n := by unfold fst1; rw [List.map_take]
end Go.Proofs.Ytheilpcbilnadaa

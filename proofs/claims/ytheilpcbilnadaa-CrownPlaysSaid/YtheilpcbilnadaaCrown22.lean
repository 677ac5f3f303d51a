/- Crowns: ledgers: a client's operation, an epoch that begins. -/
import Derived.Test.YtheilpcbilnadaaCrown21
namespace Go.Proofs.Ytheilpcbilnadaa
open Go.Sx
set_option linter.unusedVariables false

theorem eq69 (a0 b0 : Int) (a1 b1 : Int) (w : World) : (Op.equalIn 10000 69 (.agg #[.int .i64 a0, .int .i64 a1]) (.agg #[.int .i64 b0, .int .i64 b1])).run Try.prog w = .ok (decide (a0 = b0 ∧ a1 = b1)) w := by
 rw [run_equalIn_struct w 9999 69 _ _ (by kernel_rfl) (by kernel_rfl)]
 have hf : (Program.fieldsOf Try.prog 69).toList = (Program.fieldsOf Try.prog 69).toList := rfl
 conv at hf => rhs; unfold Program.fieldsOf; rw [Try.underlying69]
 rw [hf]
 by_cases h0 : a0 = b0
 ·subst h0
  by_cases h1 : a1 = b1 <;> simp [Op.eqFields, part, isAgg, run_underlying Try.underlying3, run_equalIn_int, h1, Try.underlying3]
 ·simp [Op.eqFields, part, isAgg, run_underlying Try.underlying3, run_equalIn_int, h0, Try.underlying3]
/-- A ledger lies so at 'b'. -/
def LPost (W0 : World) (k : HP) (Fr : List HP) (b : Nat) (ln : Nat) (l : Ls) (v : Value) (Rs' : List HP) : Prop :=
 ∃ h2 gL2 gO2 L2 G2 k2, (∃ a d f : Int, v = .agg #[.int .i64 a, .int .i64 d, .int .i64 f]) ∧ Rs' = blk b 91 (ldc h2) :: mpf h2.mL .string gL2 :: mpf h2.mO (.int .i64) gO2 :: sl h2.A h2.n h2.c 39 9 (cells odc L2) :: sl h2.lA h2.ln h2.lc 39 9 (cells odc G2) :: k2 :: Fr ∧ Ex W0 k k2 ∧ LI W0 k2 l h2 gL2 gO2 L2 G2 ∧ h2.ln ≤ ln + 80
def reignOp : Pop := ⟨0, 0, 3, 0, 0, 0, [], 0, []⟩
def reignL (l : Ls) (c : Cm) : Ls := if c.epoch ≤ l.fence ∨ 80 ≤ l.ops.length then l else putL { l with fence := c.epoch } reignOp c.epoch c.site
theorem reign_ok {n : Nat} {e s : Int} (hr : Reigned e s) (hn : n < 80) : opOk { reignOp with n := (n : Int) + 1, epoch := e, site := s } = true := by
 rw [opOk3 rfl ⟨by dsimp only; omega, by dsimp only; omega, hr⟩]
 exact decide_eq_true ⟨rfl, rfl, rfl, rfl, rfl⟩
theorem LI.fence {W0 : World} {k : HP} {l : Ls} {h : Lh} {gL gO : Value → Option Value} {L G : List Od} (hl : LI W0 k l h gL gO L G) (f : Int) : LI W0 k { l with fence := f } { h with fence := f } gL gO L G :=
 ⟨⟨hl.p.at_, hl.p.len⟩, hl.n, hl.o, hl.m, hl.u, hl.hd, rfl, hl.q, hl.r, hl.rd, hl.g⟩
theorem lreign_tr {W0 : World} {Fr : List HP} {k : HP} {l : Ls} {h : Lh} {gL gO : Value → Option Value} {L G : List Od} (b : Nat) (c : Cm) (hl : LI W0 k l h gL gO L G) (hr : Reigned c.epoch c.site) :
  Tr W0 Try.prog 43 [.pointer (some ⟨b, 0, none⟩), .agg (cmc c).toArray] (blk b 91 (ldc h) :: mpf h.mL .string gL :: mpf h.mO (.int .i64) gO :: sl h.A h.n h.c 39 9 (cells odc L) :: sl h.lA h.ln h.lc 39 9 (cells odc G) :: k :: Fr) (LPost W0 k Fr b h.ln (reignL l c)) := by
 have hlen := hl.len
 have hf := hl.f
 have no : (c.epoch ≤ l.fence ∨ 80 ≤ l.ops.length) → reignL l c = l := fun q => by unfold reignL; rw [if_pos q]
 refine Entry.tr (N := 34) (rs := [.cell 4 62]) ⟨_, Try.func43, rfl, by kernel_rfl, rfl, rfl⟩ rfl ?_
 refine XC.seq fun K1 hK1 => ?_
 refine XC.region ?_
 refine x_a (r_bx rfl rfl) rfl fun b3 => ?_
 unfold cmc ldc
 refine x_a (r_al ty62 rfl) rfl fun b4 => ?_
 refine XL.nil ?_
 refine hK1 _ _ ?_
 refine XC.keep [(0, _), (3, _), (4, _)] ⟨rfl, rfl, rfl, trivial⟩ ?_
 refine XC.seq fun K2 hK2 => ?_
 refine XC.block ?_
 refine XC.seq fun K3 hK3 => ?_
 refine XC.draw [blk b3 41 [.int .i64 c.kind, .int .i64 c.epoch, .int .i64 c.site, .int .i64 c.op.1.n, .int .i64 c.op.1.epoch, .int .i64 c.op.1.kind, .int .i64 c.op.1.site, .int .i64 c.op.1.client, .int .i64 c.op.1.seq, str c.op.1.name, .int .i64 c.op.1.size, .slice c.op.2.1 c.op.1.hs.length c.op.2.2, .int .i64 c.after, .int .i64 c.since, .slice c.pA c.ops.length c.pc, .int .i64 c.tag], blk b 91 [.map (some h.mL), .int .i64 h.used, .map (some h.mO), .int .i64 h.hE, .int .i64 h.hS, .slice h.A h.n h.c, .slice h.lA h.ln h.lc, .int .i64 h.fence, .int .i64 h.settled, .int .i64 h.quota, .int .i64 h.room]] false [(0, false), (1, false), (2, false), (3, false), (4, false), (5, false), (6, false), (7, false)] (by kernel_rfl) (by kernel_rfl) ?_
 refine y_v rfl (r_fa fo41_1 rfl) gT rfl ?_
 refine y_v rfl (r_ld ty3 rfl pK (by rfl)) gT rfl ?_
 refine y_v rfl (r_mv rfl) gT rfl ?_
 refine y_v rfl (r_nc rfl) gT rfl ?_
 refine y_v rfl (r_fa fo91_3 rfl) gT rfl ?_
 refine y_v rfl (r_ld ty3 rfl pK (by rfl)) gT rfl ?_
 refine y_v rfl (r_le rfl rfl) gT rfl ?_
 refine y_v rfl (r_as rfl) gT rfl ?_
 refine XH.nil ?_
 refine hK3 _ _ ?_
 refine XC.keep [(0, _), (3, _), (4, _), (5, _)] ⟨rfl, rfl, rfl, rfl, trivial⟩ ?_
 refine XC.cond_d rfl (fun hc1 => ?_) (fun hc1 => ?_)
 ·refine XC.seq fun K4 hK4 => ?_
  refine XC.region ?_
  refine x_c (r_call0 (args := [_]) ⟨rfl, rfl⟩ (failed_tr 120) gS) rfl ?_
  rintro _ _ ⟨rfl, rfl⟩
  refine x_e (r_st ty62 rfl rfl rfl rfl rfl uD oV) ?_
  refine XL.nil ?_
  refine hK4 _ _ ?_
  refine XC.keep [(4, _)] ⟨rfl, trivial⟩ ?_
  refine XC.ret ?_
  rw [no (by omega)]
  exact finc1 ty62 rfl pK (by rfl) (⟨h, gL, gO, L, G, k, ⟨_, _, _, rfl⟩, rfl, Ex.refl W0 k, hl, by omega⟩) gS
 ·refine XC.seq fun K5 hK5 => ?_
  refine XC.region ?_
  refine x_v (r_mv rfl) rfl ?_
  refine x_v (r_nc rfl) rfl ?_
  refine x_v (r_fa fo91_1 rfl) rfl ?_
  refine x_v (r_ld ty33 rfl pK (by rfl)) rfl ?_
  refine x_v (r_lensl Try.underlying33 rfl) rfl ?_
  refine x_v (r_ge rfl rfl) rfl ?_
  refine x_v (r_as rfl) rfl ?_
  refine XL.nil ?_
  refine hK5 _ _ ?_
  refine XC.keep [(0, _), (3, _), (4, _), (14, _)] ⟨rfl, rfl, rfl, rfl, trivial⟩ ?_
  refine XC.cond_d rfl (fun hc2 => ?_) (fun hc2 => ?_)
  ·refine XC.seq fun K6 hK6 => ?_
   refine XC.region ?_
   refine x_c (r_call0 (args := [_]) ⟨rfl, rfl⟩ (failed_tr 125) gS) rfl ?_
   rintro _ _ ⟨rfl, rfl⟩
   refine x_e (r_st ty62 rfl rfl rfl rfl rfl uD oV) ?_
   refine XL.nil ?_
   refine hK6 _ _ ?_
   refine XC.keep [(4, _)] ⟨rfl, trivial⟩ ?_
   refine XC.ret ?_
   rw [no (by omega)]
   exact finc1 ty62 rfl pK (by rfl) (⟨h, gL, gO, L, G, k, ⟨_, _, _, rfl⟩, rfl, Ex.refl W0 k, hl, by omega⟩) gS
  ·refine XC.skip ?_
   refine hK2 _ _ ?_
   refine XC.keep [(0, _), (3, _), (4, _)] ⟨rfl, rfl, rfl, trivial⟩ ?_
   refine XC.seq fun K7 hK7 => ?_
   refine XC.region ?_
   refine x_v (r_mv rfl) rfl ?_
   refine x_v (r_fa fo41_1 rfl) rfl ?_
   refine x_v (r_ld ty3 rfl pK (by rfl)) rfl ?_
   refine x_v (r_nc rfl) rfl ?_
   refine x_v (r_fa fo91_3 rfl) rfl ?_
   refine x_e (r_st ty3 rfl rfl rfl rfl rfl uD oV) ?_
   refine XL.nil ?_
   refine hK7 _ _ ?_
   refine XC.keep [(0, _), (3, _), (4, _)] ⟨rfl, rfl, rfl, trivial⟩ ?_
   refine XC.seq fun K8 hK8 => ?_
   refine XC.region ?_
   refine x_v (r_mv rfl) rfl ?_
   refine x_v (r_bd (vs := [_]) rfl ⟨rfl, rfl⟩ (bd39_2 _)) rfl ?_
   refine x_v (r_fa fo41_1 rfl) rfl ?_
   refine x_v (r_ld ty3 rfl pK (by rfl)) rfl ?_
   refine x_v (r_fa fo41_2 rfl) rfl ?_
   refine x_v (r_ld ty3 rfl pK (by rfl)) rfl ?_
   refine x_c (r_call0 (args := [_, _, _, _]) ⟨rfl, rfl, rfl, rfl, rfl⟩ (put_tr (k := k) (h := { h with fence := c.epoch }) b (reignOp, none, 0) c.epoch c.site (hl.fence c.epoch) ⟨Rdb.nil _ _ _, by decide⟩ (by dsimp only; omega) (reign_ok hr (by dsimp only; omega))) gS) rfl ?_
   rintro _ _ ⟨h2, gL2, gO2, L2, k2, ⟨a33, d33, f33, rfl⟩, rfl, hx2, hl2, hln2⟩
   refine x_e (r_st ty62 rfl rfl rfl rfl rfl uD oV) ?_
   refine XL.nil ?_
   refine hK8 _ _ ?_
   refine XC.keep [(4, _)] ⟨rfl, trivial⟩ ?_
   refine XC.ret ?_
   have e : reignL l c = putL { l with fence := c.epoch } reignOp c.epoch c.site := by unfold reignL; rw [if_neg (by omega)]
   rw [e]
   exact finc1 ty62 rfl pK (by rfl) (⟨h2, gL2, gO2, L2, G, k2, ⟨_, _, _, rfl⟩, rfl, hx2, hl2, by rw [hln2]; dsimp only; omega⟩) gS

theorem FM.lastOf {s : Fs} {gL gO : Value → Option Value} (h : FM s gL gO) (c : Int) : ∃ od : Od, (gO (.int .i64 c)).getD (.agg (odc zop).toArray) = .agg (odc od).toArray ∧ (gO (.int .i64 c)).isSome = (s.last c).isSome ∧ ∀ o, s.last c = some o → od.1 = o := by
 cases hs : s.last c with
 | none => rw [h.lno c hs]; exact ⟨zop, rfl, rfl, fun o q => (by cases q)⟩
 | some o => obtain ⟨od, e1, e2⟩ := h.lyes c o hs; rw [e2]; exact ⟨od, rfl, rfl, fun o' q => by injection q with q; rw [e1, q]⟩
/-- Is it to be put? -/
def DoOk (l : Ls) (c : Cm) : Prop := c.epoch = l.fence ∧ (foldOf l.ops).hold = (c.epoch, c.site) ∧ (∀ was, (foldOf l.ops).last c.op.1.client = some was → was.seq < c.op.1.seq) ∧
 ¬ (c.op.1.kind = 1 ∧ ((foldOf l.ops).live c.op.1.name).isSome = true) ∧ ¬ (c.op.1.kind = 1 ∧ l.quota < (foldOf l.ops).used + c.op.1.size) ∧ ¬ (c.op.1.kind = 2 ∧ ((foldOf l.ops).live c.op.1.name).isSome = false) ∧ (l.ops.length : Int) < l.room
open Classical in
noncomputable def doL (l : Ls) (c : Cm) : Ls := if DoOk l c then putL l c.op.1 c.epoch c.site else l
theorem opOk_n {o : Pop} {e s : Int} {n : Nat} (h : opOk { o with n := 1, epoch := e, site := s } = true) (hn : n < 80) : opOk { o with n := (n : Int) + 1, epoch := e, site := s } = true := by
 have hA : opA { o with n := 1, epoch := e, site := s } := Decidable.byContradiction fun q => by rw [opOk_no q] at h; cases h
 have hA2 : opA { o with n := (n : Int) + 1, epoch := e, site := s } := ⟨by dsimp only; omega, by dsimp only; omega, hA.2.2⟩
 unfold opOk at h ⊢
 rw [decide_eq_true hA, Bool.true_and] at h
 rw [decide_eq_true hA2, Bool.true_and]
 exact h
theorem do_no {l : Ls} {c : Cm} (h : ¬ DoOk l c) : doL l c = l := by unfold doL; rw [if_neg h]
set_option maxHeartbeats 1000000 in
theorem do_tr {W0 : World} {Fr : List HP} {k : HP} {l : Ls} {h : Lh} {gL gO : Value → Option Value} {L G : List Od} (b : Nat) (c : Cm) (hl : LI W0 k l h gL gO L G) (hro : RdO W0 k c.op) (hok : opOk (opIn c) = true) (hroom : l.room ≤ 64) :
  Tr W0 Try.prog 41 [.pointer (some ⟨b, 0, none⟩), .agg (cmc c).toArray] (blk b 91 (ldc h) :: mpf h.mL .string gL :: mpf h.mO (.int .i64) gO :: sl h.A h.n h.c 39 9 (cells odc L) :: sl h.lA h.ln h.lc 39 9 (cells odc G) :: k :: Fr) (LPost W0 k Fr b h.ln (doL l c)) := by
 have hlen := hl.len
 have hf := hl.f
 have hq := hl.q
 have hrm := hl.r
 have hu := hl.u
 have hhd := hl.hd
 have hzs := hl.p.szs.2
 have hpl := hl.p.len
 have hsz := size_of (o := opIn c) hok
 have hsz2 : 0 ≤ c.op.1.size ∧ c.op.1.size ≤ 512 := hsz
 obtain ⟨ow, how1, how2, how3⟩ := hl.m.lastOf c.op.1.client
 obtain ⟨Az, nz, cz, hlk⟩ := hl.m.look c.op.1.name
 have hhas := hl.m.has c.op.1.name
 refine Entry.tr (N := 129) (rs := [.cell 4 62]) ⟨_, Try.func41, rfl, by kernel_rfl, rfl, rfl⟩ rfl ?_
 refine XC.seq fun K1 hK1 => ?_
 refine XC.region ?_
 refine x_a (r_bx rfl rfl) rfl fun b3 => ?_
 unfold cmc ldc
 refine x_a (r_al ty62 rfl) rfl fun b4 => ?_
 refine XL.nil ?_
 refine hK1 _ _ ?_
 refine XC.keep [(0, _), (3, _), (4, _)] ⟨rfl, rfl, rfl, trivial⟩ ?_
 refine XC.seq fun K2 hK2 => ?_
 refine XC.seq fun K3 hK3 => ?_
 refine XC.draw [blk b3 41 [.int .i64 c.kind, .int .i64 c.epoch, .int .i64 c.site, .int .i64 c.op.1.n, .int .i64 c.op.1.epoch, .int .i64 c.op.1.kind, .int .i64 c.op.1.site, .int .i64 c.op.1.client, .int .i64 c.op.1.seq, str c.op.1.name, .int .i64 c.op.1.size, .slice c.op.2.1 c.op.1.hs.length c.op.2.2, .int .i64 c.after, .int .i64 c.since, .slice c.pA c.ops.length c.pc, .int .i64 c.tag], blk b 91 [.map (some h.mL), .int .i64 h.used, .map (some h.mO), .int .i64 h.hE, .int .i64 h.hS, .slice h.A h.n h.c, .slice h.lA h.ln h.lc, .int .i64 h.fence, .int .i64 h.settled, .int .i64 h.quota, .int .i64 h.room]] false [(0, false), (1, false), (2, false), (3, false), (4, false), (5, false), (6, false), (7, false), (8, false), (9, false), (10, false), (11, false), (12, false), (13, false), (14, false), (15, false), (16, false), (17, false), (18, false), (19, false)] (by kernel_rfl) (by kernel_rfl) ?_
 refine y_v rfl (r_fa fo41_1 rfl) gT rfl ?_
 refine y_v rfl (r_ld ty3 rfl pK (by rfl)) gT rfl ?_
 refine y_v rfl (r_mv rfl) gT rfl ?_
 refine y_v rfl (r_nc rfl) gT rfl ?_
 refine y_v rfl (r_fa fo91_3 rfl) gT rfl ?_
 refine y_v rfl (r_ld ty3 rfl pK (by rfl)) gT rfl ?_
 refine y_v rfl (r_ne rfl rfl) gT rfl ?_
 refine y_v rfl (r_mv rfl) gT rfl ?_
 refine XH.splitd 17 rfl (fun hg17 => ?_) (fun hg17 => ?_)
 ·refine y_un rfl rfl rfl (fun _ h => Gets.own gS h) rfl ?_
  refine y_un rfl rfl rfl (fun _ h => Gets.own gS h) rfl ?_
  refine y_un rfl rfl rfl (fun _ h => Gets.own gS h) rfl ?_
  refine y_un rfl rfl rfl (fun _ h => Gets.own gS h) rfl ?_
  refine y_un rfl rfl rfl (fun _ h => Gets.own gS h) rfl ?_
  refine y_un rfl rfl rfl (fun _ h => Gets.own gS h) rfl ?_
  refine y_un rfl rfl rfl (fun _ h => Gets.own gS h) rfl ?_
  refine y_un rfl rfl rfl (fun _ h => Gets.own gS h) rfl ?_
  refine y_un rfl rfl rfl (fun _ h => Gets.own gS h) rfl ?_
  refine y_un rfl rfl rfl (fun _ h => Gets.own gS h) rfl ?_
  refine y_un rfl rfl rfl (fun _ h => Gets.own gS h) rfl ?_
  refine y_v rfl (r_pk_t rfl rfl) gT rfl ?_
  refine XH.nil ?_
  refine hK3 _ _ ?_
  refine XC.keep [(0, _), (3, _), (4, _), (29, _)] ⟨rfl, rfl, rfl, rfl, trivial⟩ ?_
  refine XC.cond_t rfl ?_
  refine XC.seq fun K4 hK4 => ?_
  refine XC.region ?_
  refine x_c (r_call0 (args := [_]) ⟨rfl, rfl⟩ (failed_tr 120) gS) rfl ?_
  rintro _ _ ⟨rfl, rfl⟩
  refine x_e (r_st ty62 rfl rfl rfl rfl rfl uD oV) ?_
  refine XL.nil ?_
  refine hK4 _ _ ?_
  refine XC.keep [(4, _)] ⟨rfl, trivial⟩ ?_
  refine XC.ret ?_
  rw [do_no (fun q => by obtain ⟨q1, q2, q3, q4, q5, q6, q7⟩ := q; first | omega | exact q4 ⟨by assumption, by assumption⟩ | exact q5 ⟨by assumption, by omega⟩ | exact q6 ⟨by assumption, by simp_all⟩ | (rw [q2] at hhd; injection hhd with e1 e2; exact hc2 ⟨e1, e2⟩) | (obtain ⟨wo, hwo⟩ := Option.isSome_iff_exists.1 hg45; have := q3 wo hwo; rw [← how3 wo hwo] at this; omega))]
  exact finc1 ty62 rfl pK (by rfl) (⟨h, gL, gO, L, G, k, ⟨_, _, _, rfl⟩, rfl, Ex.refl W0 k, hl, by omega⟩) gS
 ·refine y_vg rfl rfl rfl (r_mv rfl) gT rfl ?_
  refine y_vg rfl rfl rfl (r_nc rfl) gT rfl ?_
  refine y_vg rfl rfl rfl (r_fa fo91_0 rfl) gT rfl ?_
  refine y_vg rfl rfl rfl (r_fa fo88_3 rfl) gT rfl ?_
  refine y_vg rfl rfl rfl (r_lda (l' := [_, _]) ty69 rfl pK rfl (Sub.get sU)) gT rfl ?_
  refine y_vg rfl rfl rfl (r_fa fo41_1 rfl) gT rfl ?_
  refine y_vg rfl rfl rfl (r_ld ty3 rfl pK (by rfl)) gT rfl ?_
  refine y_vg rfl rfl rfl (r_fa fo41_2 rfl) gT rfl ?_
  refine y_vg rfl rfl rfl (r_ld ty3 rfl pK (by rfl)) gT rfl ?_
  refine y_vg rfl rfl rfl (r_bd (vs := [_, _]) rfl ⟨rfl, rfl, rfl⟩ (bd69_0_1 _ _)) gT rfl ?_
  refine y_vg rfl rfl rfl (r_stne (by kernel_rfl) (fun w => eq69 _ _ _ _ w) rfl rfl) gT rfl ?_
  refine y_v rfl (r_pk_f rfl rfl) gT rfl ?_
  refine XH.nil ?_
  refine hK3 _ _ ?_
  refine XC.keep [(0, _), (3, _), (4, _), (29, _)] ⟨rfl, rfl, rfl, rfl, trivial⟩ ?_
  refine XC.cond_d rfl (fun hc2 => ?_) (fun hc2 => ?_)
  ·refine XC.seq fun K5 hK5 => ?_
   refine XC.region ?_
   refine x_c (r_call0 (args := [_]) ⟨rfl, rfl⟩ (failed_tr 120) gS) rfl ?_
   rintro _ _ ⟨rfl, rfl⟩
   refine x_e (r_st ty62 rfl rfl rfl rfl rfl uD oV) ?_
   refine XL.nil ?_
   refine hK5 _ _ ?_
   refine XC.keep [(4, _)] ⟨rfl, trivial⟩ ?_
   refine XC.ret ?_
   rw [do_no (fun q => by obtain ⟨q1, q2, q3, q4, q5, q6, q7⟩ := q; first | omega | exact q4 ⟨by assumption, by assumption⟩ | exact q5 ⟨by assumption, by omega⟩ | exact q6 ⟨by assumption, by simp_all⟩ | (rw [q2] at hhd; injection hhd with e1 e2; exact hc2 ⟨e1, e2⟩) | (obtain ⟨wo, hwo⟩ := Option.isSome_iff_exists.1 hg45; have := q3 wo hwo; rw [← how3 wo hwo] at this; omega))]
   exact finc1 ty62 rfl pK (by rfl) (⟨h, gL, gO, L, G, k, ⟨_, _, _, rfl⟩, rfl, Ex.refl W0 k, hl, by omega⟩) gS
  ·refine XC.skip ?_
   refine hK2 _ _ ?_
   refine XC.keep [(0, _), (3, _), (4, _)] ⟨rfl, rfl, rfl, trivial⟩ ?_
   refine XC.seq fun K6 hK6 => ?_
   have hho : (foldOf l.ops).hold = (c.epoch, c.site) := by (rw [← hhd]; have q := Classical.not_not.1 hc2; rw [q.1, q.2])
   refine XC.region ?_
   refine x_v (r_fa fo41_3 rfl) rfl ?_
   refine x_v (r_lda (l' := [_, _, _, _, _, _, _, _, _]) ty39 rfl pK rfl (Sub.get sU)) rfl ?_
   refine x_a (r_al ty39 rfl) rfl fun b5 => ?_
   refine x_e (r_st ty39 rfl rfl rfl rfl rfl uD oV) ?_
   refine XL.nil ?_
   refine hK6 _ _ ?_
   refine XC.keep [(0, _), (3, _), (4, _), (5, _)] ⟨rfl, rfl, rfl, rfl, trivial⟩ ?_
   refine XC.seqcut (σ := Unit) (fun u => [(0, .pointer (some ⟨b, 0, none⟩)), (3, .pointer (some ⟨b3, 0, none⟩)), (4, .pointer (some ⟨b4, 0, none⟩)), (5, .pointer (some ⟨b5, 0, none⟩))]) (fun u => blk b3 41 [.int .i64 c.kind, .int .i64 c.epoch, .int .i64 c.site, .int .i64 c.op.1.n, .int .i64 c.op.1.epoch, .int .i64 c.op.1.kind, .int .i64 c.op.1.site, .int .i64 c.op.1.client, .int .i64 c.op.1.seq, str c.op.1.name, .int .i64 c.op.1.size, .slice c.op.2.1 c.op.1.hs.length c.op.2.2, .int .i64 c.after, .int .i64 c.since, .slice c.pA c.ops.length c.pc, .int .i64 c.tag] :: blk b4 62 [.int .i64 0, .int .i64 0, .int .i64 0] :: blk b5 39 [.int .i64 c.op.1.n, .int .i64 c.op.1.epoch, .int .i64 c.op.1.kind, .int .i64 c.op.1.site, .int .i64 c.op.1.client, .int .i64 c.op.1.seq, str c.op.1.name, .int .i64 c.op.1.size, .slice c.op.2.1 c.op.1.hs.length c.op.2.2] :: blk b 91 [.map (some h.mL), .int .i64 h.used, .map (some h.mO), .int .i64 h.hE, .int .i64 h.hS, .slice h.A h.n h.c, .slice h.lA h.ln h.lc, .int .i64 h.fence, .int .i64 h.settled, .int .i64 h.quota, .int .i64 h.room] :: mpf h.mL .string gL :: mpf h.mO (.int .i64) gO :: sl h.A h.n h.c 39 9 (cells odc L) :: sl h.lA h.ln h.lc 39 9 (cells odc G) :: k :: Fr) (fun u => ∀ was, (foldOf l.ops).last c.op.1.client = some was → was.seq < c.op.1.seq) ?_ ?_
   ·refine XC.seq fun K8 hK8 => ?_
    refine XC.draw [blk b5 39 [.int .i64 c.op.1.n, .int .i64 c.op.1.epoch, .int .i64 c.op.1.kind, .int .i64 c.op.1.site, .int .i64 c.op.1.client, .int .i64 c.op.1.seq, str c.op.1.name, .int .i64 c.op.1.size, .slice c.op.2.1 c.op.1.hs.length c.op.2.2], blk b 91 [.map (some h.mL), .int .i64 h.used, .map (some h.mO), .int .i64 h.hE, .int .i64 h.hS, .slice h.A h.n h.c, .slice h.lA h.ln h.lc, .int .i64 h.fence, .int .i64 h.settled, .int .i64 h.quota, .int .i64 h.room], mpf h.mO (.int .i64) gO] false [(0, false), (1, false), (2, false), (3, false), (4, false), (5, false), (6, false), (7, false), (8, false), (9, false), (10, false), (11, true), (12, true), (13, false)] (by kernel_rfl) (by kernel_rfl) ?_
    refine y_v rfl (r_mv rfl) gT rfl ?_
    refine y_v rfl (r_nc rfl) gT rfl ?_
    refine y_v rfl (r_fa fo91_0 rfl) gT rfl ?_
    refine y_v rfl (r_fa fo88_2 rfl) gT rfl ?_
    refine y_v rfl (r_ld ty86 rfl pK (by rfl)) gT rfl ?_
    refine y_v rfl (r_fa fo39_4 rfl) gT rfl ?_
    refine y_v rfl (r_ld ty3 rfl pK (by rfl)) gT rfl ?_
    refine y_v rfl (r_lk Try.underlying86 Try.underlying3 ty39 rfl rfl rfl pK) gT rfl ?_
    rw [show (.agg #[.int .i64 0, .int .i64 0, .int .i64 0, .int .i64 0, .int .i64 0, .int .i64 0, .string ⟨#[]⟩, .int .i64 0, .slice none 0 0] : Value) = .agg (odc zop).toArray from rfl, how1, how2, odc_def ow]
    refine y_v rfl (r_mv rfl) gT rfl ?_
    refine y_v rfl (r_ex rfl rfl) gT rfl ?_
    refine y_v rfl (r_ex rfl rfl) gT rfl ?_
    refine y_a rfl (r_al ty39 rfl) (fun _ _ _ h => Gets.own gS h) rfl fun b6 => ?_
    refine y_e rfl (r_st ty39 rfl rfl rfl rfl rfl uD oV) (fun _ _ h => Gets.own gS h) ?_
    refine y_v rfl (r_as rfl) gT rfl ?_
    refine XH.nil ?_
    refine hK8 _ _ ?_
    refine XC.keep [(0, _), (3, _), (4, _), (5, _), (6, _), (7, _)] ⟨rfl, rfl, rfl, rfl, rfl, rfl, trivial⟩ ?_
    refine XC.seq fun K9 hK9 => ?_
    refine XC.region ?_
    refine x_v (r_mv rfl) rfl ?_
    refine x_v (r_mv rfl) rfl ?_
    refine XL.split 45 rfl (fun hg45 => ?_) (fun hg45 => ?_)
    ·refine x_want rfl rfl rfl ?_
     refine x_v (r_fa fo39_5 rfl) rfl ?_
     refine x_want rfl rfl rfl ?_
     refine x_v (r_ld ty3 rfl pK (by rfl)) rfl ?_
     refine x_want rfl rfl rfl ?_
     refine x_v (r_fa fo39_5 rfl) rfl ?_
     refine x_want rfl rfl rfl ?_
     refine x_v (r_ld ty3 rfl pK (by rfl)) rfl ?_
     refine x_want rfl rfl rfl ?_
     refine x_v (r_ge rfl rfl) rfl ?_
     refine x_v (r_pk_t rfl rfl) rfl ?_
     refine XL.nil ?_
     refine hK9 _ _ ?_
     refine XC.keep [(0, _), (3, _), (4, _), (5, _), (6, _), (51, _)] ⟨rfl, rfl, rfl, rfl, rfl, rfl, trivial⟩ ?_
     refine XC.cond_d rfl (fun hc3 => ?_) (fun hc3 => ?_)
     ·refine XC.seq fun K10 hK10 => ?_
      refine XC.seq fun K11 hK11 => ?_
      refine XC.region ?_
      refine x_v (r_fa fo39_5 rfl) rfl ?_
      refine x_v (r_ld ty3 rfl pK (by rfl)) rfl ?_
      refine x_v (r_fa fo39_5 rfl) rfl ?_
      refine x_v (r_ld ty3 rfl pK (by rfl)) rfl ?_
      refine x_v (r_gt rfl rfl) rfl ?_
      refine XL.nil ?_
      refine hK11 _ _ ?_
      refine XC.keep [(4, _), (6, _), (56, _)] ⟨rfl, rfl, rfl, trivial⟩ ?_
      refine XC.cond_d rfl (fun hc4 => ?_) (fun hc4 => ?_)
      ·refine XC.seq fun K12 hK12 => ?_
       refine XC.region ?_
       refine x_c (r_call0 (args := [_]) ⟨rfl, rfl⟩ (failed_tr 124) gS) rfl ?_
       rintro _ _ ⟨rfl, rfl⟩
       refine x_e (r_st ty62 rfl rfl rfl rfl rfl uD oV) ?_
       refine XL.nil ?_
       refine hK12 _ _ ?_
       refine XC.keep [(4, _)] ⟨rfl, trivial⟩ ?_
       refine XC.ret ?_
       rw [do_no (fun q => by obtain ⟨q1, q2, q3, q4, q5, q6, q7⟩ := q; first | omega | exact q4 ⟨by assumption, by assumption⟩ | exact q5 ⟨by assumption, by omega⟩ | exact q6 ⟨by assumption, by simp_all⟩ | (rw [q2] at hhd; injection hhd with e1 e2; exact hc2 ⟨e1, e2⟩) | (obtain ⟨wo, hwo⟩ := Option.isSome_iff_exists.1 hg45; have := q3 wo hwo; rw [← how3 wo hwo] at this; omega))]
       exact finc1 ty62 rfl pK (by rfl) (⟨h, gL, gO, L, G, k, ⟨_, _, _, rfl⟩, rfl, Ex.refl W0 k, hl, by omega⟩) gS
      ·refine XC.skip ?_
       refine hK10 _ _ ?_
       refine XC.keep [(4, _), (6, _)] ⟨rfl, rfl, trivial⟩ ?_
       refine XC.seq fun K13 hK13 => ?_
       refine XC.region ?_
       refine x_v (r_lda (l' := [_, _, _, _, _, _, _, _, _]) ty39 rfl pK rfl (Sub.get sU)) rfl ?_
       refine x_c (r_call0 (args := [_]) ⟨rfl, rfl⟩ (spot_tr ow) gS) rfl ?_
       rintro _ _ ⟨rfl, rfl⟩
       refine x_v (r_bd (vs := [_]) rfl ⟨rfl, rfl⟩ (bd62_1 _ _)) rfl ?_
       refine x_e (r_st ty62 rfl rfl rfl rfl rfl uD oV) ?_
       refine XL.nil ?_
       refine hK13 _ _ ?_
       refine XC.keep [(4, _)] ⟨rfl, trivial⟩ ?_
       refine XC.ret ?_
       rw [do_no (fun q => by obtain ⟨q1, q2, q3, q4, q5, q6, q7⟩ := q; first | omega | exact q4 ⟨by assumption, by assumption⟩ | exact q5 ⟨by assumption, by omega⟩ | exact q6 ⟨by assumption, by simp_all⟩ | (rw [q2] at hhd; injection hhd with e1 e2; exact hc2 ⟨e1, e2⟩) | (obtain ⟨wo, hwo⟩ := Option.isSome_iff_exists.1 hg45; have := q3 wo hwo; rw [← how3 wo hwo] at this; omega))]
       exact finc1 ty62 rfl pK (by rfl) (⟨h, gL, gO, L, G, k, ⟨_, _, _, rfl⟩, rfl, Ex.refl W0 k, hl, by omega⟩) gS
     ·refine XC.skip ?_
      exact ⟨(), (fun was q => by have := how3 was q; rw [← this]; omega), ⟨rfl, rfl, rfl, rfl, trivial⟩, gS⟩
    ·refine x_unwant rfl rfl rfl rfl rfl ?_
     refine x_unwant rfl rfl rfl rfl rfl ?_
     refine x_unwant rfl rfl rfl rfl rfl ?_
     refine x_unwant rfl rfl rfl rfl rfl ?_
     refine x_unwant rfl rfl rfl rfl rfl ?_
     refine x_v (r_pk_f rfl rfl) rfl ?_
     refine XL.nil ?_
     refine hK9 _ _ ?_
     refine XC.keep [(0, _), (3, _), (4, _), (5, _), (6, _), (51, _)] ⟨rfl, rfl, rfl, rfl, rfl, rfl, trivial⟩ ?_
     refine XC.cond_f rfl ?_
     refine XC.skip ?_
     exact ⟨(), (fun was q => by rw [q] at hg45; cases hg45), ⟨rfl, rfl, rfl, rfl, trivial⟩, gS⟩
   ·rintro _ hseq
    refine XC.seq fun K14 hK14 => ?_
    refine XC.draw [blk b5 39 [.int .i64 c.op.1.n, .int .i64 c.op.1.epoch, .int .i64 c.op.1.kind, .int .i64 c.op.1.site, .int .i64 c.op.1.client, .int .i64 c.op.1.seq, str c.op.1.name, .int .i64 c.op.1.size, .slice c.op.2.1 c.op.1.hs.length c.op.2.2], blk b 91 [.map (some h.mL), .int .i64 h.used, .map (some h.mO), .int .i64 h.hE, .int .i64 h.hS, .slice h.A h.n h.c, .slice h.lA h.ln h.lc, .int .i64 h.fence, .int .i64 h.settled, .int .i64 h.quota, .int .i64 h.room], mpf h.mL .string gL] false [(0, false), (1, false), (2, false), (3, false), (4, false), (5, false), (6, false), (7, false), (8, false), (9, false), (10, false), (11, true), (12, true), (13, false)] (by kernel_rfl) (by kernel_rfl) ?_
    refine y_v rfl (r_mv rfl) gT rfl ?_
    refine y_v rfl (r_nc rfl) gT rfl ?_
    refine y_v rfl (r_fa fo91_0 rfl) gT rfl ?_
    refine y_v rfl (r_fa fo88_0 rfl) gT rfl ?_
    refine y_v rfl (r_ld ty85 rfl pK (by rfl)) gT rfl ?_
    refine y_v rfl (r_fa fo39_6 rfl) gT rfl ?_
    refine y_v rfl (r_ld ty9 rfl pK (by rfl)) gT rfl ?_
    refine y_v rfl (r_lk Try.underlying85 Try.underlying9 ty37 rfl rfl trivial pK) gT rfl ?_
    rw [hlk, hhas]
    refine y_v rfl (r_mv rfl) gT rfl ?_
    refine y_v rfl (r_ex rfl rfl) gT rfl ?_
    refine y_v rfl (r_ex rfl rfl) gT rfl ?_
    refine y_a rfl (r_al ty37 rfl) (fun _ _ _ h => Gets.own gS h) rfl fun b8 => ?_
    refine y_e rfl (r_st ty37 rfl rfl rfl rfl rfl uD oV) (fun _ _ h => Gets.own gS h) ?_
    refine y_v rfl (r_as rfl) gT rfl ?_
    refine XH.nil ?_
    refine hK14 _ _ ?_
    refine XC.keep [(0, _), (3, _), (4, _), (5, _), (9, _)] ⟨rfl, rfl, rfl, rfl, rfl, trivial⟩ ?_
    refine XC.seqcut (σ := Unit) (fun u => [(0, .pointer (some ⟨b, 0, none⟩)), (3, .pointer (some ⟨b3, 0, none⟩)), (4, .pointer (some ⟨b4, 0, none⟩)), (5, .pointer (some ⟨b5, 0, none⟩))]) (fun u => blk b3 41 [.int .i64 c.kind, .int .i64 c.epoch, .int .i64 c.site, .int .i64 c.op.1.n, .int .i64 c.op.1.epoch, .int .i64 c.op.1.kind, .int .i64 c.op.1.site, .int .i64 c.op.1.client, .int .i64 c.op.1.seq, str c.op.1.name, .int .i64 c.op.1.size, .slice c.op.2.1 c.op.1.hs.length c.op.2.2, .int .i64 c.after, .int .i64 c.since, .slice c.pA c.ops.length c.pc, .int .i64 c.tag] :: blk b4 62 [.int .i64 0, .int .i64 0, .int .i64 0] :: blk b5 39 [.int .i64 c.op.1.n, .int .i64 c.op.1.epoch, .int .i64 c.op.1.kind, .int .i64 c.op.1.site, .int .i64 c.op.1.client, .int .i64 c.op.1.seq, str c.op.1.name, .int .i64 c.op.1.size, .slice c.op.2.1 c.op.1.hs.length c.op.2.2] :: blk b 91 [.map (some h.mL), .int .i64 h.used, .map (some h.mO), .int .i64 h.hE, .int .i64 h.hS, .slice h.A h.n h.c, .slice h.lA h.ln h.lc, .int .i64 h.fence, .int .i64 h.settled, .int .i64 h.quota, .int .i64 h.room] :: mpf h.mL .string gL :: mpf h.mO (.int .i64) gO :: sl h.A h.n h.c 39 9 (cells odc L) :: sl h.lA h.ln h.lc 39 9 (cells odc G) :: k :: Fr) (fun u => DoOk l c) ?_ ?_
    ·refine XC.block ?_
     refine XC.seq fun K16 hK16 => ?_
     refine XC.region ?_
     refine x_v (r_fa fo39_2 rfl) rfl ?_
     refine x_v (r_ld ty3 rfl pK (by rfl)) rfl ?_
     refine x_v (r_eq rfl rfl) rfl ?_
     refine x_v (r_mv rfl) rfl ?_
     refine XL.splitd 76 rfl (fun hg76 => ?_) (fun hg76 => ?_)
     ·refine x_want rfl rfl rfl ?_
      refine x_v (r_mv rfl) rfl ?_
      refine x_v (r_pk_t rfl rfl) rfl ?_
      refine x_v (r_as rfl) rfl ?_
      refine XL.nil ?_
      refine hK16 _ _ ?_
      refine XC.keep [(0, _), (3, _), (4, _), (5, _), (9, _), (72, _)] ⟨rfl, rfl, rfl, rfl, rfl, rfl, trivial⟩ ?_
      refine XC.cond rfl (fun hc6 => ?_) (fun hc6 => ?_)
      ·refine XC.seq fun K17 hK17 => ?_
       refine XC.region ?_
       refine x_c (r_call0 (args := [_]) ⟨rfl, rfl⟩ (failed_tr 122) gS) rfl ?_
       rintro _ _ ⟨rfl, rfl⟩
       refine x_e (r_st ty62 rfl rfl rfl rfl rfl uD oV) ?_
       refine XL.nil ?_
       refine hK17 _ _ ?_
       refine XC.keep [(4, _)] ⟨rfl, trivial⟩ ?_
       refine XC.ret ?_
       rw [do_no (fun q => by obtain ⟨q1, q2, q3, q4, q5, q6, q7⟩ := q; first | omega | exact q4 ⟨by assumption, by assumption⟩ | exact q5 ⟨by assumption, by omega⟩ | exact q6 ⟨by assumption, by simp_all⟩ | (rw [q2] at hhd; injection hhd with e1 e2; exact hc2 ⟨e1, e2⟩) | (obtain ⟨wo, hwo⟩ := Option.isSome_iff_exists.1 hg45; have := q3 wo hwo; rw [← how3 wo hwo] at this; omega))]
       exact finc1 ty62 rfl pK (by rfl) (⟨h, gL, gO, L, G, k, ⟨_, _, _, rfl⟩, rfl, Ex.refl W0 k, hl, by omega⟩) gS
      ·refine XC.seq fun K18 hK18 => ?_
       refine XC.draw [blk b5 39 [.int .i64 c.op.1.n, .int .i64 c.op.1.epoch, .int .i64 c.op.1.kind, .int .i64 c.op.1.site, .int .i64 c.op.1.client, .int .i64 c.op.1.seq, str c.op.1.name, .int .i64 c.op.1.size, .slice c.op.2.1 c.op.1.hs.length c.op.2.2], blk b 91 [.map (some h.mL), .int .i64 h.used, .map (some h.mO), .int .i64 h.hE, .int .i64 h.hS, .slice h.A h.n h.c, .slice h.lA h.ln h.lc, .int .i64 h.fence, .int .i64 h.settled, .int .i64 h.quota, .int .i64 h.room]] false [(0, false), (1, false), (2, false), (3, false), (4, false), (5, false), (6, false), (7, false), (8, false), (9, false), (10, false), (11, false), (12, false), (13, false), (14, false), (15, false), (16, false), (17, false), (18, false), (19, false)] (by kernel_rfl) (by kernel_rfl) ?_
       refine y_v rfl (r_fa fo39_2 rfl) gT rfl ?_
       refine y_v rfl (r_ld ty3 rfl pK (by rfl)) gT rfl ?_
       refine y_v rfl (r_eq rfl rfl) gT rfl ?_
       refine y_v rfl (r_mv rfl) gT rfl ?_
       refine XH.splitd 84 rfl (fun hg84 => ?_) (fun hg84 => ?_)
       ·refine y_vg rfl rfl rfl (r_mv rfl) gT rfl ?_
        refine y_vg rfl rfl rfl (r_nc rfl) gT rfl ?_
        refine y_vg rfl rfl rfl (r_fa fo91_0 rfl) gT rfl ?_
        refine y_vg rfl rfl rfl (r_fa fo88_1 rfl) gT rfl ?_
        refine y_vg rfl rfl rfl (r_ld ty3 rfl pK (by rfl)) gT rfl ?_
        refine y_vg rfl rfl rfl (r_fa fo39_7 rfl) gT rfl ?_
        refine y_vg rfl rfl rfl (r_fa fo37_0 rfl) gT rfl ?_
        refine y_vg rfl rfl rfl (r_ld ty3 rfl pK (by rfl)) gT rfl ?_
        refine y_vg rfl rfl rfl (r_add rfl rfl (by omega)) gT rfl ?_
        refine y_vg rfl rfl rfl (r_mv rfl) gT rfl ?_
        refine y_vg rfl rfl rfl (r_nc rfl) gT rfl ?_
        refine y_vg rfl rfl rfl (r_fa fo91_5 rfl) gT rfl ?_
        refine y_vg rfl rfl rfl (r_ld ty3 rfl pK (by rfl)) gT rfl ?_
        refine y_vg rfl rfl rfl (r_gt rfl rfl) gT rfl ?_
        refine y_v rfl (r_pk_t rfl rfl) gT rfl ?_
        refine y_v rfl (r_as rfl) gT rfl ?_
        refine XH.nil ?_
        refine hK18 _ _ ?_
        refine XC.keep [(0, _), (3, _), (4, _), (5, _), (9, _), (80, _)] ⟨rfl, rfl, rfl, rfl, rfl, rfl, trivial⟩ ?_
        refine XC.cond_d rfl (fun hc7 => ?_) (fun hc7 => ?_)
        ·refine XC.seq fun K19 hK19 => ?_
         refine XC.region ?_
         refine x_c (r_call0 (args := [_]) ⟨rfl, rfl⟩ (failed_tr 102) gS) rfl ?_
         rintro _ _ ⟨rfl, rfl⟩
         refine x_e (r_st ty62 rfl rfl rfl rfl rfl uD oV) ?_
         refine XL.nil ?_
         refine hK19 _ _ ?_
         refine XC.keep [(4, _)] ⟨rfl, trivial⟩ ?_
         refine XC.ret ?_
         rw [do_no (fun q => by obtain ⟨q1, q2, q3, q4, q5, q6, q7⟩ := q; first | omega | exact q4 ⟨by assumption, by assumption⟩ | exact q5 ⟨by assumption, by omega⟩ | exact q6 ⟨by assumption, by simp_all⟩ | (rw [q2] at hhd; injection hhd with e1 e2; exact hc2 ⟨e1, e2⟩) | (obtain ⟨wo, hwo⟩ := Option.isSome_iff_exists.1 hg45; have := q3 wo hwo; rw [← how3 wo hwo] at this; omega))]
         exact finc1 ty62 rfl pK (by rfl) (⟨h, gL, gO, L, G, k, ⟨_, _, _, rfl⟩, rfl, Ex.refl W0 k, hl, by omega⟩) gS
        ·refine XC.seq fun K20 hK20 => ?_
         refine XC.region ?_
         refine x_v (r_fa fo39_2 rfl) rfl ?_
         refine x_v (r_ld ty3 rfl pK (by rfl)) rfl ?_
         refine x_v (r_eq rfl rfl) rfl ?_
         refine x_v (r_mv rfl) rfl ?_
         refine XL.splitd 105 rfl (fun hg105 => ?_) (fun hg105 => ?_)
         ·refine x_want rfl rfl rfl ?_
          refine x_v (r_mv rfl) rfl ?_
          refine x_want rfl rfl rfl ?_
          refine x_v (r_not rfl) rfl ?_
          refine x_v (r_pk_t rfl rfl) rfl ?_
          refine x_v (r_as rfl) rfl ?_
          refine XL.nil ?_
          refine hK20 _ _ ?_
          refine XC.keep [(0, _), (3, _), (4, _), (5, _), (101, _)] ⟨rfl, rfl, rfl, rfl, rfl, trivial⟩ ?_
          refine XC.cond rfl (fun hc8 => ?_) (fun hc8 => ?_)
          ·refine XC.seq fun K21 hK21 => ?_
           refine XC.region ?_
           refine x_c (r_call0 (args := [_]) ⟨rfl, rfl⟩ (failed_tr 123) gS) rfl ?_
           rintro _ _ ⟨rfl, rfl⟩
           refine x_e (r_st ty62 rfl rfl rfl rfl rfl uD oV) ?_
           refine XL.nil ?_
           refine hK21 _ _ ?_
           refine XC.keep [(4, _)] ⟨rfl, trivial⟩ ?_
           refine XC.ret ?_
           rw [do_no (fun q => by obtain ⟨q1, q2, q3, q4, q5, q6, q7⟩ := q; first | omega | exact q4 ⟨by assumption, by assumption⟩ | exact q5 ⟨by assumption, by omega⟩ | exact q6 ⟨by assumption, by simp_all⟩ | (rw [q2] at hhd; injection hhd with e1 e2; exact hc2 ⟨e1, e2⟩) | (obtain ⟨wo, hwo⟩ := Option.isSome_iff_exists.1 hg45; have := q3 wo hwo; rw [← how3 wo hwo] at this; omega))]
           exact finc1 ty62 rfl pK (by rfl) (⟨h, gL, gO, L, G, k, ⟨_, _, _, rfl⟩, rfl, Ex.refl W0 k, hl, by omega⟩) gS
          ·refine XC.seq fun K22 hK22 => ?_
           refine XC.draw [blk b 91 [.map (some h.mL), .int .i64 h.used, .map (some h.mO), .int .i64 h.hE, .int .i64 h.hS, .slice h.A h.n h.c, .slice h.lA h.ln h.lc, .int .i64 h.fence, .int .i64 h.settled, .int .i64 h.quota, .int .i64 h.room]] false [(0, false), (1, false), (2, false), (3, false), (4, false), (5, false), (6, false), (7, false), (8, false), (9, false), (10, false)] (by kernel_rfl) (by kernel_rfl) ?_
           refine y_v rfl (r_mv rfl) gT rfl ?_
           refine y_v rfl (r_nc rfl) gT rfl ?_
           refine y_v rfl (r_fa fo91_1 rfl) gT rfl ?_
           refine y_v rfl (r_ld ty33 rfl pK (by rfl)) gT rfl ?_
           refine y_v rfl (r_lensl Try.underlying33 rfl) gT rfl ?_
           refine y_v rfl (r_mv rfl) gT rfl ?_
           refine y_v rfl (r_nc rfl) gT rfl ?_
           refine y_v rfl (r_fa fo91_6 rfl) gT rfl ?_
           refine y_v rfl (r_ld ty3 rfl pK (by rfl)) gT rfl ?_
           refine y_v rfl (r_ge rfl rfl) gT rfl ?_
           refine y_v rfl (r_as rfl) gT rfl ?_
           refine XH.nil ?_
           refine hK22 _ _ ?_
           refine XC.keep [(0, _), (3, _), (4, _), (5, _), (110, _)] ⟨rfl, rfl, rfl, rfl, rfl, trivial⟩ ?_
           refine XC.cond_d rfl (fun hc9 => ?_) (fun hc9 => ?_)
           ·refine XC.seq fun K23 hK23 => ?_
            refine XC.region ?_
            refine x_c (r_call0 (args := [_]) ⟨rfl, rfl⟩ (failed_tr 125) gS) rfl ?_
            rintro _ _ ⟨rfl, rfl⟩
            refine x_e (r_st ty62 rfl rfl rfl rfl rfl uD oV) ?_
            refine XL.nil ?_
            refine hK23 _ _ ?_
            refine XC.keep [(4, _)] ⟨rfl, trivial⟩ ?_
            refine XC.ret ?_
            rw [do_no (fun q => by obtain ⟨q1, q2, q3, q4, q5, q6, q7⟩ := q; first | omega | exact q4 ⟨by assumption, by assumption⟩ | exact q5 ⟨by assumption, by omega⟩ | exact q6 ⟨by assumption, by simp_all⟩ | (rw [q2] at hhd; injection hhd with e1 e2; exact hc2 ⟨e1, e2⟩) | (obtain ⟨wo, hwo⟩ := Option.isSome_iff_exists.1 hg45; have := q3 wo hwo; rw [← how3 wo hwo] at this; omega))]
            exact finc1 ty62 rfl pK (by rfl) (⟨h, gL, gO, L, G, k, ⟨_, _, _, rfl⟩, rfl, Ex.refl W0 k, hl, by omega⟩) gS
           ·refine XC.skip ?_
            exact ⟨(), ⟨by omega, hho, hseq, by (rintro ⟨q1, q2⟩; first | omega | simp_all), by (rintro ⟨q1, q2⟩; omega), by (rintro ⟨q1, q2⟩; first | omega | simp_all), by omega⟩, ⟨rfl, rfl, rfl, rfl, trivial⟩, gS⟩
         ·refine x_unwant rfl rfl rfl rfl rfl ?_
          refine x_unwant rfl rfl rfl rfl rfl ?_
          refine x_v (r_pk_f rfl rfl) rfl ?_
          refine x_v (r_as rfl) rfl ?_
          refine XL.nil ?_
          refine hK20 _ _ ?_
          refine XC.keep [(0, _), (3, _), (4, _), (5, _), (101, _)] ⟨rfl, rfl, rfl, rfl, rfl, trivial⟩ ?_
          refine XC.cond_f rfl ?_
          refine XC.seq fun K24 hK24 => ?_
          refine XC.draw [blk b 91 [.map (some h.mL), .int .i64 h.used, .map (some h.mO), .int .i64 h.hE, .int .i64 h.hS, .slice h.A h.n h.c, .slice h.lA h.ln h.lc, .int .i64 h.fence, .int .i64 h.settled, .int .i64 h.quota, .int .i64 h.room]] false [(0, false), (1, false), (2, false), (3, false), (4, false), (5, false), (6, false), (7, false), (8, false), (9, false), (10, false)] (by kernel_rfl) (by kernel_rfl) ?_
          refine y_v rfl (r_mv rfl) gT rfl ?_
          refine y_v rfl (r_nc rfl) gT rfl ?_
          refine y_v rfl (r_fa fo91_1 rfl) gT rfl ?_
          refine y_v rfl (r_ld ty33 rfl pK (by rfl)) gT rfl ?_
          refine y_v rfl (r_lensl Try.underlying33 rfl) gT rfl ?_
          refine y_v rfl (r_mv rfl) gT rfl ?_
          refine y_v rfl (r_nc rfl) gT rfl ?_
          refine y_v rfl (r_fa fo91_6 rfl) gT rfl ?_
          refine y_v rfl (r_ld ty3 rfl pK (by rfl)) gT rfl ?_
          refine y_v rfl (r_ge rfl rfl) gT rfl ?_
          refine y_v rfl (r_as rfl) gT rfl ?_
          refine XH.nil ?_
          refine hK24 _ _ ?_
          refine XC.keep [(0, _), (3, _), (4, _), (5, _), (110, _)] ⟨rfl, rfl, rfl, rfl, rfl, trivial⟩ ?_
          refine XC.cond_d rfl (fun hc11 => ?_) (fun hc11 => ?_)
          ·refine XC.seq fun K25 hK25 => ?_
           refine XC.region ?_
           refine x_c (r_call0 (args := [_]) ⟨rfl, rfl⟩ (failed_tr 125) gS) rfl ?_
           rintro _ _ ⟨rfl, rfl⟩
           refine x_e (r_st ty62 rfl rfl rfl rfl rfl uD oV) ?_
           refine XL.nil ?_
           refine hK25 _ _ ?_
           refine XC.keep [(4, _)] ⟨rfl, trivial⟩ ?_
           refine XC.ret ?_
           rw [do_no (fun q => by obtain ⟨q1, q2, q3, q4, q5, q6, q7⟩ := q; first | omega | exact q4 ⟨by assumption, by assumption⟩ | exact q5 ⟨by assumption, by omega⟩ | exact q6 ⟨by assumption, by simp_all⟩ | (rw [q2] at hhd; injection hhd with e1 e2; exact hc2 ⟨e1, e2⟩) | (obtain ⟨wo, hwo⟩ := Option.isSome_iff_exists.1 hg45; have := q3 wo hwo; rw [← how3 wo hwo] at this; omega))]
           exact finc1 ty62 rfl pK (by rfl) (⟨h, gL, gO, L, G, k, ⟨_, _, _, rfl⟩, rfl, Ex.refl W0 k, hl, by omega⟩) gS
          ·refine XC.skip ?_
           exact ⟨(), ⟨by omega, hho, hseq, by (rintro ⟨q1, q2⟩; first | omega | simp_all), by (rintro ⟨q1, q2⟩; omega), by (rintro ⟨q1, q2⟩; first | omega | simp_all), by omega⟩, ⟨rfl, rfl, rfl, rfl, trivial⟩, gS⟩
       ·refine y_un rfl rfl rfl (fun _ h => Gets.own gS h) rfl ?_
        refine y_un rfl rfl rfl (fun _ h => Gets.own gS h) rfl ?_
        refine y_un rfl rfl rfl (fun _ h => Gets.own gS h) rfl ?_
        refine y_un rfl rfl rfl (fun _ h => Gets.own gS h) rfl ?_
        refine y_un rfl rfl rfl (fun _ h => Gets.own gS h) rfl ?_
        refine y_un rfl rfl rfl (fun _ h => Gets.own gS h) rfl ?_
        refine y_un rfl rfl rfl (fun _ h => Gets.own gS h) rfl ?_
        refine y_un rfl rfl rfl (fun _ h => Gets.own gS h) rfl ?_
        refine y_un rfl rfl rfl (fun _ h => Gets.own gS h) rfl ?_
        refine y_un rfl rfl rfl (fun _ h => Gets.own gS h) rfl ?_
        refine y_un rfl rfl rfl (fun _ h => Gets.own gS h) rfl ?_
        refine y_un rfl rfl rfl (fun _ h => Gets.own gS h) rfl ?_
        refine y_un rfl rfl rfl (fun _ h => Gets.own gS h) rfl ?_
        refine y_un rfl rfl rfl (fun _ h => Gets.own gS h) rfl ?_
        refine y_v rfl (r_pk_f rfl rfl) gT rfl ?_
        refine y_v rfl (r_as rfl) gT rfl ?_
        refine XH.nil ?_
        refine hK18 _ _ ?_
        refine XC.keep [(0, _), (3, _), (4, _), (5, _), (9, _), (80, _)] ⟨rfl, rfl, rfl, rfl, rfl, rfl, trivial⟩ ?_
        refine XC.cond_f rfl ?_
        refine XC.seq fun K26 hK26 => ?_
        refine XC.region ?_
        refine x_v (r_fa fo39_2 rfl) rfl ?_
        refine x_v (r_ld ty3 rfl pK (by rfl)) rfl ?_
        refine x_v (r_eq rfl rfl) rfl ?_
        refine x_v (r_mv rfl) rfl ?_
        refine XL.splitd 105 rfl (fun hg105 => ?_) (fun hg105 => ?_)
        ·refine x_want rfl rfl rfl ?_
         refine x_v (r_mv rfl) rfl ?_
         refine x_want rfl rfl rfl ?_
         refine x_v (r_not rfl) rfl ?_
         refine x_v (r_pk_t rfl rfl) rfl ?_
         refine x_v (r_as rfl) rfl ?_
         refine XL.nil ?_
         refine hK26 _ _ ?_
         refine XC.keep [(0, _), (3, _), (4, _), (5, _), (101, _)] ⟨rfl, rfl, rfl, rfl, rfl, trivial⟩ ?_
         refine XC.cond rfl (fun hc13 => ?_) (fun hc13 => ?_)
         ·refine XC.seq fun K27 hK27 => ?_
          refine XC.region ?_
          refine x_c (r_call0 (args := [_]) ⟨rfl, rfl⟩ (failed_tr 123) gS) rfl ?_
          rintro _ _ ⟨rfl, rfl⟩
          refine x_e (r_st ty62 rfl rfl rfl rfl rfl uD oV) ?_
          refine XL.nil ?_
          refine hK27 _ _ ?_
          refine XC.keep [(4, _)] ⟨rfl, trivial⟩ ?_
          refine XC.ret ?_
          rw [do_no (fun q => by obtain ⟨q1, q2, q3, q4, q5, q6, q7⟩ := q; first | omega | exact q4 ⟨by assumption, by assumption⟩ | exact q5 ⟨by assumption, by omega⟩ | exact q6 ⟨by assumption, by simp_all⟩ | (rw [q2] at hhd; injection hhd with e1 e2; exact hc2 ⟨e1, e2⟩) | (obtain ⟨wo, hwo⟩ := Option.isSome_iff_exists.1 hg45; have := q3 wo hwo; rw [← how3 wo hwo] at this; omega))]
          exact finc1 ty62 rfl pK (by rfl) (⟨h, gL, gO, L, G, k, ⟨_, _, _, rfl⟩, rfl, Ex.refl W0 k, hl, by omega⟩) gS
         ·refine XC.seq fun K28 hK28 => ?_
          refine XC.draw [blk b 91 [.map (some h.mL), .int .i64 h.used, .map (some h.mO), .int .i64 h.hE, .int .i64 h.hS, .slice h.A h.n h.c, .slice h.lA h.ln h.lc, .int .i64 h.fence, .int .i64 h.settled, .int .i64 h.quota, .int .i64 h.room]] false [(0, false), (1, false), (2, false), (3, false), (4, false), (5, false), (6, false), (7, false), (8, false), (9, false), (10, false)] (by kernel_rfl) (by kernel_rfl) ?_
          refine y_v rfl (r_mv rfl) gT rfl ?_
          refine y_v rfl (r_nc rfl) gT rfl ?_
          refine y_v rfl (r_fa fo91_1 rfl) gT rfl ?_
          refine y_v rfl (r_ld ty33 rfl pK (by rfl)) gT rfl ?_
          refine y_v rfl (r_lensl Try.underlying33 rfl) gT rfl ?_
          refine y_v rfl (r_mv rfl) gT rfl ?_
          refine y_v rfl (r_nc rfl) gT rfl ?_
          refine y_v rfl (r_fa fo91_6 rfl) gT rfl ?_
          refine y_v rfl (r_ld ty3 rfl pK (by rfl)) gT rfl ?_
          refine y_v rfl (r_ge rfl rfl) gT rfl ?_
          refine y_v rfl (r_as rfl) gT rfl ?_
          refine XH.nil ?_
          refine hK28 _ _ ?_
          refine XC.keep [(0, _), (3, _), (4, _), (5, _), (110, _)] ⟨rfl, rfl, rfl, rfl, rfl, trivial⟩ ?_
          refine XC.cond_d rfl (fun hc14 => ?_) (fun hc14 => ?_)
          ·refine XC.seq fun K29 hK29 => ?_
           refine XC.region ?_
           refine x_c (r_call0 (args := [_]) ⟨rfl, rfl⟩ (failed_tr 125) gS) rfl ?_
           rintro _ _ ⟨rfl, rfl⟩
           refine x_e (r_st ty62 rfl rfl rfl rfl rfl uD oV) ?_
           refine XL.nil ?_
           refine hK29 _ _ ?_
           refine XC.keep [(4, _)] ⟨rfl, trivial⟩ ?_
           refine XC.ret ?_
           rw [do_no (fun q => by obtain ⟨q1, q2, q3, q4, q5, q6, q7⟩ := q; first | omega | exact q4 ⟨by assumption, by assumption⟩ | exact q5 ⟨by assumption, by omega⟩ | exact q6 ⟨by assumption, by simp_all⟩ | (rw [q2] at hhd; injection hhd with e1 e2; exact hc2 ⟨e1, e2⟩) | (obtain ⟨wo, hwo⟩ := Option.isSome_iff_exists.1 hg45; have := q3 wo hwo; rw [← how3 wo hwo] at this; omega))]
           exact finc1 ty62 rfl pK (by rfl) (⟨h, gL, gO, L, G, k, ⟨_, _, _, rfl⟩, rfl, Ex.refl W0 k, hl, by omega⟩) gS
          ·refine XC.skip ?_
           exact ⟨(), ⟨by omega, hho, hseq, by (rintro ⟨q1, q2⟩; first | omega | simp_all), by (rintro ⟨q1, q2⟩; omega), by (rintro ⟨q1, q2⟩; first | omega | simp_all), by omega⟩, ⟨rfl, rfl, rfl, rfl, trivial⟩, gS⟩
        ·refine x_unwant rfl rfl rfl rfl rfl ?_
         refine x_unwant rfl rfl rfl rfl rfl ?_
         refine x_v (r_pk_f rfl rfl) rfl ?_
         refine x_v (r_as rfl) rfl ?_
         refine XL.nil ?_
         refine hK26 _ _ ?_
         refine XC.keep [(0, _), (3, _), (4, _), (5, _), (101, _)] ⟨rfl, rfl, rfl, rfl, rfl, trivial⟩ ?_
         refine XC.cond_f rfl ?_
         refine XC.seq fun K30 hK30 => ?_
         refine XC.draw [blk b 91 [.map (some h.mL), .int .i64 h.used, .map (some h.mO), .int .i64 h.hE, .int .i64 h.hS, .slice h.A h.n h.c, .slice h.lA h.ln h.lc, .int .i64 h.fence, .int .i64 h.settled, .int .i64 h.quota, .int .i64 h.room]] false [(0, false), (1, false), (2, false), (3, false), (4, false), (5, false), (6, false), (7, false), (8, false), (9, false), (10, false)] (by kernel_rfl) (by kernel_rfl) ?_
         refine y_v rfl (r_mv rfl) gT rfl ?_
         refine y_v rfl (r_nc rfl) gT rfl ?_
         refine y_v rfl (r_fa fo91_1 rfl) gT rfl ?_
         refine y_v rfl (r_ld ty33 rfl pK (by rfl)) gT rfl ?_
         refine y_v rfl (r_lensl Try.underlying33 rfl) gT rfl ?_
         refine y_v rfl (r_mv rfl) gT rfl ?_
         refine y_v rfl (r_nc rfl) gT rfl ?_
         refine y_v rfl (r_fa fo91_6 rfl) gT rfl ?_
         refine y_v rfl (r_ld ty3 rfl pK (by rfl)) gT rfl ?_
         refine y_v rfl (r_ge rfl rfl) gT rfl ?_
         refine y_v rfl (r_as rfl) gT rfl ?_
         refine XH.nil ?_
         refine hK30 _ _ ?_
         refine XC.keep [(0, _), (3, _), (4, _), (5, _), (110, _)] ⟨rfl, rfl, rfl, rfl, rfl, trivial⟩ ?_
         refine XC.cond_d rfl (fun hc16 => ?_) (fun hc16 => ?_)
         ·refine XC.seq fun K31 hK31 => ?_
          refine XC.region ?_
          refine x_c (r_call0 (args := [_]) ⟨rfl, rfl⟩ (failed_tr 125) gS) rfl ?_
          rintro _ _ ⟨rfl, rfl⟩
          refine x_e (r_st ty62 rfl rfl rfl rfl rfl uD oV) ?_
          refine XL.nil ?_
          refine hK31 _ _ ?_
          refine XC.keep [(4, _)] ⟨rfl, trivial⟩ ?_
          refine XC.ret ?_
          rw [do_no (fun q => by obtain ⟨q1, q2, q3, q4, q5, q6, q7⟩ := q; first | omega | exact q4 ⟨by assumption, by assumption⟩ | exact q5 ⟨by assumption, by omega⟩ | exact q6 ⟨by assumption, by simp_all⟩ | (rw [q2] at hhd; injection hhd with e1 e2; exact hc2 ⟨e1, e2⟩) | (obtain ⟨wo, hwo⟩ := Option.isSome_iff_exists.1 hg45; have := q3 wo hwo; rw [← how3 wo hwo] at this; omega))]
          exact finc1 ty62 rfl pK (by rfl) (⟨h, gL, gO, L, G, k, ⟨_, _, _, rfl⟩, rfl, Ex.refl W0 k, hl, by omega⟩) gS
         ·refine XC.skip ?_
          exact ⟨(), ⟨by omega, hho, hseq, by (rintro ⟨q1, q2⟩; first | omega | simp_all), by (rintro ⟨q1, q2⟩; omega), by (rintro ⟨q1, q2⟩; first | omega | simp_all), by omega⟩, ⟨rfl, rfl, rfl, rfl, trivial⟩, gS⟩
     ·refine x_unwant rfl rfl rfl rfl rfl ?_
      refine x_v (r_pk_f rfl rfl) rfl ?_
      refine x_v (r_as rfl) rfl ?_
      refine XL.nil ?_
      refine hK16 _ _ ?_
      refine XC.keep [(0, _), (3, _), (4, _), (5, _), (9, _), (72, _)] ⟨rfl, rfl, rfl, rfl, rfl, rfl, trivial⟩ ?_
      refine XC.cond_f rfl ?_
      refine XC.seq fun K32 hK32 => ?_
      refine XC.draw [blk b5 39 [.int .i64 c.op.1.n, .int .i64 c.op.1.epoch, .int .i64 c.op.1.kind, .int .i64 c.op.1.site, .int .i64 c.op.1.client, .int .i64 c.op.1.seq, str c.op.1.name, .int .i64 c.op.1.size, .slice c.op.2.1 c.op.1.hs.length c.op.2.2], blk b 91 [.map (some h.mL), .int .i64 h.used, .map (some h.mO), .int .i64 h.hE, .int .i64 h.hS, .slice h.A h.n h.c, .slice h.lA h.ln h.lc, .int .i64 h.fence, .int .i64 h.settled, .int .i64 h.quota, .int .i64 h.room]] false [(0, false), (1, false), (2, false), (3, false), (4, false), (5, false), (6, false), (7, false), (8, false), (9, false), (10, false), (11, false), (12, false), (13, false), (14, false), (15, false), (16, false), (17, false), (18, false), (19, false)] (by kernel_rfl) (by kernel_rfl) ?_
      refine y_v rfl (r_fa fo39_2 rfl) gT rfl ?_
      refine y_v rfl (r_ld ty3 rfl pK (by rfl)) gT rfl ?_
      refine y_v rfl (r_eq rfl rfl) gT rfl ?_
      refine y_v rfl (r_mv rfl) gT rfl ?_
      refine XH.splitd 84 rfl (fun hg84 => ?_) (fun hg84 => ?_)
      ·refine y_vg rfl rfl rfl (r_mv rfl) gT rfl ?_
       refine y_vg rfl rfl rfl (r_nc rfl) gT rfl ?_
       refine y_vg rfl rfl rfl (r_fa fo91_0 rfl) gT rfl ?_
       refine y_vg rfl rfl rfl (r_fa fo88_1 rfl) gT rfl ?_
       refine y_vg rfl rfl rfl (r_ld ty3 rfl pK (by rfl)) gT rfl ?_
       refine y_vg rfl rfl rfl (r_fa fo39_7 rfl) gT rfl ?_
       refine y_vg rfl rfl rfl (r_fa fo37_0 rfl) gT rfl ?_
       refine y_vg rfl rfl rfl (r_ld ty3 rfl pK (by rfl)) gT rfl ?_
       refine y_vg rfl rfl rfl (r_add rfl rfl (by omega)) gT rfl ?_
       refine y_vg rfl rfl rfl (r_mv rfl) gT rfl ?_
       refine y_vg rfl rfl rfl (r_nc rfl) gT rfl ?_
       refine y_vg rfl rfl rfl (r_fa fo91_5 rfl) gT rfl ?_
       refine y_vg rfl rfl rfl (r_ld ty3 rfl pK (by rfl)) gT rfl ?_
       refine y_vg rfl rfl rfl (r_gt rfl rfl) gT rfl ?_
       refine y_v rfl (r_pk_t rfl rfl) gT rfl ?_
       refine y_v rfl (r_as rfl) gT rfl ?_
       refine XH.nil ?_
       refine hK32 _ _ ?_
       refine XC.keep [(0, _), (3, _), (4, _), (5, _), (9, _), (80, _)] ⟨rfl, rfl, rfl, rfl, rfl, rfl, trivial⟩ ?_
       refine XC.cond_d rfl (fun hc18 => ?_) (fun hc18 => ?_)
       ·refine XC.seq fun K33 hK33 => ?_
        refine XC.region ?_
        refine x_c (r_call0 (args := [_]) ⟨rfl, rfl⟩ (failed_tr 102) gS) rfl ?_
        rintro _ _ ⟨rfl, rfl⟩
        refine x_e (r_st ty62 rfl rfl rfl rfl rfl uD oV) ?_
        refine XL.nil ?_
        refine hK33 _ _ ?_
        refine XC.keep [(4, _)] ⟨rfl, trivial⟩ ?_
        refine XC.ret ?_
        rw [do_no (fun q => by obtain ⟨q1, q2, q3, q4, q5, q6, q7⟩ := q; first | omega | exact q4 ⟨by assumption, by assumption⟩ | exact q5 ⟨by assumption, by omega⟩ | exact q6 ⟨by assumption, by simp_all⟩ | (rw [q2] at hhd; injection hhd with e1 e2; exact hc2 ⟨e1, e2⟩) | (obtain ⟨wo, hwo⟩ := Option.isSome_iff_exists.1 hg45; have := q3 wo hwo; rw [← how3 wo hwo] at this; omega))]
        exact finc1 ty62 rfl pK (by rfl) (⟨h, gL, gO, L, G, k, ⟨_, _, _, rfl⟩, rfl, Ex.refl W0 k, hl, by omega⟩) gS
       ·refine XC.seq fun K34 hK34 => ?_
        refine XC.region ?_
        refine x_v (r_fa fo39_2 rfl) rfl ?_
        refine x_v (r_ld ty3 rfl pK (by rfl)) rfl ?_
        refine x_v (r_eq rfl rfl) rfl ?_
        refine x_v (r_mv rfl) rfl ?_
        refine XL.splitd 105 rfl (fun hg105 => ?_) (fun hg105 => ?_)
        ·refine x_want rfl rfl rfl ?_
         refine x_v (r_mv rfl) rfl ?_
         refine x_want rfl rfl rfl ?_
         refine x_v (r_not rfl) rfl ?_
         refine x_v (r_pk_t rfl rfl) rfl ?_
         refine x_v (r_as rfl) rfl ?_
         refine XL.nil ?_
         refine hK34 _ _ ?_
         refine XC.keep [(0, _), (3, _), (4, _), (5, _), (101, _)] ⟨rfl, rfl, rfl, rfl, rfl, trivial⟩ ?_
         refine XC.cond rfl (fun hc19 => ?_) (fun hc19 => ?_)
         ·refine XC.seq fun K35 hK35 => ?_
          refine XC.region ?_
          refine x_c (r_call0 (args := [_]) ⟨rfl, rfl⟩ (failed_tr 123) gS) rfl ?_
          rintro _ _ ⟨rfl, rfl⟩
          refine x_e (r_st ty62 rfl rfl rfl rfl rfl uD oV) ?_
          refine XL.nil ?_
          refine hK35 _ _ ?_
          refine XC.keep [(4, _)] ⟨rfl, trivial⟩ ?_
          refine XC.ret ?_
          rw [do_no (fun q => by obtain ⟨q1, q2, q3, q4, q5, q6, q7⟩ := q; first | omega | exact q4 ⟨by assumption, by assumption⟩ | exact q5 ⟨by assumption, by omega⟩ | exact q6 ⟨by assumption, by simp_all⟩ | (rw [q2] at hhd; injection hhd with e1 e2; exact hc2 ⟨e1, e2⟩) | (obtain ⟨wo, hwo⟩ := Option.isSome_iff_exists.1 hg45; have := q3 wo hwo; rw [← how3 wo hwo] at this; omega))]
          exact finc1 ty62 rfl pK (by rfl) (⟨h, gL, gO, L, G, k, ⟨_, _, _, rfl⟩, rfl, Ex.refl W0 k, hl, by omega⟩) gS
         ·refine XC.seq fun K36 hK36 => ?_
          refine XC.draw [blk b 91 [.map (some h.mL), .int .i64 h.used, .map (some h.mO), .int .i64 h.hE, .int .i64 h.hS, .slice h.A h.n h.c, .slice h.lA h.ln h.lc, .int .i64 h.fence, .int .i64 h.settled, .int .i64 h.quota, .int .i64 h.room]] false [(0, false), (1, false), (2, false), (3, false), (4, false), (5, false), (6, false), (7, false), (8, false), (9, false), (10, false)] (by kernel_rfl) (by kernel_rfl) ?_
          refine y_v rfl (r_mv rfl) gT rfl ?_
          refine y_v rfl (r_nc rfl) gT rfl ?_
          refine y_v rfl (r_fa fo91_1 rfl) gT rfl ?_
          refine y_v rfl (r_ld ty33 rfl pK (by rfl)) gT rfl ?_
          refine y_v rfl (r_lensl Try.underlying33 rfl) gT rfl ?_
          refine y_v rfl (r_mv rfl) gT rfl ?_
          refine y_v rfl (r_nc rfl) gT rfl ?_
          refine y_v rfl (r_fa fo91_6 rfl) gT rfl ?_
          refine y_v rfl (r_ld ty3 rfl pK (by rfl)) gT rfl ?_
          refine y_v rfl (r_ge rfl rfl) gT rfl ?_
          refine y_v rfl (r_as rfl) gT rfl ?_
          refine XH.nil ?_
          refine hK36 _ _ ?_
          refine XC.keep [(0, _), (3, _), (4, _), (5, _), (110, _)] ⟨rfl, rfl, rfl, rfl, rfl, trivial⟩ ?_
          refine XC.cond_d rfl (fun hc20 => ?_) (fun hc20 => ?_)
          ·refine XC.seq fun K37 hK37 => ?_
           refine XC.region ?_
           refine x_c (r_call0 (args := [_]) ⟨rfl, rfl⟩ (failed_tr 125) gS) rfl ?_
           rintro _ _ ⟨rfl, rfl⟩
           refine x_e (r_st ty62 rfl rfl rfl rfl rfl uD oV) ?_
           refine XL.nil ?_
           refine hK37 _ _ ?_
           refine XC.keep [(4, _)] ⟨rfl, trivial⟩ ?_
           refine XC.ret ?_
           rw [do_no (fun q => by obtain ⟨q1, q2, q3, q4, q5, q6, q7⟩ := q; first | omega | exact q4 ⟨by assumption, by assumption⟩ | exact q5 ⟨by assumption, by omega⟩ | exact q6 ⟨by assumption, by simp_all⟩ | (rw [q2] at hhd; injection hhd with e1 e2; exact hc2 ⟨e1, e2⟩) | (obtain ⟨wo, hwo⟩ := Option.isSome_iff_exists.1 hg45; have := q3 wo hwo; rw [← how3 wo hwo] at this; omega))]
           exact finc1 ty62 rfl pK (by rfl) (⟨h, gL, gO, L, G, k, ⟨_, _, _, rfl⟩, rfl, Ex.refl W0 k, hl, by omega⟩) gS
          ·refine XC.skip ?_
           exact ⟨(), ⟨by omega, hho, hseq, by (rintro ⟨q1, q2⟩; first | omega | simp_all), by (rintro ⟨q1, q2⟩; omega), by (rintro ⟨q1, q2⟩; first | omega | simp_all), by omega⟩, ⟨rfl, rfl, rfl, rfl, trivial⟩, gS⟩
        ·refine x_unwant rfl rfl rfl rfl rfl ?_
         refine x_unwant rfl rfl rfl rfl rfl ?_
         refine x_v (r_pk_f rfl rfl) rfl ?_
         refine x_v (r_as rfl) rfl ?_
         refine XL.nil ?_
         refine hK34 _ _ ?_
         refine XC.keep [(0, _), (3, _), (4, _), (5, _), (101, _)] ⟨rfl, rfl, rfl, rfl, rfl, trivial⟩ ?_
         refine XC.cond_f rfl ?_
         refine XC.seq fun K38 hK38 => ?_
         refine XC.draw [blk b 91 [.map (some h.mL), .int .i64 h.used, .map (some h.mO), .int .i64 h.hE, .int .i64 h.hS, .slice h.A h.n h.c, .slice h.lA h.ln h.lc, .int .i64 h.fence, .int .i64 h.settled, .int .i64 h.quota, .int .i64 h.room]] false [(0, false), (1, false), (2, false), (3, false), (4, false), (5, false), (6, false), (7, false), (8, false), (9, false), (10, false)] (by kernel_rfl) (by kernel_rfl) ?_
         refine y_v rfl (r_mv rfl) gT rfl ?_
         refine y_v rfl (r_nc rfl) gT rfl ?_
         refine y_v rfl (r_fa fo91_1 rfl) gT rfl ?_
         refine y_v rfl (r_ld ty33 rfl pK (by rfl)) gT rfl ?_
         refine y_v rfl (r_lensl Try.underlying33 rfl) gT rfl ?_
         refine y_v rfl (r_mv rfl) gT rfl ?_
         refine y_v rfl (r_nc rfl) gT rfl ?_
         refine y_v rfl (r_fa fo91_6 rfl) gT rfl ?_
         refine y_v rfl (r_ld ty3 rfl pK (by rfl)) gT rfl ?_
         refine y_v rfl (r_ge rfl rfl) gT rfl ?_
         refine y_v rfl (r_as rfl) gT rfl ?_
         refine XH.nil ?_
         refine hK38 _ _ ?_
         refine XC.keep [(0, _), (3, _), (4, _), (5, _), (110, _)] ⟨rfl, rfl, rfl, rfl, rfl, trivial⟩ ?_
         refine XC.cond_d rfl (fun hc22 => ?_) (fun hc22 => ?_)
         ·refine XC.seq fun K39 hK39 => ?_
          refine XC.region ?_
          refine x_c (r_call0 (args := [_]) ⟨rfl, rfl⟩ (failed_tr 125) gS) rfl ?_
          rintro _ _ ⟨rfl, rfl⟩
          refine x_e (r_st ty62 rfl rfl rfl rfl rfl uD oV) ?_
          refine XL.nil ?_
          refine hK39 _ _ ?_
          refine XC.keep [(4, _)] ⟨rfl, trivial⟩ ?_
          refine XC.ret ?_
          rw [do_no (fun q => by obtain ⟨q1, q2, q3, q4, q5, q6, q7⟩ := q; first | omega | exact q4 ⟨by assumption, by assumption⟩ | exact q5 ⟨by assumption, by omega⟩ | exact q6 ⟨by assumption, by simp_all⟩ | (rw [q2] at hhd; injection hhd with e1 e2; exact hc2 ⟨e1, e2⟩) | (obtain ⟨wo, hwo⟩ := Option.isSome_iff_exists.1 hg45; have := q3 wo hwo; rw [← how3 wo hwo] at this; omega))]
          exact finc1 ty62 rfl pK (by rfl) (⟨h, gL, gO, L, G, k, ⟨_, _, _, rfl⟩, rfl, Ex.refl W0 k, hl, by omega⟩) gS
         ·refine XC.skip ?_
          exact ⟨(), ⟨by omega, hho, hseq, by (rintro ⟨q1, q2⟩; first | omega | simp_all), by (rintro ⟨q1, q2⟩; omega), by (rintro ⟨q1, q2⟩; first | omega | simp_all), by omega⟩, ⟨rfl, rfl, rfl, rfl, trivial⟩, gS⟩
      ·refine y_un rfl rfl rfl (fun _ h => Gets.own gS h) rfl ?_
       refine y_un rfl rfl rfl (fun _ h => Gets.own gS h) rfl ?_
       refine y_un rfl rfl rfl (fun _ h => Gets.own gS h) rfl ?_
       refine y_un rfl rfl rfl (fun _ h => Gets.own gS h) rfl ?_
       refine y_un rfl rfl rfl (fun _ h => Gets.own gS h) rfl ?_
       refine y_un rfl rfl rfl (fun _ h => Gets.own gS h) rfl ?_
       refine y_un rfl rfl rfl (fun _ h => Gets.own gS h) rfl ?_
       refine y_un rfl rfl rfl (fun _ h => Gets.own gS h) rfl ?_
       refine y_un rfl rfl rfl (fun _ h => Gets.own gS h) rfl ?_
       refine y_un rfl rfl rfl (fun _ h => Gets.own gS h) rfl ?_
       refine y_un rfl rfl rfl (fun _ h => Gets.own gS h) rfl ?_
       refine y_un rfl rfl rfl (fun _ h => Gets.own gS h) rfl ?_
       refine y_un rfl rfl rfl (fun _ h => Gets.own gS h) rfl ?_
       refine y_un rfl rfl rfl (fun _ h => Gets.own gS h) rfl ?_
       refine y_v rfl (r_pk_f rfl rfl) gT rfl ?_
       refine y_v rfl (r_as rfl) gT rfl ?_
       refine XH.nil ?_
       refine hK32 _ _ ?_
       refine XC.keep [(0, _), (3, _), (4, _), (5, _), (9, _), (80, _)] ⟨rfl, rfl, rfl, rfl, rfl, rfl, trivial⟩ ?_
       refine XC.cond_f rfl ?_
       refine XC.seq fun K40 hK40 => ?_
       refine XC.region ?_
       refine x_v (r_fa fo39_2 rfl) rfl ?_
       refine x_v (r_ld ty3 rfl pK (by rfl)) rfl ?_
       refine x_v (r_eq rfl rfl) rfl ?_
       refine x_v (r_mv rfl) rfl ?_
       refine XL.splitd 105 rfl (fun hg105 => ?_) (fun hg105 => ?_)
       ·refine x_want rfl rfl rfl ?_
        refine x_v (r_mv rfl) rfl ?_
        refine x_want rfl rfl rfl ?_
        refine x_v (r_not rfl) rfl ?_
        refine x_v (r_pk_t rfl rfl) rfl ?_
        refine x_v (r_as rfl) rfl ?_
        refine XL.nil ?_
        refine hK40 _ _ ?_
        refine XC.keep [(0, _), (3, _), (4, _), (5, _), (101, _)] ⟨rfl, rfl, rfl, rfl, rfl, trivial⟩ ?_
        refine XC.cond rfl (fun hc24 => ?_) (fun hc24 => ?_)
        ·refine XC.seq fun K41 hK41 => ?_
         refine XC.region ?_
         refine x_c (r_call0 (args := [_]) ⟨rfl, rfl⟩ (failed_tr 123) gS) rfl ?_
         rintro _ _ ⟨rfl, rfl⟩
         refine x_e (r_st ty62 rfl rfl rfl rfl rfl uD oV) ?_
         refine XL.nil ?_
         refine hK41 _ _ ?_
         refine XC.keep [(4, _)] ⟨rfl, trivial⟩ ?_
         refine XC.ret ?_
         rw [do_no (fun q => by obtain ⟨q1, q2, q3, q4, q5, q6, q7⟩ := q; first | omega | exact q4 ⟨by assumption, by assumption⟩ | exact q5 ⟨by assumption, by omega⟩ | exact q6 ⟨by assumption, by simp_all⟩ | (rw [q2] at hhd; injection hhd with e1 e2; exact hc2 ⟨e1, e2⟩) | (obtain ⟨wo, hwo⟩ := Option.isSome_iff_exists.1 hg45; have := q3 wo hwo; rw [← how3 wo hwo] at this; omega))]
         exact finc1 ty62 rfl pK (by rfl) (⟨h, gL, gO, L, G, k, ⟨_, _, _, rfl⟩, rfl, Ex.refl W0 k, hl, by omega⟩) gS
        ·refine XC.seq fun K42 hK42 => ?_
         refine XC.draw [blk b 91 [.map (some h.mL), .int .i64 h.used, .map (some h.mO), .int .i64 h.hE, .int .i64 h.hS, .slice h.A h.n h.c, .slice h.lA h.ln h.lc, .int .i64 h.fence, .int .i64 h.settled, .int .i64 h.quota, .int .i64 h.room]] false [(0, false), (1, false), (2, false), (3, false), (4, false), (5, false), (6, false), (7, false), (8, false), (9, false), (10, false)] (by kernel_rfl) (by kernel_rfl) ?_
         refine y_v rfl (r_mv rfl) gT rfl ?_
         refine y_v rfl (r_nc rfl) gT rfl ?_
         refine y_v rfl (r_fa fo91_1 rfl) gT rfl ?_
         refine y_v rfl (r_ld ty33 rfl pK (by rfl)) gT rfl ?_
         refine y_v rfl (r_lensl Try.underlying33 rfl) gT rfl ?_
         refine y_v rfl (r_mv rfl) gT rfl ?_
         refine y_v rfl (r_nc rfl) gT rfl ?_
         refine y_v rfl (r_fa fo91_6 rfl) gT rfl ?_
         refine y_v rfl (r_ld ty3 rfl pK (by rfl)) gT rfl ?_
         refine y_v rfl (r_ge rfl rfl) gT rfl ?_
         refine y_v rfl (r_as rfl) gT rfl ?_
         refine XH.nil ?_
         refine hK42 _ _ ?_
         refine XC.keep [(0, _), (3, _), (4, _), (5, _), (110, _)] ⟨rfl, rfl, rfl, rfl, rfl, trivial⟩ ?_
         refine XC.cond_d rfl (fun hc25 => ?_) (fun hc25 => ?_)
         ·refine XC.seq fun K43 hK43 => ?_
          refine XC.region ?_
          refine x_c (r_call0 (args := [_]) ⟨rfl, rfl⟩ (failed_tr 125) gS) rfl ?_
          rintro _ _ ⟨rfl, rfl⟩
          refine x_e (r_st ty62 rfl rfl rfl rfl rfl uD oV) ?_
          refine XL.nil ?_
          refine hK43 _ _ ?_
          refine XC.keep [(4, _)] ⟨rfl, trivial⟩ ?_
          refine XC.ret ?_
          rw [do_no (fun q => by obtain ⟨q1, q2, q3, q4, q5, q6, q7⟩ := q; first | omega | exact q4 ⟨by assumption, by assumption⟩ | exact q5 ⟨by assumption, by omega⟩ | exact q6 ⟨by assumption, by simp_all⟩ | (rw [q2] at hhd; injection hhd with e1 e2; exact hc2 ⟨e1, e2⟩) | (obtain ⟨wo, hwo⟩ := Option.isSome_iff_exists.1 hg45; have := q3 wo hwo; rw [← how3 wo hwo] at this; omega))]
          exact finc1 ty62 rfl pK (by rfl) (⟨h, gL, gO, L, G, k, ⟨_, _, _, rfl⟩, rfl, Ex.refl W0 k, hl, by omega⟩) gS
         ·refine XC.skip ?_
          exact ⟨(), ⟨by omega, hho, hseq, by (rintro ⟨q1, q2⟩; first | omega | simp_all), by (rintro ⟨q1, q2⟩; omega), by (rintro ⟨q1, q2⟩; first | omega | simp_all), by omega⟩, ⟨rfl, rfl, rfl, rfl, trivial⟩, gS⟩
       ·refine x_unwant rfl rfl rfl rfl rfl ?_
        refine x_unwant rfl rfl rfl rfl rfl ?_
        refine x_v (r_pk_f rfl rfl) rfl ?_
        refine x_v (r_as rfl) rfl ?_
        refine XL.nil ?_
        refine hK40 _ _ ?_
        refine XC.keep [(0, _), (3, _), (4, _), (5, _), (101, _)] ⟨rfl, rfl, rfl, rfl, rfl, trivial⟩ ?_
        refine XC.cond_f rfl ?_
        refine XC.seq fun K44 hK44 => ?_
        refine XC.draw [blk b 91 [.map (some h.mL), .int .i64 h.used, .map (some h.mO), .int .i64 h.hE, .int .i64 h.hS, .slice h.A h.n h.c, .slice h.lA h.ln h.lc, .int .i64 h.fence, .int .i64 h.settled, .int .i64 h.quota, .int .i64 h.room]] false [(0, false), (1, false), (2, false), (3, false), (4, false), (5, false), (6, false), (7, false), (8, false), (9, false), (10, false)] (by kernel_rfl) (by kernel_rfl) ?_
        refine y_v rfl (r_mv rfl) gT rfl ?_
        refine y_v rfl (r_nc rfl) gT rfl ?_
        refine y_v rfl (r_fa fo91_1 rfl) gT rfl ?_
        refine y_v rfl (r_ld ty33 rfl pK (by rfl)) gT rfl ?_
        refine y_v rfl (r_lensl Try.underlying33 rfl) gT rfl ?_
        refine y_v rfl (r_mv rfl) gT rfl ?_
        refine y_v rfl (r_nc rfl) gT rfl ?_
        refine y_v rfl (r_fa fo91_6 rfl) gT rfl ?_
        refine y_v rfl (r_ld ty3 rfl pK (by rfl)) gT rfl ?_
        refine y_v rfl (r_ge rfl rfl) gT rfl ?_
        refine y_v rfl (r_as rfl) gT rfl ?_
        refine XH.nil ?_
        refine hK44 _ _ ?_
        refine XC.keep [(0, _), (3, _), (4, _), (5, _), (110, _)] ⟨rfl, rfl, rfl, rfl, rfl, trivial⟩ ?_
        refine XC.cond_d rfl (fun hc27 => ?_) (fun hc27 => ?_)
        ·refine XC.seq fun K45 hK45 => ?_
         refine XC.region ?_
         refine x_c (r_call0 (args := [_]) ⟨rfl, rfl⟩ (failed_tr 125) gS) rfl ?_
         rintro _ _ ⟨rfl, rfl⟩
         refine x_e (r_st ty62 rfl rfl rfl rfl rfl uD oV) ?_
         refine XL.nil ?_
         refine hK45 _ _ ?_
         refine XC.keep [(4, _)] ⟨rfl, trivial⟩ ?_
         refine XC.ret ?_
         rw [do_no (fun q => by obtain ⟨q1, q2, q3, q4, q5, q6, q7⟩ := q; first | omega | exact q4 ⟨by assumption, by assumption⟩ | exact q5 ⟨by assumption, by omega⟩ | exact q6 ⟨by assumption, by simp_all⟩ | (rw [q2] at hhd; injection hhd with e1 e2; exact hc2 ⟨e1, e2⟩) | (obtain ⟨wo, hwo⟩ := Option.isSome_iff_exists.1 hg45; have := q3 wo hwo; rw [← how3 wo hwo] at this; omega))]
         exact finc1 ty62 rfl pK (by rfl) (⟨h, gL, gO, L, G, k, ⟨_, _, _, rfl⟩, rfl, Ex.refl W0 k, hl, by omega⟩) gS
        ·refine XC.skip ?_
         exact ⟨(), ⟨by omega, hho, hseq, by (rintro ⟨q1, q2⟩; first | omega | simp_all), by (rintro ⟨q1, q2⟩; omega), by (rintro ⟨q1, q2⟩; first | omega | simp_all), by omega⟩, ⟨rfl, rfl, rfl, rfl, trivial⟩, gS⟩
    ·rintro _ hdo
     have hrl : (l.ops.length : Int) < l.room := hdo.2.2.2.2.2.2
     refine XC.seq fun K46 hK46 => ?_
     refine XC.region ?_
     refine x_v (r_mv rfl) rfl ?_
     refine x_v (r_lda (l' := [_, _, _, _, _, _, _, _, _]) ty39 rfl pK rfl (Sub.get sU)) rfl ?_
     refine x_v (r_fa fo41_1 rfl) rfl ?_
     refine x_v (r_ld ty3 rfl pK (by rfl)) rfl ?_
     refine x_v (r_fa fo41_2 rfl) rfl ?_
     refine x_v (r_ld ty3 rfl pK (by rfl)) rfl ?_
     refine x_c (r_call0 (args := [_, _, _, _]) ⟨rfl, rfl, rfl, rfl, rfl⟩ (put_tr (k := k) (h := h) b c.op c.epoch c.site hl hro (by omega) (opOk_n hok (by omega))) gS) rfl ?_
     rintro _ _ ⟨h2, gL2, gO2, L2, k2, ⟨a33, d33, f33, rfl⟩, rfl, hx2, hl2, hln2⟩
     refine x_e (r_st ty62 rfl rfl rfl rfl rfl uD oV) ?_
     refine XL.nil ?_
     refine hK46 _ _ ?_
     refine XC.keep [(4, _)] ⟨rfl, trivial⟩ ?_
     refine XC.ret ?_
     have e : doL l c = putL l c.op.1 c.epoch c.site := by unfold doL; rw [if_pos hdo]
     rw [e]
     exact finc1 ty62 rfl pK (by rfl) (⟨h2, gL2, gO2, L2, G, k2, ⟨_, _, _, rfl⟩, rfl, hx2, hl2, by omega⟩) gS
end Go.Proofs.Ytheilpcbilnadaa

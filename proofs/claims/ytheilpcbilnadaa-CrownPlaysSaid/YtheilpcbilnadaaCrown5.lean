/- Crowns: a mail in memory of its own; what is played; commands that may be (small parts). -/
import Derived.Test.YtheilpcbilnadaaCrown4
namespace Go.Proofs.Ytheilpcbilnadaa
open Go.Sx
set_option linter.unusedVariables false

/-- A command in memory. -/
structure Cm where
 kind : Int
 epoch : Int
 site : Int
 op : Od
 after : Int
 since : Int
 ops : List Od
 pA : Option Addr
 pc : Nat
 tag : Int
def cmc (c : Cm) : List Value := [.int .i64 c.kind, .int .i64 c.epoch, .int .i64 c.site, .int .i64 c.op.1.n, .int .i64 c.op.1.epoch, .int .i64 c.op.1.kind, .int .i64 c.op.1.site, .int .i64 c.op.1.client, .int .i64 c.op.1.seq, str c.op.1.name, .int .i64 c.op.1.size, .slice c.op.2.1 c.op.1.hs.length c.op.2.2, .int .i64 c.after, .int .i64 c.since, .slice c.pA c.ops.length c.pc, .int .i64 c.tag]
/-- A call. -/
structure Tp where
 kind : Int
 n : Int
 m : Mal
 c : Cm
def tpc (t : Tp) : List Value := [.int .i64 t.kind, .int .i64 t.n, .int .i64 t.m.kind, .int .i64 t.m.term, .int .i64 t.m.index, .int .i64 t.m.prev, .int .i64 t.m.commit, .bool t.m.good, .slice t.m.eA t.m.es.length t.m.ec, str t.m.data, .slice t.m.hA t.m.hs.length t.m.hc, .int .i64 t.m.epoch, .int .i64 t.m.site, .int .i64 t.m.at1, .int .i64 t.m.at2, .int .i64 t.m.w1, .int .i64 t.m.w2, .slice t.m.oA t.m.ho.length t.m.oc, .slice t.m.pA t.m.ops.length t.m.pc,
 .int .i64 t.c.kind, .int .i64 t.c.epoch, .int .i64 t.c.site, .int .i64 t.c.op.1.n, .int .i64 t.c.op.1.epoch, .int .i64 t.c.op.1.kind, .int .i64 t.c.op.1.site, .int .i64 t.c.op.1.client, .int .i64 t.c.op.1.seq, str t.c.op.1.name, .int .i64 t.c.op.1.size, .slice t.c.op.2.1 t.c.op.1.hs.length t.c.op.2.2, .int .i64 t.c.after, .int .i64 t.c.since, .slice t.c.pA t.c.ops.length t.c.pc, .int .i64 t.c.tag]
theorem tpc_len (t : Tp) : (tpc t).length = 35 := rfl

/-- Whoever owns whatever can read it. -/
def OkO (W0 : World) (o : Od) : Prop := (∀ Fr, Rdb W0 Fr o.2.1 o.1.hs.length 1 (cells sv1 o.1.hs)) ∧ o.1.hs.length * 16 ≤ 140737488355328
theorem OkO.rd {W0 : World} {o : Od} (h : OkO W0 o) (k : HP) : RdO W0 k o := ⟨h.1 [k], h.2⟩
structure OkOs (W0 : World) (A : Option Addr) (L : List Od) : Prop where
 rd : ∀ Fr, Rdb W0 Fr A L.length 9 (cells odc L)
 len : L.length * 96 ≤ 140737488355328
 el : ∀ o ∈ L, OkO W0 o
structure OkM (W0 : World) (m : Mal) : Prop where
 es : ∀ Fr, Rdb W0 Fr m.eA m.es.length 2 (cells ec m.es)
 el : m.es.length * 24 ≤ 140737488355328
 hs : ∀ Fr, Rdb W0 Fr m.hA m.hs.length 1 (cells sv1 m.hs)
 hl : m.hs.length * 16 ≤ 140737488355328
 ho : ∀ Fr, Rdb W0 Fr m.oA m.ho.length 1 (cells iv1 m.ho)
 ol : m.ho.length * 8 ≤ 140737488355328
 ops : OkOs W0 m.pA m.ops
 dl : m.data.length ≤ 140737488355328
structure OkC (W0 : World) (c : Cm) : Prop where
 op : OkO W0 c.op
 ops : OkOs W0 c.pA c.ops
theorem OkM.lens {W0 : World} {m : Mal} (h : OkM W0 m) : Lens m := by
 have := h.el; have := h.hl; have := h.ol; have := h.ops.len; have := h.dl
 exact ⟨by omega, by omega, by omega, by omega, by omega⟩

theorem own15_tr {W0 : World} {Fr : List HP} (m : Mal) (h : OkM W0 m) : Tr W0 Try.prog 13 [.agg (mac m).toArray] Fr (fun v Rs' => (∃ a b c d e f L g i, fst1 L = fst1 m.ops ∧ v = .agg (mac { m with eA := a, ec := b, hA := c, hc := d, oA := e, oc := f, ops := L, pA := g, pc := i }).toArray) ∧ Rs' = Fr) := by
 have hel := h.el; have hhl := h.hl; have hol := h.ol; have hop := h.ops.len
 refine Entry.tr (N := 23) (rs := [.cell 2 35]) ⟨_, Try.func13, rfl, by kernel_rfl, rfl, rfl⟩ rfl ?_
 refine XC.seq fun K1 hK1 => ?_
 refine XC.region ?_
 refine x_a (r_bx rfl rfl) rfl fun b1 => ?_
 unfold mac
 refine x_a (r_al ty35 rfl) rfl fun b2 => ?_
 refine XL.nil ?_
 refine hK1 _ _ ?_
 refine XC.keep [(1, _), (2, _)] ⟨rfl, rfl, trivial⟩ ?_
 refine XC.seq fun K2 hK2 => ?_
 refine XC.region ?_
 refine x_a (r_bs (vs := []) rfl rfl bs29_0_) rfl fun b3 => ?_
 refine XL.shut_ (n := 0) (c := 0) (sz := 1) (xs := []) pK (Nat.le_refl _) (Nat.zero_le _) rfl rfl ?_
 refine x_v (r_fa fo35_8 rfl) rfl ?_
 refine x_v (r_ld ty29 rfl pK (by rfl)) rfl ?_
 refine x_a (r_app Try.underlying29 ty9 rfl (by decide) rfl rfl pK (h.hs _) (cells_one' sv1_one m.hs) (by unfold maxLen; omega) (by omega)) rfl fun ⟨A6, c6⟩ => ?_
 dsimp only
 rw [Nat.zero_add, List.nil_append]
 refine x_v (r_fa fo35_8 rfl) rfl ?_
 refine x_e (r_st ty29 rfl rfl rfl rfl rfl uD oV) ?_
 refine XL.nil ?_
 refine hK2 _ _ ?_
 refine XC.keep [(1, _), (2, _)] ⟨rfl, rfl, trivial⟩ ?_
 refine XC.seq fun K3 hK3 => ?_
 refine XC.region ?_
 refine x_a (r_bs (vs := []) rfl rfl bs32_0_) rfl fun b8 => ?_
 refine XL.shut_ (n := 0) (c := 0) (sz := 1) (xs := []) pK (Nat.le_refl _) (Nat.zero_le _) rfl rfl ?_
 refine x_v (r_fa fo35_13 rfl) rfl ?_
 refine x_v (r_ld ty32 rfl pK (by rfl)) rfl ?_
 refine x_a (r_app Try.underlying32 ty3 rfl (by decide) rfl rfl pK (h.ho _) (cells_one' iv1_one m.ho) (by unfold maxLen; omega) (by omega)) rfl fun ⟨A11, c11⟩ => ?_
 dsimp only
 rw [Nat.zero_add, List.nil_append]
 refine x_v (r_fa fo35_13 rfl) rfl ?_
 refine x_e (r_st ty32 rfl rfl rfl rfl rfl uD oV) ?_
 refine XL.nil ?_
 refine hK3 _ _ ?_
 refine XC.keep [(1, _), (2, _)] ⟨rfl, rfl, trivial⟩ ?_
 refine XC.seq fun K4 hK4 => ?_
 refine XC.region ?_
 refine x_a (r_bs (vs := []) rfl rfl bs28_0_) rfl fun b13 => ?_
 refine XL.shut_ (n := 0) (c := 0) (sz := 2) (xs := []) pK (Nat.le_refl _) (Nat.zero_le _) rfl rfl ?_
 refine x_v (r_fa fo35_6 rfl) rfl ?_
 refine x_v (r_ld ty28 rfl pK (by rfl)) rfl ?_
 refine x_a (r_app Try.underlying28 ty110 rfl (by decide) rfl rfl pK (h.es _) (cells_one' ec_one m.es) (by unfold maxLen; omega) (by omega)) rfl fun ⟨A16, c16⟩ => ?_
 dsimp only
 rw [Nat.zero_add, List.nil_append]
 refine x_v (r_fa fo35_6 rfl) rfl ?_
 refine x_e (r_st ty28 rfl rfl rfl rfl rfl uD oV) ?_
 refine XL.nil ?_
 refine hK4 _ _ ?_
 refine XC.keep [(1, _), (2, _)] ⟨rfl, rfl, trivial⟩ ?_
 refine XC.seq fun K5 hK5 => ?_
 refine XC.nil_ 39 9 ?_
 refine XC.region ?_
 refine x_v (r_fa fo35_14 rfl) rfl ?_
 refine x_v (r_ld ty33 rfl pK (by rfl)) rfl ?_
 refine x_c (r_call0 (args := [_]) ⟨rfl, rfl⟩ (ownops_tr (k := sl none 0 0 39 9 []) m.pA m.pc m.ops (fun _ _ => h.ops.rd _) (fun o ho => (h.ops.el o ho).rd _) hop) gS) rfl ?_
 rintro _ _ ⟨A20, c20, k20, L20, rfl, rfl, hx20, hf20, hk20⟩
 refine x_v (r_fa fo35_14 rfl) rfl ?_
 refine x_e (r_st ty33 rfl rfl rfl rfl rfl uD oV) ?_
 refine XL.nil ?_
 refine hK5 _ _ ?_
 refine XC.keep [(1, _), (2, _)] ⟨rfl, rfl, trivial⟩ ?_
 refine XC.seq fun K6 hK6 => ?_
 refine XC.region ?_
 refine x_v (r_lda (l' := [_, _, _, _, _, _, _, _, _, _, _, _, _, _, _, _, _]) ty35 rfl pK rfl (Sub.get sU)) rfl ?_
 refine x_e (r_st ty35 rfl rfl rfl rfl rfl uD oV) ?_
 refine XL.nil ?_
 refine hK6 _ _ ?_
 refine XC.keep [(2, _)] ⟨rfl, trivial⟩ ?_
 refine XC.ret ?_
 exact finc1 ty35 rfl pK (by rfl) (⟨⟨A16, c16, A6, c6, A11, c11, L20, A20, c20, hf20, rfl⟩, rfl⟩) gS

theorem heavy_tr {W0 : World} {Fr : List HP} (t : Tp) (hm : OkM W0 t.m) (hc : OkC W0 t.c) : Tr W0 Try.prog 8 [.agg (tpc t).toArray] Fr (fun v Rs' => (∃ g, v = .bool g) ∧ Rs' = Fr) := by
 have h1 := hm.el; have h2 := hm.hl; have h3 := hm.ol; have h4 := hm.ops.len; have h5 := hm.dl; have h6 := hc.ops.len; have h7 := hc.op.2
 obtain ⟨mo, hmo⟩ : ∃ mo : Nat → List Od × Option Addr × Nat, mo = fun n => if n = 0 then (t.m.ops, t.m.pA, t.m.pc) else (t.c.ops, t.c.pA, t.c.pc) := ⟨_, rfl⟩
 have hok : ∀ n, OkOs W0 (mo n).2.1 (mo n).1 := fun n => by rw [hmo]; dsimp only; split; exact hm.ops; exact hc.ops
 have hat2 : ∀ n, n < 2 → (#[.slice t.m.pA t.m.ops.length t.m.pc, .slice t.c.pA t.c.ops.length t.c.pc] : Array Value)[n]? = some (.slice (mo n).2.1 (mo n).1.length (mo n).2.2) := fun n hn => by
  rw [hmo]
  rcases n with _ | _ | n
  ·rfl
  ·rfl
  ·omega
 refine Entry.tr (N := 69) (rs := [.tmp 2]) ⟨_, Try.func8, rfl, by kernel_rfl, rfl, rfl⟩ rfl ?_
 refine XC.seq fun K1 hK1 => ?_
 refine XC.region ?_
 refine x_a (r_bx rfl rfl) rfl fun b1 => ?_
 unfold tpc
 refine x_v (r_as rfl) rfl ?_
 refine XL.nil ?_
 refine hK1 _ _ ?_
 refine XC.keep [(1, _)] ⟨rfl, trivial⟩ ?_
 refine XC.seq fun K2 hK2 => ?_
 refine XC.region ?_
 refine x_v (r_fa fo43_2 rfl) rfl ?_
 refine x_v (r_fa fo35_6 rfl) rfl ?_
 refine x_v (r_ld ty28 rfl pK (by rfl)) rfl ?_
 refine x_v (r_lensl Try.underlying28 rfl) rfl ?_
 refine x_v (r_fa fo43_2 rfl) rfl ?_
 refine x_v (r_fa fo35_8 rfl) rfl ?_
 refine x_v (r_ld ty29 rfl pK (by rfl)) rfl ?_
 refine x_v (r_lensl Try.underlying29 rfl) rfl ?_
 refine x_v (r_add rfl rfl (by omega)) rfl ?_
 refine x_v (r_fa fo43_2 rfl) rfl ?_
 refine x_v (r_fa fo35_14 rfl) rfl ?_
 refine x_v (r_ld ty33 rfl pK (by rfl)) rfl ?_
 refine x_v (r_lensl Try.underlying33 rfl) rfl ?_
 refine x_v (r_add rfl rfl (by omega)) rfl ?_
 refine x_v (r_fa fo43_3 rfl) rfl ?_
 refine x_v (r_fa fo41_6 rfl) rfl ?_
 refine x_v (r_ld ty33 rfl pK (by rfl)) rfl ?_
 refine x_v (r_lensl Try.underlying33 rfl) rfl ?_
 refine x_v (r_add rfl rfl (by omega)) rfl ?_
 refine x_v (r_fa fo43_3 rfl) rfl ?_
 refine x_v (r_fa fo41_3 rfl) rfl ?_
 refine x_v (r_fa fo39_7 rfl) rfl ?_
 refine x_v (r_fa fo37_1 rfl) rfl ?_
 refine x_v (r_ld ty29 rfl pK (by rfl)) rfl ?_
 refine x_v (r_lensl Try.underlying29 rfl) rfl ?_
 refine x_v (r_add rfl rfl (by omega)) rfl ?_
 refine x_v (r_as rfl) rfl ?_
 refine XL.nil ?_
 refine hK2 _ _ ?_
 refine XC.keep [(1, _), (3, _)] ⟨rfl, rfl, trivial⟩ ?_
 refine XC.seq fun K3 hK3 => ?_
 refine XC.seq fun K4 hK4 => ?_
 refine XC.region ?_
 refine x_v (r_mv rfl) rfl ?_
 refine x_v (r_gt rfl rfl) rfl ?_
 refine x_v (r_mv rfl) rfl ?_
 refine XL.splitd 36 rfl (fun hg36 => ?_) (fun hg36 => ?_)
 ·refine x_unwant rfl rfl rfl rfl rfl ?_
  refine x_unwant rfl rfl rfl rfl rfl ?_
  refine x_unwant rfl rfl rfl rfl rfl ?_
  refine x_unwant rfl rfl rfl rfl rfl ?_
  refine x_unwant rfl rfl rfl rfl rfl ?_
  refine x_v (r_pk_t rfl rfl) rfl ?_
  refine XL.nil ?_
  refine hK4 _ _ ?_
  refine XC.keep [(1, _), (3, _), (42, _)] ⟨rfl, rfl, rfl, trivial⟩ ?_
  refine XC.cond_t rfl ?_
  refine XC.seq fun K5 hK5 => ?_
  refine XC.region ?_
  refine x_v (r_as rfl) rfl ?_
  refine XL.nil ?_
  refine hK5 _ _ ?_
  refine XC.keep [(2, _)] ⟨rfl, trivial⟩ ?_
  refine XC.ret ?_
  exact fin1 rfl (⟨⟨_, rfl⟩, rfl⟩) gS
 ·refine x_want rfl rfl rfl ?_
  refine x_v (r_fa fo43_2 rfl) rfl ?_
  refine x_want rfl rfl rfl ?_
  refine x_v (r_fa fo35_7 rfl) rfl ?_
  refine x_want rfl rfl rfl ?_
  refine x_v (r_ld ty9 rfl pK (by rfl)) rfl ?_
  refine x_want rfl rfl rfl ?_
  refine x_v (r_lens Try.underlying9 rfl) rfl ?_
  refine x_want rfl rfl rfl ?_
  refine x_v (r_gt rfl rfl) rfl ?_
  refine x_v (r_pk_f rfl rfl) rfl ?_
  refine XL.nil ?_
  refine hK4 _ _ ?_
  refine XC.keep [(1, _), (3, _), (42, _)] ⟨rfl, rfl, rfl, trivial⟩ ?_
  refine XC.cond_d rfl (fun hc2 => ?_) (fun hc2 => ?_)
  ·refine XC.seq fun K6 hK6 => ?_
   refine XC.region ?_
   refine x_v (r_as rfl) rfl ?_
   refine XL.nil ?_
   refine hK6 _ _ ?_
   refine XC.keep [(2, _)] ⟨rfl, trivial⟩ ?_
   refine XC.ret ?_
   exact fin1 rfl (⟨⟨_, rfl⟩, rfl⟩) gS
  ·refine XC.skip ?_
   refine hK3 _ _ ?_
   refine XC.keep [(1, _), (3, _)] ⟨rfl, rfl, trivial⟩ ?_
   refine XC.seq fun K7 hK7 => ?_
   refine XC.seq fun K8 hK8 => ?_
   refine XC.region ?_
   refine x_v (r_fa fo43_2 rfl) rfl ?_
   refine x_v (r_fa fo35_14 rfl) rfl ?_
   refine x_v (r_ld ty33 rfl pK (by rfl)) rfl ?_
   refine x_v (r_fa fo43_3 rfl) rfl ?_
   refine x_v (r_fa fo41_6 rfl) rfl ?_
   refine x_v (r_ld ty33 rfl pK (by rfl)) rfl ?_
   refine x_v (r_bd (vs := [_, _]) rfl ⟨rfl, rfl, rfl⟩ (bd82_0_1 _ _ _ _ _ _)) rfl ?_
   refine x_v (r_mv rfl) rfl ?_
   refine XL.nil ?_
   refine hK8 _ _ ?_
   refine XC.keep [(3, _), (49, _), (50, _)] ⟨rfl, rfl, rfl, trivial⟩ ?_
   refine XC.block ?_
   refine XC.loop (σ := Nat × Int) (fun s => [(3, .int .i64 s.2), (49, .agg #[.slice t.m.pA t.m.ops.length t.m.pc, .slice t.c.pA t.c.ops.length t.c.pc]), (50, .int .i64 (s.1 : Int))]) (fun s => Fr) (fun s => s.1 ≤ 2 ∧ 0 ≤ s.2 ∧ s.2 ≤ 300) (fun s => 2 - s.1) (0, (t.m.es.length : Int) + t.m.hs.length + t.m.ops.length + t.c.ops.length + t.c.op.1.hs.length) ?_ ⟨rfl, rfl, rfl, trivial⟩ gS ?_
   ·dsimp only; omega
   rintro ⟨n, z⟩ ⟨hn, hz0, hz1⟩
   dsimp only at hn hz0 hz1 ⊢
   refine XC.seq fun K9 hK9 => ?_
   refine XC.region ?_
   refine x_v (r_lt rfl rfl) rfl ?_
   refine XL.nil ?_
   refine hK9 _ _ ?_
   refine XC.keep [(3, _), (49, _), (50, _), (51, _)] ⟨rfl, rfl, rfl, rfl, trivial⟩ ?_
   refine XC.seq fun K10 hK10 => ?_
   refine XC.cond_d rfl (fun hc3 => ?_) (fun hc3 => ?_)
   ·refine XC.skip ?_
    refine hK10 _ _ ?_
    refine XC.keep [(3, _), (49, _), (50, _)] ⟨rfl, rfl, rfl, trivial⟩ ?_
    refine XC.seq fun K11 hK11 => ?_
    refine XC.block ?_
    refine XC.seq fun K12 hK12 => ?_
    refine XC.region ?_
    refine x_v (r_aix (j := n) Try.underlying82 ty33 rfl rfl rfl (by omega) (hat2 n (by omega))) rfl ?_
    refine x_v (r_as rfl) rfl ?_
    refine XL.nil ?_
    refine hK12 _ _ ?_
    refine XC.keep [(3, _), (5, _), (49, _), (50, _)] ⟨rfl, rfl, rfl, rfl, trivial⟩ ?_
    refine XC.seq fun K13 hK13 => ?_
    obtain ⟨hord, hol, hoel⟩ := hok n
    generalize mo n = q at hord hol hoel ⊢
    obtain ⟨Ln, An, cn⟩ := q
    dsimp only at hord hol hoel ⊢
    refine XC.region ?_
    refine x_v (r_mv rfl) rfl ?_
    refine x_v (r_lensl Try.underlying33 rfl) rfl ?_
    refine x_v (r_mv rfl) rfl ?_
    refine XL.nil ?_
    refine hK13 _ _ ?_
    refine XC.keep [(3, _), (49, _), (50, _), (53, _), (54, _), (55, _)] ⟨rfl, rfl, rfl, rfl, rfl, rfl, trivial⟩ ?_
    refine XC.block ?_
    refine XC.loop (σ := Nat × Int) (fun s => [(3, .int .i64 s.2), (49, .agg #[.slice t.m.pA t.m.ops.length t.m.pc, .slice t.c.pA t.c.ops.length t.c.pc]), (50, .int .i64 (n : Int)), (53, .slice An Ln.length cn), (54, .int .i64 (Ln.length : Int)), (55, .int .i64 (s.1 : Int))]) (fun s => Fr) (fun s => s.1 ≤ Ln.length ∧ 0 ≤ s.2 ∧ s.2 ≤ 300) (fun s => Ln.length - s.1) (0, z) ?_ ⟨rfl, rfl, rfl, rfl, rfl, rfl, trivial⟩ gS ?_
    ·dsimp only; omega
    rintro ⟨i, z2⟩ ⟨hi, hz2, hz3⟩
    dsimp only at hi hz2 hz3 ⊢
    refine XC.seq fun K14 hK14 => ?_
    refine XC.region ?_
    refine x_v (r_lt rfl rfl) rfl ?_
    refine XL.nil ?_
    refine hK14 _ _ ?_
    refine XC.keep [(3, _), (49, _), (50, _), (53, _), (54, _), (55, _), (56, _)] ⟨rfl, rfl, rfl, rfl, rfl, rfl, rfl, trivial⟩ ?_
    refine XC.seq fun K15 hK15 => ?_
    refine XC.cond_d rfl (fun hc4 => ?_) (fun hc4 => ?_)
    ·refine XC.skip ?_
     refine hK15 _ _ ?_
     refine XC.keep [(3, _), (49, _), (50, _), (53, _), (54, _), (55, _)] ⟨rfl, rfl, rfl, rfl, rfl, rfl, trivial⟩ ?_
     refine XC.seq fun K16 hK16 => ?_
     refine XC.block ?_
     refine XC.seq fun K17 hK17 => ?_
     obtain ⟨o, ho⟩ : ∃ o, Ln[i]? = some o := ⟨_, List.getElem?_eq_getElem (by omega)⟩
     have hro := (hoel o (List.mem_of_getElem? ho)).2
     obtain ⟨ob, oo, rfl, hat⟩ := (hord []).at_ (by omega)
     refine XC.region ?_
     refine x_v (r_ia (k := i) Try.underlying33 ty39 rfl rfl (by omega) (by omega)) rfl ?_
     refine x_v (r_ldar (l' := odc o) ty39 rfl rfl (fun w hw j u hu => by rw [Nat.add_assoc]; exact hat w (Gets.own gS hw) _ u (cells_get odc_len Ln _ _ ho j u hu))) rfl ?_
     rw [odc_def o]
     refine x_a (r_al ty39 rfl) rfl fun b7 => ?_
     refine x_e (r_st ty39 rfl rfl rfl rfl rfl uD oV) ?_
     refine XL.nil ?_
     refine hK17 _ _ ?_
     refine XC.keep [(3, _), (7, _), (49, _), (50, _), (53, _), (54, _), (55, _)] ⟨rfl, rfl, rfl, rfl, rfl, rfl, rfl, trivial⟩ ?_
     refine XC.seq fun K18 hK18 => ?_
     refine XC.region ?_
     refine x_v (r_mv rfl) rfl ?_
     refine x_v (r_fa fo39_7 rfl) rfl ?_
     refine x_v (r_fa fo37_1 rfl) rfl ?_
     refine x_v (r_ld ty29 rfl pK (by rfl)) rfl ?_
     refine x_v (r_lensl Try.underlying29 rfl) rfl ?_
     refine x_v (r_add rfl rfl (by omega)) rfl ?_
     refine x_v (r_as rfl) rfl ?_
     refine XL.nil ?_
     refine hK18 _ _ ?_
     refine XC.keep [(3, _), (49, _), (50, _), (53, _), (54, _), (55, _)] ⟨rfl, rfl, rfl, rfl, rfl, rfl, trivial⟩ ?_
     refine XC.seq fun K19 hK19 => ?_
     refine XC.region ?_
     refine x_v (r_mv rfl) rfl ?_
     refine x_v (r_gt rfl rfl) rfl ?_
     refine XL.nil ?_
     refine hK19 _ _ ?_
     refine XC.keep [(3, _), (49, _), (50, _), (53, _), (54, _), (55, _), (66, _)] ⟨rfl, rfl, rfl, rfl, rfl, rfl, rfl, trivial⟩ ?_
     refine XC.cond_d rfl (fun hc5 => ?_) (fun hc5 => ?_)
     ·refine XC.seq fun K20 hK20 => ?_
      refine XC.region ?_
      refine x_v (r_as rfl) rfl ?_
      refine XL.nil ?_
      refine hK20 _ _ ?_
      refine XC.keep [(2, _)] ⟨rfl, trivial⟩ ?_
      refine XC.ret ?_
      exact fin1 rfl (⟨⟨_, rfl⟩, rfl⟩) gS
     ·refine XC.skip ?_
      refine hK16 _ _ ?_
      refine XC.keep [(3, _), (49, _), (50, _), (53, _), (54, _), (55, _)] ⟨rfl, rfl, rfl, rfl, rfl, rfl, trivial⟩ ?_
      refine XC.region ?_
      refine x_v (r_add rfl rfl (by omega)) rfl ?_
      refine x_v (r_mv rfl) rfl ?_
      refine XL.nil ?_
      refine ⟨(i + 1, z2 + (o.1.hs.length : Int)), ?_, ?_, ⟨rfl, rfl, rfl, rfl, rfl, rfl, trivial⟩, gS⟩
      ·dsimp only; omega
      ·dsimp only; omega
    ·refine XC.exit rfl ?_
     refine hK11 _ _ ?_
     refine XC.keep [(3, _), (49, _), (50, _)] ⟨rfl, rfl, rfl, trivial⟩ ?_
     refine XC.region ?_
     refine x_v (r_add rfl rfl (by omega)) rfl ?_
     refine x_v (r_mv rfl) rfl ?_
     refine XL.nil ?_
     refine ⟨(n + 1, z2), ?_, ?_, ⟨rfl, rfl, rfl, trivial⟩, gS⟩
     ·dsimp only; omega
     ·dsimp only; omega
   ·refine XC.exit rfl ?_
    refine hK7 _ _ ?_
    refine XC.keep [] trivial ?_
    refine XC.seq fun K21 hK21 => ?_
    refine XC.region ?_
    refine x_v (r_as rfl) rfl ?_
    refine XL.nil ?_
    refine hK21 _ _ ?_
    refine XC.keep [(2, _)] ⟨rfl, trivial⟩ ?_
    refine XC.ret ?_
    exact fin1 rfl (⟨⟨_, rfl⟩, rfl⟩) gS
end Go.Proofs.Ytheilpcbilnadaa

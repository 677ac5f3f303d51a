/- Polls: ticks, proposals. -/
import Derived.Test.YtlogcldbflemfaaPoll5
namespace Go.Proofs.Ytlogcldbflemfaa
open Go.Sx Go.Rf
set_option linter.unusedVariables false

theorem ints_at {W0 : World} {g n c : Nat} {ns : List Int} {j : Nat} {x : Int} (hj : ns[j]? = some x) : ∀ w, Own W0 w [sl (some ⟨g, 0, none⟩) n c 3 1 (iv ns)] → w.cell? ⟨g, 0 + j * 1, none⟩ = some (.int .i64 x) := by
  intro w hw
  have hl := hw.sl_len.1
  have hr : Rdb W0 [sl (some ⟨g, 0, none⟩) n c 3 1 (iv ns)] (some ⟨g, 0, none⟩) n 1 (iv ns) := Rdb.of_sl (.head _ _) hl (fun _ => ⟨g, rfl⟩)
  have hln : ns.length = n := by simpa [iv] using hl
  have hjl := (List.getElem?_eq_some_iff.1 hj).1
  obtain ⟨b, o, e, k⟩ := hr.at_ (by omega)
  simp only [Option.some.injEq, Addr.mk.injEq, and_true] at e
  obtain ⟨rfl, rfl⟩ := e
  have := k w hw j _ (iv_get hj)
  simpa using this

theorem tick_tr {W0 : World} {Fr : List HP} {k : HP} {p : Pl} {A : Option Addr} {c : Nat} {B : Nat} (b : Nat) (M : Option Nat) (draw : Int) (h : PB W0 k p A c) (hL : Lim B p) (hB : B ≤ 1000000) (hM : p.role = 1 → M ≠ none) :
    Tr W0 Try.prog 22 [.pointer (some ⟨b, 0, none⟩), .int .i64 draw] (blk b 90 (pc p A c M) :: vmo M :: k :: Fr) (NP W0 k Fr b (tick p draw).1 (tick p draw).2) := by
  have hel := h.el; have hb0 := h.b0; have hb1 := h.b1; have hec := h.ec
  have hc0 := hL.ck0; have hc1 := hL.ck1; have ht0 := hL.t0; have ht1 := hL.t1; have hs0 := hL.sp0; have hs1 := hL.sp1; have hcb0 := hL.cb0; have hcb1 := hL.cb1
  have hmost : most = 1099511627776 := rfl
  have hq := (hL.mono (B' := B + 1) (by omega)).clock (p.clock + 1) (by omega) (by omega)
  obtain ⟨q, hqd⟩ : ∃ q : Pl, q = { p with clock := p.clock + 1 } := ⟨_, rfl⟩
  rw [← hqd] at hq
  have hPq : PB W0 k q A c := by rw [hqd]; exact ⟨h.rd, h.el, h.ec, h.b0, h.b1⟩
  have hqc : q.clock = p.clock + 1 := by rw [hqd]
  have hqr : q.role = p.role := by rw [hqd]
  have hqt : q.term = p.term := by rw [hqd]
  have hqw : q.spread = p.spread ∧ q.cbase = p.cbase := by rw [hqd]; exact ⟨rfl, rfl⟩
  have e1 : p.role = 2 → tick p draw = (q, feed q (others q)) := fun hr => by unfold tick; dsimp only; rw [if_pos hr, hqd]
  have e2 : ¬ p.role = 2 → (q.clock < q.wait ∨ q.term = most) → tick p draw = (q, []) := fun hr hw => by unfold tick; dsimp only; rw [if_neg hr, if_pos (by rw [hqd] at hw; exact hw), hqd]
  obtain ⟨r0, hr0⟩ : ∃ r0 : Pl, r0 = { q with term := q.term + 1, vote := q.me, touched := true, role := 1, lead := -1, clock := 0 } := ⟨_, rfl⟩
  obtain ⟨r, hrd⟩ : ∃ r : Pl, r = { r0 with wait := r0.cbase + (draw.tmod r0.spread + r0.spread).tmod r0.spread } := ⟨_, rfl⟩
  have hrw : r0.spread = p.spread ∧ r0.cbase = p.cbase := by rw [hr0, hqd]; exact ⟨rfl, rfl⟩
  have e3 : ¬ p.role = 2 → ¬ (q.clock < q.wait ∨ q.term = most) → tick p draw = (r, (others r).map fun n => mail r n { zm with kind := 1, index := lastI r, prev := lastT r }) := fun hr hw => by unfold tick; dsimp only; rw [if_neg hr, if_neg (by rw [hqd] at hw; exact hw), hrd, hr0, hqd]
  have hPr : PB W0 k r A c := by rw [hrd, hr0]; exact ⟨hPq.rd, hPq.el, hPq.ec, hPq.b0, hPq.b1⟩
  have hmd := tmod_in (i := draw) hs0 hs1
  have hmd2 := tmod_pos (i := draw) hs0 hs1
  refine Entry.tr (N := 130) (rs := [.tmp 4]) ⟨_, Try.func22, rfl, by kernel_rfl, rfl, rfl⟩ rfl ?_
  refine XC.seq fun K1 hK1 => ?_
  refine XC.region ?_
  refine x_v (r_as rfl) rfl ?_
  refine XL.nil ?_
  refine hK1 _ _ ?_
  refine XC.keep [(0, _), (1, _)] ⟨rfl, rfl, trivial⟩ ?_
  refine XC.seq fun K2 hK2 => ?_
  refine XC.seq fun K3 hK3 => ?_
  refine XC.region ?_
  refine x_v (r_mv rfl) rfl ?_
  refine x_v (r_peq_some Try.underlying23 rfl rfl) rfl ?_
  refine XL.nil ?_
  refine hK3 _ _ ?_
  refine XC.keep [(0, _), (1, _), (11, _)] ⟨rfl, rfl, rfl, trivial⟩ ?_
  refine XC.cond_f rfl ?_
  refine XC.skip ?_
  refine hK2 _ _ ?_
  refine XC.keep [(0, _), (1, _)] ⟨rfl, rfl, trivial⟩ ?_
  refine XC.seq fun K4 hK4 => ?_
  refine XC.region ?_
  refine x_v (r_mv rfl) rfl ?_
  refine x_v (r_nc rfl) rfl ?_
  refine x_v (r_fa fo90_7 rfl) rfl ?_
  refine x_v (r_ld ty3 rfl (by repeat (first | exact Pick.head _ _ | apply Pick.tail)) (by rfl)) rfl ?_
  refine x_v (r_add rfl rfl (by omega)) rfl ?_
  refine x_v (r_nc rfl) rfl ?_
  refine x_v (r_fa fo90_7 rfl) rfl ?_
  refine x_e (r_st ty3 rfl rfl rfl rfl rfl (by repeat (first | exact Upd.head _ _ _ | apply Upd.tail)) (by repeat (first | exact Over.nil _ | apply Over.put | apply Over.skip))) ?_
  refine XL.nil ?_
  refine hK4 _ _ ?_
  refine XC.keep [(0, _), (1, _)] ⟨rfl, rfl, trivial⟩ ?_
  refine XC.seq fun K5 hK5 => ?_
  refine XC.block ?_
  refine XC.seq fun K6 hK6 => ?_
  refine XC.mem (blk b 90 (pc q A c M) :: vmo M :: k :: Fr) (fun w h => by rw [hqd]; exact Gets.own (by repeat (first | exact Gets.done _ | exact Gets.all _ | (apply Gets.step; focus ((repeat (first | exact Pick.head _ _ | apply Pick.tail)); done)) | apply Gets.drop)) h) ?_
  refine XC.region ?_
  refine x_v (r_mv rfl) rfl ?_
  refine x_v (r_nc rfl) rfl ?_
  refine x_v (r_fa fo90_4 rfl) rfl ?_
  refine x_v (r_ld ty3 rfl (by repeat (first | exact Pick.head _ _ | apply Pick.tail)) (by rfl)) rfl ?_
  refine x_v (r_eq rfl rfl) rfl ?_
  refine x_v (r_as rfl) rfl ?_
  refine XL.nil ?_
  refine hK6 _ _ ?_
  refine XC.keep [(0, _), (1, _), (19, _)] ⟨rfl, rfl, rfl, trivial⟩ ?_
  refine XC.cond_d rfl (fun hc2 => ?_) (fun hc2 => ?_)
  · refine XC.seq fun K7 hK7 => ?_
    refine XC.region ?_
    refine x_v (r_mv rfl) rfl ?_
    refine x_v (r_mv rfl) rfl ?_
    refine x_c (r_call0 (args := [_]) ⟨rfl, rfl⟩ (others_tr (p := q) (A := A) (c := c) b M) (by repeat (first | exact Gets.done _ | exact Gets.all _ | (apply Gets.step; focus ((repeat (first | exact Pick.head _ _ | apply Pick.tail)); done)) | apply Gets.drop))) rfl ?_
    rintro _ _ ⟨A30, c30, rfl, rfl⟩
    refine XL.slnn (A := A30) (by repeat (first | exact Pick.head _ _ | apply Pick.tail)) fun hl30 hA30 => ?_
    refine x_c (r_call0 (args := [_, _]) ⟨rfl, rfl, rfl⟩ (feed_tr (k := k) (Fr := vmo M :: sl A30 (others q).length c30 3 1 (iv (others q)) :: Fr) b M A30 c30 (others q) hPq hq (by omega) (Rdb.of_sl (.tail _ (.head _ _)) hl30 hA30) (fun x hx => others_nd _ x hx) (others_le _)) (by repeat (first | exact Gets.done _ | exact Gets.all _ | (apply Gets.step; focus ((repeat (first | exact Pick.head _ _ | apply Pick.tail)); done)) | apply Gets.drop))) rfl ?_
    rintro _ _ ⟨L, A5, c5, A6, c6, k6, rfl, rfl, hLs, hx6, hp6, hrd⟩
    refine x_v (r_as rfl) rfl ?_
    refine XL.nil ?_
    refine hK7 _ _ ?_
    refine XC.keep [(4, _)] ⟨rfl, trivial⟩ ?_
    refine XC.ret ?_
    rw [e1 (by omega)]
    exact fin1 rfl (⟨L, A5, c5, A6, c6, M, k6, rfl, rfl, hLs, hx6, hp6, hrd, fun h => hM (by rw [← hqr]; exact h)⟩) (by repeat (first | exact Gets.done _ | exact Gets.all _ | (apply Gets.step; focus ((repeat (first | exact Pick.head _ _ | apply Pick.tail)); done)) | apply Gets.drop))
  · refine XC.seq fun K8 hK8 => ?_
    refine XC.draw [blk b 90 (pc q A c M)] false [(0, false), (1, false), (2, false), (3, false), (4, false), (5, false), (6, false), (7, false), (8, false), (9, false), (10, false), (11, false), (12, false), (13, false), (14, false), (15, false), (16, false), (17, false), (18, false)] (by kernel_rfl) (by kernel_rfl) ?_
    refine y_v rfl (r_mv rfl) (fun _ h => Gets.own (by repeat (first | exact Gets.done _ | exact Gets.all _ | (apply Gets.step; focus ((repeat (first | exact Pick.head _ _ | apply Pick.tail)); done)) | apply Gets.drop)) h) rfl ?_
    refine y_v rfl (r_nc rfl) (fun _ h => Gets.own (by repeat (first | exact Gets.done _ | exact Gets.all _ | (apply Gets.step; focus ((repeat (first | exact Pick.head _ _ | apply Pick.tail)); done)) | apply Gets.drop)) h) rfl ?_
    refine y_v rfl (r_fa fo90_7 rfl) (fun _ h => Gets.own (by repeat (first | exact Gets.done _ | exact Gets.all _ | (apply Gets.step; focus ((repeat (first | exact Pick.head _ _ | apply Pick.tail)); done)) | apply Gets.drop)) h) rfl ?_
    refine y_v rfl (r_ld ty3 rfl (by repeat (first | exact Pick.head _ _ | apply Pick.tail)) (by rfl)) (fun _ h => Gets.own (by repeat (first | exact Gets.done _ | exact Gets.all _ | (apply Gets.step; focus ((repeat (first | exact Pick.head _ _ | apply Pick.tail)); done)) | apply Gets.drop)) h) rfl ?_
    refine y_v rfl (r_mv rfl) (fun _ h => Gets.own (by repeat (first | exact Gets.done _ | exact Gets.all _ | (apply Gets.step; focus ((repeat (first | exact Pick.head _ _ | apply Pick.tail)); done)) | apply Gets.drop)) h) rfl ?_
    refine y_v rfl (r_nc rfl) (fun _ h => Gets.own (by repeat (first | exact Gets.done _ | exact Gets.all _ | (apply Gets.step; focus ((repeat (first | exact Pick.head _ _ | apply Pick.tail)); done)) | apply Gets.drop)) h) rfl ?_
    refine y_v rfl (r_fa fo90_8 rfl) (fun _ h => Gets.own (by repeat (first | exact Gets.done _ | exact Gets.all _ | (apply Gets.step; focus ((repeat (first | exact Pick.head _ _ | apply Pick.tail)); done)) | apply Gets.drop)) h) rfl ?_
    refine y_v rfl (r_ld ty3 rfl (by repeat (first | exact Pick.head _ _ | apply Pick.tail)) (by rfl)) (fun _ h => Gets.own (by repeat (first | exact Gets.done _ | exact Gets.all _ | (apply Gets.step; focus ((repeat (first | exact Pick.head _ _ | apply Pick.tail)); done)) | apply Gets.drop)) h) rfl ?_
    refine y_v rfl (r_lt rfl rfl) (fun _ h => Gets.own (by repeat (first | exact Gets.done _ | exact Gets.all _ | (apply Gets.step; focus ((repeat (first | exact Pick.head _ _ | apply Pick.tail)); done)) | apply Gets.drop)) h) rfl ?_
    refine y_v rfl (r_mv rfl) (fun _ h => Gets.own (by repeat (first | exact Gets.done _ | exact Gets.all _ | (apply Gets.step; focus ((repeat (first | exact Pick.head _ _ | apply Pick.tail)); done)) | apply Gets.drop)) h) rfl ?_
    refine XH.splitd 39 rfl (fun hg39 => ?_) (fun hg39 => ?_)
    · refine y_un rfl rfl rfl (fun _ h => Gets.own (by repeat (first | exact Gets.done _ | exact Gets.all _ | (apply Gets.step; focus ((repeat (first | exact Pick.head _ _ | apply Pick.tail)); done)) | apply Gets.drop)) h) rfl ?_
      refine y_un rfl rfl rfl (fun _ h => Gets.own (by repeat (first | exact Gets.done _ | exact Gets.all _ | (apply Gets.step; focus ((repeat (first | exact Pick.head _ _ | apply Pick.tail)); done)) | apply Gets.drop)) h) rfl ?_
      refine y_un rfl rfl rfl (fun _ h => Gets.own (by repeat (first | exact Gets.done _ | exact Gets.all _ | (apply Gets.step; focus ((repeat (first | exact Pick.head _ _ | apply Pick.tail)); done)) | apply Gets.drop)) h) rfl ?_
      refine y_un rfl rfl rfl (fun _ h => Gets.own (by repeat (first | exact Gets.done _ | exact Gets.all _ | (apply Gets.step; focus ((repeat (first | exact Pick.head _ _ | apply Pick.tail)); done)) | apply Gets.drop)) h) rfl ?_
      refine y_un rfl rfl rfl (fun _ h => Gets.own (by repeat (first | exact Gets.done _ | exact Gets.all _ | (apply Gets.step; focus ((repeat (first | exact Pick.head _ _ | apply Pick.tail)); done)) | apply Gets.drop)) h) rfl ?_
      refine y_un rfl rfl rfl (fun _ h => Gets.own (by repeat (first | exact Gets.done _ | exact Gets.all _ | (apply Gets.step; focus ((repeat (first | exact Pick.head _ _ | apply Pick.tail)); done)) | apply Gets.drop)) h) rfl ?_
      refine y_un rfl rfl rfl (fun _ h => Gets.own (by repeat (first | exact Gets.done _ | exact Gets.all _ | (apply Gets.step; focus ((repeat (first | exact Pick.head _ _ | apply Pick.tail)); done)) | apply Gets.drop)) h) rfl ?_
      refine y_v rfl (r_pk_t rfl rfl) (fun _ h => Gets.own (by repeat (first | exact Gets.done _ | exact Gets.all _ | (apply Gets.step; focus ((repeat (first | exact Pick.head _ _ | apply Pick.tail)); done)) | apply Gets.drop)) h) rfl ?_
      refine y_v rfl (r_as rfl) (fun _ h => Gets.own (by repeat (first | exact Gets.done _ | exact Gets.all _ | (apply Gets.step; focus ((repeat (first | exact Pick.head _ _ | apply Pick.tail)); done)) | apply Gets.drop)) h) rfl ?_
      refine XH.nil ?_
      refine hK8 _ _ ?_
      refine XC.keep [(0, _), (1, _), (29, _)] ⟨rfl, rfl, rfl, trivial⟩ ?_
      refine XC.cond_t rfl ?_
      refine XC.seq fun K9 hK9 => ?_
      refine XC.nil_ 92 18 ?_
      refine XC.region ?_
      refine x_v (r_as rfl) rfl ?_
      refine XL.nil ?_
      refine hK9 _ _ ?_
      refine XC.keep [(4, _)] ⟨rfl, trivial⟩ ?_
      refine XC.ret ?_
      rw [e2 (by omega) (.inl (by omega))]
      exact fin1 rfl (⟨[], none, 0, A, c, M, k, rfl, rfl, rfl, Ex.refl W0 k, hPq, by simp, fun h => hM (by rw [← hqr]; exact h)⟩) (by repeat (first | exact Gets.done _ | exact Gets.all _ | (apply Gets.step; focus ((repeat (first | exact Pick.head _ _ | apply Pick.tail)); done)) | apply Gets.drop))
    · refine y_vg rfl rfl rfl (r_mv rfl) (fun _ h => Gets.own (by repeat (first | exact Gets.done _ | exact Gets.all _ | (apply Gets.step; focus ((repeat (first | exact Pick.head _ _ | apply Pick.tail)); done)) | apply Gets.drop)) h) rfl ?_
      refine y_vg rfl rfl rfl (r_nc rfl) (fun _ h => Gets.own (by repeat (first | exact Gets.done _ | exact Gets.all _ | (apply Gets.step; focus ((repeat (first | exact Pick.head _ _ | apply Pick.tail)); done)) | apply Gets.drop)) h) rfl ?_
      refine y_vg rfl rfl rfl (r_fa fo90_0 rfl) (fun _ h => Gets.own (by repeat (first | exact Gets.done _ | exact Gets.all _ | (apply Gets.step; focus ((repeat (first | exact Pick.head _ _ | apply Pick.tail)); done)) | apply Gets.drop)) h) rfl ?_
      refine y_vg rfl rfl rfl (r_fa fo86_0 rfl) (fun _ h => Gets.own (by repeat (first | exact Gets.done _ | exact Gets.all _ | (apply Gets.step; focus ((repeat (first | exact Pick.head _ _ | apply Pick.tail)); done)) | apply Gets.drop)) h) rfl ?_
      refine y_vg rfl rfl rfl (r_fa fo32_0 rfl) (fun _ h => Gets.own (by repeat (first | exact Gets.done _ | exact Gets.all _ | (apply Gets.step; focus ((repeat (first | exact Pick.head _ _ | apply Pick.tail)); done)) | apply Gets.drop)) h) rfl ?_
      refine y_vg rfl rfl rfl (r_ld ty3 rfl (by repeat (first | exact Pick.head _ _ | apply Pick.tail)) (by rfl)) (fun _ h => Gets.own (by repeat (first | exact Gets.done _ | exact Gets.all _ | (apply Gets.step; focus ((repeat (first | exact Pick.head _ _ | apply Pick.tail)); done)) | apply Gets.drop)) h) rfl ?_
      refine y_vg rfl rfl rfl (r_eq rfl rfl) (fun _ h => Gets.own (by repeat (first | exact Gets.done _ | exact Gets.all _ | (apply Gets.step; focus ((repeat (first | exact Pick.head _ _ | apply Pick.tail)); done)) | apply Gets.drop)) h) rfl ?_
      refine y_v rfl (r_pk_f rfl rfl) (fun _ h => Gets.own (by repeat (first | exact Gets.done _ | exact Gets.all _ | (apply Gets.step; focus ((repeat (first | exact Pick.head _ _ | apply Pick.tail)); done)) | apply Gets.drop)) h) rfl ?_
      refine y_v rfl (r_as rfl) (fun _ h => Gets.own (by repeat (first | exact Gets.done _ | exact Gets.all _ | (apply Gets.step; focus ((repeat (first | exact Pick.head _ _ | apply Pick.tail)); done)) | apply Gets.drop)) h) rfl ?_
      refine XH.nil ?_
      refine hK8 _ _ ?_
      refine XC.keep [(0, _), (1, _), (29, _)] ⟨rfl, rfl, rfl, trivial⟩ ?_
      refine XC.cond_d rfl (fun hc4 => ?_) (fun hc4 => ?_)
      · refine XC.seq fun K10 hK10 => ?_
        refine XC.nil_ 92 18 ?_
        refine XC.region ?_
        refine x_v (r_as rfl) rfl ?_
        refine XL.nil ?_
        refine hK10 _ _ ?_
        refine XC.keep [(4, _)] ⟨rfl, trivial⟩ ?_
        refine XC.ret ?_
        rw [e2 (by omega) (.inr (by omega))]
        exact fin1 rfl (⟨[], none, 0, A, c, M, k, rfl, rfl, rfl, Ex.refl W0 k, hPq, by simp, fun h => hM (by rw [← hqr]; exact h)⟩) (by repeat (first | exact Gets.done _ | exact Gets.all _ | (apply Gets.step; focus ((repeat (first | exact Pick.head _ _ | apply Pick.tail)); done)) | apply Gets.drop))
      · refine XC.skip ?_
        refine hK5 _ _ ?_
        refine XC.keep [(0, _), (1, _)] ⟨rfl, rfl, trivial⟩ ?_
        refine XC.seq fun K11 hK11 => ?_
        refine XC.draw [blk b 90 (pc q A c M)] true [(0, false), (1, false), (2, false), (3, false), (4, false), (5, false), (6, false), (7, false), (8, false), (9, false), (10, false), (11, false), (12, false), (13, false), (14, true)] (by kernel_rfl) (by kernel_rfl) ?_
        refine y_v rfl (r_mv rfl) (fun _ h => Gets.own (by repeat (first | exact Gets.done _ | exact Gets.all _ | (apply Gets.step; focus ((repeat (first | exact Pick.head _ _ | apply Pick.tail)); done)) | apply Gets.drop)) h) rfl ?_
        refine y_v rfl (r_nc rfl) (fun _ h => Gets.own (by repeat (first | exact Gets.done _ | exact Gets.all _ | (apply Gets.step; focus ((repeat (first | exact Pick.head _ _ | apply Pick.tail)); done)) | apply Gets.drop)) h) rfl ?_
        refine y_v rfl (r_fa fo90_0 rfl) (fun _ h => Gets.own (by repeat (first | exact Gets.done _ | exact Gets.all _ | (apply Gets.step; focus ((repeat (first | exact Pick.head _ _ | apply Pick.tail)); done)) | apply Gets.drop)) h) rfl ?_
        refine y_v rfl (r_mv rfl) (fun _ h => Gets.own (by repeat (first | exact Gets.done _ | exact Gets.all _ | (apply Gets.step; focus ((repeat (first | exact Pick.head _ _ | apply Pick.tail)); done)) | apply Gets.drop)) h) rfl ?_
        refine y_v rfl (r_nc rfl) (fun _ h => Gets.own (by repeat (first | exact Gets.done _ | exact Gets.all _ | (apply Gets.step; focus ((repeat (first | exact Pick.head _ _ | apply Pick.tail)); done)) | apply Gets.drop)) h) rfl ?_
        refine y_v rfl (r_fa fo90_0 rfl) (fun _ h => Gets.own (by repeat (first | exact Gets.done _ | exact Gets.all _ | (apply Gets.step; focus ((repeat (first | exact Pick.head _ _ | apply Pick.tail)); done)) | apply Gets.drop)) h) rfl ?_
        refine y_v rfl (r_fa fo86_0 rfl) (fun _ h => Gets.own (by repeat (first | exact Gets.done _ | exact Gets.all _ | (apply Gets.step; focus ((repeat (first | exact Pick.head _ _ | apply Pick.tail)); done)) | apply Gets.drop)) h) rfl ?_
        refine y_v rfl (r_fa fo32_0 rfl) (fun _ h => Gets.own (by repeat (first | exact Gets.done _ | exact Gets.all _ | (apply Gets.step; focus ((repeat (first | exact Pick.head _ _ | apply Pick.tail)); done)) | apply Gets.drop)) h) rfl ?_
        refine y_v rfl (r_ld ty3 rfl (by repeat (first | exact Pick.head _ _ | apply Pick.tail)) (by rfl)) (fun _ h => Gets.own (by repeat (first | exact Gets.done _ | exact Gets.all _ | (apply Gets.step; focus ((repeat (first | exact Pick.head _ _ | apply Pick.tail)); done)) | apply Gets.drop)) h) rfl ?_
        refine y_v rfl (r_add rfl rfl (by omega)) (fun _ h => Gets.own (by repeat (first | exact Gets.done _ | exact Gets.all _ | (apply Gets.step; focus ((repeat (first | exact Pick.head _ _ | apply Pick.tail)); done)) | apply Gets.drop)) h) rfl ?_
        refine y_v rfl (r_mv rfl) (fun _ h => Gets.own (by repeat (first | exact Gets.done _ | exact Gets.all _ | (apply Gets.step; focus ((repeat (first | exact Pick.head _ _ | apply Pick.tail)); done)) | apply Gets.drop)) h) rfl ?_
        refine y_v rfl (r_nc rfl) (fun _ h => Gets.own (by repeat (first | exact Gets.done _ | exact Gets.all _ | (apply Gets.step; focus ((repeat (first | exact Pick.head _ _ | apply Pick.tail)); done)) | apply Gets.drop)) h) rfl ?_
        refine y_v rfl (r_fa fo90_1 rfl) (fun _ h => Gets.own (by repeat (first | exact Gets.done _ | exact Gets.all _ | (apply Gets.step; focus ((repeat (first | exact Pick.head _ _ | apply Pick.tail)); done)) | apply Gets.drop)) h) rfl ?_
        refine y_v rfl (r_ld ty3 rfl (by repeat (first | exact Pick.head _ _ | apply Pick.tail)) (by rfl)) (fun _ h => Gets.own (by repeat (first | exact Gets.done _ | exact Gets.all _ | (apply Gets.step; focus ((repeat (first | exact Pick.head _ _ | apply Pick.tail)); done)) | apply Gets.drop)) h) rfl ?_
        refine y_c rfl (r_call0 (args := [_, _, _]) ⟨rfl, rfl, rfl, rfl⟩ (swear_tr (p := q) (A := A) (c := c) b M (q.term + 1) q.me) (by repeat (first | exact Gets.done _ | exact Gets.all _ | (apply Gets.step; focus ((repeat (first | exact Pick.head _ _ | apply Pick.tail)); done)) | apply Gets.drop))) (fun h => absurd h (by decide)) rfl ?_
        rintro _ _ ⟨rfl, rfl⟩
        refine XH.nil ?_
        refine hK11 _ _ ?_
        refine XC.keep [(0, _), (1, _)] ⟨rfl, rfl, trivial⟩ ?_
        refine XC.seq fun K12 hK12 => ?_
        unfold pc
        dsimp only [swear]
        refine XC.region ?_
        refine x_v (r_mv rfl) rfl ?_
        refine x_v (r_mv rfl) rfl ?_
        refine x_v (r_mv rfl) rfl ?_
        refine x_v (r_nc rfl) rfl ?_
        refine x_v (r_fa fo90_4 rfl) rfl ?_
        refine x_e (r_st ty3 rfl rfl rfl rfl rfl (by repeat (first | exact Upd.head _ _ _ | apply Upd.tail)) (by repeat (first | exact Over.nil _ | apply Over.put | apply Over.skip))) ?_
        refine x_v (r_nc rfl) rfl ?_
        refine x_v (r_fa fo90_5 rfl) rfl ?_
        refine x_e (r_st ty3 rfl rfl rfl rfl rfl (by repeat (first | exact Upd.head _ _ _ | apply Upd.tail)) (by repeat (first | exact Over.nil _ | apply Over.put | apply Over.skip))) ?_
        refine x_v (r_nc rfl) rfl ?_
        refine x_v (r_fa fo90_7 rfl) rfl ?_
        refine x_e (r_st ty3 rfl rfl rfl rfl rfl (by repeat (first | exact Upd.head _ _ _ | apply Upd.tail)) (by repeat (first | exact Over.nil _ | apply Over.put | apply Over.skip))) ?_
        refine XL.nil ?_
        refine hK12 _ _ ?_
        refine XC.keep [(0, _), (1, _)] ⟨rfl, rfl, trivial⟩ ?_
        refine XC.seq fun K13 hK13 => ?_
        refine XC.region ?_
        refine x_v (r_mv rfl) rfl ?_
        refine x_a (r_mmv (.int .i64)) rfl fun b73 => ?_
        refine x_v (r_mv rfl) rfl ?_
        refine x_v (r_nc rfl) rfl ?_
        refine x_v (r_fa fo90_1 rfl) rfl ?_
        refine x_v (r_ld ty3 rfl (by repeat (first | exact Pick.head _ _ | apply Pick.tail)) (by rfl)) rfl ?_
        refine x_e (r_insv Try.underlying87 Try.underlying3 rfl rfl rfl rfl (by repeat (first | exact Pick.head _ _ | apply Pick.tail))) ?_
        refine x_v (r_mv rfl) rfl ?_
        refine x_v (r_nc rfl) rfl ?_
        refine x_v (r_fa fo90_9 rfl) rfl ?_
        refine x_e (r_st ty87 rfl rfl rfl rfl rfl (by repeat (first | exact Upd.head _ _ _ | apply Upd.tail)) (by repeat (first | exact Over.nil _ | apply Over.put | apply Over.skip))) ?_
        refine XL.nil ?_
        refine hK13 _ _ ?_
        refine XC.keep [(0, _), (1, _)] ⟨rfl, rfl, trivial⟩ ?_
        refine XC.seq fun K14 hK14 => ?_
        refine XC.mem (blk b 90 (pc r0 A c (some b73)) :: vmo (some b73) :: k :: Fr) (fun w h => by rw [hr0]; exact Gets.own (by repeat (first | exact Gets.done _ | exact Gets.all _ | (apply Gets.step; focus ((repeat (first | exact Pick.head _ _ | apply Pick.tail)); done)) | apply Gets.drop)) h) ?_
        refine XC.draw [blk b 90 (pc r0 A c (some b73))] true [(0, false), (1, false), (2, false), (3, false), (4, false), (5, false), (6, false), (7, false), (8, false), (9, false), (10, false), (11, false), (12, false), (13, false), (14, false), (15, false), (16, false), (17, false), (18, false), (19, false), (20, false), (21, false), (22, false), (23, false), (24, true)] (by kernel_rfl) (by kernel_rfl) ?_
        refine y_v rfl (r_mv rfl) (fun _ h => Gets.own (by repeat (first | exact Gets.done _ | exact Gets.all _ | (apply Gets.step; focus ((repeat (first | exact Pick.head _ _ | apply Pick.tail)); done)) | apply Gets.drop)) h) rfl ?_
        refine y_v rfl (r_mv rfl) (fun _ h => Gets.own (by repeat (first | exact Gets.done _ | exact Gets.all _ | (apply Gets.step; focus ((repeat (first | exact Pick.head _ _ | apply Pick.tail)); done)) | apply Gets.drop)) h) rfl ?_
        refine y_v rfl (r_nc rfl) (fun _ h => Gets.own (by repeat (first | exact Gets.done _ | exact Gets.all _ | (apply Gets.step; focus ((repeat (first | exact Pick.head _ _ | apply Pick.tail)); done)) | apply Gets.drop)) h) rfl ?_
        refine y_v rfl (r_fa fo90_2 rfl) (fun _ h => Gets.own (by repeat (first | exact Gets.done _ | exact Gets.all _ | (apply Gets.step; focus ((repeat (first | exact Pick.head _ _ | apply Pick.tail)); done)) | apply Gets.drop)) h) rfl ?_
        refine y_v rfl (r_ld ty3 rfl (by repeat (first | exact Pick.head _ _ | apply Pick.tail)) (by rfl)) (fun _ h => Gets.own (by repeat (first | exact Gets.done _ | exact Gets.all _ | (apply Gets.step; focus ((repeat (first | exact Pick.head _ _ | apply Pick.tail)); done)) | apply Gets.drop)) h) rfl ?_
        refine y_v rfl (r_mv rfl) (fun _ h => Gets.own (by repeat (first | exact Gets.done _ | exact Gets.all _ | (apply Gets.step; focus ((repeat (first | exact Pick.head _ _ | apply Pick.tail)); done)) | apply Gets.drop)) h) rfl ?_
        refine y_v rfl (r_mv rfl) (fun _ h => Gets.own (by repeat (first | exact Gets.done _ | exact Gets.all _ | (apply Gets.step; focus ((repeat (first | exact Pick.head _ _ | apply Pick.tail)); done)) | apply Gets.drop)) h) rfl ?_
        refine y_v rfl (r_nc rfl) (fun _ h => Gets.own (by repeat (first | exact Gets.done _ | exact Gets.all _ | (apply Gets.step; focus ((repeat (first | exact Pick.head _ _ | apply Pick.tail)); done)) | apply Gets.drop)) h) rfl ?_
        refine y_v rfl (r_fa fo90_3 rfl) (fun _ h => Gets.own (by repeat (first | exact Gets.done _ | exact Gets.all _ | (apply Gets.step; focus ((repeat (first | exact Pick.head _ _ | apply Pick.tail)); done)) | apply Gets.drop)) h) rfl ?_
        refine y_v rfl (r_ld ty3 rfl (by repeat (first | exact Pick.head _ _ | apply Pick.tail)) (by rfl)) (fun _ h => Gets.own (by repeat (first | exact Gets.done _ | exact Gets.all _ | (apply Gets.step; focus ((repeat (first | exact Pick.head _ _ | apply Pick.tail)); done)) | apply Gets.drop)) h) rfl ?_
        refine y_v rfl (r_remt rfl rfl (by omega)) (fun _ h => Gets.own (by repeat (first | exact Gets.done _ | exact Gets.all _ | (apply Gets.step; focus ((repeat (first | exact Pick.head _ _ | apply Pick.tail)); done)) | apply Gets.drop)) h) rfl ?_
        refine y_v rfl (r_mv rfl) (fun _ h => Gets.own (by repeat (first | exact Gets.done _ | exact Gets.all _ | (apply Gets.step; focus ((repeat (first | exact Pick.head _ _ | apply Pick.tail)); done)) | apply Gets.drop)) h) rfl ?_
        refine y_v rfl (r_nc rfl) (fun _ h => Gets.own (by repeat (first | exact Gets.done _ | exact Gets.all _ | (apply Gets.step; focus ((repeat (first | exact Pick.head _ _ | apply Pick.tail)); done)) | apply Gets.drop)) h) rfl ?_
        refine y_v rfl (r_fa fo90_3 rfl) (fun _ h => Gets.own (by repeat (first | exact Gets.done _ | exact Gets.all _ | (apply Gets.step; focus ((repeat (first | exact Pick.head _ _ | apply Pick.tail)); done)) | apply Gets.drop)) h) rfl ?_
        refine y_v rfl (r_ld ty3 rfl (by repeat (first | exact Pick.head _ _ | apply Pick.tail)) (by rfl)) (fun _ h => Gets.own (by repeat (first | exact Gets.done _ | exact Gets.all _ | (apply Gets.step; focus ((repeat (first | exact Pick.head _ _ | apply Pick.tail)); done)) | apply Gets.drop)) h) rfl ?_
        refine y_v rfl (r_add rfl rfl (by rw [hrw.1]; omega)) (fun _ h => Gets.own (by repeat (first | exact Gets.done _ | exact Gets.all _ | (apply Gets.step; focus ((repeat (first | exact Pick.head _ _ | apply Pick.tail)); done)) | apply Gets.drop)) h) rfl ?_
        refine y_v rfl (r_mv rfl) (fun _ h => Gets.own (by repeat (first | exact Gets.done _ | exact Gets.all _ | (apply Gets.step; focus ((repeat (first | exact Pick.head _ _ | apply Pick.tail)); done)) | apply Gets.drop)) h) rfl ?_
        refine y_v rfl (r_nc rfl) (fun _ h => Gets.own (by repeat (first | exact Gets.done _ | exact Gets.all _ | (apply Gets.step; focus ((repeat (first | exact Pick.head _ _ | apply Pick.tail)); done)) | apply Gets.drop)) h) rfl ?_
        refine y_v rfl (r_fa fo90_3 rfl) (fun _ h => Gets.own (by repeat (first | exact Gets.done _ | exact Gets.all _ | (apply Gets.step; focus ((repeat (first | exact Pick.head _ _ | apply Pick.tail)); done)) | apply Gets.drop)) h) rfl ?_
        refine y_v rfl (r_ld ty3 rfl (by repeat (first | exact Pick.head _ _ | apply Pick.tail)) (by rfl)) (fun _ h => Gets.own (by repeat (first | exact Gets.done _ | exact Gets.all _ | (apply Gets.step; focus ((repeat (first | exact Pick.head _ _ | apply Pick.tail)); done)) | apply Gets.drop)) h) rfl ?_
        refine y_v rfl (r_remt rfl rfl (by omega)) (fun _ h => Gets.own (by repeat (first | exact Gets.done _ | exact Gets.all _ | (apply Gets.step; focus ((repeat (first | exact Pick.head _ _ | apply Pick.tail)); done)) | apply Gets.drop)) h) rfl ?_
        refine y_v rfl (r_add rfl rfl (by rw [hrw.1, hrw.2]; omega)) (fun _ h => Gets.own (by repeat (first | exact Gets.done _ | exact Gets.all _ | (apply Gets.step; focus ((repeat (first | exact Pick.head _ _ | apply Pick.tail)); done)) | apply Gets.drop)) h) rfl ?_
        refine y_v rfl (r_nc rfl) (fun _ h => Gets.own (by repeat (first | exact Gets.done _ | exact Gets.all _ | (apply Gets.step; focus ((repeat (first | exact Pick.head _ _ | apply Pick.tail)); done)) | apply Gets.drop)) h) rfl ?_
        refine y_v rfl (r_fa fo90_8 rfl) (fun _ h => Gets.own (by repeat (first | exact Gets.done _ | exact Gets.all _ | (apply Gets.step; focus ((repeat (first | exact Pick.head _ _ | apply Pick.tail)); done)) | apply Gets.drop)) h) rfl ?_
        unfold pc
        refine y_e rfl (r_st ty3 rfl rfl rfl rfl rfl (by repeat (first | exact Upd.head _ _ _ | apply Upd.tail)) (by repeat (first | exact Over.nil _ | apply Over.put | apply Over.skip))) (fun h => absurd h (by decide)) ?_
        refine XH.nil ?_
        refine hK14 _ _ ?_
        refine XC.keep [(0, _)] ⟨rfl, trivial⟩ ?_
        refine XC.seq fun K15 hK15 => ?_
        refine XC.mem (blk b 90 (pc r A c (some b73)) :: vmo (some b73) :: k :: Fr) (fun w h => by rw [hrd]; exact Gets.own (by repeat (first | exact Gets.done _ | exact Gets.all _ | (apply Gets.step; focus ((repeat (first | exact Pick.head _ _ | apply Pick.tail)); done)) | apply Gets.drop)) h) ?_
        refine XC.region ?_
        refine x_v (r_mv rfl) rfl ?_
        refine x_v (r_nc rfl) rfl ?_
        refine x_v (r_fa fo90_0 rfl) rfl ?_
        refine x_c (r_call0 (args := [_]) ⟨rfl, rfl⟩ (last_tr (p := r) b (some b73) hPr) (by repeat (first | exact Gets.done _ | exact Gets.all _ | (apply Gets.step; focus ((repeat (first | exact Pick.head _ _ | apply Pick.tail)); done)) | apply Gets.drop))) rfl ?_
        rintro _ _ ⟨rfl, rfl⟩
        refine x_v (r_mv rfl) rfl ?_
        refine x_v (r_ex rfl rfl) rfl ?_
        refine x_v (r_ex rfl rfl) rfl ?_
        refine x_v (r_as rfl) rfl ?_
        refine x_v (r_as rfl) rfl ?_
        refine XL.nil ?_
        refine hK15 _ _ ?_
        refine XC.keep [(0, _), (5, _), (6, _)] ⟨rfl, rfl, rfl, trivial⟩ ?_
        refine XC.seq fun K16 hK16 => ?_
        refine XC.nil_ 92 18 ?_
        refine XC.region ?_
        refine x_v (r_as rfl) rfl ?_
        refine XL.nil ?_
        refine hK16 _ _ ?_
        refine XC.keep [(0, _), (5, _), (6, _), (7, _)] ⟨rfl, rfl, rfl, rfl, trivial⟩ ?_
        refine XC.seq fun K17 hK17 => ?_
        refine XC.seq fun K18 hK18 => ?_
        refine XC.region ?_
        refine x_v (r_mv rfl) rfl ?_
        refine x_c (r_call0 (args := [_]) ⟨rfl, rfl⟩ (others_tr (p := r) (A := A) (c := c) b (some b73)) (by repeat (first | exact Gets.done _ | exact Gets.all _ | (apply Gets.step; focus ((repeat (first | exact Pick.head _ _ | apply Pick.tail)); done)) | apply Gets.drop))) rfl ?_
        rintro _ _ ⟨A13, c13, rfl, rfl⟩
        refine XL.slnn (A := A13) (by repeat (first | exact Pick.head _ _ | apply Pick.tail)) fun hl13 hA13 => ?_
        have hol := others_le r
        refine x_v (r_lensl Try.underlying39 rfl) rfl ?_
        refine x_v (r_mv rfl) rfl ?_
        refine XL.nil ?_
        refine hK18 _ _ ?_
        refine XC.keep [(0, _), (5, _), (6, _), (7, _), (113, _), (114, _), (115, _)] ⟨rfl, rfl, rfl, rfl, rfl, rfl, rfl, trivial⟩ ?_
        refine XC.block ?_
        refine XC.loop (σ := Nat × List (Int × Mx) × Option Addr × Nat) (fun s => [(0, .pointer (some ⟨b, 0, none⟩)), (5, .int .i64 (lastI r)), (6, .int .i64 (lastT r)), (7, .slice s.2.2.1 s.2.1.length s.2.2.2), (113, .slice A13 (others r).length c13), (114, .int .i64 ((others r).length : Int)), (115, .int .i64 (s.1 : Int))]) (fun s => sl s.2.2.1 s.2.1.length s.2.2.2 92 18 (cells sc s.2.1) :: sl A13 (others r).length c13 3 1 (iv (others r)) :: blk b 90 (pc r A c (some b73)) :: vmo (some b73) :: k :: Fr) (fun s => s.1 ≤ (others r).length ∧ s.2.1.map sv = ((others r).take s.1).map (fun n => mail r n { zm with kind := 1, index := lastI r, prev := lastT r }) ∧ (∀ q ∈ s.2.1, RdM W0 k q.2)) (fun s => (others r).length - s.1) (0, [], none, 0) ?_ ⟨rfl, rfl, rfl, rfl, rfl, rfl, rfl, trivial⟩ (by repeat (first | exact Gets.done _ | exact Gets.all _ | (apply Gets.step; focus ((repeat (first | exact Pick.head _ _ | apply Pick.tail)); done)) | apply Gets.drop)) ?_
        · exact ⟨Nat.zero_le _, rfl, by simp⟩
        rintro ⟨i, L, A2, c2⟩ ⟨hi, hLs, hrd2⟩
        dsimp only at hi hLs hrd2 ⊢
        have hLl : L.length = i := by (have := congrArg List.length hLs; rw [List.length_map, List.length_map, List.length_take] at this; omega)
        refine XC.seq fun K19 hK19 => ?_
        refine XC.region ?_
        refine x_v (r_lt rfl rfl) rfl ?_
        refine XL.nil ?_
        refine hK19 _ _ ?_
        refine XC.keep [(0, _), (5, _), (6, _), (7, _), (113, _), (114, _), (115, _), (116, _)] ⟨rfl, rfl, rfl, rfl, rfl, rfl, rfl, rfl, trivial⟩ ?_
        refine XC.seq fun K20 hK20 => ?_
        refine XC.cond_d rfl (fun hc5 => ?_) (fun hc5 => ?_)
        · refine XC.skip ?_
          refine hK20 _ _ ?_
          refine XC.keep [(0, _), (5, _), (6, _), (7, _), (113, _), (114, _), (115, _)] ⟨rfl, rfl, rfl, rfl, rfl, rfl, rfl, trivial⟩ ?_
          refine XC.seq fun K21 hK21 => ?_
          refine XC.block ?_
          refine XC.seq fun K22 hK22 => ?_
          obtain ⟨x, hx⟩ : ∃ x, (others r)[i]? = some x := ⟨_, List.getElem?_eq_getElem (by omega)⟩
          obtain ⟨g13, rfl⟩ := hA13 (by omega)
          obtain ⟨s1, hs1⟩ : ∃ s1 : Int × Mx, s1 = (x, zx { zm with kind := 1, term := r.term, index := lastI r, prev := lastT r } none 0) := ⟨_, rfl⟩
          refine XC.region ?_
          refine x_v (r_ia (k := i) Try.underlying39 ty3 rfl rfl (by omega) (by omega)) rfl ?_
          refine x_v (r_ldr ty3 rfl (fun w hw => ints_at hx w (Gets.own (by repeat (first | exact Gets.done _ | exact Gets.all _ | (apply Gets.step; focus ((repeat (first | exact Pick.head _ _ | apply Pick.tail)); done)) | apply Gets.drop)) hw))) rfl ?_
          refine x_v (r_as rfl) rfl ?_
          refine XL.nil ?_
          refine hK22 _ _ ?_
          refine XC.keep [(0, _), (5, _), (6, _), (7, _), (9, _), (113, _), (114, _), (115, _)] ⟨rfl, rfl, rfl, rfl, rfl, rfl, rfl, rfl, trivial⟩ ?_
          refine XC.region ?_
          refine x_v (r_mv rfl) rfl ?_
          refine x_v (r_mv rfl) rfl ?_
          refine x_v (r_mv rfl) rfl ?_
          refine x_v (r_mv rfl) rfl ?_
          refine x_v (r_mv rfl) rfl ?_
          refine x_v (r_bd (vs := [_, _, _]) rfl ⟨rfl, rfl, rfl, rfl⟩ (bd42_0_2_3 _ _ _)) rfl ?_
          refine x_c (r_call0 (args := [_, _, _]) ⟨rfl, rfl, rfl, rfl⟩ (mail_tr (p := r) (A := A) (c := c) b (some b73) x (zx { zm with kind := 1, index := lastI r, prev := lastT r } none 0)) (by repeat (first | exact Gets.done _ | exact Gets.all _ | (apply Gets.step; focus ((repeat (first | exact Pick.head _ _ | apply Pick.tail)); done)) | apply Gets.drop))) rfl ?_
          rintro _ _ ⟨rfl, rfl⟩
          refine x_a (r_bs (vs := [_]) rfl ⟨rfl, rfl⟩ (bs51_1_0 _ _ _ _ _ _ _ _ _ _ _ _ _ _ _ _ _ _ _ _ _ _ _ _ _ _)) rfl fun b126 => ?_
          refine x_a (r_app Try.underlying51 ty92 rfl (by decide) rfl rfl (by repeat (first | exact Pick.head _ _ | apply Pick.tail)) (Rdb.of_blk (b := b126) (n := 1) (sz := 18) (xs := sc s1) (by repeat (first | exact Pick.head _ _ | apply Pick.tail)) 0 rfl (fun _ _ h => by rw [hs1] at h; rw [Nat.zero_add]; exact h)) (sc_one _) (by unfold maxLen; omega) (by omega)) rfl fun ⟨A127, c127⟩ => ?_
          dsimp only
          rw [show L.length + 1 = (L ++ [s1]).length by simp, ← cells_one sc s1, ← cells_app]
          refine x_v (r_as rfl) rfl ?_
          refine XL.nil ?_
          refine hK21 _ _ ?_
          refine XC.keep [(0, _), (5, _), (6, _), (7, _), (113, _), (114, _), (115, _)] ⟨rfl, rfl, rfl, rfl, rfl, rfl, rfl, trivial⟩ ?_
          refine XC.region ?_
          refine x_v (r_add rfl rfl (by omega)) rfl ?_
          refine x_v (r_mv rfl) rfl ?_
          refine XL.nil ?_
          refine ⟨(i + 1, L ++ [s1], A127, c127), ?_, ?_, ⟨rfl, rfl, rfl, rfl, rfl, rfl, rfl, trivial⟩, (by repeat (first | exact Gets.done _ | exact Gets.all _ | (apply Gets.step; focus ((repeat (first | exact Pick.head _ _ | apply Pick.tail)); done)) | apply Gets.drop))⟩
          · exact ⟨by dsimp only; omega, by dsimp only; rw [tk_snoc hx, List.map_append, List.map_append, hLs, List.map_cons, List.map_nil, hs1]; rfl, fun q hq => by (rcases List.mem_append.1 hq with hh | hh; exact hrd2 q hh; rw [List.mem_singleton.1 hh, hs1]; exact ⟨Rdb.nil _ _ _, Nat.le_refl _, _, _, _, rfl⟩)⟩
          · dsimp only; omega
        · refine XC.exit rfl ?_
          refine hK17 _ _ ?_
          refine XC.keep [(7, _)] ⟨rfl, trivial⟩ ?_
          refine XC.seq fun K23 hK23 => ?_
          refine XC.region ?_
          refine x_v (r_mv rfl) rfl ?_
          refine x_v (r_as rfl) rfl ?_
          refine XL.nil ?_
          refine hK23 _ _ ?_
          refine XC.keep [(4, _)] ⟨rfl, trivial⟩ ?_
          refine XC.ret ?_
          obtain rfl : i = (others r).length := by omega
          rw [List.take_length] at hLs
          rw [e3 (by omega) (by omega)]
          exact fin1 rfl (⟨L, A2, c2, A, c, some b73, k, rfl, rfl, hLs, Ex.refl W0 k, hPr, hrd2, fun _ h => by cases h⟩) (by repeat (first | exact Gets.done _ | exact Gets.all _ | (apply Gets.step; focus ((repeat (first | exact Pick.head _ _ | apply Pick.tail)); done)) | apply Gets.drop))
end Go.Proofs.Ytlogcldbflemfaa

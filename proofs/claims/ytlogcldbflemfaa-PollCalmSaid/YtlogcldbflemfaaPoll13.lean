/- Polls: mails that come. -/
import Derived.Test.YtlogcldbflemfaaPoll12
namespace Go.Proofs.Ytlogcldbflemfaa
open Go.Sx Go.Rf
set_option linter.unusedVariables false

def bumped (p : Pl) (m : Ml) : Pl := if p.term < m.term then { swear p m.term (-1) with role := 0, lead := -1 } else p
def downed (p : Pl) (f : Int) : Pl := { p with role := 0, lead := f, clock := 0 }
theorem take_fit {p : Pl} {f : Int} {m : Ml} (h : fits p f m = true) : take p f m =
    if m.kind = 1 then (if decide (m.term < (bumped p m).term) = true then (bumped p m, [mail (bumped p m) f { zm with kind := 2 }]) else ((asked (bumped p m) f m).1, [mail (asked (bumped p m) f m).1 f { zm with kind := 2, good := (asked (bumped p m) f m).2 }]))
    else if m.kind = 2 then (if decide (m.term < (bumped p m).term) = false ∧ (bumped p m).role = 1 ∧ m.good = true then leads (bumped p m) else (bumped p m, []))
    else if m.kind = 4 then (if decide (m.term < (bumped p m).term) = false ∧ (bumped p m).role = 2 then heard (bumped p m) f m else (bumped p m, []))
    else if decide (m.term < (bumped p m).term) = true then (bumped p m, [mail (bumped p m) f { zm with kind := 4 }])
    else if (bumped p m).role = 2 then (bumped p m, [])
    else ((if m.kind = 3 then fed (downed (bumped p m) f) m else laid (downed (bumped p m) f) m).1, [mail (if m.kind = 3 then fed (downed (bumped p m) f) m else laid (downed (bumped p m) f) m).1 f { zm with kind := 4, index := (if m.kind = 3 then fed (downed (bumped p m) f) m else laid (downed (bumped p m) f) m).2.1, good := (if m.kind = 3 then fed (downed (bumped p m) f) m else laid (downed (bumped p m) f) m).2.2 }]) := by
  unfold take; rw [if_neg (by rw [h]; decide)]; rfl
theorem asked_role (p : Pl) (f : Int) (m : Ml) : (asked p f m).1.role = p.role := by unfold asked; split <;> rfl
theorem heard_role (p : Pl) (f : Int) (m : Ml) : (heard p f m).1.role = p.role := by
  have ha : ∀ q : Pl, (agreed q).role = q.role := fun q => by unfold agreed; split <;> rfl
  unfold heard; dsimp only
  split
  · split <;> rfl
  · split <;> exact ha _
theorem fed2_role (p : Pl) (i : Int) (l : List En) (e c : Int) : (fed2 p i l e c).role = p.role := by unfold fed2; cases firstOdd p i l 0 <;> rfl
theorem fed_role (p : Pl) (m : Ml) : (fed p m).1.role = p.role := by
  unfold fed; dsimp only
  split
  · rfl
  · split
    · exact fed2_role _ _ _ _ _
    · split
      · exact fed2_role _ _ _ _ _
      · rfl
theorem laid_role (p : Pl) (m : Ml) : (laid p m).1.role = p.role := by unfold laid; split <;> rfl
theorem put_role (p : Pl) (d : List UInt8) : (put p d).role = p.role := rfl
theorem leads_role (p : Pl) : (leads p).1.role = 2 := rfl
theorem bumped_role {p : Pl} {m : Ml} (h : (bumped p m).role = 1) : p.role = 1 := by
  unfold bumped at h; split at h
  · cases h
  · exact h
theorem bumped_me (p : Pl) (m : Ml) : (bumped p m).me = p.me := by unfold bumped; split <;> rfl
theorem fit_me {p q : Pl} {f : Int} {m : Ml} (h : Fit p f m) (e : q.me = p.me) : Fit q f m := ⟨h.nd, by rw [e]; exact h.ne, h.kd, h.t0, h.t1, h.i0, h.i1, h.p0, h.p1, h.c0, h.c1, h.lay, h.el, h.dl, h.ris⟩
theorem bumped_lim {B : Nat} {p : Pl} {f : Int} {m : Ml} (h : Lim B p) (hf : Fit p f m) : Lim B (bumped p m) := by
  unfold bumped; split
  · exact h.bump (v := -1) (tc := true) (by have := hf.t0; omega) hf.t1 (by omega)
  · exact h
theorem PB.of {W0 : World} {k : HP} {p q : Pl} {A : Option Addr} {c : Nat} (h : PB W0 k p A c) (e1 : q.es = p.es) (e2 : q.base = p.base) : PB W0 k q A c := ⟨by rw [e1]; exact h.rd, by rw [e1]; exact h.el, by rw [e1]; exact h.ec, by rw [e2]; exact h.b0, by rw [e2]; exact h.b1⟩

theorem take_tr {W0 : World} {Fr : List HP} {k : HP} {p : Pl} {A : Option Addr} {c : Nat} {B : Nat} (b : Nat) (M : Option Nat) (f : Int) (x : Mx) (h : PB W0 k p A c) (hL : Lim B p) (hB : B ≤ 1000000) (hM : p.role = 1 → M ≠ none) (hr : Rdb W0 [k] x.A x.m.es.length 2 (cells ec x.m.es)) (hxc : x.m.es.length ≤ x.c) (hl : x.m.es.length ≤ 140737488355328) :
    Tr W0 Try.prog 18 [.pointer (some ⟨b, 0, none⟩), .int .i64 f, .agg (mc x).toArray] (blk b 90 (pc p A c M) :: vmo M :: k :: Fr) (NP W0 k Fr b (take p f x.m).1 (take p f x.m).2) := by
  have e0 : fits p f x.m = false → take p f x.m = (p, []) := fun hh => by unfold take; rw [if_pos hh]
  obtain ⟨p1, hp1⟩ : ∃ p1, p1 = bumped p x.m := ⟨_, rfl⟩
  have hP1 : PB W0 k p1 A c := by rw [hp1]; exact h.of (by unfold bumped; split <;> rfl) (by unfold bumped; split <;> rfl)
  have hM1 : p1.role = 1 → M ≠ none := fun hh => hM (bumped_role (by rw [← hp1]; exact hh))
  refine Entry.tr (N := 136) (rs := [.tmp 6]) ⟨_, Try.func18, rfl, by kernel_rfl, rfl, rfl⟩ rfl ?_
  refine XC.seq fun K1 hK1 => ?_
  refine XC.region ?_
  refine x_a (r_bx rfl rfl) rfl fun b5 => ?_
  unfold mc
  refine x_v (r_as rfl) rfl ?_
  refine XL.nil ?_
  refine hK1 _ _ ?_
  refine XC.keep [(0, _), (1, _), (5, _)] ⟨rfl, rfl, rfl, trivial⟩ ?_
  refine XC.seq fun K2 hK2 => ?_
  refine XC.seq fun K3 hK3 => ?_
  refine XC.region ?_
  refine x_v (r_mv rfl) rfl ?_
  refine x_v (r_peq_some Try.underlying23 rfl rfl) rfl ?_
  refine x_v (r_mv rfl) rfl ?_
  refine x_want rfl rfl rfl ?_
  refine x_v (r_mv rfl) rfl ?_
  refine x_want rfl rfl rfl ?_
  refine x_v (r_mv rfl) rfl ?_
  refine x_want rfl rfl rfl ?_
  refine x_v (r_lda (l' := [_, _, _, _, _, _, _, _, _, _, _, _, _, _, _, _, _]) ty42 rfl (by repeat (first | exact Pick.head _ _ | apply Pick.tail)) rfl (Sub.get (by repeat (first | exact Sub.nil _ | apply Sub.take | apply Sub.skip)))) rfl ?_
  refine x_want rfl rfl rfl ?_
  refine x_c (r_call0 (args := [_, _, _]) ⟨rfl, rfl, rfl, rfl⟩ (fits_tr (k := k) b M f x hr hl) (by repeat (first | exact Gets.done _ | exact Gets.all _ | (apply Gets.step; focus ((repeat (first | exact Pick.head _ _ | apply Pick.tail)); done)) | apply Gets.drop))) rfl ?_
  rintro _ _ ⟨rfl, rfl⟩
  refine x_want rfl rfl rfl ?_
  refine x_v (r_not rfl) rfl ?_
  refine x_v (r_pk_f rfl rfl) rfl ?_
  refine XL.nil ?_
  refine hK3 _ _ ?_
  refine XC.keep [(0, _), (1, _), (5, _), (17, _)] ⟨rfl, rfl, rfl, rfl, trivial⟩ ?_
  refine XC.cond rfl (fun hc1 => ?_) (fun hc1 => ?_)
  · rw [e0 (by (cases hgg : fits p f x.m with | false => rfl | true => (rw [hgg] at hc1; cases hc1)))]
    refine XC.nil_ 92 18 ?_
    refine XC.seq fun K4 hK4 => ?_
    refine XC.region ?_
    refine x_v (r_as rfl) rfl ?_
    refine XL.nil ?_
    refine hK4 _ _ ?_
    refine XC.keep [(6, _)] ⟨rfl, trivial⟩ ?_
    refine XC.ret ?_
    exact fin1 rfl (⟨[], none, 0, A, c, M, k, rfl, rfl, rfl, Ex.refl W0 k, h, by simp, hM⟩) (by repeat (first | exact Gets.done _ | exact Gets.all _ | (apply Gets.step; focus ((repeat (first | exact Pick.head _ _ | apply Pick.tail)); done)) | apply Gets.drop))
  · have hfit : fits p f x.m = true := ft hc1
    have hF := fit_of hfit
    have htk := take_fit hfit
    rw [← hp1] at htk
    have hL1 : Lim B p1 := by rw [hp1]; exact bumped_lim hL hF
    have hF1 : Fit p1 f x.m := fit_me hF (by rw [hp1]; exact bumped_me _ _)
    refine XC.skip ?_
    refine hK2 _ _ ?_
    refine XC.keep [(0, _), (1, _), (5, _)] ⟨rfl, rfl, rfl, trivial⟩ ?_
    refine XC.seqcut (σ := PUnit) (fun s => [(0, .pointer (some ⟨b, 0, none⟩)), (1, .int .i64 f), (5, .pointer (some ⟨b5, 0, none⟩))]) (fun s => blk b5 42 (mc x) :: blk b 90 (pc p1 A c M) :: vmo M :: k :: Fr) (fun s => True) ?_ ?_
    · refine XC.seq fun K6 hK6 => ?_
      refine XC.draw [blk b5 42 (mc x), blk b 90 (pc p A c M)] false [(0, false), (1, false), (2, false), (3, false), (4, false), (5, false), (6, false), (7, false), (8, false)] (by kernel_rfl) (by kernel_rfl) ?_
      refine y_v rfl (r_fa fo42_1 rfl) (fun _ h => Gets.own (by repeat (first | exact Gets.done _ | exact Gets.all _ | (apply Gets.step; focus ((repeat (first | exact Pick.head _ _ | apply Pick.tail)); done)) | apply Gets.drop)) h) rfl ?_
      refine y_v rfl (r_ld ty3 rfl (by repeat (first | exact Pick.head _ _ | apply Pick.tail)) (by rfl)) (fun _ h => Gets.own (by repeat (first | exact Gets.done _ | exact Gets.all _ | (apply Gets.step; focus ((repeat (first | exact Pick.head _ _ | apply Pick.tail)); done)) | apply Gets.drop)) h) rfl ?_
      refine y_v rfl (r_mv rfl) (fun _ h => Gets.own (by repeat (first | exact Gets.done _ | exact Gets.all _ | (apply Gets.step; focus ((repeat (first | exact Pick.head _ _ | apply Pick.tail)); done)) | apply Gets.drop)) h) rfl ?_
      refine y_v rfl (r_nc rfl) (fun _ h => Gets.own (by repeat (first | exact Gets.done _ | exact Gets.all _ | (apply Gets.step; focus ((repeat (first | exact Pick.head _ _ | apply Pick.tail)); done)) | apply Gets.drop)) h) rfl ?_
      refine y_v rfl (r_fa fo90_0 rfl) (fun _ h => Gets.own (by repeat (first | exact Gets.done _ | exact Gets.all _ | (apply Gets.step; focus ((repeat (first | exact Pick.head _ _ | apply Pick.tail)); done)) | apply Gets.drop)) h) rfl ?_
      refine y_v rfl (r_fa fo86_0 rfl) (fun _ h => Gets.own (by repeat (first | exact Gets.done _ | exact Gets.all _ | (apply Gets.step; focus ((repeat (first | exact Pick.head _ _ | apply Pick.tail)); done)) | apply Gets.drop)) h) rfl ?_
      refine y_v rfl (r_fa fo32_0 rfl) (fun _ h => Gets.own (by repeat (first | exact Gets.done _ | exact Gets.all _ | (apply Gets.step; focus ((repeat (first | exact Pick.head _ _ | apply Pick.tail)); done)) | apply Gets.drop)) h) rfl ?_
      refine y_v rfl (r_ld ty3 rfl (by repeat (first | exact Pick.head _ _ | apply Pick.tail)) (by rfl)) (fun _ h => Gets.own (by repeat (first | exact Gets.done _ | exact Gets.all _ | (apply Gets.step; focus ((repeat (first | exact Pick.head _ _ | apply Pick.tail)); done)) | apply Gets.drop)) h) rfl ?_
      refine y_v rfl (r_gt rfl rfl) (fun _ h => Gets.own (by repeat (first | exact Gets.done _ | exact Gets.all _ | (apply Gets.step; focus ((repeat (first | exact Pick.head _ _ | apply Pick.tail)); done)) | apply Gets.drop)) h) rfl ?_
      refine XH.nil ?_
      refine hK6 _ _ ?_
      refine XC.keep [(0, _), (1, _), (5, _), (26, _)] ⟨rfl, rfl, rfl, rfl, trivial⟩ ?_
      refine XC.cond_d rfl (fun hc2 => ?_) (fun hc2 => ?_)
      · refine XC.seq fun K7 hK7 => ?_
        refine XC.draw [blk b5 42 (mc x), blk b 90 (pc p A c M)] true [(0, false), (1, false), (2, false), (3, false), (4, false), (5, true)] (by kernel_rfl) (by kernel_rfl) ?_
        refine y_v rfl (r_mv rfl) (fun _ h => Gets.own (by repeat (first | exact Gets.done _ | exact Gets.all _ | (apply Gets.step; focus ((repeat (first | exact Pick.head _ _ | apply Pick.tail)); done)) | apply Gets.drop)) h) rfl ?_
        refine y_v rfl (r_nc rfl) (fun _ h => Gets.own (by repeat (first | exact Gets.done _ | exact Gets.all _ | (apply Gets.step; focus ((repeat (first | exact Pick.head _ _ | apply Pick.tail)); done)) | apply Gets.drop)) h) rfl ?_
        refine y_v rfl (r_fa fo90_0 rfl) (fun _ h => Gets.own (by repeat (first | exact Gets.done _ | exact Gets.all _ | (apply Gets.step; focus ((repeat (first | exact Pick.head _ _ | apply Pick.tail)); done)) | apply Gets.drop)) h) rfl ?_
        refine y_v rfl (r_fa fo42_1 rfl) (fun _ h => Gets.own (by repeat (first | exact Gets.done _ | exact Gets.all _ | (apply Gets.step; focus ((repeat (first | exact Pick.head _ _ | apply Pick.tail)); done)) | apply Gets.drop)) h) rfl ?_
        refine y_v rfl (r_ld ty3 rfl (by repeat (first | exact Pick.head _ _ | apply Pick.tail)) (by rfl)) (fun _ h => Gets.own (by repeat (first | exact Gets.done _ | exact Gets.all _ | (apply Gets.step; focus ((repeat (first | exact Pick.head _ _ | apply Pick.tail)); done)) | apply Gets.drop)) h) rfl ?_
        refine y_c rfl (r_call0 (args := [_, _, _]) ⟨rfl, rfl, rfl, rfl⟩ (swear_tr (p := p) (A := A) (c := c) b M x.m.term (-1)) (by repeat (first | exact Gets.done _ | exact Gets.all _ | (apply Gets.step; focus ((repeat (first | exact Pick.head _ _ | apply Pick.tail)); done)) | apply Gets.drop))) (fun h => absurd h (by decide)) rfl ?_
        rintro _ _ ⟨rfl, rfl⟩
        refine XH.nil ?_
        refine hK7 _ _ ?_
        refine XC.keep [(0, _), (1, _), (5, _)] ⟨rfl, rfl, rfl, trivial⟩ ?_
        refine XC.region ?_
        refine x_v (r_mv rfl) rfl ?_
        refine x_c (r_call0 (args := [_, _]) ⟨rfl, rfl, rfl⟩ (follow_tr (p := swear p x.m.term (-1)) (A := A) (c := c) b M (-1)) (by repeat (first | exact Gets.done _ | exact Gets.all _ | (apply Gets.step; focus ((repeat (first | exact Pick.head _ _ | apply Pick.tail)); done)) | apply Gets.drop))) rfl ?_
        rintro _ _ ⟨rfl, rfl⟩
        refine XL.nil ?_
        rw [show p1 = { swear p x.m.term (-1) with role := 0, lead := -1 } by rw [hp1]; unfold bumped; rw [if_pos (by omega)]]
        exact ⟨⟨⟩, trivial, ⟨rfl, rfl, rfl, trivial⟩, (by repeat (first | exact Gets.done _ | exact Gets.all _ | (apply Gets.step; focus ((repeat (first | exact Pick.head _ _ | apply Pick.tail)); done)) | apply Gets.drop))⟩
      · refine XC.skip ?_
        rw [show p1 = p by rw [hp1]; unfold bumped; rw [if_neg (by omega)]]
        exact ⟨⟨⟩, trivial, ⟨rfl, rfl, rfl, trivial⟩, (by repeat (first | exact Gets.done _ | exact Gets.all _ | (apply Gets.step; focus ((repeat (first | exact Pick.head _ _ | apply Pick.tail)); done)) | apply Gets.drop))⟩
    · rintro ⟨⟩ _
      refine XC.seq fun K8 hK8 => ?_
      refine XC.draw [blk b5 42 (mc x), blk b 90 (pc p1 A c M)] false [(0, false), (1, false), (2, false), (3, false), (4, false), (5, false), (6, false), (7, false), (8, false), (9, false)] (by kernel_rfl) (by kernel_rfl) ?_
      refine y_v rfl (r_fa fo42_1 rfl) (fun _ h => Gets.own (by repeat (first | exact Gets.done _ | exact Gets.all _ | (apply Gets.step; focus ((repeat (first | exact Pick.head _ _ | apply Pick.tail)); done)) | apply Gets.drop)) h) rfl ?_
      refine y_v rfl (r_ld ty3 rfl (by repeat (first | exact Pick.head _ _ | apply Pick.tail)) (by rfl)) (fun _ h => Gets.own (by repeat (first | exact Gets.done _ | exact Gets.all _ | (apply Gets.step; focus ((repeat (first | exact Pick.head _ _ | apply Pick.tail)); done)) | apply Gets.drop)) h) rfl ?_
      refine y_v rfl (r_mv rfl) (fun _ h => Gets.own (by repeat (first | exact Gets.done _ | exact Gets.all _ | (apply Gets.step; focus ((repeat (first | exact Pick.head _ _ | apply Pick.tail)); done)) | apply Gets.drop)) h) rfl ?_
      refine y_v rfl (r_nc rfl) (fun _ h => Gets.own (by repeat (first | exact Gets.done _ | exact Gets.all _ | (apply Gets.step; focus ((repeat (first | exact Pick.head _ _ | apply Pick.tail)); done)) | apply Gets.drop)) h) rfl ?_
      refine y_v rfl (r_fa fo90_0 rfl) (fun _ h => Gets.own (by repeat (first | exact Gets.done _ | exact Gets.all _ | (apply Gets.step; focus ((repeat (first | exact Pick.head _ _ | apply Pick.tail)); done)) | apply Gets.drop)) h) rfl ?_
      refine y_v rfl (r_fa fo86_0 rfl) (fun _ h => Gets.own (by repeat (first | exact Gets.done _ | exact Gets.all _ | (apply Gets.step; focus ((repeat (first | exact Pick.head _ _ | apply Pick.tail)); done)) | apply Gets.drop)) h) rfl ?_
      refine y_v rfl (r_fa fo32_0 rfl) (fun _ h => Gets.own (by repeat (first | exact Gets.done _ | exact Gets.all _ | (apply Gets.step; focus ((repeat (first | exact Pick.head _ _ | apply Pick.tail)); done)) | apply Gets.drop)) h) rfl ?_
      refine y_v rfl (r_ld ty3 rfl (by repeat (first | exact Pick.head _ _ | apply Pick.tail)) (by rfl)) (fun _ h => Gets.own (by repeat (first | exact Gets.done _ | exact Gets.all _ | (apply Gets.step; focus ((repeat (first | exact Pick.head _ _ | apply Pick.tail)); done)) | apply Gets.drop)) h) rfl ?_
      refine y_v rfl (r_lt rfl rfl) (fun _ h => Gets.own (by repeat (first | exact Gets.done _ | exact Gets.all _ | (apply Gets.step; focus ((repeat (first | exact Pick.head _ _ | apply Pick.tail)); done)) | apply Gets.drop)) h) rfl ?_
      refine y_v rfl (r_as rfl) (fun _ h => Gets.own (by repeat (first | exact Gets.done _ | exact Gets.all _ | (apply Gets.step; focus ((repeat (first | exact Pick.head _ _ | apply Pick.tail)); done)) | apply Gets.drop)) h) rfl ?_
      refine XH.nil ?_
      refine hK8 _ _ ?_
      refine XC.keep [(0, _), (1, _), (5, _), (7, _)] ⟨rfl, rfl, rfl, rfl, trivial⟩ ?_
      refine XC.seq fun K9 hK9 => ?_
      refine XC.seq fun K10 hK10 => ?_
      refine XC.region ?_
      refine x_v (r_fa fo42_0 rfl) rfl ?_
      refine x_v (r_ld ty3 rfl (by repeat (first | exact Pick.head _ _ | apply Pick.tail)) (by rfl)) rfl ?_
      refine XL.nil ?_
      refine hK10 _ _ ?_
      refine XC.keep [(0, _), (1, _), (5, _), (7, _), (45, _)] ⟨rfl, rfl, rfl, rfl, rfl, trivial⟩ ?_
      refine XC.block ?_
      refine XC.seq fun K11 hK11 => ?_
      refine XC.region ?_
      refine x_v (r_eq rfl rfl) rfl ?_
      refine x_v (r_as rfl) rfl ?_
      refine XL.nil ?_
      refine hK11 _ _ ?_
      refine XC.keep [(0, _), (1, _), (5, _), (7, _), (45, _), (84, _)] ⟨rfl, rfl, rfl, rfl, rfl, rfl, trivial⟩ ?_
      refine XC.cond_d rfl (fun hc3 => ?_) (fun hc3 => ?_)
      · refine XC.seq fun K12 hK12 => ?_
        refine XC.region ?_
        refine x_v (r_mv rfl) rfl ?_
        refine x_v (r_mv rfl) rfl ?_
        refine x_v (r_mv rfl) rfl ?_
        refine x_v (r_not_d rfl) rfl ?_
        refine x_v (r_mv rfl) rfl ?_
        refine XL.splitd 90 rfl (fun hg90 => ?_) (fun hg90 => ?_)
        · refine x_want rfl rfl rfl ?_
          refine x_v (r_mv rfl) rfl ?_
          refine x_want rfl rfl rfl ?_
          refine x_v (r_mv rfl) rfl ?_
          refine x_want rfl rfl rfl ?_
          refine x_v (r_lda (l' := [_, _, _, _, _, _, _, _, _, _, _, _, _, _, _, _, _]) ty42 rfl (by repeat (first | exact Pick.head _ _ | apply Pick.tail)) rfl (Sub.get (by repeat (first | exact Sub.nil _ | apply Sub.take | apply Sub.skip)))) rfl ?_
          refine x_want rfl rfl rfl ?_
          refine x_c (r_call0 (args := [_, _, _]) ⟨rfl, rfl, rfl, rfl⟩ (asked_tr (k := k) (p := p1) b M f x hP1) (by repeat (first | exact Gets.done _ | exact Gets.all _ | (apply Gets.step; focus ((repeat (first | exact Pick.head _ _ | apply Pick.tail)); done)) | apply Gets.drop))) rfl ?_
          rintro _ _ ⟨rfl, rfl⟩
          refine x_v (r_pk_t rfl rfl) rfl ?_
          refine x_v (r_bd (vs := [_, _]) rfl ⟨rfl, rfl, rfl⟩ (bd42_0_5 _ _)) rfl ?_
          refine x_c (r_call0 (args := [_, _, _]) ⟨rfl, rfl, rfl, rfl⟩ (mail_tr b M f (zx { zm with kind := 2, good := _ } none 0)) (by repeat (first | exact Gets.done _ | exact Gets.all _ | (apply Gets.step; focus ((repeat (first | exact Pick.head _ _ | apply Pick.tail)); done)) | apply Gets.drop))) rfl ?_
          rintro _ _ ⟨rfl, rfl⟩
          refine x_a (r_bs (vs := [_]) rfl ⟨rfl, rfl⟩ (bs51_1_0 _ _ _ _ _ _ _ _ _ _ _ _ _ _ _ _ _ _ _ _ _ _ _ _ _ _)) rfl fun b98 => ?_
          refine XL.shut_ (n := 1) (c := 1) (sz := 18) (by repeat (first | exact Pick.head _ _ | apply Pick.tail)) (Nat.le_refl _) (by decide) rfl rfl ?_
          refine x_v (r_as rfl) rfl ?_
          refine XL.nil ?_
          refine hK12 _ _ ?_
          refine XC.keep [(6, _)] ⟨rfl, trivial⟩ ?_
          refine XC.ret ?_
          rw [htk, if_pos (by omega), if_neg (by rw [decide_eq_true_eq]; omega)]
          exact fin1 rfl (⟨[(f, zx { zm with kind := 2, good := (asked p1 f x.m).2, term := (asked p1 f x.m).1.term } none 0)], some ⟨b98, 0, none⟩, 1, A, c, M, k, rfl, rfl, rfl, Ex.refl W0 k, hP1.of (by unfold asked; split <;> rfl) (by unfold asked; split <;> rfl), fun s hs => by (rw [List.mem_singleton.1 hs]; exact ⟨Rdb.nil _ _ _, Nat.le_refl _, _, _, _, rfl⟩), fun hh => hM1 (by rw [asked_role] at hh; exact hh)⟩) (by repeat (first | exact Gets.done _ | exact Gets.all _ | (apply Gets.step; focus ((repeat (first | exact Pick.head _ _ | apply Pick.tail)); done)) | apply Gets.drop))
        · refine x_unwant rfl rfl rfl rfl rfl ?_
          refine x_unwant rfl rfl rfl rfl rfl ?_
          refine x_unwant rfl rfl rfl rfl rfl ?_
          refine x_unwant rfl rfl rfl rfl rfl ?_
          refine x_v (r_pk_f rfl rfl) rfl ?_
          refine x_v (r_bd (vs := [_, _]) rfl ⟨rfl, rfl, rfl⟩ (bd42_0_5 _ _)) rfl ?_
          refine x_c (r_call0 (args := [_, _, _]) ⟨rfl, rfl, rfl, rfl⟩ (mail_tr b M f (zx { zm with kind := 2, good := _ } none 0)) (by repeat (first | exact Gets.done _ | exact Gets.all _ | (apply Gets.step; focus ((repeat (first | exact Pick.head _ _ | apply Pick.tail)); done)) | apply Gets.drop))) rfl ?_
          rintro _ _ ⟨rfl, rfl⟩
          refine x_a (r_bs (vs := [_]) rfl ⟨rfl, rfl⟩ (bs51_1_0 _ _ _ _ _ _ _ _ _ _ _ _ _ _ _ _ _ _ _ _ _ _ _ _ _ _)) rfl fun b98 => ?_
          refine XL.shut_ (n := 1) (c := 1) (sz := 18) (by repeat (first | exact Pick.head _ _ | apply Pick.tail)) (Nat.le_refl _) (by decide) rfl rfl ?_
          refine x_v (r_as rfl) rfl ?_
          refine XL.nil ?_
          refine hK12 _ _ ?_
          refine XC.keep [(6, _)] ⟨rfl, trivial⟩ ?_
          refine XC.ret ?_
          rw [htk, if_pos (by omega), if_pos (by rw [decide_eq_true_eq]; omega)]
          exact fin1 rfl (⟨[(f, zx { zm with kind := 2, term := p1.term } none 0)], some ⟨b98, 0, none⟩, 1, A, c, M, k, rfl, rfl, rfl, Ex.refl W0 k, hP1, fun s hs => by (rw [List.mem_singleton.1 hs]; exact ⟨Rdb.nil _ _ _, Nat.le_refl _, _, _, _, rfl⟩), hM1⟩) (by repeat (first | exact Gets.done _ | exact Gets.all _ | (apply Gets.step; focus ((repeat (first | exact Pick.head _ _ | apply Pick.tail)); done)) | apply Gets.drop))
      · refine XC.seq fun K13 hK13 => ?_
        refine XC.region ?_
        refine x_v (r_eq rfl rfl) rfl ?_
        refine x_v (r_as rfl) rfl ?_
        refine XL.nil ?_
        refine hK13 _ _ ?_
        refine XC.keep [(0, _), (1, _), (5, _), (7, _), (45, _), (99, _)] ⟨rfl, rfl, rfl, rfl, rfl, rfl, trivial⟩ ?_
        refine XC.cond_d rfl (fun hc4 => ?_) (fun hc4 => ?_)
        · refine XC.seq fun K14 hK14 => ?_
          refine XC.region ?_
          refine x_v (r_mv rfl) rfl ?_
          refine x_v (r_not_d rfl) rfl ?_
          refine x_v (r_mv rfl) rfl ?_
          refine XL.splitd 103 rfl (fun hg103 => ?_) (fun hg103 => ?_)
          · refine x_want rfl rfl rfl ?_
            refine x_v (r_mv rfl) rfl ?_
            refine x_want rfl rfl rfl ?_
            refine x_v (r_nc rfl) rfl ?_
            refine x_want rfl rfl rfl ?_
            refine x_v (r_fa fo90_4 rfl) rfl ?_
            refine x_want rfl rfl rfl ?_
            refine x_v (r_ld ty3 rfl (by repeat (first | exact Pick.head _ _ | apply Pick.tail)) (by rfl)) rfl ?_
            refine x_want rfl rfl rfl ?_
            refine x_v (r_eq rfl rfl) rfl ?_
            refine x_v (r_pk_t rfl rfl) rfl ?_
            refine x_v (r_mv rfl) rfl ?_
            refine XL.splitd 110 rfl (fun hg110 => ?_) (fun hg110 => ?_)
            · refine x_want rfl rfl rfl ?_
              refine x_v (r_fa fo42_5 rfl) rfl ?_
              refine x_want rfl rfl rfl ?_
              refine x_v (r_ld ty4 rfl (by repeat (first | exact Pick.head _ _ | apply Pick.tail)) (by rfl)) rfl ?_
              refine x_v (r_pk_t rfl rfl) rfl ?_
              refine XL.nil ?_
              refine hK14 _ _ ?_
              refine XC.keep [(0, _), (1, _), (113, _)] ⟨rfl, rfl, rfl, trivial⟩ ?_
              refine XC.cond rfl (fun hc5 => ?_) (fun hc5 => ?_)
              · refine XC.seq fun K15 hK15 => ?_
                obtain ⟨mr, rfl⟩ : ∃ mr, M = some mr := by (cases M with | none => exact absurd rfl (hM1 (by omega)) | some r => exact ⟨r, rfl⟩)
                unfold vmo
                refine XC.region ?_
                refine x_v (r_mv rfl) rfl ?_
                refine x_v (r_nc rfl) rfl ?_
                refine x_v (r_fa fo90_9 rfl) rfl ?_
                refine x_v (r_ld ty87 rfl (by repeat (first | exact Pick.head _ _ | apply Pick.tail)) (by rfl)) rfl ?_
                refine x_v (r_mv rfl) rfl ?_
                refine x_e (r_muv Try.underlying87 Try.underlying3 rfl rfl rfl rfl (by repeat (first | exact Pick.head _ _ | apply Pick.tail))) ?_
                refine XL.nil ?_
                refine hK15 _ _ ?_
                refine XC.keep [(0, _)] ⟨rfl, trivial⟩ ?_
                refine XC.seq fun K16 hK16 => ?_
                refine XC.region ?_
                refine x_v (r_mv rfl) rfl ?_
                refine x_c (r_call0 (args := [_]) ⟨rfl, rfl⟩ (leads_tr (k := k) (p := p1) b (some mr) hP1 hL1 hB) (by repeat (first | exact Gets.done _ | exact Gets.all _ | (apply Gets.step; focus ((repeat (first | exact Pick.head _ _ | apply Pick.tail)); done)) | apply Gets.drop))) rfl ?_
                rintro _ _ ⟨L, A5, c5, A6, c6, k6, rfl, rfl, hLs, hx6, hp6, hrd⟩
                refine x_v (r_as rfl) rfl ?_
                refine XL.nil ?_
                refine hK16 _ _ ?_
                refine XC.keep [(6, _)] ⟨rfl, trivial⟩ ?_
                refine XC.ret ?_
                rw [htk, if_neg (by omega), if_pos (by omega), if_pos ⟨by rw [decide_eq_false_iff_not]; omega, by omega, hc5⟩]
                exact fin1 rfl (⟨L, A5, c5, A6, c6, some mr, k6, rfl, rfl, hLs, hx6, hp6, hrd, fun hh => by rw [leads_role] at hh; cases hh⟩) (by repeat (first | exact Gets.done _ | exact Gets.all _ | (apply Gets.step; focus ((repeat (first | exact Pick.head _ _ | apply Pick.tail)); done)) | apply Gets.drop))
              · refine XC.skip ?_
                refine hK9 _ _ ?_
                refine XC.keep [] trivial ?_
                refine XC.seq fun K17 hK17 => ?_
                refine XC.nil_ 92 18 ?_
                refine XC.region ?_
                refine x_v (r_as rfl) rfl ?_
                refine XL.nil ?_
                refine hK17 _ _ ?_
                refine XC.keep [(6, _)] ⟨rfl, trivial⟩ ?_
                refine XC.ret ?_
                rw [htk, if_neg (by omega), if_pos (by omega), if_neg (fun hh => by rw [hc5] at hh; cases hh.2.2)]
                exact fin1 rfl (⟨[], none, 0, A, c, M, k, rfl, rfl, rfl, Ex.refl W0 k, hP1, by simp, hM1⟩) (by repeat (first | exact Gets.done _ | exact Gets.all _ | (apply Gets.step; focus ((repeat (first | exact Pick.head _ _ | apply Pick.tail)); done)) | apply Gets.drop))
            · refine x_unwant rfl rfl rfl rfl rfl ?_
              refine x_unwant rfl rfl rfl rfl rfl ?_
              refine x_v (r_pk_f rfl rfl) rfl ?_
              refine XL.nil ?_
              refine hK14 _ _ ?_
              refine XC.keep [(0, _), (1, _), (113, _)] ⟨rfl, rfl, rfl, trivial⟩ ?_
              refine XC.cond_f rfl ?_
              refine XC.skip ?_
              refine hK9 _ _ ?_
              refine XC.keep [] trivial ?_
              refine XC.seq fun K18 hK18 => ?_
              refine XC.nil_ 92 18 ?_
              refine XC.region ?_
              refine x_v (r_as rfl) rfl ?_
              refine XL.nil ?_
              refine hK18 _ _ ?_
              refine XC.keep [(6, _)] ⟨rfl, trivial⟩ ?_
              refine XC.ret ?_
              rw [htk, if_neg (by omega), if_pos (by omega), if_neg (fun hh => hg110 hh.2.1)]
              exact fin1 rfl (⟨[], none, 0, A, c, M, k, rfl, rfl, rfl, Ex.refl W0 k, hP1, by simp, hM1⟩) (by repeat (first | exact Gets.done _ | exact Gets.all _ | (apply Gets.step; focus ((repeat (first | exact Pick.head _ _ | apply Pick.tail)); done)) | apply Gets.drop))
          · refine x_unwant rfl rfl rfl rfl rfl ?_
            refine x_unwant rfl rfl rfl rfl rfl ?_
            refine x_unwant rfl rfl rfl rfl rfl ?_
            refine x_unwant rfl rfl rfl rfl rfl ?_
            refine x_unwant rfl rfl rfl rfl rfl ?_
            refine x_v (r_pk_f rfl rfl) rfl ?_
            refine x_v (r_mv rfl) rfl ?_
            refine x_unwant rfl rfl rfl rfl rfl ?_
            refine x_unwant rfl rfl rfl rfl rfl ?_
            refine x_v (r_pk_f rfl rfl) rfl ?_
            refine XL.nil ?_
            refine hK14 _ _ ?_
            refine XC.keep [(0, _), (1, _), (113, _)] ⟨rfl, rfl, rfl, trivial⟩ ?_
            refine XC.cond_f rfl ?_
            refine XC.skip ?_
            refine hK9 _ _ ?_
            refine XC.keep [] trivial ?_
            refine XC.seq fun K19 hK19 => ?_
            refine XC.nil_ 92 18 ?_
            refine XC.region ?_
            refine x_v (r_as rfl) rfl ?_
            refine XL.nil ?_
            refine hK19 _ _ ?_
            refine XC.keep [(6, _)] ⟨rfl, trivial⟩ ?_
            refine XC.ret ?_
            rw [htk, if_neg (by omega), if_pos (by omega), if_neg (fun hh => hg103 (by have := hh.1; rw [decide_eq_false_iff_not] at this; exact this))]
            exact fin1 rfl (⟨[], none, 0, A, c, M, k, rfl, rfl, rfl, Ex.refl W0 k, hP1, by simp, hM1⟩) (by repeat (first | exact Gets.done _ | exact Gets.all _ | (apply Gets.step; focus ((repeat (first | exact Pick.head _ _ | apply Pick.tail)); done)) | apply Gets.drop))
        · refine XC.seq fun K20 hK20 => ?_
          refine XC.region ?_
          refine x_v (r_eq rfl rfl) rfl ?_
          refine x_v (r_as rfl) rfl ?_
          refine XL.nil ?_
          refine hK20 _ _ ?_
          refine XC.keep [(0, _), (1, _), (5, _), (7, _), (121, _)] ⟨rfl, rfl, rfl, rfl, rfl, trivial⟩ ?_
          refine XC.cond_d rfl (fun hc8 => ?_) (fun hc8 => ?_)
          · refine XC.seq fun K21 hK21 => ?_
            refine XC.region ?_
            refine x_v (r_mv rfl) rfl ?_
            refine x_v (r_not_d rfl) rfl ?_
            refine x_v (r_mv rfl) rfl ?_
            refine XL.splitd 125 rfl (fun hg125 => ?_) (fun hg125 => ?_)
            · refine x_want rfl rfl rfl ?_
              refine x_v (r_mv rfl) rfl ?_
              refine x_want rfl rfl rfl ?_
              refine x_v (r_nc rfl) rfl ?_
              refine x_want rfl rfl rfl ?_
              refine x_v (r_fa fo90_4 rfl) rfl ?_
              refine x_want rfl rfl rfl ?_
              refine x_v (r_ld ty3 rfl (by repeat (first | exact Pick.head _ _ | apply Pick.tail)) (by rfl)) rfl ?_
              refine x_want rfl rfl rfl ?_
              refine x_v (r_eq rfl rfl) rfl ?_
              refine x_v (r_pk_t rfl rfl) rfl ?_
              refine XL.nil ?_
              refine hK21 _ _ ?_
              refine XC.keep [(0, _), (1, _), (5, _), (131, _)] ⟨rfl, rfl, rfl, rfl, trivial⟩ ?_
              refine XC.cond_d rfl (fun hc9 => ?_) (fun hc9 => ?_)
              · refine XC.seq fun K22 hK22 => ?_
                refine XC.region ?_
                refine x_v (r_mv rfl) rfl ?_
                refine x_v (r_mv rfl) rfl ?_
                refine x_v (r_lda (l' := [_, _, _, _, _, _, _, _, _, _, _, _, _, _, _, _, _]) ty42 rfl (by repeat (first | exact Pick.head _ _ | apply Pick.tail)) rfl (Sub.get (by repeat (first | exact Sub.nil _ | apply Sub.take | apply Sub.skip)))) rfl ?_
                refine x_c (r_call0 (args := [_, _, _]) ⟨rfl, rfl, rfl, rfl⟩ (heard_tr (k := k) (p := p1) b M f x hP1 hL1 hB hF1) (by repeat (first | exact Gets.done _ | exact Gets.all _ | (apply Gets.step; focus ((repeat (first | exact Pick.head _ _ | apply Pick.tail)); done)) | apply Gets.drop))) rfl ?_
                rintro _ _ ⟨L, A5, c5, A6, c6, k6, rfl, rfl, hLs, hx6, hp6, hrd⟩
                refine x_v (r_as rfl) rfl ?_
                refine XL.nil ?_
                refine hK22 _ _ ?_
                refine XC.keep [(6, _)] ⟨rfl, trivial⟩ ?_
                refine XC.ret ?_
                rw [htk, if_neg (by omega), if_neg (by omega), if_pos (by omega), if_pos ⟨by rw [decide_eq_false_iff_not]; omega, by omega⟩]
                exact fin1 rfl (⟨L, A5, c5, A6, c6, M, k6, rfl, rfl, hLs, hx6, hp6, hrd, fun hh => hM1 (by rw [heard_role] at hh; exact hh)⟩) (by repeat (first | exact Gets.done _ | exact Gets.all _ | (apply Gets.step; focus ((repeat (first | exact Pick.head _ _ | apply Pick.tail)); done)) | apply Gets.drop))
              · refine XC.skip ?_
                refine hK9 _ _ ?_
                refine XC.keep [] trivial ?_
                refine XC.seq fun K23 hK23 => ?_
                refine XC.nil_ 92 18 ?_
                refine XC.region ?_
                refine x_v (r_as rfl) rfl ?_
                refine XL.nil ?_
                refine hK23 _ _ ?_
                refine XC.keep [(6, _)] ⟨rfl, trivial⟩ ?_
                refine XC.ret ?_
                rw [htk, if_neg (by omega), if_neg (by omega), if_pos (by omega), if_neg (fun hh => hc9 hh.2)]
                exact fin1 rfl (⟨[], none, 0, A, c, M, k, rfl, rfl, rfl, Ex.refl W0 k, hP1, by simp, hM1⟩) (by repeat (first | exact Gets.done _ | exact Gets.all _ | (apply Gets.step; focus ((repeat (first | exact Pick.head _ _ | apply Pick.tail)); done)) | apply Gets.drop))
            · refine x_unwant rfl rfl rfl rfl rfl ?_
              refine x_unwant rfl rfl rfl rfl rfl ?_
              refine x_unwant rfl rfl rfl rfl rfl ?_
              refine x_unwant rfl rfl rfl rfl rfl ?_
              refine x_unwant rfl rfl rfl rfl rfl ?_
              refine x_v (r_pk_f rfl rfl) rfl ?_
              refine XL.nil ?_
              refine hK21 _ _ ?_
              refine XC.keep [(0, _), (1, _), (5, _), (131, _)] ⟨rfl, rfl, rfl, rfl, trivial⟩ ?_
              refine XC.cond_f rfl ?_
              refine XC.skip ?_
              refine hK9 _ _ ?_
              refine XC.keep [] trivial ?_
              refine XC.seq fun K24 hK24 => ?_
              refine XC.nil_ 92 18 ?_
              refine XC.region ?_
              refine x_v (r_as rfl) rfl ?_
              refine XL.nil ?_
              refine hK24 _ _ ?_
              refine XC.keep [(6, _)] ⟨rfl, trivial⟩ ?_
              refine XC.ret ?_
              rw [htk, if_neg (by omega), if_neg (by omega), if_pos (by omega), if_neg (fun hh => hg125 (by have := hh.1; rw [decide_eq_false_iff_not] at this; exact this))]
              exact fin1 rfl (⟨[], none, 0, A, c, M, k, rfl, rfl, rfl, Ex.refl W0 k, hP1, by simp, hM1⟩) (by repeat (first | exact Gets.done _ | exact Gets.all _ | (apply Gets.step; focus ((repeat (first | exact Pick.head _ _ | apply Pick.tail)); done)) | apply Gets.drop))
          · refine XC.seq fun K25 hK25 => ?_
            refine XC.region ?_
            refine x_v (r_bd (vs := [_]) rfl ⟨rfl, rfl⟩ (bd42_0 _)) rfl ?_
            refine x_a (r_al ty42 rfl) rfl fun b8 => ?_
            refine x_e (r_st ty42 rfl rfl rfl rfl rfl (by repeat (first | exact Upd.head _ _ _ | apply Upd.tail)) (by repeat (first | exact Over.nil _ | apply Over.put | apply Over.skip))) ?_
            refine XL.nil ?_
            refine hK25 _ _ ?_
            refine XC.keep [(0, _), (1, _), (5, _), (7, _), (8, _)] ⟨rfl, rfl, rfl, rfl, rfl, trivial⟩ ?_
            refine XC.seqcut (σ := Pl × Option Addr × Nat × HP × Int × Bool) (fun s => [(0, .pointer (some ⟨b, 0, none⟩)), (1, .int .i64 f), (8, .pointer (some ⟨b8, 0, none⟩))]) (fun s => blk b8 42 (mc (zx { zm with kind := 4, index := s.2.2.2.2.1, good := s.2.2.2.2.2 } none 0)) :: blk b 90 (pc s.1 s.2.1 s.2.2.1 M) :: vmo M :: s.2.2.2.1 :: Fr) (fun s => take p f x.m = (s.1, [mail s.1 f { zm with kind := 4, index := s.2.2.2.2.1, good := s.2.2.2.2.2 }]) ∧ Ex W0 k s.2.2.2.1 ∧ PB W0 s.2.2.2.1 s.1 s.2.1 s.2.2.1 ∧ (s.1.role = 1 → M ≠ none)) ?_ ?_
            · refine XC.seq fun K27 hK27 => ?_
              refine XC.region ?_
              refine x_v (r_mv rfl) rfl ?_
              refine x_v (r_not_d rfl) rfl ?_
              refine XL.nil ?_
              refine hK27 _ _ ?_
              refine XC.keep [(0, _), (1, _), (5, _), (8, _), (48, _)] ⟨rfl, rfl, rfl, rfl, rfl, trivial⟩ ?_
              refine XC.cond_d rfl (fun hc11 => ?_) (fun hc11 => ?_)
              · refine XC.seq fun K28 hK28 => ?_
                refine XC.seq fun K29 hK29 => ?_
                refine XC.region ?_
                refine x_v (r_mv rfl) rfl ?_
                refine x_v (r_nc rfl) rfl ?_
                refine x_v (r_fa fo90_4 rfl) rfl ?_
                refine x_v (r_ld ty3 rfl (by repeat (first | exact Pick.head _ _ | apply Pick.tail)) (by rfl)) rfl ?_
                refine x_v (r_eq rfl rfl) rfl ?_
                refine XL.nil ?_
                refine hK29 _ _ ?_
                refine XC.keep [(0, _), (1, _), (5, _), (8, _), (53, _)] ⟨rfl, rfl, rfl, rfl, rfl, trivial⟩ ?_
                refine XC.cond_d rfl (fun hc12 => ?_) (fun hc12 => ?_)
                · refine XC.seq fun K30 hK30 => ?_
                  refine XC.nil_ 92 18 ?_
                  refine XC.region ?_
                  refine x_v (r_as rfl) rfl ?_
                  refine XL.nil ?_
                  refine hK30 _ _ ?_
                  refine XC.keep [(6, _)] ⟨rfl, trivial⟩ ?_
                  refine XC.ret ?_
                  rw [htk, if_neg (by omega), if_neg (by omega), if_neg (by omega), if_neg (by rw [decide_eq_true_eq]; omega), if_pos (by omega)]
                  exact fin1 rfl (⟨[], none, 0, A, c, M, k, rfl, rfl, rfl, Ex.refl W0 k, hP1, by simp, hM1⟩) (by repeat (first | exact Gets.done _ | exact Gets.all _ | (apply Gets.step; focus ((repeat (first | exact Pick.head _ _ | apply Pick.tail)); done)) | apply Gets.drop))
                · refine XC.skip ?_
                  refine hK28 _ _ ?_
                  refine XC.keep [(0, _), (1, _), (5, _), (8, _)] ⟨rfl, rfl, rfl, rfl, trivial⟩ ?_
                  refine XC.seq fun K31 hK31 => ?_
                  refine XC.region ?_
                  refine x_v (r_mv rfl) rfl ?_
                  refine x_v (r_mv rfl) rfl ?_
                  refine x_c (r_call0 (args := [_, _]) ⟨rfl, rfl, rfl⟩ (follow_tr (p := p1) (A := A) (c := c) b M f) (by repeat (first | exact Gets.done _ | exact Gets.all _ | (apply Gets.step; focus ((repeat (first | exact Pick.head _ _ | apply Pick.tail)); done)) | apply Gets.drop))) rfl ?_
                  rintro _ _ ⟨rfl, rfl⟩
                  refine XL.nil ?_
                  refine hK31 _ _ ?_
                  refine XC.keep [(0, _), (1, _), (5, _), (8, _)] ⟨rfl, rfl, rfl, rfl, trivial⟩ ?_
                  refine XC.seq fun K32 hK32 => ?_
                  unfold pc
                  refine XC.region ?_
                  refine x_v (r_mv rfl) rfl ?_
                  refine x_v (r_nc rfl) rfl ?_
                  refine x_v (r_fa fo90_7 rfl) rfl ?_
                  refine x_e (r_st ty3 rfl rfl rfl rfl rfl (by repeat (first | exact Upd.head _ _ _ | apply Upd.tail)) (by repeat (first | exact Over.nil _ | apply Over.put | apply Over.skip))) ?_
                  refine XL.nil ?_
                  refine hK32 _ _ ?_
                  refine XC.keep [(0, _), (1, _), (5, _), (8, _)] ⟨rfl, rfl, rfl, rfl, trivial⟩ ?_
                  refine XC.seq fun K33 hK33 => ?_
                  obtain ⟨p2, hp2⟩ : ∃ p2, p2 = downed p1 f := ⟨_, rfl⟩
                  refine XC.mem (blk b8 42 (mc (zx { zm with kind := 4 } none 0)) :: blk b5 42 (mc x) :: blk b 90 (pc p2 A c M) :: vmo M :: k :: Fr) (fun w h => by rw [hp2]; exact Gets.own (by repeat (first | exact Gets.done _ | exact Gets.all _ | (apply Gets.step; focus ((repeat (first | exact Pick.head _ _ | apply Pick.tail)); done)) | apply Gets.drop)) h) ?_
                  have hP2 : PB W0 k p2 A c := by rw [hp2]; exact hP1.of rfl rfl
                  have hL2 : Lim B p2 := by rw [hp2]; exact hL1.down 0 f 0 (Int.le_refl _) (by omega)
                  have hF2 : Fit p2 f x.m := by rw [hp2]; exact fit_me hF1 rfl
                  have hr2 : p2.role = 0 := by rw [hp2]; rfl
                  have htk2 : take p f x.m = ((if x.m.kind = 3 then fed p2 x.m else laid p2 x.m).1, [mail (if x.m.kind = 3 then fed p2 x.m else laid p2 x.m).1 f { zm with kind := 4, index := (if x.m.kind = 3 then fed p2 x.m else laid p2 x.m).2.1, good := (if x.m.kind = 3 then fed p2 x.m else laid p2 x.m).2.2 }]) := by rw [htk, if_neg (by omega), if_neg (by omega), if_neg (by omega), if_neg (by rw [decide_eq_true_eq]; omega), if_neg (by omega), ← hp2]
                  unfold mc
                  refine XC.region ?_
                  refine x_v (r_fa fo42_0 rfl) rfl ?_
                  refine x_v (r_ld ty3 rfl (by repeat (first | exact Pick.head _ _ | apply Pick.tail)) (by rfl)) rfl ?_
                  refine x_v (r_eq rfl rfl) rfl ?_
                  refine XL.nil ?_
                  refine hK33 _ _ ?_
                  refine XC.keep [(0, _), (1, _), (5, _), (8, _), (62, _)] ⟨rfl, rfl, rfl, rfl, rfl, trivial⟩ ?_
                  refine XC.cond_d rfl (fun hc13 => ?_) (fun hc13 => ?_)
                  · refine XC.region ?_
                    refine x_v (r_mv rfl) rfl ?_
                    refine x_v (r_lda (l' := [_, _, _, _, _, _, _, _, _, _, _, _, _, _, _, _, _]) ty42 rfl (by repeat (first | exact Pick.head _ _ | apply Pick.tail)) rfl (Sub.get (by repeat (first | exact Sub.nil _ | apply Sub.take | apply Sub.skip)))) rfl ?_
                    refine x_c (r_call0 (args := [_, _]) ⟨rfl, rfl, rfl⟩ (fed_tr (k := k) b M x hP2 hL2 hB hF2 hr hxc) (by repeat (first | exact Gets.done _ | exact Gets.all _ | (apply Gets.step; focus ((repeat (first | exact Pick.head _ _ | apply Pick.tail)); done)) | apply Gets.drop))) rfl ?_
                    rintro _ _ ⟨rfl, A2, c2, k2, rfl, hx2, hq2⟩
                    refine x_v (r_mv rfl) rfl ?_
                    refine x_v (r_ex rfl rfl) rfl ?_
                    refine x_v (r_ex rfl rfl) rfl ?_
                    refine x_v (r_fa fo42_2 rfl) rfl ?_
                    refine x_e (r_st ty3 rfl rfl rfl rfl rfl (by repeat (first | exact Upd.head _ _ _ | apply Upd.tail)) (by repeat (first | exact Over.nil _ | apply Over.put | apply Over.skip))) ?_
                    refine x_v (r_fa fo42_5 rfl) rfl ?_
                    refine x_e (r_st ty4 rfl rfl rfl rfl rfl (by repeat (first | exact Upd.head _ _ _ | apply Upd.tail)) (by repeat (first | exact Over.nil _ | apply Over.put | apply Over.skip))) ?_
                    refine XL.nil ?_
                    exact ⟨((fed p2 x.m).1, A2, c2, k2, (fed p2 x.m).2.1, (fed p2 x.m).2.2), ⟨by rw [htk2, if_pos (by omega)], hx2, hq2, fun hh => by dsimp only at hh; rw [fed_role, hr2] at hh; cases hh⟩, ⟨rfl, rfl, rfl, trivial⟩, (by repeat (first | exact Gets.done _ | exact Gets.all _ | (apply Gets.step; focus ((repeat (first | exact Pick.head _ _ | apply Pick.tail)); done)) | apply Gets.drop))⟩
                  · refine XC.region ?_
                    refine x_v (r_mv rfl) rfl ?_
                    refine x_v (r_lda (l' := [_, _, _, _, _, _, _, _, _, _, _, _, _, _, _, _, _]) ty42 rfl (by repeat (first | exact Pick.head _ _ | apply Pick.tail)) rfl (Sub.get (by repeat (first | exact Sub.nil _ | apply Sub.take | apply Sub.skip)))) rfl ?_
                    refine x_c (r_call0 (args := [_, _]) ⟨rfl, rfl, rfl⟩ (laid_tr (k := k) b M x hP2 (by have := hF.i0; have := hF.i1; unfold most at *; omega)) (by repeat (first | exact Gets.done _ | exact Gets.all _ | (apply Gets.step; focus ((repeat (first | exact Pick.head _ _ | apply Pick.tail)); done)) | apply Gets.drop))) rfl ?_
                    rintro _ _ ⟨rfl, A2, c2, k2, rfl, hx2, hq2⟩
                    refine x_v (r_mv rfl) rfl ?_
                    refine x_v (r_ex rfl rfl) rfl ?_
                    refine x_v (r_ex rfl rfl) rfl ?_
                    refine x_v (r_fa fo42_2 rfl) rfl ?_
                    refine x_e (r_st ty3 rfl rfl rfl rfl rfl (by repeat (first | exact Upd.head _ _ _ | apply Upd.tail)) (by repeat (first | exact Over.nil _ | apply Over.put | apply Over.skip))) ?_
                    refine x_v (r_fa fo42_5 rfl) rfl ?_
                    refine x_e (r_st ty4 rfl rfl rfl rfl rfl (by repeat (first | exact Upd.head _ _ _ | apply Upd.tail)) (by repeat (first | exact Over.nil _ | apply Over.put | apply Over.skip))) ?_
                    refine XL.nil ?_
                    exact ⟨((laid p2 x.m).1, A2, c2, k2, (laid p2 x.m).2.1, (laid p2 x.m).2.2), ⟨by rw [htk2, if_neg (by omega)], hx2, hq2, fun hh => by dsimp only at hh; rw [laid_role, hr2] at hh; cases hh⟩, ⟨rfl, rfl, rfl, trivial⟩, (by repeat (first | exact Gets.done _ | exact Gets.all _ | (apply Gets.step; focus ((repeat (first | exact Pick.head _ _ | apply Pick.tail)); done)) | apply Gets.drop))⟩
              · refine XC.skip ?_
                exact ⟨(p1, A, c, k, 0, false), ⟨by rw [htk, if_neg (by omega), if_neg (by omega), if_neg (by omega), if_pos (by rw [decide_eq_true_eq]; omega)]; rfl, Ex.refl W0 k, hP1, hM1⟩, ⟨rfl, rfl, rfl, trivial⟩, (by repeat (first | exact Gets.done _ | exact Gets.all _ | (apply Gets.step; focus ((repeat (first | exact Pick.head _ _ | apply Pick.tail)); done)) | apply Gets.drop))⟩
            · rintro ⟨q, A2, c2, k2, i, g⟩ ⟨htq, hx2, hq2, hMq⟩
              dsimp only at htq hx2 hq2 hMq ⊢
              unfold mc
              refine XC.seq fun K34 hK34 => ?_
              refine XC.region ?_
              refine x_v (r_mv rfl) rfl ?_
              refine x_v (r_mv rfl) rfl ?_
              refine x_v (r_lda (l' := [_, _, _, _, _, _, _, _, _, _, _, _, _, _, _, _, _]) ty42 rfl (by repeat (first | exact Pick.head _ _ | apply Pick.tail)) rfl (Sub.get (by repeat (first | exact Sub.nil _ | apply Sub.take | apply Sub.skip)))) rfl ?_
              refine x_c (r_call0 (args := [_, _, _]) ⟨rfl, rfl, rfl, rfl⟩ (mail_tr (p := q) b M f (zx { zm with kind := 4, index := i, good := g } none 0)) (by repeat (first | exact Gets.done _ | exact Gets.all _ | (apply Gets.step; focus ((repeat (first | exact Pick.head _ _ | apply Pick.tail)); done)) | apply Gets.drop))) rfl ?_
              rintro _ _ ⟨rfl, rfl⟩
              refine x_a (r_bs (vs := [_]) rfl ⟨rfl, rfl⟩ (bs51_1_0 _ _ _ _ _ _ _ _ _ _ _ _ _ _ _ _ _ _ _ _ _ _ _ _ _ _)) rfl fun b83 => ?_
              refine XL.shut_ (n := 1) (c := 1) (sz := 18) (by repeat (first | exact Pick.head _ _ | apply Pick.tail)) (Nat.le_refl _) (by decide) rfl rfl ?_
              refine x_v (r_as rfl) rfl ?_
              refine XL.nil ?_
              refine hK34 _ _ ?_
              refine XC.keep [(6, _)] ⟨rfl, trivial⟩ ?_
              refine XC.ret ?_
              rw [htq]
              exact fin1 rfl (⟨[(f, zx { zm with kind := 4, index := i, good := g, term := q.term } none 0)], some ⟨b83, 0, none⟩, 1, A2, c2, M, k2, rfl, rfl, rfl, hx2, hq2, fun s hs => by (rw [List.mem_singleton.1 hs]; exact ⟨Rdb.nil _ _ _, Nat.le_refl _, _, _, _, rfl⟩), hMq⟩) (by repeat (first | exact Gets.done _ | exact Gets.all _ | (apply Gets.step; focus ((repeat (first | exact Pick.head _ _ | apply Pick.tail)); done)) | apply Gets.drop))
end Go.Proofs.Ytlogcldbflemfaa

/- Crowns: what lies in memory; a crown's functions. -/
import Derived.Test.YtheilpcbilnadaaFacts
import Derived.Test.YtheilpcbilnadaaYOps9
namespace Go.Proofs.Ytheilpcbilnadaa
open Go.Sx
set_option linter.unusedVariables false

/-- What a leader knows. -/
structure Cw where
 tE : Int
 tS : Int
 heard : Int
 wants : Int
 site : Int
 epochs : Int
def cc (c : Cw) : List Value := [.int .i64 c.tE, .int .i64 c.tS, .int .i64 c.heard, .int .i64 c.wants, .int .i64 c.site, .int .i64 c.epochs]
def topOf (c : Cw) (f : Int) : Int := max (max f c.heard) c.tE
def wantOf (c : Cw) (f : Int) : Cw × Int := if 0 < c.wants then (c, 0) else if f < 0 ∨ c.epochs ≤ topOf c f then (c, 125) else ({ c with wants := topOf c f + 1 }, 0)
def hearOf (c : Cw) (e : Int) : Cw := if c.heard < e ∧ e ≤ 16 then { c with heard := e } else c
def newOk (s e : Int) : Prop := 0 ≤ s ∧ s < 2 ∧ 1 ≤ e ∧ e ≤ 16
instance (s e : Int) : Decidable (newOk s e) := inferInstanceAs (Decidable (_ ∧ _))

theorem cnew_tr {W0 : World} {Fr : List HP} (s e : Int) (h : newOk s e) : Tr W0 Try.prog 6 [.int .i64 s, .int .i64 e] Fr (fun v Rs' => ∃ b, v = .tuple #[.pointer (some ⟨b, 0, none⟩), .int .i64 0] ∧ Rs' = blk b 81 (cc ⟨0, 0, 0, 0, s, e⟩) :: Fr) := by
 obtain ⟨h1, h2, h3, h4⟩ := h
 refine Entry.tr (N := 24) (rs := [.tmp 4, .tmp 5]) ⟨_, Try.func6, rfl, by kernel_rfl, rfl, rfl⟩ rfl ?_
 refine XC.seq fun K1 hK1 => ?_
 refine XC.region ?_
 refine x_v (r_as rfl) rfl ?_
 refine x_v (r_as rfl) rfl ?_
 refine XL.nil ?_
 refine hK1 _ _ ?_
 refine XC.keep [(0, _), (1, _)] ⟨rfl, rfl, trivial⟩ ?_
 refine XC.seq fun K2 hK2 => ?_
 refine XC.seq fun K3 hK3 => ?_
 refine XC.region ?_
 refine x_v (r_mv rfl) rfl ?_
 refine x_v (r_lt rfl rfl) rfl ?_
 refine x_v (r_mv rfl) rfl ?_
 refine XL.splitd 8 rfl (fun hg8 => ?_) (fun hg8 => ?_)
 ·exfalso; omega
 ·refine x_want rfl rfl rfl ?_
  refine x_v (r_mv rfl) rfl ?_
  refine x_want rfl rfl rfl ?_
  refine x_v (r_ge rfl rfl) rfl ?_
  refine x_v (r_pk_f rfl rfl) rfl ?_
  refine x_v (r_mv rfl) rfl ?_
  refine XL.splitd 12 rfl (fun hg12 => ?_) (fun hg12 => ?_)
  ·exfalso; omega
  ·refine x_want rfl rfl rfl ?_
   refine x_v (r_mv rfl) rfl ?_
   refine x_want rfl rfl rfl ?_
   refine x_v (r_lt rfl rfl) rfl ?_
   refine x_v (r_pk_f rfl rfl) rfl ?_
   refine x_v (r_mv rfl) rfl ?_
   refine XL.splitd 16 rfl (fun hg16 => ?_) (fun hg16 => ?_)
   ·exfalso; omega
   ·refine x_want rfl rfl rfl ?_
    refine x_v (r_mv rfl) rfl ?_
    refine x_want rfl rfl rfl ?_
    refine x_v (r_gt rfl rfl) rfl ?_
    refine x_v (r_pk_f rfl rfl) rfl ?_
    refine XL.nil ?_
    refine hK3 _ _ ?_
    refine XC.keep [(0, _), (1, _), (19, _)] ⟨rfl, rfl, rfl, trivial⟩ ?_
    refine XC.cond_d rfl (fun hc1 => ?_) (fun hc1 => ?_)
    ·exfalso; omega
    ·refine XC.skip ?_
     refine hK2 _ _ ?_
     refine XC.keep [(0, _), (1, _)] ⟨rfl, rfl, trivial⟩ ?_
     refine XC.seq fun K4 hK4 => ?_
     refine XC.region ?_
     refine x_v (r_mv rfl) rfl ?_
     refine x_v (r_mv rfl) rfl ?_
     refine x_v (r_bd (vs := [_, _]) rfl ⟨rfl, rfl, rfl⟩ (bd81_1_2 _ _)) rfl ?_
     refine x_a (r_bx rfl rfl) rfl fun b23 => ?_
     refine x_v (r_as rfl) rfl ?_
     refine x_v (r_as rfl) rfl ?_
     refine XL.nil ?_
     refine hK4 _ _ ?_
     refine XC.keep [(4, _), (5, _)] ⟨rfl, rfl, trivial⟩ ?_
     refine XC.ret ?_
     exact fin2 rfl rfl (⟨_, rfl, rfl⟩) gS
theorem cnewbad_tr {W0 : World} {Fr : List HP} (s e : Int) (h : ¬ newOk s e) : Tr W0 Try.prog 6 [.int .i64 s, .int .i64 e] Fr (fun v Rs' => v = .tuple #[.pointer none, .int .i64 1] ∧ Rs' = Fr) := by
 have h1 : ¬ (0 ≤ s ∧ s < 2 ∧ 1 ≤ e ∧ e ≤ 16) := h
 refine Entry.tr (N := 24) (rs := [.tmp 4, .tmp 5]) ⟨_, Try.func6, rfl, by kernel_rfl, rfl, rfl⟩ rfl ?_
 refine XC.seq fun K1 hK1 => ?_
 refine XC.region ?_
 refine x_v (r_as rfl) rfl ?_
 refine x_v (r_as rfl) rfl ?_
 refine XL.nil ?_
 refine hK1 _ _ ?_
 refine XC.keep [(0, _), (1, _)] ⟨rfl, rfl, trivial⟩ ?_
 refine XC.seq fun K2 hK2 => ?_
 refine XC.seq fun K3 hK3 => ?_
 refine XC.region ?_
 refine x_v (r_mv rfl) rfl ?_
 refine x_v (r_lt rfl rfl) rfl ?_
 refine x_v (r_mv rfl) rfl ?_
 refine XL.splitd 8 rfl (fun hg8 => ?_) (fun hg8 => ?_)
 ·refine x_unwant rfl rfl rfl rfl rfl ?_
  refine x_unwant rfl rfl rfl rfl rfl ?_
  refine x_v (r_pk_t rfl rfl) rfl ?_
  refine x_v (r_mv rfl) rfl ?_
  refine x_unwant rfl rfl rfl rfl rfl ?_
  refine x_unwant rfl rfl rfl rfl rfl ?_
  refine x_v (r_pk_t rfl rfl) rfl ?_
  refine x_v (r_mv rfl) rfl ?_
  refine x_unwant rfl rfl rfl rfl rfl ?_
  refine x_unwant rfl rfl rfl rfl rfl ?_
  refine x_v (r_pk_t rfl rfl) rfl ?_
  refine XL.nil ?_
  refine hK3 _ _ ?_
  refine XC.keep [(0, _), (1, _), (19, _)] ⟨rfl, rfl, rfl, trivial⟩ ?_
  refine XC.cond_t rfl ?_
  refine XC.seq fun K4 hK4 => ?_
  refine XC.region ?_
  refine x_v (r_as rfl) rfl ?_
  refine x_v (r_as rfl) rfl ?_
  refine XL.nil ?_
  refine hK4 _ _ ?_
  refine XC.keep [(4, _), (5, _)] ⟨rfl, rfl, trivial⟩ ?_
  refine XC.ret ?_
  exact fin2 rfl rfl (⟨rfl, rfl⟩) gS
 ·refine x_want rfl rfl rfl ?_
  refine x_v (r_mv rfl) rfl ?_
  refine x_want rfl rfl rfl ?_
  refine x_v (r_ge rfl rfl) rfl ?_
  refine x_v (r_pk_f rfl rfl) rfl ?_
  refine x_v (r_mv rfl) rfl ?_
  refine XL.splitd 12 rfl (fun hg12 => ?_) (fun hg12 => ?_)
  ·refine x_unwant rfl rfl rfl rfl rfl ?_
   refine x_unwant rfl rfl rfl rfl rfl ?_
   refine x_v (r_pk_t rfl rfl) rfl ?_
   refine x_v (r_mv rfl) rfl ?_
   refine x_unwant rfl rfl rfl rfl rfl ?_
   refine x_unwant rfl rfl rfl rfl rfl ?_
   refine x_v (r_pk_t rfl rfl) rfl ?_
   refine XL.nil ?_
   refine hK3 _ _ ?_
   refine XC.keep [(0, _), (1, _), (19, _)] ⟨rfl, rfl, rfl, trivial⟩ ?_
   refine XC.cond_t rfl ?_
   refine XC.seq fun K5 hK5 => ?_
   refine XC.region ?_
   refine x_v (r_as rfl) rfl ?_
   refine x_v (r_as rfl) rfl ?_
   refine XL.nil ?_
   refine hK5 _ _ ?_
   refine XC.keep [(4, _), (5, _)] ⟨rfl, rfl, trivial⟩ ?_
   refine XC.ret ?_
   exact fin2 rfl rfl (⟨rfl, rfl⟩) gS
  ·refine x_want rfl rfl rfl ?_
   refine x_v (r_mv rfl) rfl ?_
   refine x_want rfl rfl rfl ?_
   refine x_v (r_lt rfl rfl) rfl ?_
   refine x_v (r_pk_f rfl rfl) rfl ?_
   refine x_v (r_mv rfl) rfl ?_
   refine XL.splitd 16 rfl (fun hg16 => ?_) (fun hg16 => ?_)
   ·refine x_unwant rfl rfl rfl rfl rfl ?_
    refine x_unwant rfl rfl rfl rfl rfl ?_
    refine x_v (r_pk_t rfl rfl) rfl ?_
    refine XL.nil ?_
    refine hK3 _ _ ?_
    refine XC.keep [(0, _), (1, _), (19, _)] ⟨rfl, rfl, rfl, trivial⟩ ?_
    refine XC.cond_t rfl ?_
    refine XC.seq fun K6 hK6 => ?_
    refine XC.region ?_
    refine x_v (r_as rfl) rfl ?_
    refine x_v (r_as rfl) rfl ?_
    refine XL.nil ?_
    refine hK6 _ _ ?_
    refine XC.keep [(4, _), (5, _)] ⟨rfl, rfl, trivial⟩ ?_
    refine XC.ret ?_
    exact fin2 rfl rfl (⟨rfl, rfl⟩) gS
   ·refine x_want rfl rfl rfl ?_
    refine x_v (r_mv rfl) rfl ?_
    refine x_want rfl rfl rfl ?_
    refine x_v (r_gt rfl rfl) rfl ?_
    refine x_v (r_pk_f rfl rfl) rfl ?_
    refine XL.nil ?_
    refine hK3 _ _ ?_
    refine XC.keep [(0, _), (1, _), (19, _)] ⟨rfl, rfl, rfl, trivial⟩ ?_
    refine XC.cond_d rfl (fun hc4 => ?_) (fun hc4 => ?_)
    ·refine XC.seq fun K7 hK7 => ?_
     refine XC.region ?_
     refine x_v (r_as rfl) rfl ?_
     refine x_v (r_as rfl) rfl ?_
     refine XL.nil ?_
     refine hK7 _ _ ?_
     refine XC.keep [(4, _), (5, _)] ⟨rfl, rfl, trivial⟩ ?_
     refine XC.ret ?_
     exact fin2 rfl rfl (⟨rfl, rfl⟩) gS
    ·exfalso; omega
theorem heard_tr {W0 : World} {Fr : List HP} {c : Cw} (b : Nat) : Tr W0 Try.prog 9 [.pointer (some ⟨b, 0, none⟩)] (blk b 81 (cc c) :: Fr) (fun v Rs' => v = .int .i64 c.heard ∧ Rs' = blk b 81 (cc c) :: Fr) := by
 unfold cc
 refine Entry.tr (N := 10) (rs := [.tmp 2]) ⟨_, Try.func9, rfl, by kernel_rfl, rfl, rfl⟩ rfl ?_
 refine XC.seq fun K1 hK1 => ?_
 refine XC.region ?_
 refine x_v (r_as rfl) rfl ?_
 refine XL.nil ?_
 refine hK1 _ _ ?_
 refine XC.keep [(0, _)] ⟨rfl, trivial⟩ ?_
 refine XC.seq fun K2 hK2 => ?_
 refine XC.seq fun K3 hK3 => ?_
 refine XC.region ?_
 refine x_v (r_mv rfl) rfl ?_
 refine x_v (r_peq_some Try.underlying23 rfl rfl) rfl ?_
 refine XL.nil ?_
 refine hK3 _ _ ?_
 refine XC.keep [(0, _), (4, _)] ⟨rfl, rfl, trivial⟩ ?_
 refine XC.cond_f rfl ?_
 refine XC.skip ?_
 refine hK2 _ _ ?_
 refine XC.keep [(0, _)] ⟨rfl, trivial⟩ ?_
 refine XC.seq fun K4 hK4 => ?_
 refine XC.region ?_
 refine x_v (r_mv rfl) rfl ?_
 refine x_v (r_nc rfl) rfl ?_
 refine x_v (r_fa fo81_0 rfl) rfl ?_
 refine x_v (r_fa fo79_1 rfl) rfl ?_
 refine x_v (r_ld ty3 rfl pK (by rfl)) rfl ?_
 refine x_v (r_as rfl) rfl ?_
 refine XL.nil ?_
 refine hK4 _ _ ?_
 refine XC.keep [(2, _)] ⟨rfl, trivial⟩ ?_
 refine XC.ret ?_
 exact fin1 rfl (⟨rfl, rfl⟩) gS
theorem wants_tr {W0 : World} {Fr : List HP} {c : Cw} (b : Nat) : Tr W0 Try.prog 10 [.pointer (some ⟨b, 0, none⟩)] (blk b 81 (cc c) :: Fr) (fun v Rs' => v = .int .i64 c.wants ∧ Rs' = blk b 81 (cc c) :: Fr) := by
 unfold cc
 refine Entry.tr (N := 10) (rs := [.tmp 2]) ⟨_, Try.func10, rfl, by kernel_rfl, rfl, rfl⟩ rfl ?_
 refine XC.seq fun K1 hK1 => ?_
 refine XC.region ?_
 refine x_v (r_as rfl) rfl ?_
 refine XL.nil ?_
 refine hK1 _ _ ?_
 refine XC.keep [(0, _)] ⟨rfl, trivial⟩ ?_
 refine XC.seq fun K2 hK2 => ?_
 refine XC.seq fun K3 hK3 => ?_
 refine XC.region ?_
 refine x_v (r_mv rfl) rfl ?_
 refine x_v (r_peq_some Try.underlying23 rfl rfl) rfl ?_
 refine XL.nil ?_
 refine hK3 _ _ ?_
 refine XC.keep [(0, _), (4, _)] ⟨rfl, rfl, trivial⟩ ?_
 refine XC.cond_f rfl ?_
 refine XC.skip ?_
 refine hK2 _ _ ?_
 refine XC.keep [(0, _)] ⟨rfl, trivial⟩ ?_
 refine XC.seq fun K4 hK4 => ?_
 refine XC.region ?_
 refine x_v (r_mv rfl) rfl ?_
 refine x_v (r_nc rfl) rfl ?_
 refine x_v (r_fa fo81_0 rfl) rfl ?_
 refine x_v (r_fa fo79_2 rfl) rfl ?_
 refine x_v (r_ld ty3 rfl pK (by rfl)) rfl ?_
 refine x_v (r_as rfl) rfl ?_
 refine XL.nil ?_
 refine hK4 _ _ ?_
 refine XC.keep [(2, _)] ⟨rfl, trivial⟩ ?_
 refine XC.ret ?_
 exact fin1 rfl (⟨rfl, rfl⟩) gS
theorem top_tr {W0 : World} {Fr : List HP} {c : Cw} (b : Nat) (f : Int) : Tr W0 Try.prog 34 [.pointer (some ⟨b, 0, none⟩), .int .i64 f] (blk b 81 (cc c) :: Fr) (fun v Rs' => v = .int .i64 (topOf c f) ∧ Rs' = blk b 81 (cc c) :: Fr) := by
 unfold cc topOf
 refine Entry.tr (N := 16) (rs := [.tmp 4]) ⟨_, Try.func34, rfl, by kernel_rfl, rfl, rfl⟩ rfl ?_
 refine XC.seq fun K1 hK1 => ?_
 refine XC.region ?_
 refine x_v (r_as rfl) rfl ?_
 refine XL.nil ?_
 refine hK1 _ _ ?_
 refine XC.keep [(0, _), (1, _)] ⟨rfl, rfl, trivial⟩ ?_
 refine XC.seq fun K2 hK2 => ?_
 refine XC.draw [blk b 81 [.int .i64 c.tE, .int .i64 c.tS, .int .i64 c.heard, .int .i64 c.wants, .int .i64 c.site, .int .i64 c.epochs]] false [(0, false), (1, false), (2, false), (3, false), (4, false), (5, false), (6, false), (7, false), (8, false), (9, false), (10, false), (11, false)] (by kernel_rfl) (by kernel_rfl) ?_
 refine y_v rfl (r_mv rfl) gT rfl ?_
 refine y_v rfl (r_mv rfl) gT rfl ?_
 refine y_v rfl (r_nc rfl) gT rfl ?_
 refine y_v rfl (r_fa fo79_1 rfl) gT rfl ?_
 refine y_v rfl (r_ld ty3 rfl pK (by rfl)) gT rfl ?_
 refine y_v rfl (r_mv rfl) gT rfl ?_
 refine y_v rfl (r_nc rfl) gT rfl ?_
 refine y_v rfl (r_fa fo79_0 rfl) gT rfl ?_
 refine y_v rfl (r_fa fo69_0 rfl) gT rfl ?_
 refine y_v rfl (r_ld ty3 rfl pK (by rfl)) gT rfl ?_
 refine y_v rfl (r_max3 rfl rfl rfl) gT rfl ?_
 refine y_v rfl (r_as rfl) gT rfl ?_
 refine XH.nil ?_
 refine hK2 _ _ ?_
 refine XC.keep [(4, _)] ⟨rfl, trivial⟩ ?_
 refine XC.ret ?_
 exact fin1 rfl (⟨rfl, rfl⟩) gS
theorem want_tr {W0 : World} {Fr : List HP} {c : Cw} (b : Nat) (f : Int) (he : c.epochs ≤ 16) : Tr W0 Try.prog 11 [.pointer (some ⟨b, 0, none⟩), .int .i64 f] (blk b 81 (cc c) :: Fr) (fun v Rs' => v = .int .i64 (wantOf c f).2 ∧ Rs' = blk b 81 (cc (wantOf c f).1) :: Fr) := by
 unfold cc
 refine Entry.tr (N := 40) (rs := [.tmp 4]) ⟨_, Try.func11, rfl, by kernel_rfl, rfl, rfl⟩ rfl ?_
 refine XC.seq fun K1 hK1 => ?_
 refine XC.region ?_
 refine x_v (r_as rfl) rfl ?_
 refine XL.nil ?_
 refine hK1 _ _ ?_
 refine XC.keep [(0, _), (1, _)] ⟨rfl, rfl, trivial⟩ ?_
 refine XC.seq fun K2 hK2 => ?_
 refine XC.block ?_
 refine XC.seq fun K3 hK3 => ?_
 refine XC.region ?_
 refine x_v (r_mv rfl) rfl ?_
 refine x_v (r_peq_some Try.underlying23 rfl rfl) rfl ?_
 refine x_v (r_as rfl) rfl ?_
 refine XL.nil ?_
 refine hK3 _ _ ?_
 refine XC.keep [(0, _), (1, _), (5, _)] ⟨rfl, rfl, rfl, trivial⟩ ?_
 refine XC.cond_f rfl ?_
 refine XC.seq fun K4 hK4 => ?_
 refine XC.region ?_
 refine x_v (r_mv rfl) rfl ?_
 refine x_v (r_nc rfl) rfl ?_
 refine x_v (r_fa fo81_0 rfl) rfl ?_
 refine x_v (r_fa fo79_2 rfl) rfl ?_
 refine x_v (r_ld ty3 rfl pK (by rfl)) rfl ?_
 refine x_v (r_gt rfl rfl) rfl ?_
 refine x_v (r_as rfl) rfl ?_
 refine XL.nil ?_
 refine hK4 _ _ ?_
 refine XC.keep [(0, _), (1, _), (8, _)] ⟨rfl, rfl, rfl, trivial⟩ ?_
 refine XC.cond_d rfl (fun hc2 => ?_) (fun hc2 => ?_)
 ·refine XC.seq fun K5 hK5 => ?_
  refine XC.region ?_
  refine x_v (r_as rfl) rfl ?_
  refine XL.nil ?_
  refine hK5 _ _ ?_
  refine XC.keep [(4, _)] ⟨rfl, trivial⟩ ?_
  refine XC.ret ?_
  have e : wantOf c f = (c, 0) := by unfold wantOf; rw [if_pos (by omega)]
  rw [e]
  exact fin1 rfl (⟨rfl, rfl⟩) gS
 ·refine XC.seq fun K6 hK6 => ?_
  refine XC.draw [blk b 81 [.int .i64 c.tE, .int .i64 c.tS, .int .i64 c.heard, .int .i64 c.wants, .int .i64 c.site, .int .i64 c.epochs]] false [(0, false), (1, false), (2, false), (3, false), (4, false), (5, false), (6, false), (8, false), (9, false), (10, false), (11, false), (7, true), (12, false), (13, false), (14, false)] (by kernel_rfl) (by kernel_rfl) ?_
  refine y_v rfl (r_mv rfl) gT rfl ?_
  refine y_v rfl (r_lt rfl rfl) gT rfl ?_
  refine y_v rfl (r_mv rfl) gT rfl ?_
  refine XH.splitd 18 rfl (fun hg18 => ?_) (fun hg18 => ?_)
  ·refine y_un rfl rfl rfl (fun _ h => Gets.own gS h) rfl ?_
   refine y_un rfl rfl rfl (fun _ h => Gets.own gS h) rfl ?_
   refine y_un rfl rfl rfl (fun _ h => Gets.own gS h) rfl ?_
   refine y_un rfl rfl rfl (fun _ h => Gets.own gS h) rfl ?_
   refine y_un rfl rfl rfl (fun _ h => Gets.own gS h) rfl ?_
   refine y_un rfl rfl rfl (fun _ h => Gets.own gS h) rfl ?_
   refine y_un rfl rfl rfl (fun _ h => Gets.own gS h) rfl ?_
   refine y_un rfl rfl rfl (fun _ h => Gets.own gS h) rfl ?_
   refine y_unl rfl rfl rfl (fun _ h => Gets.own gS h) rfl ?_
   refine y_un rfl rfl rfl (fun _ h => Gets.own gS h) rfl ?_
   refine y_v rfl (r_pk_t rfl rfl) gT rfl ?_
   refine y_v rfl (r_as rfl) gT rfl ?_
   refine XH.nil ?_
   refine hK6 _ _ ?_
   refine XC.keep [(0, _), (1, _), (15, _)] ⟨rfl, rfl, rfl, trivial⟩ ?_
   refine XC.cond_t rfl ?_
   refine XC.seq fun K7 hK7 => ?_
   refine XC.region ?_
   refine x_v (r_as rfl) rfl ?_
   refine XL.nil ?_
   refine hK7 _ _ ?_
   refine XC.keep [(4, _)] ⟨rfl, trivial⟩ ?_
   refine XC.ret ?_
   have e : wantOf c f = (c, 125) := by unfold wantOf; rw [if_neg (by omega), if_pos (by omega)]
   rw [e]
   exact fin1 rfl (⟨rfl, rfl⟩) gS
  ·refine y_vg rfl rfl rfl (r_mv rfl) gT rfl ?_
   refine y_vg rfl rfl rfl (r_nc rfl) gT rfl ?_
   refine y_vg rfl rfl rfl (r_fa fo81_0 rfl) gT rfl ?_
   refine y_vg rfl rfl rfl (r_mv rfl) gT rfl ?_
   refine y_vg rfl rfl rfl (r_mv rfl) gT rfl ?_
   refine y_vg rfl rfl rfl (r_nc rfl) gT rfl ?_
   refine y_vg rfl rfl rfl (r_fa fo81_2 rfl) gT rfl ?_
   refine y_vg rfl rfl rfl (r_ld ty3 rfl pK (by rfl)) gT rfl ?_
   refine y_cg rfl rfl rfl (r_call0 (args := [_, _]) ⟨rfl, rfl, rfl⟩ (top_tr (c := c) b f) gS) (by rintro _ _ _ _ ⟨rfl, rfl⟩ h; exact Gets.own gS h) rfl ?_
   rintro _ _ ⟨rfl, rfl⟩
   refine y_vg rfl rfl rfl (r_ge rfl rfl) gT rfl ?_
   refine y_v rfl (r_pk_f rfl rfl) gT rfl ?_
   refine y_v rfl (r_as rfl) gT rfl ?_
   refine XH.nil ?_
   refine hK6 _ _ ?_
   refine XC.keep [(0, _), (1, _), (15, _)] ⟨rfl, rfl, rfl, trivial⟩ ?_
   refine XC.cond_d rfl (fun hc4 => ?_) (fun hc4 => ?_)
   ·refine XC.seq fun K8 hK8 => ?_
    refine XC.region ?_
    refine x_v (r_as rfl) rfl ?_
    refine XL.nil ?_
    refine hK8 _ _ ?_
    refine XC.keep [(4, _)] ⟨rfl, trivial⟩ ?_
    refine XC.ret ?_
    have e : wantOf c f = (c, 125) := by unfold wantOf; rw [if_neg (by omega), if_pos (by omega)]
    rw [e]
    exact fin1 rfl (⟨rfl, rfl⟩) gS
   ·refine XC.skip ?_
    refine hK2 _ _ ?_
    refine XC.keep [(0, _), (1, _)] ⟨rfl, rfl, trivial⟩ ?_
    refine XC.seq fun K9 hK9 => ?_
    have e : wantOf c f = ({ c with wants := topOf c f + 1 }, 0) := by unfold wantOf; rw [if_neg (by omega), if_neg (by omega)]
    have hf0 : -9000000000000000000 ≤ topOf c f := by unfold topOf; omega
    refine XC.region ?_
    refine x_v (r_mv rfl) rfl ?_
    refine x_v (r_mv rfl) rfl ?_
    refine x_v (r_nc rfl) rfl ?_
    refine x_v (r_fa fo81_0 rfl) rfl ?_
    refine x_v (r_mv rfl) rfl ?_
    refine x_c (r_call0 (args := [_, _]) ⟨rfl, rfl, rfl⟩ (top_tr (c := c) b f) gS) rfl ?_
    rintro _ _ ⟨rfl, rfl⟩
    refine x_v (r_add rfl rfl (by omega)) rfl ?_
    refine x_v (r_nc rfl) rfl ?_
    refine x_v (r_fa fo81_0 rfl) rfl ?_
    refine x_v (r_fa fo79_2 rfl) rfl ?_
    refine x_e (r_st ty3 rfl rfl rfl rfl rfl uD oV) ?_
    refine XL.nil ?_
    refine hK9 _ _ ?_
    refine XC.keep [] trivial ?_
    refine XC.seq fun K10 hK10 => ?_
    refine XC.region ?_
    refine x_v (r_as rfl) rfl ?_
    refine XL.nil ?_
    refine hK10 _ _ ?_
    refine XC.keep [(4, _)] ⟨rfl, trivial⟩ ?_
    refine XC.ret ?_
    rw [e]
    exact fin1 rfl (⟨rfl, rfl⟩) gS
theorem hear_tr {W0 : World} {Fr : List HP} {c : Cw} (b : Nat) (f : Int) : Tr W0 Try.prog 14 [.pointer (some ⟨b, 0, none⟩), .int .i64 f] (blk b 81 (cc c) :: Fr) (fun v Rs' => v = .tuple #[] ∧ Rs' = blk b 81 (cc (hearOf c f)) :: Fr) := by
 unfold cc
 refine Entry.tr (N := 24) (rs := []) ⟨_, Try.func14, rfl, by kernel_rfl, rfl, rfl⟩ rfl ?_
 refine XC.seq fun K1 hK1 => ?_
 refine XC.region ?_
 refine x_v (r_mv rfl) rfl ?_
 refine x_v (r_pne_some Try.underlying23 rfl rfl) rfl ?_
 refine x_v (r_mv rfl) rfl ?_
 refine x_want rfl rfl rfl ?_
 refine x_v (r_mv rfl) rfl ?_
 refine x_want rfl rfl rfl ?_
 refine x_v (r_mv rfl) rfl ?_
 refine x_want rfl rfl rfl ?_
 refine x_v (r_nc rfl) rfl ?_
 refine x_want rfl rfl rfl ?_
 refine x_v (r_fa fo81_0 rfl) rfl ?_
 refine x_want rfl rfl rfl ?_
 refine x_v (r_fa fo79_1 rfl) rfl ?_
 refine x_want rfl rfl rfl ?_
 refine x_v (r_ld ty3 rfl pK (by rfl)) rfl ?_
 refine x_want rfl rfl rfl ?_
 refine x_v (r_gt rfl rfl) rfl ?_
 refine x_v (r_pk_t rfl rfl) rfl ?_
 refine x_v (r_mv rfl) rfl ?_
 refine XL.splitd 15 rfl (fun hg15 => ?_) (fun hg15 => ?_)
 ·refine x_want rfl rfl rfl ?_
  refine x_v (r_mv rfl) rfl ?_
  refine x_want rfl rfl rfl ?_
  refine x_v (r_le rfl rfl) rfl ?_
  refine x_v (r_pk_t rfl rfl) rfl ?_
  refine XL.nil ?_
  refine hK1 _ _ ?_
  refine XC.keep [(0, _), (1, _), (18, _)] ⟨rfl, rfl, rfl, trivial⟩ ?_
  refine XC.cond_d rfl (fun hc1 => ?_) (fun hc1 => ?_)
  ·refine XC.region ?_
   refine x_v (r_mv rfl) rfl ?_
   refine x_v (r_mv rfl) rfl ?_
   refine x_v (r_nc rfl) rfl ?_
   refine x_v (r_fa fo81_0 rfl) rfl ?_
   refine x_v (r_fa fo79_1 rfl) rfl ?_
   refine x_e (r_st ty3 rfl rfl rfl rfl rfl uD oV) ?_
   refine XL.nil ?_
   have e : hearOf c f = { c with heard := f } := by unfold hearOf; rw [if_pos (by omega)]
   rw [e]
   exact fin0 (⟨rfl, rfl⟩) gS
  ·refine XC.skip ?_
   have e : hearOf c f = c := by unfold hearOf; rw [if_neg (by omega)]
   rw [e]
   exact fin0 (⟨rfl, rfl⟩) gS
 ·refine x_unwant rfl rfl rfl rfl rfl ?_
  refine x_unwant rfl rfl rfl rfl rfl ?_
  refine x_v (r_pk_f rfl rfl) rfl ?_
  refine XL.nil ?_
  refine hK1 _ _ ?_
  refine XC.keep [(0, _), (1, _), (18, _)] ⟨rfl, rfl, rfl, trivial⟩ ?_
  refine XC.cond_f rfl ?_
  refine XC.skip ?_
  have e : hearOf c f = c := by unfold hearOf; rw [if_neg (by omega)]
  rw [e]
  exact fin0 (⟨rfl, rfl⟩) gS
theorem rest_tr {W0 : World} {Fr : List HP} {c : Cw} (b : Nat) : Tr W0 Try.prog 26 [.pointer (some ⟨b, 0, none⟩)] (blk b 81 (cc c) :: Fr) (fun v Rs' => v = .tuple #[] ∧ Rs' = blk b 81 (cc { c with wants := 0 }) :: Fr) := by
 unfold cc
 refine Entry.tr (N := 8) (rs := []) ⟨_, Try.func26, rfl, by kernel_rfl, rfl, rfl⟩ rfl ?_
 refine XC.seq fun K1 hK1 => ?_
 refine XC.region ?_
 refine x_v (r_mv rfl) rfl ?_
 refine x_v (r_pne_some Try.underlying23 rfl rfl) rfl ?_
 refine XL.nil ?_
 refine hK1 _ _ ?_
 refine XC.keep [(0, _), (3, _)] ⟨rfl, rfl, trivial⟩ ?_
 refine XC.cond_t rfl ?_
 refine XC.region ?_
 refine x_v (r_mv rfl) rfl ?_
 refine x_v (r_nc rfl) rfl ?_
 refine x_v (r_fa fo81_0 rfl) rfl ?_
 refine x_v (r_fa fo79_2 rfl) rfl ?_
 refine x_e (r_st ty3 rfl rfl rfl rfl rfl uD oV) ?_
 refine XL.nil ?_
 exact fin0 (⟨rfl, rfl⟩) gS
theorem ccopy_tr {W0 : World} {Fr : List HP} {c : Cw} (b : Nat) : Tr W0 Try.prog 27 [.pointer (some ⟨b, 0, none⟩)] (blk b 81 (cc c) :: Fr) (fun v Rs' => ∃ b2, v = .pointer (some ⟨b2, 0, none⟩) ∧ Rs' = blk b2 81 (cc c) :: blk b 81 (cc c) :: Fr) := by
 unfold cc
 refine Entry.tr (N := 9) (rs := [.tmp 2]) ⟨_, Try.func27, rfl, by kernel_rfl, rfl, rfl⟩ rfl ?_
 refine XC.seq fun K1 hK1 => ?_
 refine XC.region ?_
 refine x_v (r_as rfl) rfl ?_
 refine XL.nil ?_
 refine hK1 _ _ ?_
 refine XC.keep [(0, _)] ⟨rfl, trivial⟩ ?_
 refine XC.seq fun K2 hK2 => ?_
 refine XC.seq fun K3 hK3 => ?_
 refine XC.region ?_
 refine x_v (r_mv rfl) rfl ?_
 refine x_v (r_peq_some Try.underlying23 rfl rfl) rfl ?_
 refine XL.nil ?_
 refine hK3 _ _ ?_
 refine XC.keep [(0, _), (5, _)] ⟨rfl, rfl, trivial⟩ ?_
 refine XC.cond_f rfl ?_
 refine XC.skip ?_
 refine hK2 _ _ ?_
 refine XC.keep [(0, _)] ⟨rfl, trivial⟩ ?_
 refine XC.seq fun K4 hK4 => ?_
 refine XC.region ?_
 refine x_v (r_mv rfl) rfl ?_
 refine x_v (r_nc rfl) rfl ?_
 refine x_v (r_lda (l' := [_, _, _, _, _, _]) ty81 rfl pK rfl (Sub.get sU)) rfl ?_
 refine x_a (r_al ty81 rfl) rfl fun b3 => ?_
 refine x_e (r_st ty81 rfl rfl rfl rfl rfl uD oV) ?_
 refine XL.nil ?_
 refine hK4 _ _ ?_
 refine XC.keep [(3, _)] ⟨rfl, trivial⟩ ?_
 refine XC.seq fun K5 hK5 => ?_
 refine XC.region ?_
 refine x_v (r_as rfl) rfl ?_
 refine XL.nil ?_
 refine hK5 _ _ ?_
 refine XC.keep [(2, _)] ⟨rfl, trivial⟩ ?_
 refine XC.ret ?_
 exact fin1 rfl (⟨_, rfl, rfl⟩) gS
end Go.Proofs.Ytheilpcbilnadaa

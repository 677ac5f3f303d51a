/- Crowns: the reference's crown. -/
import Derived.Test.YtheilpcbilnadaaCrown11
namespace Go.Proofs.Ytheilpcbilnadaa
open Go.Sx
set_option linter.unusedVariables false

def wc (c : Cw) : List Value := [.int .i64 c.site, .int .i64 c.epochs, .int .i64 c.tE, .int .i64 c.tS, .int .i64 c.heard, .int .i64 c.wants]
/-- The reference's ledger's own block. -/
structure Rh where
 A : Option Addr
 n : Nat
 c : Nat
 gA : Option Addr
 gn : Nat
 gc : Nat
 fence : Int
 set : Int
 quota : Int
 room : Int
def rdc (r : Rh) : List Value := [.slice r.A r.n r.c, .slice r.gA r.gn r.gc, .int .i64 r.fence, .int .i64 r.set, .int .i64 r.quota, .int .i64 r.room]

theorem wnew_tr {W0 : World} {Fr : List HP} (s e : Int) (h : newOk s e) : Tr W0 Try.prog 15 [.int .i64 s, .int .i64 e] Fr (fun v Rs' => ∃ b, v = .tuple #[.pointer (some ⟨b, 0, none⟩), .int .i64 0] ∧ Rs' = blk b 71 (wc ⟨0, 0, 0, 0, s, e⟩) :: Fr) := by
 obtain ⟨h1, h2, h3, h4⟩ := h
 refine Entry.tr (N := 24) (rs := [.tmp 4, .tmp 5]) ⟨_, Try.func15, rfl, by kernel_rfl, rfl, rfl⟩ rfl ?_
 refine XC.seq fun K1 hK1 => ?_
 refine XC.region ?_
 refine x_v (r_as rfl) rfl ?_
 refine x_v (r_as rfl) rfl ?_
 refine XL.nil ?_
 refine hK1 _ _ ?_
 refine XC.keep [(0, _), (1, _)] ⟨rfl, rfl, trivial⟩ ?_
 refine XC.seq fun K2 hK2 => ?_
 refine XC.seq fun K3 hK3 => ?_
 refine XC.region ?_
 refine x_v (r_mv rfl) rfl ?_
 refine x_v (r_lt rfl rfl) rfl ?_
 refine x_v (r_mv rfl) rfl ?_
 refine XL.splitd 8 rfl (fun hg8 => ?_) (fun hg8 => ?_)
 ·exfalso; omega
 ·refine x_want rfl rfl rfl ?_
  refine x_v (r_mv rfl) rfl ?_
  refine x_want rfl rfl rfl ?_
  refine x_v (r_gt rfl rfl) rfl ?_
  refine x_v (r_pk_f rfl rfl) rfl ?_
  refine x_v (r_mv rfl) rfl ?_
  refine XL.splitd 12 rfl (fun hg12 => ?_) (fun hg12 => ?_)
  ·exfalso; omega
  ·refine x_want rfl rfl rfl ?_
   refine x_v (r_mv rfl) rfl ?_
   refine x_want rfl rfl rfl ?_
   refine x_v (r_lt rfl rfl) rfl ?_
   refine x_v (r_pk_f rfl rfl) rfl ?_
   refine x_v (r_mv rfl) rfl ?_
   refine XL.splitd 16 rfl (fun hg16 => ?_) (fun hg16 => ?_)
   ·exfalso; omega
   ·refine x_want rfl rfl rfl ?_
    refine x_v (r_mv rfl) rfl ?_
    refine x_want rfl rfl rfl ?_
    refine x_v (r_gt rfl rfl) rfl ?_
    refine x_v (r_pk_f rfl rfl) rfl ?_
    refine XL.nil ?_
    refine hK3 _ _ ?_
    refine XC.keep [(0, _), (1, _), (19, _)] ⟨rfl, rfl, rfl, trivial⟩ ?_
    refine XC.cond_d rfl (fun hc1 => ?_) (fun hc1 => ?_)
    ·exfalso; omega
    ·refine XC.skip ?_
     refine hK2 _ _ ?_
     refine XC.keep [(0, _), (1, _)] ⟨rfl, rfl, trivial⟩ ?_
     refine XC.seq fun K4 hK4 => ?_
     refine XC.region ?_
     refine x_v (r_mv rfl) rfl ?_
     refine x_v (r_mv rfl) rfl ?_
     refine x_v (r_bd (vs := [_, _]) rfl ⟨rfl, rfl, rfl⟩ (bd71_0_1 _ _)) rfl ?_
     refine x_a (r_bx rfl rfl) rfl fun b23 => ?_
     refine x_v (r_as rfl) rfl ?_
     refine x_v (r_as rfl) rfl ?_
     refine XL.nil ?_
     refine hK4 _ _ ?_
     refine XC.keep [(4, _), (5, _)] ⟨rfl, rfl, trivial⟩ ?_
     refine XC.ret ?_
     exact fin2 rfl rfl (⟨_, rfl, rfl⟩) gS
theorem wnewbad_tr {W0 : World} {Fr : List HP} (s e : Int) (h : ¬ newOk s e) : Tr W0 Try.prog 15 [.int .i64 s, .int .i64 e] Fr (fun v Rs' => v = .tuple #[.pointer none, .int .i64 1] ∧ Rs' = Fr) := by
 have h1 : ¬ (0 ≤ s ∧ s < 2 ∧ 1 ≤ e ∧ e ≤ 16) := h
 refine Entry.tr (N := 24) (rs := [.tmp 4, .tmp 5]) ⟨_, Try.func15, rfl, by kernel_rfl, rfl, rfl⟩ rfl ?_
 refine XC.seq fun K1 hK1 => ?_
 refine XC.region ?_
 refine x_v (r_as rfl) rfl ?_
 refine x_v (r_as rfl) rfl ?_
 refine XL.nil ?_
 refine hK1 _ _ ?_
 refine XC.keep [(0, _), (1, _)] ⟨rfl, rfl, trivial⟩ ?_
 refine XC.seq fun K2 hK2 => ?_
 refine XC.seq fun K3 hK3 => ?_
 refine XC.region ?_
 refine x_v (r_mv rfl) rfl ?_
 refine x_v (r_lt rfl rfl) rfl ?_
 refine x_v (r_mv rfl) rfl ?_
 refine XL.splitd 8 rfl (fun hg8 => ?_) (fun hg8 => ?_)
 ·refine x_unwant rfl rfl rfl rfl rfl ?_
  refine x_unwant rfl rfl rfl rfl rfl ?_
  refine x_v (r_pk_t rfl rfl) rfl ?_
  refine x_v (r_mv rfl) rfl ?_
  refine x_unwant rfl rfl rfl rfl rfl ?_
  refine x_unwant rfl rfl rfl rfl rfl ?_
  refine x_v (r_pk_t rfl rfl) rfl ?_
  refine x_v (r_mv rfl) rfl ?_
  refine x_unwant rfl rfl rfl rfl rfl ?_
  refine x_unwant rfl rfl rfl rfl rfl ?_
  refine x_v (r_pk_t rfl rfl) rfl ?_
  refine XL.nil ?_
  refine hK3 _ _ ?_
  refine XC.keep [(0, _), (1, _), (19, _)] ⟨rfl, rfl, rfl, trivial⟩ ?_
  refine XC.cond_t rfl ?_
  refine XC.seq fun K4 hK4 => ?_
  refine XC.region ?_
  refine x_v (r_as rfl) rfl ?_
  refine x_v (r_as rfl) rfl ?_
  refine XL.nil ?_
  refine hK4 _ _ ?_
  refine XC.keep [(4, _), (5, _)] ⟨rfl, rfl, trivial⟩ ?_
  refine XC.ret ?_
  exact fin2 rfl rfl (⟨rfl, rfl⟩) gS
 ·refine x_want rfl rfl rfl ?_
  refine x_v (r_mv rfl) rfl ?_
  refine x_want rfl rfl rfl ?_
  refine x_v (r_gt rfl rfl) rfl ?_
  refine x_v (r_pk_f rfl rfl) rfl ?_
  refine x_v (r_mv rfl) rfl ?_
  refine XL.splitd 12 rfl (fun hg12 => ?_) (fun hg12 => ?_)
  ·refine x_unwant rfl rfl rfl rfl rfl ?_
   refine x_unwant rfl rfl rfl rfl rfl ?_
   refine x_v (r_pk_t rfl rfl) rfl ?_
   refine x_v (r_mv rfl) rfl ?_
   refine x_unwant rfl rfl rfl rfl rfl ?_
   refine x_unwant rfl rfl rfl rfl rfl ?_
   refine x_v (r_pk_t rfl rfl) rfl ?_
   refine XL.nil ?_
   refine hK3 _ _ ?_
   refine XC.keep [(0, _), (1, _), (19, _)] ⟨rfl, rfl, rfl, trivial⟩ ?_
   refine XC.cond_t rfl ?_
   refine XC.seq fun K5 hK5 => ?_
   refine XC.region ?_
   refine x_v (r_as rfl) rfl ?_
   refine x_v (r_as rfl) rfl ?_
   refine XL.nil ?_
   refine hK5 _ _ ?_
   refine XC.keep [(4, _), (5, _)] ⟨rfl, rfl, trivial⟩ ?_
   refine XC.ret ?_
   exact fin2 rfl rfl (⟨rfl, rfl⟩) gS
  ·refine x_want rfl rfl rfl ?_
   refine x_v (r_mv rfl) rfl ?_
   refine x_want rfl rfl rfl ?_
   refine x_v (r_lt rfl rfl) rfl ?_
   refine x_v (r_pk_f rfl rfl) rfl ?_
   refine x_v (r_mv rfl) rfl ?_
   refine XL.splitd 16 rfl (fun hg16 => ?_) (fun hg16 => ?_)
   ·refine x_unwant rfl rfl rfl rfl rfl ?_
    refine x_unwant rfl rfl rfl rfl rfl ?_
    refine x_v (r_pk_t rfl rfl) rfl ?_
    refine XL.nil ?_
    refine hK3 _ _ ?_
    refine XC.keep [(0, _), (1, _), (19, _)] ⟨rfl, rfl, rfl, trivial⟩ ?_
    refine XC.cond_t rfl ?_
    refine XC.seq fun K6 hK6 => ?_
    refine XC.region ?_
    refine x_v (r_as rfl) rfl ?_
    refine x_v (r_as rfl) rfl ?_
    refine XL.nil ?_
    refine hK6 _ _ ?_
    refine XC.keep [(4, _), (5, _)] ⟨rfl, rfl, trivial⟩ ?_
    refine XC.ret ?_
    exact fin2 rfl rfl (⟨rfl, rfl⟩) gS
   ·refine x_want rfl rfl rfl ?_
    refine x_v (r_mv rfl) rfl ?_
    refine x_want rfl rfl rfl ?_
    refine x_v (r_gt rfl rfl) rfl ?_
    refine x_v (r_pk_f rfl rfl) rfl ?_
    refine XL.nil ?_
    refine hK3 _ _ ?_
    refine XC.keep [(0, _), (1, _), (19, _)] ⟨rfl, rfl, rfl, trivial⟩ ?_
    refine XC.cond_d rfl (fun hc4 => ?_) (fun hc4 => ?_)
    ·refine XC.seq fun K7 hK7 => ?_
     refine XC.region ?_
     refine x_v (r_as rfl) rfl ?_
     refine x_v (r_as rfl) rfl ?_
     refine XL.nil ?_
     refine hK7 _ _ ?_
     refine XC.keep [(4, _), (5, _)] ⟨rfl, rfl, trivial⟩ ?_
     refine XC.ret ?_
     exact fin2 rfl rfl (⟨rfl, rfl⟩) gS
    ·exfalso; omega
theorem rnew_tr {W0 : World} {Fr : List HP} (q r : Int) (h : 1 ≤ q ∧ q ≤ 65536 ∧ 1 ≤ r ∧ r ≤ 64) : Tr W0 Try.prog 17 [.int .i64 q, .int .i64 r] Fr (fun v Rs' => ∃ b, v = .tuple #[.pointer (some ⟨b, 0, none⟩), .int .i64 0] ∧ Rs' = blk b 93 (rdc ⟨none, 0, 0, none, 0, 0, 0, 0, q, r⟩) :: Fr) := by
 refine Entry.tr (N := 24) (rs := [.tmp 4, .tmp 5]) ⟨_, Try.func17, rfl, by kernel_rfl, rfl, rfl⟩ rfl ?_
 refine XC.seq fun K1 hK1 => ?_
 refine XC.region ?_
 refine x_v (r_as rfl) rfl ?_
 refine x_v (r_as rfl) rfl ?_
 refine XL.nil ?_
 refine hK1 _ _ ?_
 refine XC.keep [(0, _), (1, _)] ⟨rfl, rfl, trivial⟩ ?_
 refine XC.seq fun K2 hK2 => ?_
 refine XC.seq fun K3 hK3 => ?_
 refine XC.region ?_
 refine x_v (r_mv rfl) rfl ?_
 refine x_v (r_lt rfl rfl) rfl ?_
 refine x_v (r_mv rfl) rfl ?_
 refine XL.splitd 8 rfl (fun hg8 => ?_) (fun hg8 => ?_)
 ·exfalso; omega
 ·refine x_want rfl rfl rfl ?_
  refine x_v (r_mv rfl) rfl ?_
  refine x_want rfl rfl rfl ?_
  refine x_v (r_gt rfl rfl) rfl ?_
  refine x_v (r_pk_f rfl rfl) rfl ?_
  refine x_v (r_mv rfl) rfl ?_
  refine XL.splitd 12 rfl (fun hg12 => ?_) (fun hg12 => ?_)
  ·exfalso; omega
  ·refine x_want rfl rfl rfl ?_
   refine x_v (r_mv rfl) rfl ?_
   refine x_want rfl rfl rfl ?_
   refine x_v (r_lt rfl rfl) rfl ?_
   refine x_v (r_pk_f rfl rfl) rfl ?_
   refine x_v (r_mv rfl) rfl ?_
   refine XL.splitd 16 rfl (fun hg16 => ?_) (fun hg16 => ?_)
   ·exfalso; omega
   ·refine x_want rfl rfl rfl ?_
    refine x_v (r_mv rfl) rfl ?_
    refine x_want rfl rfl rfl ?_
    refine x_v (r_gt rfl rfl) rfl ?_
    refine x_v (r_pk_f rfl rfl) rfl ?_
    refine XL.nil ?_
    refine hK3 _ _ ?_
    refine XC.keep [(0, _), (1, _), (19, _)] ⟨rfl, rfl, rfl, trivial⟩ ?_
    refine XC.cond_d rfl (fun hc1 => ?_) (fun hc1 => ?_)
    ·exfalso; omega
    ·refine XC.skip ?_
     refine hK2 _ _ ?_
     refine XC.keep [(0, _), (1, _)] ⟨rfl, rfl, trivial⟩ ?_
     refine XC.seq fun K4 hK4 => ?_
     refine XC.region ?_
     refine x_v (r_mv rfl) rfl ?_
     refine x_v (r_mv rfl) rfl ?_
     refine x_v (r_bd (vs := [_, _]) rfl ⟨rfl, rfl, rfl⟩ (bd93_4_5 _ _)) rfl ?_
     refine x_a (r_bx rfl rfl) rfl fun b23 => ?_
     refine x_v (r_as rfl) rfl ?_
     refine x_v (r_as rfl) rfl ?_
     refine XL.nil ?_
     refine hK4 _ _ ?_
     refine XC.keep [(4, _), (5, _)] ⟨rfl, rfl, trivial⟩ ?_
     refine XC.ret ?_
     exact fin2 rfl rfl (⟨_, rfl, rfl⟩) gS
theorem wwant_tr {W0 : World} {Fr : List HP} {c : Cw} (b : Nat) (f : Int) (he : c.epochs ≤ 16) : Tr W0 Try.prog 18 [.pointer (some ⟨b, 0, none⟩), .int .i64 f] (blk b 71 (wc c) :: Fr) (fun v Rs' => v = .int .i64 (wantOf c f).2 ∧ Rs' = blk b 71 (wc (wantOf c f).1) :: Fr) := by
 unfold wc
 refine Entry.tr (N := 37) (rs := [.tmp 4]) ⟨_, Try.func18, rfl, by kernel_rfl, rfl, rfl⟩ rfl ?_
 refine XC.seq fun K1 hK1 => ?_
 refine XC.region ?_
 refine x_v (r_as rfl) rfl ?_
 refine XL.nil ?_
 refine hK1 _ _ ?_
 refine XC.keep [(0, _), (1, _)] ⟨rfl, rfl, trivial⟩ ?_
 refine XC.seq fun K2 hK2 => ?_
 refine XC.seq fun K3 hK3 => ?_
 refine XC.region ?_
 refine x_v (r_mv rfl) rfl ?_
 refine x_v (r_nc rfl) rfl ?_
 refine x_v (r_fa fo71_4 rfl) rfl ?_
 refine x_v (r_ld ty3 rfl pK (by rfl)) rfl ?_
 refine x_v (r_gt rfl rfl) rfl ?_
 refine XL.nil ?_
 refine hK3 _ _ ?_
 refine XC.keep [(0, _), (1, _), (10, _)] ⟨rfl, rfl, rfl, trivial⟩ ?_
 refine XC.cond_d rfl (fun hc1 => ?_) (fun hc1 => ?_)
 ·refine XC.seq fun K4 hK4 => ?_
  refine XC.region ?_
  refine x_v (r_as rfl) rfl ?_
  refine XL.nil ?_
  refine hK4 _ _ ?_
  refine XC.keep [(4, _)] ⟨rfl, trivial⟩ ?_
  refine XC.ret ?_
  have e : wantOf c f = (c, 0) := by unfold wantOf; rw [if_pos (by omega)]
  rw [e]
  exact fin1 rfl (⟨rfl, rfl⟩) gS
 ·refine XC.skip ?_
  refine hK2 _ _ ?_
  refine XC.keep [(0, _), (1, _)] ⟨rfl, rfl, trivial⟩ ?_
  refine XC.seq fun K5 hK5 => ?_
  refine XC.draw [blk b 71 [.int .i64 c.site, .int .i64 c.epochs, .int .i64 c.tE, .int .i64 c.tS, .int .i64 c.heard, .int .i64 c.wants]] false [(0, false), (1, false), (2, false), (3, false), (4, false), (5, false), (6, false), (7, false), (8, false), (9, false), (10, false), (11, false)] (by kernel_rfl) (by kernel_rfl) ?_
  refine y_v rfl (r_mv rfl) gT rfl ?_
  refine y_v rfl (r_mv rfl) gT rfl ?_
  refine y_v rfl (r_nc rfl) gT rfl ?_
  refine y_v rfl (r_fa fo71_3 rfl) gT rfl ?_
  refine y_v rfl (r_ld ty3 rfl pK (by rfl)) gT rfl ?_
  refine y_v rfl (r_mv rfl) gT rfl ?_
  refine y_v rfl (r_nc rfl) gT rfl ?_
  refine y_v rfl (r_fa fo71_2 rfl) gT rfl ?_
  refine y_v rfl (r_fa fo69_0 rfl) gT rfl ?_
  refine y_v rfl (r_ld ty3 rfl pK (by rfl)) gT rfl ?_
  refine y_v rfl (r_max3 rfl rfl rfl) gT rfl ?_
  refine y_v rfl (r_as rfl) gT rfl ?_
  refine XH.nil ?_
  refine hK5 _ _ ?_
  refine XC.keep [(0, _), (1, _), (5, _)] ⟨rfl, rfl, rfl, trivial⟩ ?_
  refine XC.seq fun K6 hK6 => ?_
  refine XC.seq fun K7 hK7 => ?_
  refine XC.region ?_
  refine x_v (r_mv rfl) rfl ?_
  refine x_v (r_lt rfl rfl) rfl ?_
  refine x_v (r_mv rfl) rfl ?_
  refine XL.splitd 24 rfl (fun hg24 => ?_) (fun hg24 => ?_)
  ·refine x_unwant rfl rfl rfl rfl rfl ?_
   refine x_unwant rfl rfl rfl rfl rfl ?_
   refine x_unwant rfl rfl rfl rfl rfl ?_
   refine x_unwant rfl rfl rfl rfl rfl ?_
   refine x_unwant rfl rfl rfl rfl rfl ?_
   refine x_unwant rfl rfl rfl rfl rfl ?_
   refine x_v (r_pk_t rfl rfl) rfl ?_
   refine XL.nil ?_
   refine hK7 _ _ ?_
   refine XC.keep [(0, _), (5, _), (31, _)] ⟨rfl, rfl, rfl, trivial⟩ ?_
   refine XC.cond_t rfl ?_
   refine XC.seq fun K8 hK8 => ?_
   refine XC.region ?_
   refine x_v (r_as rfl) rfl ?_
   refine XL.nil ?_
   refine hK8 _ _ ?_
   refine XC.keep [(4, _)] ⟨rfl, trivial⟩ ?_
   refine XC.ret ?_
   have e : wantOf c f = (c, 125) := by unfold wantOf topOf; rw [if_neg (by omega), if_pos (by omega)]
   rw [e]
   exact fin1 rfl (⟨rfl, rfl⟩) gS
  ·refine x_want rfl rfl rfl ?_
   refine x_v (r_mv rfl) rfl ?_
   refine x_want rfl rfl rfl ?_
   refine x_v (r_mv rfl) rfl ?_
   refine x_want rfl rfl rfl ?_
   refine x_v (r_nc rfl) rfl ?_
   refine x_want rfl rfl rfl ?_
   refine x_v (r_fa fo71_1 rfl) rfl ?_
   refine x_want rfl rfl rfl ?_
   refine x_v (r_ld ty3 rfl pK (by rfl)) rfl ?_
   refine x_want rfl rfl rfl ?_
   refine x_v (r_ge rfl rfl) rfl ?_
   refine x_v (r_pk_f rfl rfl) rfl ?_
   refine XL.nil ?_
   refine hK7 _ _ ?_
   refine XC.keep [(0, _), (5, _), (31, _)] ⟨rfl, rfl, rfl, trivial⟩ ?_
   refine XC.cond_d rfl (fun hc3 => ?_) (fun hc3 => ?_)
   ·refine XC.seq fun K9 hK9 => ?_
    refine XC.region ?_
    refine x_v (r_as rfl) rfl ?_
    refine XL.nil ?_
    refine hK9 _ _ ?_
    refine XC.keep [(4, _)] ⟨rfl, trivial⟩ ?_
    refine XC.ret ?_
    have e : wantOf c f = (c, 125) := by unfold wantOf topOf; rw [if_neg (by omega), if_pos (by omega)]
    rw [e]
    exact fin1 rfl (⟨rfl, rfl⟩) gS
   ·refine XC.skip ?_
    refine hK6 _ _ ?_
    refine XC.keep [(0, _), (5, _)] ⟨rfl, rfl, trivial⟩ ?_
    refine XC.seq fun K10 hK10 => ?_
    have e : wantOf c f = ({ c with wants := topOf c f + 1 }, 0) := by unfold wantOf topOf; rw [if_neg (by omega), if_neg (by omega)]
    refine XC.region ?_
    refine x_v (r_mv rfl) rfl ?_
    refine x_v (r_mv rfl) rfl ?_
    refine x_v (r_add rfl rfl (by omega)) rfl ?_
    refine x_v (r_nc rfl) rfl ?_
    refine x_v (r_fa fo71_4 rfl) rfl ?_
    refine x_e (r_st ty3 rfl rfl rfl rfl rfl uD oV) ?_
    refine XL.nil ?_
    refine hK10 _ _ ?_
    refine XC.keep [] trivial ?_
    refine XC.seq fun K11 hK11 => ?_
    refine XC.region ?_
    refine x_v (r_as rfl) rfl ?_
    refine XL.nil ?_
    refine hK11 _ _ ?_
    refine XC.keep [(4, _)] ⟨rfl, trivial⟩ ?_
    refine XC.ret ?_
    rw [e]
    exact fin1 rfl (⟨rfl, rfl⟩) gS
theorem hear_max {c : Cw} {f : Int} (h : f ≤ 16) : hearOf c f = { c with heard := max c.heard f } := by
 unfold hearOf; split
 ·rw [show max c.heard f = f by omega]
 ·rw [show max c.heard f = c.heard by omega]
theorem whear_tr {W0 : World} {Fr : List HP} {c : Cw} (b : Nat) (f : Int) : Tr W0 Try.prog 20 [.pointer (some ⟨b, 0, none⟩), .int .i64 f] (blk b 71 (wc c) :: Fr) (fun v Rs' => v = .tuple #[] ∧ Rs' = blk b 71 (wc (hearOf c f)) :: Fr) := by
 unfold wc
 refine Entry.tr (N := 15) (rs := []) ⟨_, Try.func20, rfl, by kernel_rfl, rfl, rfl⟩ rfl ?_
 refine XC.seq fun K1 hK1 => ?_
 refine XC.region ?_
 refine x_v (r_mv rfl) rfl ?_
 refine x_v (r_le rfl rfl) rfl ?_
 refine XL.nil ?_
 refine hK1 _ _ ?_
 refine XC.keep [(0, _), (1, _), (5, _)] ⟨rfl, rfl, rfl, trivial⟩ ?_
 refine XC.cond_d rfl (fun hc1 => ?_) (fun hc1 => ?_)
 ·refine XC.region ?_
  refine x_v (r_mv rfl) rfl ?_
  refine x_v (r_mv rfl) rfl ?_
  refine x_v (r_nc rfl) rfl ?_
  refine x_v (r_fa fo71_3 rfl) rfl ?_
  refine x_v (r_ld ty3 rfl pK (by rfl)) rfl ?_
  refine x_v (r_mv rfl) rfl ?_
  refine x_v (r_max rfl rfl) rfl ?_
  refine x_v (r_nc rfl) rfl ?_
  refine x_v (r_fa fo71_3 rfl) rfl ?_
  refine x_e (r_st ty3 rfl rfl rfl rfl rfl uD oV) ?_
  refine XL.nil ?_
  rw [hear_max (by omega)]
  exact fin0 (⟨rfl, rfl⟩) gS
 ·refine XC.skip ?_
  have e : hearOf c f = c := by unfold hearOf; rw [if_neg (by omega)]
  rw [e]
  exact fin0 (⟨rfl, rfl⟩) gS
theorem wtick_tr {W0 : World} {Fr : List HP} {c : Cw} (b : Nat) : Tr W0 Try.prog 33 [.pointer (some ⟨b, 0, none⟩)] (blk b 71 (wc c) :: Fr) (fun v Rs' => v = .agg (mac (maz 11 c.wants c.site)).toArray ∧ Rs' = blk b 71 (wc c) :: Fr) := by
 unfold wc
 refine Entry.tr (N := 12) (rs := [.cell 2 35]) ⟨_, Try.func33, rfl, by kernel_rfl, rfl, rfl⟩ rfl ?_
 refine XC.seq fun K1 hK1 => ?_
 refine XC.region ?_
 refine x_a (r_al ty35 rfl) rfl fun b2 => ?_
 refine XL.nil ?_
 refine hK1 _ _ ?_
 refine XC.keep [(0, _), (2, _)] ⟨rfl, rfl, trivial⟩ ?_
 refine XC.seq fun K2 hK2 => ?_
 refine XC.draw [blk b 71 [.int .i64 c.site, .int .i64 c.epochs, .int .i64 c.tE, .int .i64 c.tS, .int .i64 c.heard, .int .i64 c.wants]] true [(0, false), (1, false), (2, false), (3, false), (4, false), (5, false), (6, false), (7, false), (8, false), (9, true)] (by kernel_rfl) (by kernel_rfl) ?_
 refine y_v rfl (r_mv rfl) gT rfl ?_
 refine y_v rfl (r_nc rfl) gT rfl ?_
 refine y_v rfl (r_fa fo71_4 rfl) gT rfl ?_
 refine y_v rfl (r_ld ty3 rfl pK (by rfl)) gT rfl ?_
 refine y_v rfl (r_mv rfl) gT rfl ?_
 refine y_v rfl (r_nc rfl) gT rfl ?_
 refine y_v rfl (r_fa fo71_0 rfl) gT rfl ?_
 refine y_v rfl (r_ld ty3 rfl pK (by rfl)) gT rfl ?_
 refine y_v rfl (r_bd (vs := [_, _, _]) rfl ⟨rfl, rfl, rfl, rfl⟩ (bd35_0_9_10 _ _ _)) gT rfl ?_
 refine y_e rfl (r_st ty35 rfl rfl rfl rfl rfl uD oV) (fun h => absurd h (by decide)) ?_
 refine XH.nil ?_
 refine hK2 _ _ ?_
 refine XC.keep [(2, _)] ⟨rfl, trivial⟩ ?_
 refine XC.ret ?_
 exact finc1 ty35 rfl pK (by rfl) (⟨rfl, rfl⟩) gS
theorem wplace_tr {W0 : World} {Fr : List HP} (n e : Int) : Tr W0 Try.prog 62 [.agg #[.int .i64 n, .int .i64 e]] Fr (fun v Rs' => v = .bool (decide (placeOk n e)) ∧ Rs' = Fr) := by
 refine Entry.tr (N := 30) (rs := [.tmp 2]) ⟨_, Try.func62, rfl, by kernel_rfl, rfl, rfl⟩ rfl ?_
 refine XC.seq fun K1 hK1 => ?_
 refine XC.region ?_
 refine x_a (r_bx rfl rfl) rfl fun b1 => ?_
 refine x_v (r_as rfl) rfl ?_
 refine XL.nil ?_
 refine hK1 _ _ ?_
 refine XC.keep [(1, _)] ⟨rfl, trivial⟩ ?_
 refine XC.seq fun K2 hK2 => ?_
 refine XC.region ?_
 refine x_v (r_fa fo31_0 rfl) rfl ?_
 refine x_v (r_ld ty3 rfl pK (by rfl)) rfl ?_
 refine x_v (r_ge rfl rfl) rfl ?_
 refine x_v (r_mv rfl) rfl ?_
 refine XL.splitd 6 rfl (fun hg6 => ?_) (fun hg6 => ?_)
 ·refine x_want rfl rfl rfl ?_
  refine x_v (r_fa fo31_0 rfl) rfl ?_
  refine x_want rfl rfl rfl ?_
  refine x_v (r_ld ty3 rfl pK (by rfl)) rfl ?_
  refine x_want rfl rfl rfl ?_
  refine x_v (r_le rfl rfl) rfl ?_
  refine x_v (r_pk_t rfl rfl) rfl ?_
  refine x_v (r_mv rfl) rfl ?_
  refine XL.splitd 11 rfl (fun hg11 => ?_) (fun hg11 => ?_)
  ·refine x_want rfl rfl rfl ?_
   refine x_v (r_fa fo31_1 rfl) rfl ?_
   refine x_want rfl rfl rfl ?_
   refine x_v (r_ld ty3 rfl pK (by rfl)) rfl ?_
   refine x_want rfl rfl rfl ?_
   refine x_v (r_ge rfl rfl) rfl ?_
   refine x_v (r_pk_t rfl rfl) rfl ?_
   refine x_v (r_mv rfl) rfl ?_
   refine XL.splitd 16 rfl (fun hg16 => ?_) (fun hg16 => ?_)
   ·refine x_want rfl rfl rfl ?_
    refine x_v (r_fa fo31_1 rfl) rfl ?_
    refine x_want rfl rfl rfl ?_
    refine x_v (r_ld ty3 rfl pK (by rfl)) rfl ?_
    refine x_want rfl rfl rfl ?_
    refine x_v (r_le rfl rfl) rfl ?_
    refine x_v (r_pk_t rfl rfl) rfl ?_
    refine x_v (r_mv rfl) rfl ?_
    refine XL.splitd 21 rfl (fun hg21 => ?_) (fun hg21 => ?_)
    ·refine x_want rfl rfl rfl ?_
     refine x_v (r_fa fo31_0 rfl) rfl ?_
     refine x_want rfl rfl rfl ?_
     refine x_v (r_ld ty3 rfl pK (by rfl)) rfl ?_
     refine x_want rfl rfl rfl ?_
     refine x_v (r_eq rfl rfl) rfl ?_
     refine x_want rfl rfl rfl ?_
     refine x_v (r_fa fo31_1 rfl) rfl ?_
     refine x_want rfl rfl rfl ?_
     refine x_v (r_ld ty3 rfl pK (by rfl)) rfl ?_
     refine x_want rfl rfl rfl ?_
     refine x_v (r_eq rfl rfl) rfl ?_
     refine x_want rfl rfl rfl ?_
     refine x_v (r_beq Try.underlying4 rfl rfl) rfl ?_
     refine x_v (r_pk_t rfl rfl) rfl ?_
     refine x_v (r_as rfl) rfl ?_
     refine XL.nil ?_
     refine hK2 _ _ ?_
     refine XC.keep [(2, _)] ⟨rfl, trivial⟩ ?_
     refine XC.ret ?_
     exact fin1 rfl (⟨congrArg Value.bool (by rw [Bool.beq_eq_decide_eq, decide_eq_decide, decide_eq_decide]; unfold placeOk; omega), rfl⟩) gS
    ·refine x_unwant rfl rfl rfl rfl rfl ?_
     refine x_unwant rfl rfl rfl rfl rfl ?_
     refine x_unwant rfl rfl rfl rfl rfl ?_
     refine x_unwant rfl rfl rfl rfl rfl ?_
     refine x_unwant rfl rfl rfl rfl rfl ?_
     refine x_unwant rfl rfl rfl rfl rfl ?_
     refine x_unwant rfl rfl rfl rfl rfl ?_
     refine x_v (r_pk_f rfl rfl) rfl ?_
     refine x_v (r_as rfl) rfl ?_
     refine XL.nil ?_
     refine hK2 _ _ ?_
     refine XC.keep [(2, _)] ⟨rfl, trivial⟩ ?_
     refine XC.ret ?_
     exact fin1 rfl (⟨congrArg Value.bool (decide_eq_false (by unfold placeOk; omega)).symm, rfl⟩) gS
   ·refine x_unwant rfl rfl rfl rfl rfl ?_
    refine x_unwant rfl rfl rfl rfl rfl ?_
    refine x_unwant rfl rfl rfl rfl rfl ?_
    refine x_v (r_pk_f rfl rfl) rfl ?_
    refine x_v (r_mv rfl) rfl ?_
    refine x_unwant rfl rfl rfl rfl rfl ?_
    refine x_unwant rfl rfl rfl rfl rfl ?_
    refine x_unwant rfl rfl rfl rfl rfl ?_
    refine x_unwant rfl rfl rfl rfl rfl ?_
    refine x_unwant rfl rfl rfl rfl rfl ?_
    refine x_unwant rfl rfl rfl rfl rfl ?_
    refine x_unwant rfl rfl rfl rfl rfl ?_
    refine x_v (r_pk_f rfl rfl) rfl ?_
    refine x_v (r_as rfl) rfl ?_
    refine XL.nil ?_
    refine hK2 _ _ ?_
    refine XC.keep [(2, _)] ⟨rfl, trivial⟩ ?_
    refine XC.ret ?_
    exact fin1 rfl (⟨congrArg Value.bool (decide_eq_false (by unfold placeOk; omega)).symm, rfl⟩) gS
  ·refine x_unwant rfl rfl rfl rfl rfl ?_
   refine x_unwant rfl rfl rfl rfl rfl ?_
   refine x_unwant rfl rfl rfl rfl rfl ?_
   refine x_v (r_pk_f rfl rfl) rfl ?_
   refine x_v (r_mv rfl) rfl ?_
   refine x_unwant rfl rfl rfl rfl rfl ?_
   refine x_unwant rfl rfl rfl rfl rfl ?_
   refine x_unwant rfl rfl rfl rfl rfl ?_
   refine x_v (r_pk_f rfl rfl) rfl ?_
   refine x_v (r_mv rfl) rfl ?_
   refine x_unwant rfl rfl rfl rfl rfl ?_
   refine x_unwant rfl rfl rfl rfl rfl ?_
   refine x_unwant rfl rfl rfl rfl rfl ?_
   refine x_unwant rfl rfl rfl rfl rfl ?_
   refine x_unwant rfl rfl rfl rfl rfl ?_
   refine x_unwant rfl rfl rfl rfl rfl ?_
   refine x_unwant rfl rfl rfl rfl rfl ?_
   refine x_v (r_pk_f rfl rfl) rfl ?_
   refine x_v (r_as rfl) rfl ?_
   refine XL.nil ?_
   refine hK2 _ _ ?_
   refine XC.keep [(2, _)] ⟨rfl, trivial⟩ ?_
   refine XC.ret ?_
   exact fin1 rfl (⟨congrArg Value.bool (decide_eq_false (by unfold placeOk; omega)).symm, rfl⟩) gS
 ·refine x_unwant rfl rfl rfl rfl rfl ?_
  refine x_unwant rfl rfl rfl rfl rfl ?_
  refine x_unwant rfl rfl rfl rfl rfl ?_
  refine x_v (r_pk_f rfl rfl) rfl ?_
  refine x_v (r_mv rfl) rfl ?_
  refine x_unwant rfl rfl rfl rfl rfl ?_
  refine x_unwant rfl rfl rfl rfl rfl ?_
  refine x_unwant rfl rfl rfl rfl rfl ?_
  refine x_v (r_pk_f rfl rfl) rfl ?_
  refine x_v (r_mv rfl) rfl ?_
  refine x_unwant rfl rfl rfl rfl rfl ?_
  refine x_unwant rfl rfl rfl rfl rfl ?_
  refine x_unwant rfl rfl rfl rfl rfl ?_
  refine x_v (r_pk_f rfl rfl) rfl ?_
  refine x_v (r_mv rfl) rfl ?_
  refine x_unwant rfl rfl rfl rfl rfl ?_
  refine x_unwant rfl rfl rfl rfl rfl ?_
  refine x_unwant rfl rfl rfl rfl rfl ?_
  refine x_unwant rfl rfl rfl rfl rfl ?_
  refine x_unwant rfl rfl rfl rfl rfl ?_
  refine x_unwant rfl rfl rfl rfl rfl ?_
  refine x_unwant rfl rfl rfl rfl rfl ?_
  refine x_v (r_pk_f rfl rfl) rfl ?_
  refine x_v (r_as rfl) rfl ?_
  refine XL.nil ?_
  refine hK2 _ _ ?_
  refine XC.keep [(2, _)] ⟨rfl, trivial⟩ ?_
  refine XC.ret ?_
  exact fin1 rfl (⟨congrArg Value.bool (decide_eq_false (by unfold placeOk; omega)).symm, rfl⟩) gS
/-- The letters 'E', 's' are in the map. -/
def esf (i : Nat) : Value → Option Value
 | .int .u8 x => if (x = 69 ∧ 0 < i) ∨ (x = 115 ∧ 1 < i) then some (.bool true) else none
 | _ => none
theorem esf_none : (fun _ : Value => (none : Option Value)) = esf 0 := by
 funext v; unfold esf; split
 ·rw [if_neg (by omega)]
 ·rfl
theorem esf_other {i : Nat} (hi : i < 2) : ∀ x, x ≠ .int .u8 (if i = 0 then 69 else 115) → esf (i + 1) x = esf i x := fun x hx => by
 unfold esf; split
 ·rename_i y
  have hy : y ≠ (if i = 0 then 69 else 115) := fun h => hx (by rw [h])
  rcases i with _ | _ | i
  ·have : y ≠ 69 := by simpa using hy
   rw [if_neg (by omega), if_neg (by omega)]
  ·have : y ≠ 115 := by simpa using hy
   by_cases h6 : y = 69
   ·rw [if_pos (by omega), if_pos (by omega)]
   ·rw [if_neg (by omega), if_neg (by omega)]
  ·omega
 ·rfl
end Go.Proofs.Ytheilpcbilnadaa

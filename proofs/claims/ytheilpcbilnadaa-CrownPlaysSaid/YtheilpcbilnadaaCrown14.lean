/- Crowns: who may (the reference's); sheets and operations that may be. -/
import Derived.Test.YtheilpcbilnadaaCrown13
namespace Go.Proofs.Ytheilpcbilnadaa
open Go.Sx
set_option linter.unusedVariables false

theorem wprim_tr {W0 : World} {Fr : List HP} {c : Cw} {r : Rh} (b lb : Nat) (L : List Od) (hLn : L.length = r.n) (hn : r.n ≤ 100000) : Tr W0 Try.prog 30 [.pointer (some ⟨b, 0, none⟩), .pointer (some ⟨lb, 0, none⟩)] (blk b 71 (wc c) :: blk lb 93 (rdc r) :: sl r.A r.n r.c 39 9 (cells odc L) :: Fr) (fun v Rs' => v = .int .i64 (primOf c (holdOf (fst1 L)).1 (holdOf (fst1 L)).2 r.fence) ∧ Rs' = blk b 71 (wc c) :: blk lb 93 (rdc r) :: sl r.A r.n r.c 39 9 (cells odc L) :: Fr) := by
 obtain ⟨gE, hgE⟩ : ∃ x, x = (holdOf (fst1 L)).1 := ⟨_, rfl⟩
 obtain ⟨gB, hgB⟩ : ∃ x, x = (holdOf (fst1 L)).2 := ⟨_, rfl⟩
 rw [← hgE, ← hgB]
 unfold wc rdc primOf
 refine Entry.tr (N := 38) (rs := [.tmp 4]) ⟨_, Try.func30, rfl, by kernel_rfl, rfl, rfl⟩ rfl ?_
 refine XC.seq fun K1 hK1 => ?_
 refine XC.region ?_
 refine x_v (r_as rfl) rfl ?_
 refine XL.nil ?_
 refine hK1 _ _ ?_
 refine XC.keep [(0, _), (1, _)] ⟨rfl, rfl, trivial⟩ ?_
 refine XC.seq fun K2 hK2 => ?_
 refine XC.region ?_
 refine x_v (r_mv rfl) rfl ?_
 refine x_c (r_call0 (args := [_]) ⟨rfl, rfl⟩ (rhold_tr (r := r) lb L hLn hn) gS) rfl ?_
 rintro _ _ ⟨rfl, rfl⟩
 rw [← hgE, ← hgB]
 unfold rdc
 refine x_a (r_al ty69 rfl) rfl fun b5 => ?_
 refine x_e (r_st ty69 rfl rfl rfl rfl rfl uD oV) ?_
 refine XL.nil ?_
 refine hK2 _ _ ?_
 refine XC.keep [(0, _), (1, _), (5, _)] ⟨rfl, rfl, rfl, trivial⟩ ?_
 refine XC.seq fun K3 hK3 => ?_
 refine XC.seq fun K4 hK4 => ?_
 refine XC.draw [blk b5 69 [.int .i64 gE, .int .i64 gB], blk b 71 [.int .i64 c.site, .int .i64 c.epochs, .int .i64 c.tE, .int .i64 c.tS, .int .i64 c.heard, .int .i64 c.wants], blk lb 93 [.slice r.A r.n r.c, .slice r.gA r.gn r.gc, .int .i64 r.fence, .int .i64 r.set, .int .i64 r.quota, .int .i64 r.room]] false [(0, false), (1, false), (2, false), (3, false), (4, false), (5, false), (6, false), (7, false), (8, false), (9, false), (10, false), (11, false), (12, false), (13, false), (14, false), (15, false), (16, false), (17, false), (18, false), (19, false), (20, false)] (by kernel_rfl) (by kernel_rfl) ?_
 refine y_v rfl (r_fa fo69_0 rfl) gT rfl ?_
 refine y_v rfl (r_ld ty3 rfl pK (by rfl)) gT rfl ?_
 refine y_v rfl (r_eq rfl rfl) gT rfl ?_
 refine y_v rfl (r_mv rfl) gT rfl ?_
 refine XH.splitd 11 rfl (fun hg11 => ?_) (fun hg11 => ?_)
 ·refine y_un rfl rfl rfl (fun _ h => Gets.own gS h) rfl ?_
  refine y_un rfl rfl rfl (fun _ h => Gets.own gS h) rfl ?_
  refine y_un rfl rfl rfl (fun _ h => Gets.own gS h) rfl ?_
  refine y_un rfl rfl rfl (fun _ h => Gets.own gS h) rfl ?_
  refine y_un rfl rfl rfl (fun _ h => Gets.own gS h) rfl ?_
  refine y_un rfl rfl rfl (fun _ h => Gets.own gS h) rfl ?_
  refine y_un rfl rfl rfl (fun _ h => Gets.own gS h) rfl ?_
  refine y_v rfl (r_pk_t rfl rfl) gT rfl ?_
  refine y_v rfl (r_mv rfl) gT rfl ?_
  refine y_un rfl rfl rfl (fun _ h => Gets.own gS h) rfl ?_
  refine y_un rfl rfl rfl (fun _ h => Gets.own gS h) rfl ?_
  refine y_un rfl rfl rfl (fun _ h => Gets.own gS h) rfl ?_
  refine y_un rfl rfl rfl (fun _ h => Gets.own gS h) rfl ?_
  refine y_un rfl rfl rfl (fun _ h => Gets.own gS h) rfl ?_
  refine y_un rfl rfl rfl (fun _ h => Gets.own gS h) rfl ?_
  refine y_un rfl rfl rfl (fun _ h => Gets.own gS h) rfl ?_
  refine y_v rfl (r_pk_t rfl rfl) gT rfl ?_
  refine XH.nil ?_
  refine hK4 _ _ ?_
  refine XC.keep [(0, _), (1, _), (28, _)] ⟨rfl, rfl, rfl, trivial⟩ ?_
  refine XC.cond_t rfl ?_
  refine XC.seq fun K5 hK5 => ?_
  refine XC.region ?_
  refine x_v (r_as rfl) rfl ?_
  refine XL.nil ?_
  refine hK5 _ _ ?_
  refine XC.keep [(4, _)] ⟨rfl, trivial⟩ ?_
  refine XC.ret ?_
  rw [if_pos (by omega)]
  exact fin1 rfl (⟨rfl, rfl⟩) gS
 ·refine y_vg rfl rfl rfl (r_fa fo69_1 rfl) gT rfl ?_
  refine y_vg rfl rfl rfl (r_ld ty3 rfl pK (by rfl)) gT rfl ?_
  refine y_vg rfl rfl rfl (r_mv rfl) gT rfl ?_
  refine y_vg rfl rfl rfl (r_nc rfl) gT rfl ?_
  refine y_vg rfl rfl rfl (r_fa fo71_0 rfl) gT rfl ?_
  refine y_vg rfl rfl rfl (r_ld ty3 rfl pK (by rfl)) gT rfl ?_
  refine y_vg rfl rfl rfl (r_ne rfl rfl) gT rfl ?_
  refine y_v rfl (r_pk_f rfl rfl) gT rfl ?_
  refine y_v rfl (r_mv rfl) gT rfl ?_
  refine XH.splitd 20 rfl (fun hg20 => ?_) (fun hg20 => ?_)
  ·refine y_un rfl rfl rfl (fun _ h => Gets.own gS h) rfl ?_
   refine y_un rfl rfl rfl (fun _ h => Gets.own gS h) rfl ?_
   refine y_un rfl rfl rfl (fun _ h => Gets.own gS h) rfl ?_
   refine y_un rfl rfl rfl (fun _ h => Gets.own gS h) rfl ?_
   refine y_un rfl rfl rfl (fun _ h => Gets.own gS h) rfl ?_
   refine y_un rfl rfl rfl (fun _ h => Gets.own gS h) rfl ?_
   refine y_un rfl rfl rfl (fun _ h => Gets.own gS h) rfl ?_
   refine y_v rfl (r_pk_t rfl rfl) gT rfl ?_
   refine XH.nil ?_
   refine hK4 _ _ ?_
   refine XC.keep [(0, _), (1, _), (28, _)] ⟨rfl, rfl, rfl, trivial⟩ ?_
   refine XC.cond_t rfl ?_
   refine XC.seq fun K6 hK6 => ?_
   refine XC.region ?_
   refine x_v (r_as rfl) rfl ?_
   refine XL.nil ?_
   refine hK6 _ _ ?_
   refine XC.keep [(4, _)] ⟨rfl, trivial⟩ ?_
   refine XC.ret ?_
   rw [if_pos (by omega)]
   exact fin1 rfl (⟨rfl, rfl⟩) gS
  ·refine y_vg rfl rfl rfl (r_fa fo69_0 rfl) gT rfl ?_
   refine y_vg rfl rfl rfl (r_ld ty3 rfl pK (by rfl)) gT rfl ?_
   refine y_vg rfl rfl rfl (r_mv rfl) gT rfl ?_
   refine y_vg rfl rfl rfl (r_nc rfl) gT rfl ?_
   refine y_vg rfl rfl rfl (r_fa fo93_2 rfl) gT rfl ?_
   refine y_vg rfl rfl rfl (r_ld ty3 rfl pK (by rfl)) gT rfl ?_
   refine y_vg rfl rfl rfl (r_ne rfl rfl) gT rfl ?_
   refine y_v rfl (r_pk_f rfl rfl) gT rfl ?_
   refine XH.nil ?_
   refine hK4 _ _ ?_
   refine XC.keep [(0, _), (1, _), (28, _)] ⟨rfl, rfl, rfl, trivial⟩ ?_
   refine XC.cond_d rfl (fun hc3 => ?_) (fun hc3 => ?_)
   ·refine XC.seq fun K7 hK7 => ?_
    refine XC.region ?_
    refine x_v (r_as rfl) rfl ?_
    refine XL.nil ?_
    refine hK7 _ _ ?_
    refine XC.keep [(4, _)] ⟨rfl, trivial⟩ ?_
    refine XC.ret ?_
    rw [if_pos (by omega)]
    exact fin1 rfl (⟨rfl, rfl⟩) gS
   ·refine XC.skip ?_
    refine hK3 _ _ ?_
    refine XC.keep [(0, _), (1, _)] ⟨rfl, rfl, trivial⟩ ?_
    refine XC.seq fun K8 hK8 => ?_
    refine XC.seq fun K9 hK9 => ?_
    refine XC.draw [blk b 71 [.int .i64 c.site, .int .i64 c.epochs, .int .i64 c.tE, .int .i64 c.tS, .int .i64 c.heard, .int .i64 c.wants], blk lb 93 [.slice r.A r.n r.c, .slice r.gA r.gn r.gc, .int .i64 r.fence, .int .i64 r.set, .int .i64 r.quota, .int .i64 r.room]] false [(0, false), (1, false), (2, false), (3, false), (4, false), (5, false), (6, false), (7, false), (8, false)] (by kernel_rfl) (by kernel_rfl) ?_
    refine y_v rfl (r_mv rfl) gT rfl ?_
    refine y_v rfl (r_nc rfl) gT rfl ?_
    refine y_v rfl (r_fa fo71_3 rfl) gT rfl ?_
    refine y_v rfl (r_ld ty3 rfl pK (by rfl)) gT rfl ?_
    refine y_v rfl (r_mv rfl) gT rfl ?_
    refine y_v rfl (r_nc rfl) gT rfl ?_
    refine y_v rfl (r_fa fo93_2 rfl) gT rfl ?_
    refine y_v rfl (r_ld ty3 rfl pK (by rfl)) gT rfl ?_
    refine y_v rfl (r_gt rfl rfl) gT rfl ?_
    refine XH.nil ?_
    refine hK9 _ _ ?_
    refine XC.keep [(37, _)] ⟨rfl, trivial⟩ ?_
    refine XC.cond_d rfl (fun hc4 => ?_) (fun hc4 => ?_)
    ·refine XC.seq fun K10 hK10 => ?_
     refine XC.region ?_
     refine x_v (r_as rfl) rfl ?_
     refine XL.nil ?_
     refine hK10 _ _ ?_
     refine XC.keep [(4, _)] ⟨rfl, trivial⟩ ?_
     refine XC.ret ?_
     rw [if_neg (by omega), if_pos (by omega)]
     exact fin1 rfl (⟨rfl, rfl⟩) gS
    ·refine XC.skip ?_
     refine hK8 _ _ ?_
     refine XC.keep [] trivial ?_
     refine XC.seq fun K11 hK11 => ?_
     refine XC.region ?_
     refine x_v (r_as rfl) rfl ?_
     refine XL.nil ?_
     refine hK11 _ _ ?_
     refine XC.keep [(4, _)] ⟨rfl, trivial⟩ ?_
     refine XC.ret ?_
     rw [if_neg (by omega), if_neg (by omega)]
     exact fin1 rfl (⟨rfl, rfl⟩) gS

def cnt (z : Int) : Int := if z ≤ 0 then 0 else (z + 63) / 64
theorem cells_get_z {hs : List (List UInt8)} {i : Nat} {h : List UInt8} (hh : hs[i]? = some h) : (cells sv1 hs)[i * 1]? = some (str h) := by
 have := cells_get sv1_len hs i h hh 0 (str h) rfl
 rwa [Nat.add_zero] at this
theorem count_tr {W0 : World} {Fr : List HP} (z : Int) (hz : z ≤ 100000) : Tr W0 Try.prog 92 [.int .i64 z] Fr (fun v Rs' => v = .int .i64 (cnt z) ∧ Rs' = Fr) := by
 unfold cnt
 refine Entry.tr (N := 9) (rs := [.tmp 2]) ⟨_, Try.func92, rfl, by kernel_rfl, rfl, rfl⟩ rfl ?_
 refine XC.seq fun K1 hK1 => ?_
 refine XC.region ?_
 refine x_v (r_as rfl) rfl ?_
 refine XL.nil ?_
 refine hK1 _ _ ?_
 refine XC.keep [(0, _)] ⟨rfl, trivial⟩ ?_
 refine XC.seq fun K2 hK2 => ?_
 refine XC.seq fun K3 hK3 => ?_
 refine XC.region ?_
 refine x_v (r_mv rfl) rfl ?_
 refine x_v (r_le rfl rfl) rfl ?_
 refine XL.nil ?_
 refine hK3 _ _ ?_
 refine XC.keep [(0, _), (4, _)] ⟨rfl, rfl, trivial⟩ ?_
 refine XC.cond_d rfl (fun hc1 => ?_) (fun hc1 => ?_)
 ·refine XC.seq fun K4 hK4 => ?_
  refine XC.region ?_
  refine x_v (r_as rfl) rfl ?_
  refine XL.nil ?_
  refine hK4 _ _ ?_
  refine XC.keep [(2, _)] ⟨rfl, trivial⟩ ?_
  refine XC.ret ?_
  rw [if_pos (by omega)]
  exact fin1 rfl (⟨rfl, rfl⟩) gS
 ·refine XC.skip ?_
  refine hK2 _ _ ?_
  refine XC.keep [(0, _)] ⟨rfl, trivial⟩ ?_
  refine XC.seq fun K5 hK5 => ?_
  refine XC.region ?_
  refine x_v (r_mv rfl) rfl ?_
  refine x_v (r_sub rfl rfl (by omega)) rfl ?_
  refine x_v (r_quo rfl rfl (by omega)) rfl ?_
  refine x_v (r_add rfl rfl (by omega)) rfl ?_
  refine x_v (r_as rfl) rfl ?_
  refine XL.nil ?_
  refine hK5 _ _ ?_
  refine XC.keep [(2, _)] ⟨rfl, trivial⟩ ?_
  refine XC.ret ?_
  rw [if_neg (by omega)]
  exact fin1 rfl (⟨congrArg (Value.int .i64) (by omega), rfl⟩) gS
theorem wcount_tr {W0 : World} {Fr : List HP} (z : Int) (hz : z ≤ 100000) : Tr W0 Try.prog 93 [.int .i64 z] Fr (fun v Rs' => v = .int .i64 (cnt z) ∧ Rs' = Fr) := by
 unfold cnt
 refine Entry.tr (N := 15) (rs := [.tmp 2]) ⟨_, Try.func93, rfl, by kernel_rfl, rfl, rfl⟩ rfl ?_
 refine XC.seq fun K1 hK1 => ?_
 refine XC.region ?_
 refine x_v (r_as rfl) rfl ?_
 refine XL.nil ?_
 refine hK1 _ _ ?_
 refine XC.keep [(0, _)] ⟨rfl, trivial⟩ ?_
 refine XC.seq fun K2 hK2 => ?_
 refine XC.seq fun K3 hK3 => ?_
 refine XC.region ?_
 refine x_v (r_mv rfl) rfl ?_
 refine x_v (r_lt rfl rfl) rfl ?_
 refine XL.nil ?_
 refine hK3 _ _ ?_
 refine XC.keep [(0, _), (5, _)] ⟨rfl, rfl, trivial⟩ ?_
 refine XC.cond_d rfl (fun hc1 => ?_) (fun hc1 => ?_)
 ·refine XC.seq fun K4 hK4 => ?_
  refine XC.region ?_
  refine x_v (r_as rfl) rfl ?_
  refine XL.nil ?_
  refine hK4 _ _ ?_
  refine XC.keep [(2, _)] ⟨rfl, trivial⟩ ?_
  refine XC.ret ?_
  rw [if_pos (by omega)]
  exact fin1 rfl (⟨rfl, rfl⟩) gS
 ·refine XC.skip ?_
  refine hK2 _ _ ?_
  refine XC.keep [(0, _)] ⟨rfl, trivial⟩ ?_
  refine XC.seq fun K5 hK5 => ?_
  refine XC.region ?_
  refine x_v (r_mv rfl) rfl ?_
  refine x_v (r_quo rfl rfl (by omega)) rfl ?_
  refine x_v (r_as rfl) rfl ?_
  refine XL.nil ?_
  refine hK5 _ _ ?_
  refine XC.keep [(0, _), (3, _)] ⟨rfl, rfl, trivial⟩ ?_
  refine XC.seq fun K6 hK6 => ?_
  refine XC.seq fun K7 hK7 => ?_
  refine XC.region ?_
  refine x_v (r_mv rfl) rfl ?_
  refine x_v (r_mul rfl rfl (by omega)) rfl ?_
  refine x_v (r_mv rfl) rfl ?_
  refine x_v (r_lt rfl rfl) rfl ?_
  refine XL.nil ?_
  refine hK7 _ _ ?_
  refine XC.keep [(3, _), (11, _)] ⟨rfl, rfl, trivial⟩ ?_
  refine XC.cond_d rfl (fun hc2 => ?_) (fun hc2 => ?_)
  ·refine XC.region ?_
   refine x_v (r_mv rfl) rfl ?_
   refine x_v (r_add rfl rfl (by omega)) rfl ?_
   refine x_v (r_as rfl) rfl ?_
   refine XL.nil ?_
   refine hK6 _ _ ?_
   refine XC.keep [(3, _)] ⟨rfl, trivial⟩ ?_
   refine XC.seq fun K8 hK8 => ?_
   refine XC.region ?_
   refine x_v (r_mv rfl) rfl ?_
   refine x_v (r_as rfl) rfl ?_
   refine XL.nil ?_
   refine hK8 _ _ ?_
   refine XC.keep [(2, _)] ⟨rfl, trivial⟩ ?_
   refine XC.ret ?_
   exact fin1 rfl (⟨congrArg (Value.int .i64) (by split <;> omega), rfl⟩) gS
  ·refine XC.skip ?_
   refine hK6 _ _ ?_
   refine XC.keep [(3, _)] ⟨rfl, trivial⟩ ?_
   refine XC.seq fun K9 hK9 => ?_
   refine XC.region ?_
   refine x_v (r_mv rfl) rfl ?_
   refine x_v (r_as rfl) rfl ?_
   refine XL.nil ?_
   refine hK9 _ _ ?_
   refine XC.keep [(2, _)] ⟨rfl, trivial⟩ ?_
   refine XC.ret ?_
   exact fin1 rfl (⟨congrArg (Value.int .i64) (by split <;> omega), rfl⟩) gS
def shA (z : Int) (hs : List (List UInt8)) : Prop := 0 ≤ z ∧ z ≤ 512 ∧ (hs.length : Int) = cnt z
instance (z : Int) (hs : List (List UInt8)) : Decidable (shA z hs) := by unfold shA; infer_instance
def h32 (hs : List (List UInt8)) : Bool := hs.all fun h => decide (h.length = 32)
def shOk (z : Int) (hs : List (List UInt8)) : Bool := decide (shA z hs) && h32 hs
theorem h32_snoc {hs : List (List UInt8)} {i : Nat} {h : List UInt8} (hh : hs[i]? = some h) : h32 (hs.take (i + 1)) = (h32 (hs.take i) && decide (h.length = 32)) := by
 unfold h32; rw [tk_snoc hh, List.all_append]; simp
theorem sheet_tr {W0 : World} {Fr : List HP} {k : HP} (z : Int) (A : Option Addr) (c : Nat) (hs : List (List UInt8)) (hr : Rdb W0 [k] A hs.length 1 (cells sv1 hs)) (hl : hs.length * 16 ≤ 140737488355328) : Tr W0 Try.prog 86 [.agg #[.int .i64 z, .slice A hs.length c]] (k :: Fr) (fun v Rs' => v = .int .i64 (if shOk z hs = true then 0 else 3) ∧ Rs' = k :: Fr) := by
 refine Entry.tr (N := 39) (rs := [.tmp 2]) ⟨_, Try.func86, rfl, by kernel_rfl, rfl, rfl⟩ rfl ?_
 refine XC.seq fun K1 hK1 => ?_
 refine XC.region ?_
 refine x_a (r_bx rfl rfl) rfl fun b1 => ?_
 refine x_v (r_as rfl) rfl ?_
 refine XL.nil ?_
 refine hK1 _ _ ?_
 refine XC.keep [(1, _)] ⟨rfl, trivial⟩ ?_
 refine XC.seqcut (σ := Unit) (fun u => [(1, .pointer (some ⟨b1, 0, none⟩)), (3, .bool (decide (shA z hs)))]) (fun u => blk b1 37 [.int .i64 z, .slice A hs.length c] :: k :: Fr) (fun u => True) ?_ ?_
 ·refine XC.draw [blk b1 37 [.int .i64 z, .slice A hs.length c]] false [(0, false), (1, false), (2, false), (3, false), (4, false), (5, false), (6, false), (7, false), (8, false), (9, false), (10, false), (11, false), (12, false), (13, false), (14, true), (15, false), (16, false), (17, false)] (by kernel_rfl) (by kernel_rfl) ?_
  refine y_v rfl (r_fa fo37_0 rfl) gT rfl ?_
  refine y_v rfl (r_ld ty3 rfl pK (by rfl)) gT rfl ?_
  refine y_v rfl (r_ge rfl rfl) gT rfl ?_
  refine y_v rfl (r_mv rfl) gT rfl ?_
  refine XH.splitd 9 rfl (fun hg9 => ?_) (fun hg9 => ?_)
  ·refine y_vg rfl rfl rfl (r_fa fo37_0 rfl) gT rfl ?_
   refine y_vg rfl rfl rfl (r_ld ty3 rfl pK (by rfl)) gT rfl ?_
   refine y_vg rfl rfl rfl (r_le rfl rfl) gT rfl ?_
   refine y_v rfl (r_pk_t rfl rfl) gT rfl ?_
   refine y_v rfl (r_mv rfl) gT rfl ?_
   refine XH.splitd 14 rfl (fun hg14 => ?_) (fun hg14 => ?_)
   ·refine y_vg rfl rfl rfl (r_fa fo37_1 rfl) gT rfl ?_
    refine y_vg rfl rfl rfl (r_ld ty29 rfl pK (by rfl)) gT rfl ?_
    refine y_vg rfl rfl rfl (r_lensl Try.underlying29 rfl) gT rfl ?_
    refine y_vg rfl rfl rfl (r_fa fo37_0 rfl) gT rfl ?_
    refine y_vg rfl rfl rfl (r_ld ty3 rfl pK (by rfl)) gT rfl ?_
    refine y_cg rfl rfl rfl (r_call0 (args := [_]) ⟨rfl, rfl⟩ (count_tr z (by omega)) gS) (by rintro _ _ _ _ ⟨rfl, rfl⟩ h; exact Gets.own gS h) rfl ?_
    rintro _ _ ⟨rfl, rfl⟩
    refine y_vg rfl rfl rfl (r_eq rfl rfl) gT rfl ?_
    refine y_v rfl (r_pk_t rfl rfl) gT rfl ?_
    refine y_v rfl (r_as rfl) gT rfl ?_
    refine XH.nil ?_
    rw [show decide ((hs.length : Int) = cnt z) = decide (shA z hs) from decide_eq_decide.2 (by unfold shA; omega)]
    exact ⟨(), trivial, ⟨rfl, rfl, trivial⟩, gS⟩
   ·refine y_un rfl rfl rfl (fun _ h => Gets.own gS h) rfl ?_
    refine y_un rfl rfl rfl (fun _ h => Gets.own gS h) rfl ?_
    refine y_un rfl rfl rfl (fun _ h => Gets.own gS h) rfl ?_
    refine y_un rfl rfl rfl (fun _ h => Gets.own gS h) rfl ?_
    refine y_un rfl rfl rfl (fun _ h => Gets.own gS h) rfl ?_
    refine y_unl rfl rfl rfl (fun _ h => Gets.own gS h) rfl ?_
    refine y_un rfl rfl rfl (fun _ h => Gets.own gS h) rfl ?_
    refine y_v rfl (r_pk_f rfl rfl) gT rfl ?_
    refine y_v rfl (r_as rfl) gT rfl ?_
    refine XH.nil ?_
    rw [show false = decide (shA z hs) from (decide_eq_false (by unfold shA; omega)).symm]
    exact ⟨(), trivial, ⟨rfl, rfl, trivial⟩, gS⟩
  ·refine y_un rfl rfl rfl (fun _ h => Gets.own gS h) rfl ?_
   refine y_un rfl rfl rfl (fun _ h => Gets.own gS h) rfl ?_
   refine y_un rfl rfl rfl (fun _ h => Gets.own gS h) rfl ?_
   refine y_v rfl (r_pk_f rfl rfl) gT rfl ?_
   refine y_v rfl (r_mv rfl) gT rfl ?_
   refine y_un rfl rfl rfl (fun _ h => Gets.own gS h) rfl ?_
   refine y_un rfl rfl rfl (fun _ h => Gets.own gS h) rfl ?_
   refine y_un rfl rfl rfl (fun _ h => Gets.own gS h) rfl ?_
   refine y_un rfl rfl rfl (fun _ h => Gets.own gS h) rfl ?_
   refine y_un rfl rfl rfl (fun _ h => Gets.own gS h) rfl ?_
   refine y_unl rfl rfl rfl (fun _ h => Gets.own gS h) rfl ?_
   refine y_un rfl rfl rfl (fun _ h => Gets.own gS h) rfl ?_
   refine y_v rfl (r_pk_f rfl rfl) gT rfl ?_
   refine y_v rfl (r_as rfl) gT rfl ?_
   refine XH.nil ?_
   rw [show false = decide (shA z hs) from (decide_eq_false (by unfold shA; omega)).symm]
   exact ⟨(), trivial, ⟨rfl, rfl, trivial⟩, gS⟩
 ·rintro _ _
  refine XC.seq fun K3 hK3 => ?_
  refine XC.seq fun K4 hK4 => ?_
  refine XC.region ?_
  refine x_v (r_fa fo37_1 rfl) rfl ?_
  refine x_v (r_ld ty29 rfl pK (by rfl)) rfl ?_
  refine x_v (r_lensl Try.underlying29 rfl) rfl ?_
  refine x_v (r_mv rfl) rfl ?_
  refine XL.nil ?_
  refine hK4 _ _ ?_
  refine XC.keep [(3, _), (24, _), (25, _), (26, _)] ⟨rfl, rfl, rfl, rfl, trivial⟩ ?_
  refine XC.block ?_
  refine XC.loop (σ := Nat × Bool) (fun s => [(3, .bool s.2), (24, .slice A hs.length c), (25, .int .i64 (hs.length : Int)), (26, .int .i64 (s.1 : Int))]) (fun s => k :: Fr) (fun s => s.1 ≤ hs.length ∧ s.2 = (decide (shA z hs) && h32 (hs.take s.1))) (fun s => hs.length - s.1) (0, decide (shA z hs)) ?_ ⟨rfl, rfl, rfl, rfl, trivial⟩ gS ?_
  ·exact ⟨Nat.zero_le _, by unfold h32; simp⟩
  rintro ⟨i, g⟩ ⟨hi, hg⟩
  dsimp only at hi hg ⊢
  refine XC.seq fun K5 hK5 => ?_
  refine XC.region ?_
  refine x_v (r_lt rfl rfl) rfl ?_
  refine XL.nil ?_
  refine hK5 _ _ ?_
  refine XC.keep [(3, _), (24, _), (25, _), (26, _), (27, _)] ⟨rfl, rfl, rfl, rfl, rfl, trivial⟩ ?_
  refine XC.seq fun K6 hK6 => ?_
  refine XC.cond_d rfl (fun hc1 => ?_) (fun hc1 => ?_)
  ·refine XC.skip ?_
   refine hK6 _ _ ?_
   refine XC.keep [(3, _), (24, _), (25, _), (26, _)] ⟨rfl, rfl, rfl, rfl, trivial⟩ ?_
   refine XC.seq fun K7 hK7 => ?_
   refine XC.block ?_
   refine XC.seq fun K8 hK8 => ?_
   obtain ⟨h, hh⟩ : ∃ h, hs[i]? = some h := ⟨_, List.getElem?_eq_getElem (by omega)⟩
   obtain ⟨ob, oo, rfl, hat⟩ := hr.at_ (by omega)
   refine XC.region ?_
   refine x_v (r_ia (k := i) Try.underlying29 ty9 rfl rfl (by omega) (by omega)) rfl ?_
   refine x_v (r_ldr (v := str h) ty9 rfl (fun w hw => hat w (Gets.own gS hw) (i * 1) _ (by rw [cells_get_z hh]))) rfl ?_
   refine x_v (r_as rfl) rfl ?_
   refine XL.nil ?_
   refine hK8 _ _ ?_
   refine XC.keep [(3, _), (5, _), (24, _), (25, _), (26, _)] ⟨rfl, rfl, rfl, rfl, rfl, trivial⟩ ?_
   refine XC.region ?_
   refine x_v (r_mv rfl) rfl ?_
   refine x_v (r_mv rfl) rfl ?_
   refine XL.split 31 rfl (fun hg31 => ?_) (fun hg31 => ?_)
   ·refine x_want rfl rfl rfl ?_
    refine x_v (r_mv rfl) rfl ?_
    refine x_want rfl rfl rfl ?_
    refine x_v (r_lens Try.underlying9 rfl) rfl ?_
    refine x_want rfl rfl rfl ?_
    refine x_v (r_eq rfl rfl) rfl ?_
    refine x_v (r_pk_t rfl rfl) rfl ?_
    refine x_v (r_as rfl) rfl ?_
    refine XL.nil ?_
    refine hK7 _ _ ?_
    refine XC.keep [(3, _), (24, _), (25, _), (26, _)] ⟨rfl, rfl, rfl, rfl, trivial⟩ ?_
    refine XC.region ?_
    refine x_v (r_add rfl rfl (by omega)) rfl ?_
    refine x_v (r_mv rfl) rfl ?_
    refine XL.nil ?_
    refine ⟨(i + 1, decide ((h.length : Int) = 32)), ?_, ?_, ⟨rfl, rfl, rfl, rfl, trivial⟩, gS⟩
    ·exact ⟨by dsimp only; omega, by dsimp only; rw [h32_snoc hh, ← Bool.and_assoc, ← hg, hg31, Bool.true_and, decide_eq_decide]; omega⟩
    ·dsimp only; omega
   ·refine x_unwant rfl rfl rfl rfl rfl ?_
    refine x_unwant rfl rfl rfl rfl rfl ?_
    refine x_unwant rfl rfl rfl rfl rfl ?_
    refine x_v (r_pk_f rfl rfl) rfl ?_
    refine x_v (r_as rfl) rfl ?_
    refine XL.nil ?_
    refine hK7 _ _ ?_
    refine XC.keep [(3, _), (24, _), (25, _), (26, _)] ⟨rfl, rfl, rfl, rfl, trivial⟩ ?_
    refine XC.region ?_
    refine x_v (r_add rfl rfl (by omega)) rfl ?_
    refine x_v (r_mv rfl) rfl ?_
    refine XL.nil ?_
    refine ⟨(i + 1, false), ?_, ?_, ⟨rfl, rfl, rfl, rfl, trivial⟩, gS⟩
    ·exact ⟨by dsimp only; omega, by dsimp only; rw [h32_snoc hh, ← Bool.and_assoc, ← hg, hg31, Bool.false_and]⟩
    ·dsimp only; omega
  ·refine XC.exit rfl ?_
   refine hK3 _ _ ?_
   refine XC.keep [(3, _)] ⟨rfl, trivial⟩ ?_
   refine XC.seq fun K9 hK9 => ?_
   refine XC.seq fun K10 hK10 => ?_
   refine XC.region ?_
   refine x_v (r_mv rfl) rfl ?_
   refine x_v (r_not rfl) rfl ?_
   refine XL.nil ?_
   refine hK10 _ _ ?_
   refine XC.keep [(38, _)] ⟨rfl, trivial⟩ ?_
   refine XC.cond rfl (fun hc2 => ?_) (fun hc2 => ?_)
   ·refine XC.seq fun K11 hK11 => ?_
    refine XC.region ?_
    refine x_v (r_as rfl) rfl ?_
    refine XL.nil ?_
    refine hK11 _ _ ?_
    refine XC.keep [(2, _)] ⟨rfl, trivial⟩ ?_
    refine XC.ret ?_
    have hf : g = shOk z hs := by rw [hg, List.take_of_length_le (by omega)]; rfl
    rw [← hf, if_neg (by (cases g with | false => decide | true => cases hc2))]
    exact fin1 rfl (⟨rfl, rfl⟩) gS
   ·refine XC.skip ?_
    refine hK9 _ _ ?_
    refine XC.keep [] trivial ?_
    refine XC.seq fun K12 hK12 => ?_
    refine XC.region ?_
    refine x_v (r_as rfl) rfl ?_
    refine XL.nil ?_
    refine hK12 _ _ ?_
    refine XC.keep [(2, _)] ⟨rfl, trivial⟩ ?_
    refine XC.ret ?_
    have hf : g = shOk z hs := by rw [hg, List.take_of_length_le (by omega)]; rfl
    rw [← hf, if_pos (by (cases g with | false => cases hc2 | true => rfl))]
    exact fin1 rfl (⟨rfl, rfl⟩) gS
end Go.Proofs.Ytheilpcbilnadaa

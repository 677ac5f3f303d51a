/- The drive's functions: 86, 47. -/
import Derived.Test.YtcmdmhmgffjknaaGreatDoorFacts
import Derived.Test.YtcmdmhmgffjknaaGreatDoorP1
import Derived.Lib.SmallJoins
import Derived.Lib.AppendIntMem
import Derived.Test.YtcmdmhmgffjknaaGreatDoorYOps12
namespace Go.Proofs.YtcmdmhmgffjknaaGreatDoor
open Go.Sx
set_option linter.unusedVariables false

theorem updV_same {f : Value → Option Value} {k : Value} {v : Option Value} (h : f k = v) : updV f k v = f := by
 funext x
 by_cases hx : x = k
 ·subst hx; rw [updV_at, h]
 ·exact updV_else _ _ _ _ hx
theorem app1_tr {W0 : World} (d mb b b8 b5 b3 b4 : Nat) (D : Dk) (f : Value → Option Value) (n s : List UInt8) (A : Option Addr) (c : Nat) (x : Fi) (Fr : List HP) (hl : x.bytes.length + s.length ≤ maxS) :
  Tr W0 Tryz.prog 86 [.pointer (some ⟨b8, 0, none⟩), .pointer (some ⟨b5, 0, none⟩), .pointer (some ⟨b3, 0, none⟩), .pointer (some ⟨b4, 0, none⟩)] (blk d 74 (dcells mb D) :: mpf mb .string f :: blk b8 79 [.pointer (some ⟨b, 0, none⟩)] :: blk b5 9 [str s] :: blk b3 38 [.pointer (some ⟨d, 0, none⟩)] :: blk b4 9 [str n] :: blk b 84 (fcells A c x) :: sl A x.bytes.length c 5 1 (bv x.bytes) :: Fr)
   (fun v Rs' => ∃ A' c', Rs' = blk b 84 (fcells A' c' { x with bytes := x.bytes ++ s }) :: sl A' (x.bytes ++ s).length c' 5 1 (bv (x.bytes ++ s)) :: blk d 74 (dcells mb D) :: mpf mb .string (updV f (str n) (some (.pointer (some ⟨b, 0, none⟩)))) :: Fr) := by
 unfold dcells fcells
 refine Entry.tr (N := 15) (rs := []) ⟨_, Tryz.func86, rfl, by kernel_rfl, rfl, rfl⟩ rfl ?_
 refine XC.seq fun K1 hK1 => ?_
 refine XC.draw (blk b8 79 [.pointer (some ⟨b, 0, none⟩)] :: blk b5 9 [str s] :: []) true [(0, false), (1, false), (2, false), (3, false), (4, true)] (by kernel_rfl) (by kernel_rfl) ?_
 refine y_v rfl (r_ld ty79 rfl pK (by rfl)) gT rfl ?_
 refine y_v rfl (r_nc rfl) gT rfl ?_
 refine y_v rfl (r_fa fo84_0 rfl) gT rfl ?_
 refine y_v rfl (r_ld ty9 rfl pK (by rfl)) gT rfl ?_
 refine y_c rfl (r_call0 (args := [_, _]) ⟨rfl, rfl, rfl⟩ (fput_tr b A x.bytes.length c x.sure x.old x.bytes s (blk d 74 [.map (some mb), .int .i64 D.fuse, .bool D.off, .int .i64 (D.steps : Int)] :: mpf mb .string f :: blk b8 79 [.pointer (some ⟨b, 0, none⟩)] :: blk b3 38 [.pointer (some ⟨d, 0, none⟩)] :: blk b4 9 [str n] :: Fr) rfl hl) gS) (fun h => absurd h (by decide)) rfl ?_
 rintro _ _ ⟨rfl, A8, c8, hRs⟩
 rw [hRs]
 refine XH.nil ?_
 refine hK1 _ _ ?_
 refine XC.keep [(0, _), (2, _), (3, _)] ⟨rfl, rfl, rfl, trivial⟩ ?_
 refine XC.draw (blk b8 79 [.pointer (some ⟨b, 0, none⟩)] :: blk b3 38 [.pointer (some ⟨d, 0, none⟩)] :: blk b4 9 [str n] :: blk d 74 [.map (some mb), .int .i64 D.fuse, .bool D.off, .int .i64 (D.steps : Int)] :: []) true [(0, false), (1, false), (2, false), (3, false), (4, false), (5, false), (6, true)] (by kernel_rfl) (by kernel_rfl) ?_
 refine y_v rfl (r_ld ty38 rfl pK (by rfl)) gT rfl ?_
 refine y_v rfl (r_nc rfl) gT rfl ?_
 refine y_v rfl (r_fa fo74_0 rfl) gT rfl ?_
 refine y_v rfl (r_ld ty72 rfl pK (by rfl)) gT rfl ?_
 refine y_v rfl (r_ld ty9 rfl pK (by rfl)) gT rfl ?_
 refine y_v rfl (r_ld ty79 rfl pK (by rfl)) gT rfl ?_
 refine y_e rfl (r_mu (updV f (str n) (some (.pointer (some ⟨b, 0, none⟩)))) Tryz.underlying72 Tryz.underlying9 rfl rfl rfl (isKey_str n) (updV_at _ _ _) (updV_else _ _ _) uD) (fun h => absurd h (by decide)) ?_
 refine XH.nil ?_
 exact fin0 (⟨A8, c8, rfl⟩) gS
theorem app_bad {W0 : World} (d mb : Nat) (D : Dk) (n s : List UInt8) (Fr : List HP) (h : readyE D n ≠ 0) : Tr W0 Tryz.prog 47 [.pointer (some ⟨d, 0, none⟩), str n, str s] (blk d 74 (dcells mb D) :: Fr) (fun v Rs' => v = .int .i64 (readyE D n) ∧ Rs' = blk d 74 (dcells mb D) :: Fr) := by
 refine Entry.tr (N := 42) (rs := [.tmp 6]) ⟨_, Tryz.func47, rfl, by kernel_rfl, rfl, rfl⟩ rfl ?_
 refine XC.seq fun K1 hK1 => ?_
 refine XC.region ?_
 refine x_a (r_bx rfl rfl) rfl fun b3 => ?_
 refine x_a (r_bx rfl rfl) rfl fun b4 => ?_
 refine x_a (r_bx rfl rfl) rfl fun b5 => ?_
 refine x_v (r_as rfl) rfl ?_
 refine XL.nil ?_
 refine hK1 _ _ ?_
 refine XC.keep [(3, _), (4, _), (5, _)] ⟨rfl, rfl, rfl, trivial⟩ ?_
 refine XC.seq fun K2 hK2 => ?_
 refine XC.seq fun K3 hK3 => ?_
 refine XC.region ?_
 refine x_v (r_ld ty38 rfl pK (by rfl)) rfl ?_
 refine x_v (r_ld ty9 rfl pK (by rfl)) rfl ?_
 refine x_c (r_call0 (args := [_, _]) ⟨rfl, rfl, rfl⟩ (ready_tr d mb D n Fr) gS) rfl ?_
 rintro _ _ ⟨rfl, hRs⟩
 rw [hRs]
 refine x_v (r_as rfl) rfl ?_
 refine XL.nil ?_
 refine hK3 _ _ ?_
 refine XC.keep [(3, _), (4, _), (5, _), (7, _)] ⟨rfl, rfl, rfl, rfl, trivial⟩ ?_
 refine XC.seq fun K4 hK4 => ?_
 refine XC.region ?_
 refine x_v (r_mv rfl) rfl ?_
 refine x_v (r_ne rfl rfl) rfl ?_
 refine XL.nil ?_
 refine hK4 _ _ ?_
 refine XC.keep [(3, _), (4, _), (5, _), (7, _), (14, _)] ⟨rfl, rfl, rfl, rfl, rfl, trivial⟩ ?_
 refine XC.cond_d rfl (fun hc1 => ?_) (fun hc1 => ?_)
 ·refine XC.seq fun K5 hK5 => ?_
  refine XC.region ?_
  refine x_v (r_mv rfl) rfl ?_
  refine x_v (r_as rfl) rfl ?_
  refine XL.nil ?_
  refine hK5 _ _ ?_
  refine XC.keep [(6, _)] ⟨rfl, trivial⟩ ?_
  refine XC.ret ?_
  exact fin1 rfl (⟨rfl, rfl⟩) gS
 ·exfalso; omega
theorem app_full_o {W0 : World} (d mb b : Nat) (A : Option Addr) (c : Nat) (x : Fi) (D : Dk) (f : Value → Option Value) (n s : List UInt8) (Fr : List HP) (h : readyE D n = 0) (hf : f (str n) = some (.pointer (some ⟨b, 0, none⟩))) (hl : 1048576 < s.length + x.bytes.length) (hx : x.bytes.length ≤ 1048576) :
  Tr W0 Tryz.prog 47 [.pointer (some ⟨d, 0, none⟩), str n, str s] (blk d 74 (dcells mb D) :: mpf mb .string f :: blk b 84 (fcells A c x) :: sl A x.bytes.length c 5 1 (bv x.bytes) :: Fr) (fun v Rs' => v = .int .i64 52 ∧ Rs' = blk d 74 (dcells mb D) :: mpf mb .string f :: blk b 84 (fcells A c x) :: sl A x.bytes.length c 5 1 (bv x.bytes) :: Fr) := by
 have hmax : maxS = 140737488355328 := rfl
 refine Entry.tr (N := 42) (rs := [.tmp 6]) ⟨_, Tryz.func47, rfl, by kernel_rfl, rfl, rfl⟩ rfl ?_
 refine XC.seq fun K1 hK1 => ?_
 refine XC.region ?_
 refine x_a (r_bx rfl rfl) rfl fun b3 => ?_
 refine x_a (r_bx rfl rfl) rfl fun b4 => ?_
 refine x_a (r_bx rfl rfl) rfl fun b5 => ?_
 refine x_v (r_as rfl) rfl ?_
 refine XL.nil ?_
 refine hK1 _ _ ?_
 refine XC.keep [(3, _), (4, _), (5, _)] ⟨rfl, rfl, rfl, trivial⟩ ?_
 refine XC.seq fun K2 hK2 => ?_
 refine XC.seq fun K3 hK3 => ?_
 refine XC.region ?_
 refine x_v (r_ld ty38 rfl pK (by rfl)) rfl ?_
 refine x_v (r_ld ty9 rfl pK (by rfl)) rfl ?_
 refine x_c (r_call0 (args := [_, _]) ⟨rfl, rfl, rfl⟩ (ready_tr d mb D n (blk b3 38 [.pointer (some ⟨d, 0, none⟩)] :: blk b4 9 [str n] :: blk b5 9 [str s] :: mpf mb .string f :: blk b 84 (fcells A c x) :: sl A x.bytes.length c 5 1 (bv x.bytes) :: Fr)) gS) rfl ?_
 rintro _ _ ⟨rfl, hRs⟩
 rw [hRs]
 refine x_v (r_as rfl) rfl ?_
 refine XL.nil ?_
 refine hK3 _ _ ?_
 refine XC.keep [(3, _), (4, _), (5, _), (7, _)] ⟨rfl, rfl, rfl, rfl, trivial⟩ ?_
 refine XC.seq fun K4 hK4 => ?_
 refine XC.region ?_
 refine x_v (r_mv rfl) rfl ?_
 refine x_v (r_ne rfl rfl) rfl ?_
 refine XL.nil ?_
 refine hK4 _ _ ?_
 refine XC.keep [(3, _), (4, _), (5, _), (7, _), (14, _)] ⟨rfl, rfl, rfl, rfl, rfl, trivial⟩ ?_
 refine XC.cond_d rfl (fun hc1 => ?_) (fun hc1 => ?_)
 ·exfalso; omega
 ·refine XC.skip ?_
  refine hK2 _ _ ?_
  refine XC.keep [(3, _), (4, _), (5, _)] ⟨rfl, rfl, rfl, trivial⟩ ?_
  refine XC.seq fun K5 hK5 => ?_
  unfold dcells
  unfold fcells
  refine XC.draw (blk d 74 [.map (some mb), .int .i64 D.fuse, .bool D.off, .int .i64 (D.steps : Int)] :: mpf mb .string f :: blk b3 38 [.pointer (some ⟨d, 0, none⟩)] :: blk b4 9 [str n] :: []) false [(0, false), (1, false), (2, false), (3, false), (4, false), (5, false), (6, false), (7, false), (8, false), (9, true), (10, true), (11, false)] (by kernel_rfl) (by kernel_rfl) ?_
  refine y_v rfl (r_ld ty38 rfl pK (by rfl)) gT rfl ?_
  refine y_v rfl (r_nc rfl) gT rfl ?_
  refine y_v rfl (r_fa fo74_0 rfl) gT rfl ?_
  refine y_v rfl (r_ld ty72 rfl pK (by rfl)) gT rfl ?_
  refine y_v rfl (r_ld ty9 rfl pK (by rfl)) gT rfl ?_
  refine y_v rfl (yv (v' := .tuple [.pointer (some ⟨b, 0, none⟩), .bool true].toArray) (r_lk Tryz.underlying72 Tryz.underlying9 ty79 rfl rfl (isKey_str n) pK) (by rw [hf]; rfl)) gT rfl ?_
  refine y_v rfl (r_mv rfl) gT rfl ?_
  refine y_v rfl (r_ex rfl rfl) gT rfl ?_
  refine y_v rfl (r_ex rfl rfl) gT rfl ?_
  refine y_a rfl (r_al ty79 rfl) (fun _ _ _ h => Gets.own gS h) rfl fun b8 => ?_
  refine y_e rfl (r_st ty79 rfl rfl rfl rfl rfl uD oV) (fun _ _ h => Gets.own gS h) ?_
  refine y_v rfl (r_as rfl) gT rfl ?_
  refine XH.nil ?_
  refine hK5 _ _ ?_
  refine XC.keep [(3, _), (4, _), (5, _), (8, _), (9, _)] ⟨rfl, rfl, rfl, rfl, rfl, trivial⟩ ?_
  refine XC.seq fun K6 hK6 => ?_
  refine XC.seq fun K7 hK7 => ?_
  refine XC.region ?_
  refine x_v (r_mv rfl) rfl ?_
  refine x_v (r_not rfl) rfl ?_
  refine XL.nil ?_
  refine hK7 _ _ ?_
  refine XC.keep [(3, _), (4, _), (5, _), (8, _), (26, _)] ⟨rfl, rfl, rfl, rfl, rfl, trivial⟩ ?_
  refine XC.cond_f rfl ?_
  refine XC.skip ?_
  refine hK6 _ _ ?_
  refine XC.keep [(3, _), (4, _), (5, _), (8, _)] ⟨rfl, rfl, rfl, rfl, trivial⟩ ?_
  refine XC.seq fun K8 hK8 => ?_
  refine XC.seq fun K9 hK9 => ?_
  refine XC.draw (blk b5 9 [str s] :: blk b8 79 [.pointer (some ⟨b, 0, none⟩)] :: blk b 84 [.slice A x.bytes.length c, .int .i64 (x.sure : Int), .bool x.old] :: []) false [(0, false), (1, false), (2, false), (3, false), (4, false), (5, false), (6, false), (7, false), (8, false), (9, false)] (by kernel_rfl) (by kernel_rfl) ?_
  refine y_v rfl (r_ld ty9 rfl pK (by rfl)) gT rfl ?_
  refine y_v rfl (r_lens Tryz.underlying9 rfl) gT rfl ?_
  refine y_v rfl (r_ld ty79 rfl pK (by rfl)) gT rfl ?_
  refine y_v rfl (r_nc rfl) gT rfl ?_
  refine y_v rfl (r_fa fo84_0 rfl) gT rfl ?_
  refine y_v rfl (r_fa fo82_0 rfl) gT rfl ?_
  refine y_v rfl (r_ld ty80 rfl pK (by rfl)) gT rfl ?_
  refine y_v rfl (r_lensl Tryz.underlying80 rfl) gT rfl ?_
  refine y_v rfl (r_sub rfl rfl (by omega)) gT rfl ?_
  refine y_v rfl (r_gt rfl rfl) gT rfl ?_
  refine XH.nil ?_
  refine hK9 _ _ ?_
  refine XC.keep [(3, _), (4, _), (5, _), (8, _), (38, _)] ⟨rfl, rfl, rfl, rfl, rfl, trivial⟩ ?_
  refine XC.cond_d rfl (fun hc3 => ?_) (fun hc3 => ?_)
  ·refine XC.seq fun K10 hK10 => ?_
   refine XC.region ?_
   refine x_v (r_as rfl) rfl ?_
   refine XL.nil ?_
   refine hK10 _ _ ?_
   refine XC.keep [(6, _)] ⟨rfl, trivial⟩ ?_
   refine XC.ret ?_
   exact fin1 rfl (⟨rfl, rfl⟩) gS
  ·exfalso; omega
theorem app_0_o {W0 : World} (d mb b : Nat) (A : Option Addr) (c : Nat) (x : Fi) (D : Dk) (f : Value → Option Value) (n s : List UInt8) (Fr : List HP) (h : readyE D n = 0) (hf : f (str n) = some (.pointer (some ⟨b, 0, none⟩))) (hl : s.length + x.bytes.length ≤ 1048576) (h0 : D.fuse = 0) :
  Tr W0 Tryz.prog 47 [.pointer (some ⟨d, 0, none⟩), str n, str s] (blk d 74 (dcells mb D) :: mpf mb .string f :: blk b 84 (fcells A c x) :: sl A x.bytes.length c 5 1 (bv x.bytes) :: Fr) (fun v Rs' => v = .int .i64 50 ∧ Rs' = blk d 74 (dcells mb { D with off := true }) :: mpf mb .string f :: blk b 84 (fcells A c x) :: sl A x.bytes.length c 5 1 (bv x.bytes) :: Fr) := by
 have hmax : maxS = 140737488355328 := rfl
 refine Entry.tr (N := 42) (rs := [.tmp 6]) ⟨_, Tryz.func47, rfl, by kernel_rfl, rfl, rfl⟩ rfl ?_
 refine XC.seq fun K1 hK1 => ?_
 refine XC.region ?_
 refine x_a (r_bx rfl rfl) rfl fun b3 => ?_
 refine x_a (r_bx rfl rfl) rfl fun b4 => ?_
 refine x_a (r_bx rfl rfl) rfl fun b5 => ?_
 refine x_v (r_as rfl) rfl ?_
 refine XL.nil ?_
 refine hK1 _ _ ?_
 refine XC.keep [(3, _), (4, _), (5, _)] ⟨rfl, rfl, rfl, trivial⟩ ?_
 refine XC.seq fun K2 hK2 => ?_
 refine XC.seq fun K3 hK3 => ?_
 refine XC.region ?_
 refine x_v (r_ld ty38 rfl pK (by rfl)) rfl ?_
 refine x_v (r_ld ty9 rfl pK (by rfl)) rfl ?_
 refine x_c (r_call0 (args := [_, _]) ⟨rfl, rfl, rfl⟩ (ready_tr d mb D n (blk b3 38 [.pointer (some ⟨d, 0, none⟩)] :: blk b4 9 [str n] :: blk b5 9 [str s] :: mpf mb .string f :: blk b 84 (fcells A c x) :: sl A x.bytes.length c 5 1 (bv x.bytes) :: Fr)) gS) rfl ?_
 rintro _ _ ⟨rfl, hRs⟩
 rw [hRs]
 refine x_v (r_as rfl) rfl ?_
 refine XL.nil ?_
 refine hK3 _ _ ?_
 refine XC.keep [(3, _), (4, _), (5, _), (7, _)] ⟨rfl, rfl, rfl, rfl, trivial⟩ ?_
 refine XC.seq fun K4 hK4 => ?_
 refine XC.region ?_
 refine x_v (r_mv rfl) rfl ?_
 refine x_v (r_ne rfl rfl) rfl ?_
 refine XL.nil ?_
 refine hK4 _ _ ?_
 refine XC.keep [(3, _), (4, _), (5, _), (7, _), (14, _)] ⟨rfl, rfl, rfl, rfl, rfl, trivial⟩ ?_
 refine XC.cond_d rfl (fun hc1 => ?_) (fun hc1 => ?_)
 ·exfalso; omega
 ·refine XC.skip ?_
  refine hK2 _ _ ?_
  refine XC.keep [(3, _), (4, _), (5, _)] ⟨rfl, rfl, rfl, trivial⟩ ?_
  refine XC.seq fun K5 hK5 => ?_
  unfold dcells
  unfold fcells
  refine XC.draw (blk d 74 [.map (some mb), .int .i64 D.fuse, .bool D.off, .int .i64 (D.steps : Int)] :: mpf mb .string f :: blk b3 38 [.pointer (some ⟨d, 0, none⟩)] :: blk b4 9 [str n] :: []) false [(0, false), (1, false), (2, false), (3, false), (4, false), (5, false), (6, false), (7, false), (8, false), (9, true), (10, true), (11, false)] (by kernel_rfl) (by kernel_rfl) ?_
  refine y_v rfl (r_ld ty38 rfl pK (by rfl)) gT rfl ?_
  refine y_v rfl (r_nc rfl) gT rfl ?_
  refine y_v rfl (r_fa fo74_0 rfl) gT rfl ?_
  refine y_v rfl (r_ld ty72 rfl pK (by rfl)) gT rfl ?_
  refine y_v rfl (r_ld ty9 rfl pK (by rfl)) gT rfl ?_
  refine y_v rfl (yv (v' := .tuple [.pointer (some ⟨b, 0, none⟩), .bool true].toArray) (r_lk Tryz.underlying72 Tryz.underlying9 ty79 rfl rfl (isKey_str n) pK) (by rw [hf]; rfl)) gT rfl ?_
  refine y_v rfl (r_mv rfl) gT rfl ?_
  refine y_v rfl (r_ex rfl rfl) gT rfl ?_
  refine y_v rfl (r_ex rfl rfl) gT rfl ?_
  refine y_a rfl (r_al ty79 rfl) (fun _ _ _ h => Gets.own gS h) rfl fun b8 => ?_
  refine y_e rfl (r_st ty79 rfl rfl rfl rfl rfl uD oV) (fun _ _ h => Gets.own gS h) ?_
  refine y_v rfl (r_as rfl) gT rfl ?_
  refine XH.nil ?_
  refine hK5 _ _ ?_
  refine XC.keep [(3, _), (4, _), (5, _), (8, _), (9, _)] ⟨rfl, rfl, rfl, rfl, rfl, trivial⟩ ?_
  refine XC.seq fun K6 hK6 => ?_
  refine XC.seq fun K7 hK7 => ?_
  refine XC.region ?_
  refine x_v (r_mv rfl) rfl ?_
  refine x_v (r_not rfl) rfl ?_
  refine XL.nil ?_
  refine hK7 _ _ ?_
  refine XC.keep [(3, _), (4, _), (5, _), (8, _), (26, _)] ⟨rfl, rfl, rfl, rfl, rfl, trivial⟩ ?_
  refine XC.cond_f rfl ?_
  refine XC.skip ?_
  refine hK6 _ _ ?_
  refine XC.keep [(3, _), (4, _), (5, _), (8, _)] ⟨rfl, rfl, rfl, rfl, trivial⟩ ?_
  refine XC.seq fun K8 hK8 => ?_
  refine XC.seq fun K9 hK9 => ?_
  refine XC.draw (blk b5 9 [str s] :: blk b8 79 [.pointer (some ⟨b, 0, none⟩)] :: blk b 84 [.slice A x.bytes.length c, .int .i64 (x.sure : Int), .bool x.old] :: []) false [(0, false), (1, false), (2, false), (3, false), (4, false), (5, false), (6, false), (7, false), (8, false), (9, false)] (by kernel_rfl) (by kernel_rfl) ?_
  refine y_v rfl (r_ld ty9 rfl pK (by rfl)) gT rfl ?_
  refine y_v rfl (r_lens Tryz.underlying9 rfl) gT rfl ?_
  refine y_v rfl (r_ld ty79 rfl pK (by rfl)) gT rfl ?_
  refine y_v rfl (r_nc rfl) gT rfl ?_
  refine y_v rfl (r_fa fo84_0 rfl) gT rfl ?_
  refine y_v rfl (r_fa fo82_0 rfl) gT rfl ?_
  refine y_v rfl (r_ld ty80 rfl pK (by rfl)) gT rfl ?_
  refine y_v rfl (r_lensl Tryz.underlying80 rfl) gT rfl ?_
  refine y_v rfl (r_sub rfl rfl (by omega)) gT rfl ?_
  refine y_v rfl (r_gt rfl rfl) gT rfl ?_
  refine XH.nil ?_
  refine hK9 _ _ ?_
  refine XC.keep [(3, _), (4, _), (5, _), (8, _), (38, _)] ⟨rfl, rfl, rfl, rfl, rfl, trivial⟩ ?_
  refine XC.cond_d rfl (fun hc3 => ?_) (fun hc3 => ?_)
  ·exfalso; omega
  ·refine XC.skip ?_
   refine hK8 _ _ ?_
   refine XC.keep [(3, _), (4, _), (5, _), (8, _)] ⟨rfl, rfl, rfl, rfl, trivial⟩ ?_
   refine XC.seq fun K10 hK10 => ?_
   change XC _ _ _ _ (blk b8 79 [.pointer (some ⟨b, 0, none⟩)] :: blk d 74 (dcells mb D) :: blk b3 38 [.pointer (some ⟨d, 0, none⟩)] :: blk b4 9 [str n] :: blk b5 9 [str s] :: mpf mb .string f :: blk b 84 (fcells A c x) :: sl A x.bytes.length c 5 1 (bv x.bytes) :: Fr)
   refine XC.region ?_
   refine x_v (r_ld ty38 rfl pK (by rfl)) rfl ?_
   refine x_v (r_mfv (cs := [_, _, _, _]) ⟨rfl, rfl, rfl, rfl, rfl⟩) rfl ?_
   refine x_c (r_call0 (args := [_, _]) ⟨rfl, rfl, rfl⟩ (step0_tr d mb D _ (mpf mb .string f :: blk b 84 (fcells A c x) :: sl A x.bytes.length c 5 1 (bv x.bytes) :: Fr) h0) gS) rfl ?_
   rintro _ _ ⟨rfl, hRs⟩
   rw [hRs]
   refine x_v (r_as rfl) rfl ?_
   refine XL.nil ?_
   refine hK10 _ _ ?_
   refine XC.keep [(6, _)] ⟨rfl, trivial⟩ ?_
   refine XC.ret ?_
   exact fin1 rfl (⟨rfl, rfl⟩) gS
theorem app_1_o {W0 : World} (d mb b : Nat) (A : Option Addr) (c : Nat) (x : Fi) (D : Dk) (f : Value → Option Value) (n s : List UInt8) (Fr : List HP) (Q : List HP → Prop) (h : readyE D n = 0) (hf : f (str n) = some (.pointer (some ⟨b, 0, none⟩))) (hl : s.length + x.bytes.length ≤ 1048576) (h0 : D.fuse ≠ 0) (hfu : -1 ≤ D.fuse ∧ D.fuse < 9223372036854775808) (hs : D.steps ≤ 1000000000)
  (hQ : ∀ A' c', Q (blk b 84 (fcells A' c' { x with bytes := x.bytes ++ s }) :: sl A' (x.bytes ++ s).length c' 5 1 (bv (x.bytes ++ s)) :: blk d 74 (dcells mb (stepD D)) :: mpf mb .string (updV f (str n) (some (.pointer (some ⟨b, 0, none⟩)))) :: Fr)) :
  Tr W0 Tryz.prog 47 [.pointer (some ⟨d, 0, none⟩), str n, str s] (blk d 74 (dcells mb D) :: mpf mb .string f :: blk b 84 (fcells A c x) :: sl A x.bytes.length c 5 1 (bv x.bytes) :: Fr) (fun v Rs' => v = .int .i64 0 ∧ Q Rs') := by
 have hmax : maxS = 140737488355328 := rfl
 refine Entry.tr (N := 42) (rs := [.tmp 6]) ⟨_, Tryz.func47, rfl, by kernel_rfl, rfl, rfl⟩ rfl ?_
 refine XC.seq fun K1 hK1 => ?_
 refine XC.region ?_
 refine x_a (r_bx rfl rfl) rfl fun b3 => ?_
 refine x_a (r_bx rfl rfl) rfl fun b4 => ?_
 refine x_a (r_bx rfl rfl) rfl fun b5 => ?_
 refine x_v (r_as rfl) rfl ?_
 refine XL.nil ?_
 refine hK1 _ _ ?_
 refine XC.keep [(3, _), (4, _), (5, _)] ⟨rfl, rfl, rfl, trivial⟩ ?_
 refine XC.seq fun K2 hK2 => ?_
 refine XC.seq fun K3 hK3 => ?_
 refine XC.region ?_
 refine x_v (r_ld ty38 rfl pK (by rfl)) rfl ?_
 refine x_v (r_ld ty9 rfl pK (by rfl)) rfl ?_
 refine x_c (r_call0 (args := [_, _]) ⟨rfl, rfl, rfl⟩ (ready_tr d mb D n (blk b3 38 [.pointer (some ⟨d, 0, none⟩)] :: blk b4 9 [str n] :: blk b5 9 [str s] :: mpf mb .string f :: blk b 84 (fcells A c x) :: sl A x.bytes.length c 5 1 (bv x.bytes) :: Fr)) gS) rfl ?_
 rintro _ _ ⟨rfl, hRs⟩
 rw [hRs]
 refine x_v (r_as rfl) rfl ?_
 refine XL.nil ?_
 refine hK3 _ _ ?_
 refine XC.keep [(3, _), (4, _), (5, _), (7, _)] ⟨rfl, rfl, rfl, rfl, trivial⟩ ?_
 refine XC.seq fun K4 hK4 => ?_
 refine XC.region ?_
 refine x_v (r_mv rfl) rfl ?_
 refine x_v (r_ne rfl rfl) rfl ?_
 refine XL.nil ?_
 refine hK4 _ _ ?_
 refine XC.keep [(3, _), (4, _), (5, _), (7, _), (14, _)] ⟨rfl, rfl, rfl, rfl, rfl, trivial⟩ ?_
 refine XC.cond_d rfl (fun hc1 => ?_) (fun hc1 => ?_)
 ·exfalso; omega
 ·refine XC.skip ?_
  refine hK2 _ _ ?_
  refine XC.keep [(3, _), (4, _), (5, _)] ⟨rfl, rfl, rfl, trivial⟩ ?_
  refine XC.seq fun K5 hK5 => ?_
  unfold dcells
  unfold fcells
  refine XC.draw (blk d 74 [.map (some mb), .int .i64 D.fuse, .bool D.off, .int .i64 (D.steps : Int)] :: mpf mb .string f :: blk b3 38 [.pointer (some ⟨d, 0, none⟩)] :: blk b4 9 [str n] :: []) false [(0, false), (1, false), (2, false), (3, false), (4, false), (5, false), (6, false), (7, false), (8, false), (9, true), (10, true), (11, false)] (by kernel_rfl) (by kernel_rfl) ?_
  refine y_v rfl (r_ld ty38 rfl pK (by rfl)) gT rfl ?_
  refine y_v rfl (r_nc rfl) gT rfl ?_
  refine y_v rfl (r_fa fo74_0 rfl) gT rfl ?_
  refine y_v rfl (r_ld ty72 rfl pK (by rfl)) gT rfl ?_
  refine y_v rfl (r_ld ty9 rfl pK (by rfl)) gT rfl ?_
  refine y_v rfl (yv (v' := .tuple [.pointer (some ⟨b, 0, none⟩), .bool true].toArray) (r_lk Tryz.underlying72 Tryz.underlying9 ty79 rfl rfl (isKey_str n) pK) (by rw [hf]; rfl)) gT rfl ?_
  refine y_v rfl (r_mv rfl) gT rfl ?_
  refine y_v rfl (r_ex rfl rfl) gT rfl ?_
  refine y_v rfl (r_ex rfl rfl) gT rfl ?_
  refine y_a rfl (r_al ty79 rfl) (fun _ _ _ h => Gets.own gS h) rfl fun b8 => ?_
  refine y_e rfl (r_st ty79 rfl rfl rfl rfl rfl uD oV) (fun _ _ h => Gets.own gS h) ?_
  refine y_v rfl (r_as rfl) gT rfl ?_
  refine XH.nil ?_
  refine hK5 _ _ ?_
  refine XC.keep [(3, _), (4, _), (5, _), (8, _), (9, _)] ⟨rfl, rfl, rfl, rfl, rfl, trivial⟩ ?_
  refine XC.seq fun K6 hK6 => ?_
  refine XC.seq fun K7 hK7 => ?_
  refine XC.region ?_
  refine x_v (r_mv rfl) rfl ?_
  refine x_v (r_not rfl) rfl ?_
  refine XL.nil ?_
  refine hK7 _ _ ?_
  refine XC.keep [(3, _), (4, _), (5, _), (8, _), (26, _)] ⟨rfl, rfl, rfl, rfl, rfl, trivial⟩ ?_
  refine XC.cond_f rfl ?_
  refine XC.skip ?_
  refine hK6 _ _ ?_
  refine XC.keep [(3, _), (4, _), (5, _), (8, _)] ⟨rfl, rfl, rfl, rfl, trivial⟩ ?_
  refine XC.seq fun K8 hK8 => ?_
  refine XC.seq fun K9 hK9 => ?_
  refine XC.draw (blk b5 9 [str s] :: blk b8 79 [.pointer (some ⟨b, 0, none⟩)] :: blk b 84 [.slice A x.bytes.length c, .int .i64 (x.sure : Int), .bool x.old] :: []) false [(0, false), (1, false), (2, false), (3, false), (4, false), (5, false), (6, false), (7, false), (8, false), (9, false)] (by kernel_rfl) (by kernel_rfl) ?_
  refine y_v rfl (r_ld ty9 rfl pK (by rfl)) gT rfl ?_
  refine y_v rfl (r_lens Tryz.underlying9 rfl) gT rfl ?_
  refine y_v rfl (r_ld ty79 rfl pK (by rfl)) gT rfl ?_
  refine y_v rfl (r_nc rfl) gT rfl ?_
  refine y_v rfl (r_fa fo84_0 rfl) gT rfl ?_
  refine y_v rfl (r_fa fo82_0 rfl) gT rfl ?_
  refine y_v rfl (r_ld ty80 rfl pK (by rfl)) gT rfl ?_
  refine y_v rfl (r_lensl Tryz.underlying80 rfl) gT rfl ?_
  refine y_v rfl (r_sub rfl rfl (by omega)) gT rfl ?_
  refine y_v rfl (r_gt rfl rfl) gT rfl ?_
  refine XH.nil ?_
  refine hK9 _ _ ?_
  refine XC.keep [(3, _), (4, _), (5, _), (8, _), (38, _)] ⟨rfl, rfl, rfl, rfl, rfl, trivial⟩ ?_
  refine XC.cond_d rfl (fun hc3 => ?_) (fun hc3 => ?_)
  ·exfalso; omega
  ·refine XC.skip ?_
   refine hK8 _ _ ?_
   refine XC.keep [(3, _), (4, _), (5, _), (8, _)] ⟨rfl, rfl, rfl, rfl, trivial⟩ ?_
   refine XC.seq fun K10 hK10 => ?_
   change XC _ _ _ _ (blk b8 79 [.pointer (some ⟨b, 0, none⟩)] :: blk d 74 (dcells mb D) :: blk b3 38 [.pointer (some ⟨d, 0, none⟩)] :: blk b4 9 [str n] :: blk b5 9 [str s] :: mpf mb .string f :: blk b 84 (fcells A c x) :: sl A x.bytes.length c 5 1 (bv x.bytes) :: Fr)
   refine XC.region ?_
   refine x_v (r_ld ty38 rfl pK (by rfl)) rfl ?_
   refine x_v (r_mfv (cs := [_, _, _, _]) ⟨rfl, rfl, rfl, rfl, rfl⟩) rfl ?_
   refine x_c (r_call0 (args := [_, _]) ⟨rfl, rfl, rfl⟩ (step1_tr d mb D 86 [.pointer (some ⟨b8, 0, none⟩), .pointer (some ⟨b5, 0, none⟩), .pointer (some ⟨b3, 0, none⟩), .pointer (some ⟨b4, 0, none⟩)] (mpf mb .string f :: blk b8 79 [.pointer (some ⟨b, 0, none⟩)] :: blk b5 9 [str s] :: blk b3 38 [.pointer (some ⟨d, 0, none⟩)] :: blk b4 9 [str n] :: blk b 84 (fcells A c x) :: sl A x.bytes.length c 5 1 (bv x.bytes) :: Fr) Q h0 hfu hs ((app1_tr d mb b b8 b5 b3 b4 (stepD D) f n s A c x Fr (by first | omega | (simp only [List.length_nil]; omega))).mono fun v Rs2 ⟨A2, c2, e2⟩ => e2 ▸ hQ A2 c2)) gS) rfl ?_
   rintro _ _ ⟨rfl, hq⟩
   refine x_v (r_as rfl) rfl ?_
   refine XL.nil ?_
   refine hK10 _ _ ?_
   refine XC.keep [(6, _)] ⟨rfl, trivial⟩ ?_
   refine XC.ret ?_
   exact fin1 rfl (⟨rfl, hq⟩) gS
theorem app_full_n {W0 : World} (d mb : Nat) (D : Dk) (f : Value → Option Value) (n s : List UInt8) (Fr : List HP) (h : readyE D n = 0) (hf : f (str n) = none) (hl : 1048576 < s.length) :
  Tr W0 Tryz.prog 47 [.pointer (some ⟨d, 0, none⟩), str n, str s] (blk d 74 (dcells mb D) :: mpf mb .string f :: Fr) (fun v Rs' => v = .int .i64 52 ∧ Rs' = blk d 74 (dcells mb D) :: mpf mb .string f :: Fr) := by
 have hmax : maxS = 140737488355328 := rfl
 refine Entry.tr (N := 42) (rs := [.tmp 6]) ⟨_, Tryz.func47, rfl, by kernel_rfl, rfl, rfl⟩ rfl ?_
 refine XC.seq fun K1 hK1 => ?_
 refine XC.region ?_
 refine x_a (r_bx rfl rfl) rfl fun b3 => ?_
 refine x_a (r_bx rfl rfl) rfl fun b4 => ?_
 refine x_a (r_bx rfl rfl) rfl fun b5 => ?_
 refine x_v (r_as rfl) rfl ?_
 refine XL.nil ?_
 refine hK1 _ _ ?_
 refine XC.keep [(3, _), (4, _), (5, _)] ⟨rfl, rfl, rfl, trivial⟩ ?_
 refine XC.seq fun K2 hK2 => ?_
 refine XC.seq fun K3 hK3 => ?_
 refine XC.region ?_
 refine x_v (r_ld ty38 rfl pK (by rfl)) rfl ?_
 refine x_v (r_ld ty9 rfl pK (by rfl)) rfl ?_
 refine x_c (r_call0 (args := [_, _]) ⟨rfl, rfl, rfl⟩ (ready_tr d mb D n (blk b3 38 [.pointer (some ⟨d, 0, none⟩)] :: blk b4 9 [str n] :: blk b5 9 [str s] :: mpf mb .string f :: Fr)) gS) rfl ?_
 rintro _ _ ⟨rfl, hRs⟩
 rw [hRs]
 refine x_v (r_as rfl) rfl ?_
 refine XL.nil ?_
 refine hK3 _ _ ?_
 refine XC.keep [(3, _), (4, _), (5, _), (7, _)] ⟨rfl, rfl, rfl, rfl, trivial⟩ ?_
 refine XC.seq fun K4 hK4 => ?_
 refine XC.region ?_
 refine x_v (r_mv rfl) rfl ?_
 refine x_v (r_ne rfl rfl) rfl ?_
 refine XL.nil ?_
 refine hK4 _ _ ?_
 refine XC.keep [(3, _), (4, _), (5, _), (7, _), (14, _)] ⟨rfl, rfl, rfl, rfl, rfl, trivial⟩ ?_
 refine XC.cond_d rfl (fun hc1 => ?_) (fun hc1 => ?_)
 ·exfalso; omega
 ·refine XC.skip ?_
  refine hK2 _ _ ?_
  refine XC.keep [(3, _), (4, _), (5, _)] ⟨rfl, rfl, rfl, trivial⟩ ?_
  refine XC.seq fun K5 hK5 => ?_
  unfold dcells
  refine XC.draw (blk d 74 [.map (some mb), .int .i64 D.fuse, .bool D.off, .int .i64 (D.steps : Int)] :: mpf mb .string f :: blk b3 38 [.pointer (some ⟨d, 0, none⟩)] :: blk b4 9 [str n] :: []) false [(0, false), (1, false), (2, false), (3, false), (4, false), (5, false), (6, false), (7, false), (8, false), (9, true), (10, true), (11, false)] (by kernel_rfl) (by kernel_rfl) ?_
  refine y_v rfl (r_ld ty38 rfl pK (by rfl)) gT rfl ?_
  refine y_v rfl (r_nc rfl) gT rfl ?_
  refine y_v rfl (r_fa fo74_0 rfl) gT rfl ?_
  refine y_v rfl (r_ld ty72 rfl pK (by rfl)) gT rfl ?_
  refine y_v rfl (r_ld ty9 rfl pK (by rfl)) gT rfl ?_
  refine y_v rfl (yv (v' := .tuple [.pointer none, .bool false].toArray) (r_lk Tryz.underlying72 Tryz.underlying9 ty79 rfl rfl (isKey_str n) pK) (by rw [hf]; rfl)) gT rfl ?_
  refine y_v rfl (r_mv rfl) gT rfl ?_
  refine y_v rfl (r_ex rfl rfl) gT rfl ?_
  refine y_v rfl (r_ex rfl rfl) gT rfl ?_
  refine y_a rfl (r_al ty79 rfl) (fun _ _ _ h => Gets.own gS h) rfl fun b8 => ?_
  refine y_e rfl (r_st ty79 rfl rfl rfl rfl rfl uD oV) (fun _ _ h => Gets.own gS h) ?_
  refine y_v rfl (r_as rfl) gT rfl ?_
  refine XH.nil ?_
  refine hK5 _ _ ?_
  refine XC.keep [(3, _), (4, _), (5, _), (8, _), (9, _)] ⟨rfl, rfl, rfl, rfl, rfl, trivial⟩ ?_
  refine XC.seq fun K6 hK6 => ?_
  refine XC.seq fun K7 hK7 => ?_
  refine XC.region ?_
  refine x_v (r_mv rfl) rfl ?_
  refine x_v (r_not rfl) rfl ?_
  refine XL.nil ?_
  refine hK7 _ _ ?_
  refine XC.keep [(3, _), (4, _), (5, _), (8, _), (26, _)] ⟨rfl, rfl, rfl, rfl, rfl, trivial⟩ ?_
  refine XC.cond_t rfl ?_
  refine XC.region ?_
  refine x_v (r_bd (vs := []) rfl rfl bd84_z) rfl ?_
  refine x_a (r_bx rfl rfl) rfl fun b28 => ?_
  refine XL.nil_ 5 1 ?_
  refine x_e (r_st ty79 rfl rfl rfl rfl rfl uD oV) ?_
  refine XL.nil ?_
  refine hK6 _ _ ?_
  refine XC.keep [(3, _), (4, _), (5, _), (8, _)] ⟨rfl, rfl, rfl, rfl, trivial⟩ ?_
  refine XC.seq fun K8 hK8 => ?_
  refine XC.seq fun K9 hK9 => ?_
  refine XC.draw (blk b5 9 [str s] :: blk b8 79 [.pointer (some ⟨b28, 0, none⟩)] :: blk b28 84 [.slice none 0 0, .int .i64 0, .bool false] :: []) false [(0, false), (1, false), (2, false), (3, false), (4, false), (5, false), (6, false), (7, false), (8, false), (9, false)] (by kernel_rfl) (by kernel_rfl) ?_
  refine y_v rfl (r_ld ty9 rfl pK (by rfl)) gT rfl ?_
  refine y_v rfl (r_lens Tryz.underlying9 rfl) gT rfl ?_
  refine y_v rfl (r_ld ty79 rfl pK (by rfl)) gT rfl ?_
  refine y_v rfl (r_nc rfl) gT rfl ?_
  refine y_v rfl (r_fa fo84_0 rfl) gT rfl ?_
  refine y_v rfl (r_fa fo82_0 rfl) gT rfl ?_
  refine y_v rfl (r_ld ty80 rfl pK (by rfl)) gT rfl ?_
  refine y_v rfl (r_lensl Tryz.underlying80 rfl) gT rfl ?_
  refine y_v rfl (r_sub rfl rfl (by omega)) gT rfl ?_
  refine y_v rfl (r_gt rfl rfl) gT rfl ?_
  refine XH.nil ?_
  refine hK9 _ _ ?_
  refine XC.keep [(3, _), (4, _), (5, _), (8, _), (38, _)] ⟨rfl, rfl, rfl, rfl, rfl, trivial⟩ ?_
  refine XC.cond_d rfl (fun hc3 => ?_) (fun hc3 => ?_)
  ·refine XC.seq fun K10 hK10 => ?_
   refine XC.region ?_
   refine x_v (r_as rfl) rfl ?_
   refine XL.nil ?_
   refine hK10 _ _ ?_
   refine XC.keep [(6, _)] ⟨rfl, trivial⟩ ?_
   refine XC.ret ?_
   exact fin1 rfl (⟨rfl, rfl⟩) gS
  ·exfalso; omega
theorem app_0_n {W0 : World} (d mb : Nat) (D : Dk) (f : Value → Option Value) (n s : List UInt8) (Fr : List HP) (h : readyE D n = 0) (hf : f (str n) = none) (hl : s.length ≤ 1048576) (h0 : D.fuse = 0) :
  Tr W0 Tryz.prog 47 [.pointer (some ⟨d, 0, none⟩), str n, str s] (blk d 74 (dcells mb D) :: mpf mb .string f :: Fr) (fun v Rs' => v = .int .i64 50 ∧ Rs' = blk d 74 (dcells mb { D with off := true }) :: mpf mb .string f :: Fr) := by
 have hmax : maxS = 140737488355328 := rfl
 refine Entry.tr (N := 42) (rs := [.tmp 6]) ⟨_, Tryz.func47, rfl, by kernel_rfl, rfl, rfl⟩ rfl ?_
 refine XC.seq fun K1 hK1 => ?_
 refine XC.region ?_
 refine x_a (r_bx rfl rfl) rfl fun b3 => ?_
 refine x_a (r_bx rfl rfl) rfl fun b4 => ?_
 refine x_a (r_bx rfl rfl) rfl fun b5 => ?_
 refine x_v (r_as rfl) rfl ?_
 refine XL.nil ?_
 refine hK1 _ _ ?_
 refine XC.keep [(3, _), (4, _), (5, _)] ⟨rfl, rfl, rfl, trivial⟩ ?_
 refine XC.seq fun K2 hK2 => ?_
 refine XC.seq fun K3 hK3 => ?_
 refine XC.region ?_
 refine x_v (r_ld ty38 rfl pK (by rfl)) rfl ?_
 refine x_v (r_ld ty9 rfl pK (by rfl)) rfl ?_
 refine x_c (r_call0 (args := [_, _]) ⟨rfl, rfl, rfl⟩ (ready_tr d mb D n (blk b3 38 [.pointer (some ⟨d, 0, none⟩)] :: blk b4 9 [str n] :: blk b5 9 [str s] :: mpf mb .string f :: Fr)) gS) rfl ?_
 rintro _ _ ⟨rfl, hRs⟩
 rw [hRs]
 refine x_v (r_as rfl) rfl ?_
 refine XL.nil ?_
 refine hK3 _ _ ?_
 refine XC.keep [(3, _), (4, _), (5, _), (7, _)] ⟨rfl, rfl, rfl, rfl, trivial⟩ ?_
 refine XC.seq fun K4 hK4 => ?_
 refine XC.region ?_
 refine x_v (r_mv rfl) rfl ?_
 refine x_v (r_ne rfl rfl) rfl ?_
 refine XL.nil ?_
 refine hK4 _ _ ?_
 refine XC.keep [(3, _), (4, _), (5, _), (7, _), (14, _)] ⟨rfl, rfl, rfl, rfl, rfl, trivial⟩ ?_
 refine XC.cond_d rfl (fun hc1 => ?_) (fun hc1 => ?_)
 ·exfalso; omega
 ·refine XC.skip ?_
  refine hK2 _ _ ?_
  refine XC.keep [(3, _), (4, _), (5, _)] ⟨rfl, rfl, rfl, trivial⟩ ?_
  refine XC.seq fun K5 hK5 => ?_
  unfold dcells
  refine XC.draw (blk d 74 [.map (some mb), .int .i64 D.fuse, .bool D.off, .int .i64 (D.steps : Int)] :: mpf mb .string f :: blk b3 38 [.pointer (some ⟨d, 0, none⟩)] :: blk b4 9 [str n] :: []) false [(0, false), (1, false), (2, false), (3, false), (4, false), (5, false), (6, false), (7, false), (8, false), (9, true), (10, true), (11, false)] (by kernel_rfl) (by kernel_rfl) ?_
  refine y_v rfl (r_ld ty38 rfl pK (by rfl)) gT rfl ?_
  refine y_v rfl (r_nc rfl) gT rfl ?_
  refine y_v rfl (r_fa fo74_0 rfl) gT rfl ?_
  refine y_v rfl (r_ld ty72 rfl pK (by rfl)) gT rfl ?_
  refine y_v rfl (r_ld ty9 rfl pK (by rfl)) gT rfl ?_
  refine y_v rfl (yv (v' := .tuple [.pointer none, .bool false].toArray) (r_lk Tryz.underlying72 Tryz.underlying9 ty79 rfl rfl (isKey_str n) pK) (by rw [hf]; rfl)) gT rfl ?_
  refine y_v rfl (r_mv rfl) gT rfl ?_
  refine y_v rfl (r_ex rfl rfl) gT rfl ?_
  refine y_v rfl (r_ex rfl rfl) gT rfl ?_
  refine y_a rfl (r_al ty79 rfl) (fun _ _ _ h => Gets.own gS h) rfl fun b8 => ?_
  refine y_e rfl (r_st ty79 rfl rfl rfl rfl rfl uD oV) (fun _ _ h => Gets.own gS h) ?_
  refine y_v rfl (r_as rfl) gT rfl ?_
  refine XH.nil ?_
  refine hK5 _ _ ?_
  refine XC.keep [(3, _), (4, _), (5, _), (8, _), (9, _)] ⟨rfl, rfl, rfl, rfl, rfl, trivial⟩ ?_
  refine XC.seq fun K6 hK6 => ?_
  refine XC.seq fun K7 hK7 => ?_
  refine XC.region ?_
  refine x_v (r_mv rfl) rfl ?_
  refine x_v (r_not rfl) rfl ?_
  refine XL.nil ?_
  refine hK7 _ _ ?_
  refine XC.keep [(3, _), (4, _), (5, _), (8, _), (26, _)] ⟨rfl, rfl, rfl, rfl, rfl, trivial⟩ ?_
  refine XC.cond_t rfl ?_
  refine XC.region ?_
  refine x_v (r_bd (vs := []) rfl rfl bd84_z) rfl ?_
  refine x_a (r_bx rfl rfl) rfl fun b28 => ?_
  refine XL.nil_ 5 1 ?_
  refine x_e (r_st ty79 rfl rfl rfl rfl rfl uD oV) ?_
  refine XL.nil ?_
  refine hK6 _ _ ?_
  refine XC.keep [(3, _), (4, _), (5, _), (8, _)] ⟨rfl, rfl, rfl, rfl, trivial⟩ ?_
  refine XC.seq fun K8 hK8 => ?_
  refine XC.seq fun K9 hK9 => ?_
  refine XC.draw (blk b5 9 [str s] :: blk b8 79 [.pointer (some ⟨b28, 0, none⟩)] :: blk b28 84 [.slice none 0 0, .int .i64 0, .bool false] :: []) false [(0, false), (1, false), (2, false), (3, false), (4, false), (5, false), (6, false), (7, false), (8, false), (9, false)] (by kernel_rfl) (by kernel_rfl) ?_
  refine y_v rfl (r_ld ty9 rfl pK (by rfl)) gT rfl ?_
  refine y_v rfl (r_lens Tryz.underlying9 rfl) gT rfl ?_
  refine y_v rfl (r_ld ty79 rfl pK (by rfl)) gT rfl ?_
  refine y_v rfl (r_nc rfl) gT rfl ?_
  refine y_v rfl (r_fa fo84_0 rfl) gT rfl ?_
  refine y_v rfl (r_fa fo82_0 rfl) gT rfl ?_
  refine y_v rfl (r_ld ty80 rfl pK (by rfl)) gT rfl ?_
  refine y_v rfl (r_lensl Tryz.underlying80 rfl) gT rfl ?_
  refine y_v rfl (r_sub rfl rfl (by omega)) gT rfl ?_
  refine y_v rfl (r_gt rfl rfl) gT rfl ?_
  refine XH.nil ?_
  refine hK9 _ _ ?_
  refine XC.keep [(3, _), (4, _), (5, _), (8, _), (38, _)] ⟨rfl, rfl, rfl, rfl, rfl, trivial⟩ ?_
  refine XC.cond_d rfl (fun hc3 => ?_) (fun hc3 => ?_)
  ·exfalso; omega
  ·refine XC.skip ?_
   refine hK8 _ _ ?_
   refine XC.keep [(3, _), (4, _), (5, _), (8, _)] ⟨rfl, rfl, rfl, rfl, trivial⟩ ?_
   refine XC.seq fun K10 hK10 => ?_
   refine XC.mem (blk d 74 (dcells mb D) :: blk b3 38 [.pointer (some ⟨d, 0, none⟩)] :: blk b4 9 [str n] :: blk b5 9 [str s] :: mpf mb .string f :: blk b8 79 [.pointer (some ⟨b28, 0, none⟩)] :: blk b28 84 (fcells none 0 ⟨[], 0, false⟩) :: sl none 0 0 5 1 (bv []) :: Fr) gT ?_
   refine XC.region ?_
   refine x_v (r_ld ty38 rfl pK (by rfl)) rfl ?_
   refine x_v (r_mfv (cs := [_, _, _, _]) ⟨rfl, rfl, rfl, rfl, rfl⟩) rfl ?_
   refine x_c (r_call0 (args := [_, _]) ⟨rfl, rfl, rfl⟩ (step0_tr d mb D _ (mpf mb .string f :: Fr) h0) gS) rfl ?_
   rintro _ _ ⟨rfl, hRs⟩
   rw [hRs]
   refine x_v (r_as rfl) rfl ?_
   refine XL.nil ?_
   refine hK10 _ _ ?_
   refine XC.keep [(6, _)] ⟨rfl, trivial⟩ ?_
   refine XC.ret ?_
   exact fin1 rfl (⟨rfl, rfl⟩) gS
theorem app_1_n {W0 : World} (d mb : Nat) (D : Dk) (f : Value → Option Value) (n s : List UInt8) (Fr : List HP) (Q : List HP → Prop) (h : readyE D n = 0) (hf : f (str n) = none) (hl : s.length ≤ 1048576) (h0 : D.fuse ≠ 0) (hfu : -1 ≤ D.fuse ∧ D.fuse < 9223372036854775808) (hs : D.steps ≤ 1000000000)
  (hQ : ∀ b A' c', Q (blk b 84 (fcells A' c' ⟨[] ++ s, 0, false⟩) :: sl A' ([] ++ s).length c' 5 1 (bv ([] ++ s)) :: blk d 74 (dcells mb (stepD D)) :: mpf mb .string (updV f (str n) (some (.pointer (some ⟨b, 0, none⟩)))) :: Fr)) :
  Tr W0 Tryz.prog 47 [.pointer (some ⟨d, 0, none⟩), str n, str s] (blk d 74 (dcells mb D) :: mpf mb .string f :: Fr) (fun v Rs' => v = .int .i64 0 ∧ Q Rs') := by
 have hmax : maxS = 140737488355328 := rfl
 refine Entry.tr (N := 42) (rs := [.tmp 6]) ⟨_, Tryz.func47, rfl, by kernel_rfl, rfl, rfl⟩ rfl ?_
 refine XC.seq fun K1 hK1 => ?_
 refine XC.region ?_
 refine x_a (r_bx rfl rfl) rfl fun b3 => ?_
 refine x_a (r_bx rfl rfl) rfl fun b4 => ?_
 refine x_a (r_bx rfl rfl) rfl fun b5 => ?_
 refine x_v (r_as rfl) rfl ?_
 refine XL.nil ?_
 refine hK1 _ _ ?_
 refine XC.keep [(3, _), (4, _), (5, _)] ⟨rfl, rfl, rfl, trivial⟩ ?_
 refine XC.seq fun K2 hK2 => ?_
 refine XC.seq fun K3 hK3 => ?_
 refine XC.region ?_
 refine x_v (r_ld ty38 rfl pK (by rfl)) rfl ?_
 refine x_v (r_ld ty9 rfl pK (by rfl)) rfl ?_
 refine x_c (r_call0 (args := [_, _]) ⟨rfl, rfl, rfl⟩ (ready_tr d mb D n (blk b3 38 [.pointer (some ⟨d, 0, none⟩)] :: blk b4 9 [str n] :: blk b5 9 [str s] :: mpf mb .string f :: Fr)) gS) rfl ?_
 rintro _ _ ⟨rfl, hRs⟩
 rw [hRs]
 refine x_v (r_as rfl) rfl ?_
 refine XL.nil ?_
 refine hK3 _ _ ?_
 refine XC.keep [(3, _), (4, _), (5, _), (7, _)] ⟨rfl, rfl, rfl, rfl, trivial⟩ ?_
 refine XC.seq fun K4 hK4 => ?_
 refine XC.region ?_
 refine x_v (r_mv rfl) rfl ?_
 refine x_v (r_ne rfl rfl) rfl ?_
 refine XL.nil ?_
 refine hK4 _ _ ?_
 refine XC.keep [(3, _), (4, _), (5, _), (7, _), (14, _)] ⟨rfl, rfl, rfl, rfl, rfl, trivial⟩ ?_
 refine XC.cond_d rfl (fun hc1 => ?_) (fun hc1 => ?_)
 ·exfalso; omega
 ·refine XC.skip ?_
  refine hK2 _ _ ?_
  refine XC.keep [(3, _), (4, _), (5, _)] ⟨rfl, rfl, rfl, trivial⟩ ?_
  refine XC.seq fun K5 hK5 => ?_
  unfold dcells
  refine XC.draw (blk d 74 [.map (some mb), .int .i64 D.fuse, .bool D.off, .int .i64 (D.steps : Int)] :: mpf mb .string f :: blk b3 38 [.pointer (some ⟨d, 0, none⟩)] :: blk b4 9 [str n] :: []) false [(0, false), (1, false), (2, false), (3, false), (4, false), (5, false), (6, false), (7, false), (8, false), (9, true), (10, true), (11, false)] (by kernel_rfl) (by kernel_rfl) ?_
  refine y_v rfl (r_ld ty38 rfl pK (by rfl)) gT rfl ?_
  refine y_v rfl (r_nc rfl) gT rfl ?_
  refine y_v rfl (r_fa fo74_0 rfl) gT rfl ?_
  refine y_v rfl (r_ld ty72 rfl pK (by rfl)) gT rfl ?_
  refine y_v rfl (r_ld ty9 rfl pK (by rfl)) gT rfl ?_
  refine y_v rfl (yv (v' := .tuple [.pointer none, .bool false].toArray) (r_lk Tryz.underlying72 Tryz.underlying9 ty79 rfl rfl (isKey_str n) pK) (by rw [hf]; rfl)) gT rfl ?_
  refine y_v rfl (r_mv rfl) gT rfl ?_
  refine y_v rfl (r_ex rfl rfl) gT rfl ?_
  refine y_v rfl (r_ex rfl rfl) gT rfl ?_
  refine y_a rfl (r_al ty79 rfl) (fun _ _ _ h => Gets.own gS h) rfl fun b8 => ?_
  refine y_e rfl (r_st ty79 rfl rfl rfl rfl rfl uD oV) (fun _ _ h => Gets.own gS h) ?_
  refine y_v rfl (r_as rfl) gT rfl ?_
  refine XH.nil ?_
  refine hK5 _ _ ?_
  refine XC.keep [(3, _), (4, _), (5, _), (8, _), (9, _)] ⟨rfl, rfl, rfl, rfl, rfl, trivial⟩ ?_
  refine XC.seq fun K6 hK6 => ?_
  refine XC.seq fun K7 hK7 => ?_
  refine XC.region ?_
  refine x_v (r_mv rfl) rfl ?_
  refine x_v (r_not rfl) rfl ?_
  refine XL.nil ?_
  refine hK7 _ _ ?_
  refine XC.keep [(3, _), (4, _), (5, _), (8, _), (26, _)] ⟨rfl, rfl, rfl, rfl, rfl, trivial⟩ ?_
  refine XC.cond_t rfl ?_
  refine XC.region ?_
  refine x_v (r_bd (vs := []) rfl rfl bd84_z) rfl ?_
  refine x_a (r_bx rfl rfl) rfl fun b28 => ?_
  refine XL.nil_ 5 1 ?_
  refine x_e (r_st ty79 rfl rfl rfl rfl rfl uD oV) ?_
  refine XL.nil ?_
  refine hK6 _ _ ?_
  refine XC.keep [(3, _), (4, _), (5, _), (8, _)] ⟨rfl, rfl, rfl, rfl, trivial⟩ ?_
  refine XC.seq fun K8 hK8 => ?_
  refine XC.seq fun K9 hK9 => ?_
  refine XC.draw (blk b5 9 [str s] :: blk b8 79 [.pointer (some ⟨b28, 0, none⟩)] :: blk b28 84 [.slice none 0 0, .int .i64 0, .bool false] :: []) false [(0, false), (1, false), (2, false), (3, false), (4, false), (5, false), (6, false), (7, false), (8, false), (9, false)] (by kernel_rfl) (by kernel_rfl) ?_
  refine y_v rfl (r_ld ty9 rfl pK (by rfl)) gT rfl ?_
  refine y_v rfl (r_lens Tryz.underlying9 rfl) gT rfl ?_
  refine y_v rfl (r_ld ty79 rfl pK (by rfl)) gT rfl ?_
  refine y_v rfl (r_nc rfl) gT rfl ?_
  refine y_v rfl (r_fa fo84_0 rfl) gT rfl ?_
  refine y_v rfl (r_fa fo82_0 rfl) gT rfl ?_
  refine y_v rfl (r_ld ty80 rfl pK (by rfl)) gT rfl ?_
  refine y_v rfl (r_lensl Tryz.underlying80 rfl) gT rfl ?_
  refine y_v rfl (r_sub rfl rfl (by omega)) gT rfl ?_
  refine y_v rfl (r_gt rfl rfl) gT rfl ?_
  refine XH.nil ?_
  refine hK9 _ _ ?_
  refine XC.keep [(3, _), (4, _), (5, _), (8, _), (38, _)] ⟨rfl, rfl, rfl, rfl, rfl, trivial⟩ ?_
  refine XC.cond_d rfl (fun hc3 => ?_) (fun hc3 => ?_)
  ·exfalso; omega
  ·refine XC.skip ?_
   refine hK8 _ _ ?_
   refine XC.keep [(3, _), (4, _), (5, _), (8, _)] ⟨rfl, rfl, rfl, rfl, trivial⟩ ?_
   refine XC.seq fun K10 hK10 => ?_
   refine XC.mem (blk d 74 (dcells mb D) :: blk b3 38 [.pointer (some ⟨d, 0, none⟩)] :: blk b4 9 [str n] :: blk b5 9 [str s] :: mpf mb .string f :: blk b8 79 [.pointer (some ⟨b28, 0, none⟩)] :: blk b28 84 (fcells none 0 ⟨[], 0, false⟩) :: sl none 0 0 5 1 (bv []) :: Fr) gT ?_
   refine XC.region ?_
   refine x_v (r_ld ty38 rfl pK (by rfl)) rfl ?_
   refine x_v (r_mfv (cs := [_, _, _, _]) ⟨rfl, rfl, rfl, rfl, rfl⟩) rfl ?_
   refine x_c (r_call0 (args := [_, _]) ⟨rfl, rfl, rfl⟩ (step1_tr d mb D 86 [.pointer (some ⟨b8, 0, none⟩), .pointer (some ⟨b5, 0, none⟩), .pointer (some ⟨b3, 0, none⟩), .pointer (some ⟨b4, 0, none⟩)] (mpf mb .string f :: blk b8 79 [.pointer (some ⟨b28, 0, none⟩)] :: blk b5 9 [str s] :: blk b3 38 [.pointer (some ⟨d, 0, none⟩)] :: blk b4 9 [str n] :: blk b28 84 (fcells none 0 ⟨[], 0, false⟩) :: sl none 0 0 5 1 (bv []) :: Fr) Q h0 hfu hs ((app1_tr d mb b28 b8 b5 b3 b4 (stepD D) f n s none 0 ⟨[], 0, false⟩ Fr (by first | omega | (simp only [List.length_nil]; omega))).mono fun v Rs2 ⟨A2, c2, e2⟩ => e2 ▸ (hQ b28) A2 c2)) gS) rfl ?_
   rintro _ _ ⟨rfl, hq⟩
   refine x_v (r_as rfl) rfl ?_
   refine XL.nil ?_
   refine hK10 _ _ ?_
   refine XC.keep [(6, _)] ⟨rfl, trivial⟩ ?_
   refine XC.ret ?_
   exact fin1 rfl (⟨rfl, hq⟩) gS
theorem app_th : ∃ fn c, Tryz.prog.funcs[47]? = some fn ∧ (fn.name == "runtime.NumGoroutine") = false ∧ fn.body = some c := ⟨_, _, Tryz.func47, by kernel_rfl, rfl⟩
theorem append_tr {W0 : World} (d : Nat) (D : Dk) (n s : List UInt8) (Fr : List HP) (hs : D.steps ≤ 1000000000) : Tr W0 Tryz.prog 47 [.pointer (some ⟨d, 0, none⟩), str n, str s] (dsk d D :: Fr) (fun v Rs' => v = .int .i64 (appendD D n s).1 ∧ Rs' = dsk d (appendD D n s).2 :: Fr) := by
 refine Tr.opn _ app_th (fun w => dsk_open) fun ⟨mb, f, T⟩ hD => ?_
 dsimp only at hD ⊢
 by_cases h : readyE D n = 0
 ·have hfine : fineB n = true := by
   unfold readyE at h
   cases hb : fineB n with
   | true => rfl
   | false => rw [hb] at h; simp at h
  rcases hD.at n with ⟨h1, h2, h6⟩ | ⟨T1, b, x, T2, rfl, h1, h2⟩
  ·by_cases hl : 1048576 < s.length
   ·have e : appendD D n s = (52, D) := by simp [appendD, h, h1, hl]
    rw [e]
    exact (app_full_n d mb D f n s (filesM T :: Fr) h h2 hl).out fun v Rs' w ⟨h3, h4⟩ ho => ⟨_, ⟨h3, rfl⟩, dsk_shut hD (h4 ▸ ho)⟩
   ·by_cases h0 : D.fuse = 0
    ·have e : appendD D n s = (50, { D with off := true }) := by simp [appendD, h, h1, hl, h0]
     rw [e]
     exact (app_0_n d mb D f n s (filesM T :: Fr) h h2 (by omega) h0).out fun v Rs' w ⟨h3, h4⟩ ho => ⟨_, ⟨h3, rfl⟩, dsk_shut hD.offd (h4 ▸ ho)⟩
    ·have e : appendD D n s = (0, { stepD D with files := setF (stepD D).files n ⟨[] ++ s, 0, false⟩ }) := by simp [appendD, h, h1, hl, h0, stepD]
     rw [e]
     refine (app_1_n d mb D f n s (filesM T :: Fr) (fun R => ∃ b A' c', R = blk b 84 (fcells A' c' ⟨[] ++ s, 0, false⟩) :: sl A' ([] ++ s).length c' 5 1 (bv ([] ++ s)) :: blk d 74 (dcells mb (stepD D)) :: mpf mb .string (updV f (str n) (some (.pointer (some ⟨b, 0, none⟩)))) :: filesM T :: Fr) h h2 (by omega) h0 hD.ok.fuse hs (fun b A' c' => ⟨b, A', c', rfl⟩)).out ?_
     rintro v Rs' w ⟨h3, b, A', c', rfl⟩ ho
     obtain ⟨T1, T2, rfl, hD'⟩ := hD.stp.ins h6 b ⟨[] ++ s, 0, false⟩ ⟨Nat.zero_le _, by simp; omega, hfine⟩
     refine ⟨_, ⟨h3, rfl⟩, dsk_shut (mb := mb) hD' ?_⟩
     have h7 : Own W0 w (blk b 84 (fcells A' c' ⟨[] ++ s, 0, false⟩) :: sl A' ([] ++ s).length c' 5 1 (bv ([] ++ s)) :: filesM (T1 ++ T2) :: blk d 74 (dcells mb (stepD D)) :: mpf mb .string (updV f (str n) (some (.pointer (some ⟨b, 0, none⟩)))) :: Fr) := Gets.own gS ho
     exact own_rot (file_shut (n := n) (x := ⟨[] ++ s, 0, false⟩) h7)
  ·have hx := hD.fiok (t := (n, b, x)) (by simp)
   refine (Tr.pre (Rs1 := filesM (T1 ++ (n, b, x) :: T2) :: blk d 74 (dcells mb D) :: mpf mb .string f :: Fr) gS (Tr.opn (fun q : Option Addr × Nat => _) app_th (fun w => file_open) fun ⟨A, c⟩ _ => ?_))
   dsimp only
   refine Tr.pre (Rs1 := blk d 74 (dcells mb D) :: mpf mb .string f :: blk b 84 (fcells A c x) :: sl A x.bytes.length c 5 1 (bv x.bytes) :: filesM (T1 ++ T2) :: Fr) gS ?_
   by_cases hl : 1048576 < s.length + x.bytes.length
   ·have e : appendD D n s = (52, D) := by simp [appendD, h, h1, hl]
    rw [e]
    refine (app_full_o d mb b A c x D f n s (filesM (T1 ++ T2) :: Fr) h h2 hl hx.2.1).out fun v Rs' w ⟨h3, h4⟩ ho => ⟨_, ⟨h3, rfl⟩, dsk_shut (mb := mb) hD (own_rot (file_shut (A := A) (c := c) ?_))⟩
    rw [h4] at ho; exact Gets.own gS ho
   ·by_cases h0 : D.fuse = 0
    ·have e : appendD D n s = (50, { D with off := true }) := by simp [appendD, h, h1, hl, h0]
     rw [e]
     refine (app_0_o d mb b A c x D f n s (filesM (T1 ++ T2) :: Fr) h h2 (by omega) h0).out fun v Rs' w ⟨h3, h4⟩ ho => ⟨_, ⟨h3, rfl⟩, dsk_shut (mb := mb) hD.offd (own_rot (file_shut (A := A) (c := c) ?_))⟩
     rw [h4] at ho; exact Gets.own gS ho
    ·have e : appendD D n s = (0, { stepD D with files := setF (stepD D).files n { x with bytes := x.bytes ++ s } }) := by simp [appendD, h, h1, hl, h0, stepD]
     rw [e]
     refine (app_1_o d mb b A c x D f n s (filesM (T1 ++ T2) :: Fr) (fun R => ∃ A' c', R = blk b 84 (fcells A' c' { x with bytes := x.bytes ++ s }) :: sl A' (x.bytes ++ s).length c' 5 1 (bv (x.bytes ++ s)) :: blk d 74 (dcells mb (stepD D)) :: mpf mb .string (updV f (str n) (some (.pointer (some ⟨b, 0, none⟩)))) :: filesM (T1 ++ T2) :: Fr) h h2 (by omega) h0 hD.ok.fuse hs (fun A' c' => ⟨A', c', rfl⟩)).out ?_
     rintro v Rs' w ⟨h3, A', c', rfl⟩ ho
     rw [updV_same h2] at ho
     have hD' := hD.stp.repl { x with bytes := x.bytes ++ s } ⟨by have := hx.1; simp only [List.length_append] at *; omega, by simp only [List.length_append]; omega, hfine⟩
     refine ⟨_, ⟨h3, rfl⟩, dsk_shut (mb := mb) hD' (own_rot (file_shut (A := A') (c := c') ?_))⟩
     exact Gets.own gS ho
 ·have e : appendD D n s = (readyE D n, D) := by simp [appendD, h]
  rw [e]
  exact (app_bad d mb D n s (mpf mb .string f :: filesM T :: Fr) h).out fun v Rs' w ⟨h3, h4⟩ ho => ⟨_, ⟨h3, rfl⟩, dsk_shut hD (h4 ▸ ho)⟩
end Go.Proofs.YtcmdmhmgffjknaaGreatDoor
/- The drive's functions: 53, 26, 41. -/
namespace Go.Sx
set_option linter.unusedVariables false
section
variable {C : Cx} {ops : Array Oper} {l : List Oper} {κ : Kt} {e : Env} {Rs : List HP}
/-- Memory opened amid code. -/
theorem XC.opn {c : Code} {ι : Type} {p : ι → Prop} (R1 : ι → List HP) (h : ∀ w, Own C.W0 w Rs → ∃ i, p i ∧ Own C.W0 w (R1 i)) (k : ∀ i, p i → XC C c κ e (R1 i)) : XC C c κ e Rs :=
 fun a w ha hw => let ⟨i, hp, ho⟩ := h w hw; k i hp a w ha ho
end
theorem sl_take {A : Option Addr} {n c E sz m : Nat} {xs : List Value} {h : Heap} (hm : m ≤ n) (H : sl A n c E sz xs h) : sl A m c E sz (xs.take (m * sz)) h := by
 obtain ⟨hl, hr⟩ := H
 have hle : m * sz ≤ n * sz := Nat.mul_le_mul_right _ hm
 refine ⟨by rw [List.length_take, hl]; omega, ?_⟩
 rcases hr with ⟨rfl, rfl, rfl, he⟩ | ⟨g, cur, h1, h2, h3, h4, h5, h6⟩
 ·exact .inl ⟨rfl, by omega, rfl, he⟩
 ·exact .inr ⟨g, cur, h1, by omega, h3, h4, by rw [← h5, List.take_take, Nat.min_eq_left hle], h6⟩
end Go.Sx
namespace Go.Proofs.YtcmdmhmgffjknaaGreatDoor
open Go.Sx
set_option linter.unusedVariables false

theorem prefix_th : ∃ fn c, Tryz.prog.funcs[53]? = some fn ∧ (fn.name == "runtime.NumGoroutine") = false ∧ fn.body = some c := ⟨_, _, Tryz.func53, by kernel_rfl, rfl⟩
theorem prefix_tr {W0 : World} (s p : List UInt8) (Fr : List HP) : Tr W0 Tryz.prog 53 [str s, str p] Fr (fun v Rs' => v = .bool (Lib.hasPrefix s p) ∧ Rs' = Fr) :=
 Tr.of_below (Q := fun v => v = .bool (Lib.hasPrefix s p)) prefix_th fun w hw => (Tryz.strings_HasPrefix ⟨s.toArray⟩ ⟨p.toArray⟩ w).mono fun e w' ⟨h1, h2⟩ => ⟨_, rfl, h1, h2 ▸ RowKit.Below.refl _ _⟩
theorem fineB_len {n : List UInt8} (h : fineB n = true) : n.length ≤ 80 := by unfold fineB at h; rw [decide_eq_true_iff] at h; exact h.2.1
theorem DIs.keys {D : Dk} {f : Value → Option Value} {T : List En} (h : DIs D f T) : (∀ k, (f k).isSome = true ↔ ∃ n ∈ D.files.map (·.1), k = str n) ∧ (D.files.map (·.1)).Pairwise (· < ·) ∧ ∀ n ∈ D.files.map (·.1), n.length ≤ maxLen := by
 refine ⟨fun k => ?_, ?_, fun n hn => ?_⟩
 ·rw [Option.isSome_iff_exists, ← h.files]
  constructor
  ·rintro ⟨v, hv⟩; obtain ⟨t, ht, h1, h2⟩ := (h.tab k v).1 hv; exact ⟨t.1, by rw [List.map_map]; exact List.mem_map.2 ⟨t, ht, rfl⟩, h1⟩
  ·rintro ⟨n, hn, rfl⟩; rw [List.map_map] at hn; obtain ⟨t, ht, rfl⟩ := List.mem_map.1 hn; exact ⟨_, (h.tab _ _).2 ⟨t, ht, rfl, rfl⟩⟩
 ·rw [List.pairwise_map]; exact h.ok.srt
 ·obtain ⟨t, ht, rfl⟩ := List.mem_map.1 hn
  have := fineB_len (h.ok.fi t ht).2.2
  have : maxLen = 9223372036854775807 := rfl
  omega
theorem names_th : ∃ fn c, Tryz.prog.funcs[26]? = some fn ∧ (fn.name == "runtime.NumGoroutine") = false ∧ fn.body = some c := ⟨_, _, Tryz.func26, by kernel_rfl, rfl⟩
theorem filter_snoc {α : Type} (p : α → Bool) (l : List α) (k : Nat) (x : α) (h : l[k]? = some x) : (l.take (k + 1)).filter p = if p x = true then (l.take k).filter p ++ [x] else (l.take k).filter p := by
 rw [List.take_add_one, h, List.filter_append]
 cases hp : p x <;> simp [hp]
theorem names_tr {W0 : World} (d : Nat) (D : Dk) (p : List UInt8) (Fr : List HP) (hb : D.files.length ≤ 1000000000) : Tr W0 Tryz.prog 26 [.pointer (some ⟨d, 0, none⟩), str p] (dsk d D :: Fr) (fun v Rs' => ∃ A c, v = .slice A (namesD D p).length c ∧ Rs' = sl A (namesD D p).length c 9 1 (cells sv (namesD D p)) :: dsk d D :: Fr) := by
 refine Tr.opn _ names_th (fun w => dsk_open) fun ⟨mb, f, T⟩ hD => ?_
 dsimp only at hD ⊢
 obtain ⟨k1, k2, k3⟩ := hD.keys
 have hNl : (D.files.map (·.1)).length = D.files.length := by simp
 have hnm : namesD D p = if D.off = true then [] else (D.files.map (·.1)).filter (fun n => Lib.hasPrefix n p) := rfl
 generalize hN : D.files.map (·.1) = N at k1 k2 k3 hNl hnm
 have h : Tr W0 Tryz.prog 26 [.pointer (some ⟨d, 0, none⟩), str p] (blk d 74 (dcells mb D) :: mpf mb .string f :: filesM T :: Fr) (fun v Rs' => ∃ A c, v = .slice A (namesD D p).length c ∧ Rs' = sl A (namesD D p).length c 9 1 (cells sv (namesD D p)) :: blk d 74 (dcells mb D) :: mpf mb .string f :: filesM T :: Fr) := by
  refine Tr.nil_ 9 1 ?_
  unfold dcells
  refine Entry.tr (N := 36) (rs := [.tmp 4]) ⟨_, Tryz.func26, rfl, by kernel_rfl, rfl, rfl⟩ rfl ?_
  refine XC.seq fun K1 hK1 => ?_
  refine XC.region ?_
  refine x_v (r_as rfl) rfl ?_
  refine XL.nil ?_
  refine hK1 _ _ ?_
  refine XC.keep [(0, _), (1, _)] ⟨rfl, rfl, trivial⟩ ?_
  refine XC.seq fun K2 hK2 => ?_
  refine XC.seq fun K3 hK3 => ?_
  refine XC.region ?_
  refine x_v (r_mv rfl) rfl ?_
  refine x_v (r_peq_some Tryz.underlying38 rfl rfl) rfl ?_
  refine x_v (r_mv rfl) rfl ?_
  refine x_want rfl rfl rfl ?_
  refine x_v (r_mv rfl) rfl ?_
  refine x_want rfl rfl rfl ?_
  refine x_v (r_nc rfl) rfl ?_
  refine x_want rfl rfl rfl ?_
  refine x_v (r_fa fo74_2 rfl) rfl ?_
  refine x_want rfl rfl rfl ?_
  refine x_v (r_ld ty4 rfl pK (by rfl)) rfl ?_
  refine x_v (r_pk_f rfl rfl) rfl ?_
  refine XL.nil ?_
  refine hK3 _ _ ?_
  refine XC.keep [(0, _), (1, _), (15, _)] ⟨rfl, rfl, rfl, trivial⟩ ?_
  refine XC.cond rfl (fun hc1 => ?_) (fun hc1 => ?_)
  ·refine XC.seq fun K4 hK4 => ?_
   refine XC.region ?_
   refine x_v (r_as rfl) rfl ?_
   refine XL.nil ?_
   refine hK4 _ _ ?_
   refine XC.keep [(4, _)] ⟨rfl, trivial⟩ ?_
   refine XC.ret ?_
   exact fin1 rfl (⟨none, 0, by rw [hnm, if_pos (by simp_all)]; rfl, by rw [hnm, if_pos (by simp_all)]⟩) gS
  ·refine XC.skip ?_
   refine hK2 _ _ ?_
   refine XC.keep [(0, _), (1, _)] ⟨rfl, rfl, trivial⟩ ?_
   refine XC.seq fun K5 hK5 => ?_
   refine XC.region ?_
   refine x_v (r_as rfl) rfl ?_
   refine XL.nil ?_
   refine hK5 _ _ ?_
   refine XC.keep [(0, _), (1, _), (5, _)] ⟨rfl, rfl, rfl, trivial⟩ ?_
   refine XC.seq fun K6 hK6 => ?_
   refine XC.seq fun K7 hK7 => ?_
   rw [if_neg (by simp_all)] at hnm
   refine XC.region ?_
   refine x_v (r_mv rfl) rfl ?_
   refine x_v (r_nc rfl) rfl ?_
   refine x_v (r_fa fo74_0 rfl) rfl ?_
   refine x_v (r_ld ty72 rfl pK (by rfl)) rfl ?_
   refine x_c (r_call0 (args := [_]) ⟨rfl, rfl⟩ (keys_tr mb (blk d 74 [.map (some mb), .int .i64 D.fuse, .bool D.off, .int .i64 (D.steps : Int)] :: mpf mb .string f :: filesM T :: sl none 0 0 9 1 [] :: Fr)) gS) rfl ?_
   rintro _ _ ⟨bx, rfl, hRs⟩
   rw [hRs]
   refine x_c (r_call0 (args := [_]) ⟨rfl, rfl⟩ (sorted_tr bx mb f N (blk d 74 [.map (some mb), .int .i64 D.fuse, .bool D.off, .int .i64 (D.steps : Int)] :: filesM T :: sl none 0 0 9 1 [] :: Fr) k1 k2 k3 (by omega)) gS) rfl ?_
   rintro _ _ ⟨A21, c21, rfl, hRs⟩
   rw [hRs]
   refine x_v (r_lensl Tryz.underlying22 rfl) rfl ?_
   refine x_v (r_mv rfl) rfl ?_
   refine XL.nil ?_
   refine hK7 _ _ ?_
   refine XC.keep [(1, _), (5, _), (21, _), (22, _), (23, _)] ⟨rfl, rfl, rfl, rfl, rfl, trivial⟩ ?_
   refine XC.block ?_
   refine XC.loop (σ := Nat × List (List UInt8) × Option Addr × Nat) (fun q => [(1, str p), (5, .slice q.2.2.1 q.2.1.length q.2.2.2), (21, .slice A21 N.length c21), (22, .int .i64 (N.length : Int)), (23, .int .i64 (q.1 : Int))]) (fun q => sl q.2.2.1 q.2.1.length q.2.2.2 9 1 (cells sv q.2.1) :: sl A21 N.length c21 9 1 (cells sv N) :: blk d 74 [.map (some mb), .int .i64 D.fuse, .bool D.off, .int .i64 (D.steps : Int)] :: mpf mb .string f :: filesM T :: Fr) (fun q => q.1 ≤ N.length ∧ q.2.1.length ≤ q.1 ∧ q.2.1 = (N.take q.1).filter (fun n => Lib.hasPrefix n p)) (fun q => N.length - q.1) (0, [], none, 0) ?_ ⟨rfl, rfl, rfl, rfl, rfl, trivial⟩ gS ?_
   ·exact ⟨Nat.zero_le _, Nat.le_refl _, rfl⟩
   rintro ⟨i, L, A, c⟩ ⟨hi, hL, hg⟩
   dsimp only at hi hL hg ⊢
   refine XC.seq fun K8 hK8 => ?_
   refine XC.region ?_
   refine x_v (r_lt rfl rfl) rfl ?_
   refine XL.nil ?_
   refine hK8 _ _ ?_
   refine XC.keep [(1, _), (5, _), (21, _), (22, _), (23, _), (24, _)] ⟨rfl, rfl, rfl, rfl, rfl, rfl, trivial⟩ ?_
   refine XC.seq fun K9 hK9 => ?_
   refine XC.cond_d rfl (fun hc2 => ?_) (fun hc2 => ?_)
   ·refine XC.skip ?_
    refine hK9 _ _ ?_
    refine XC.keep [(1, _), (5, _), (21, _), (22, _), (23, _)] ⟨rfl, rfl, rfl, rfl, rfl, trivial⟩ ?_
    refine XC.seq fun K10 hK10 => ?_
    refine XC.block ?_
    refine XC.seq fun K11 hK11 => ?_
    obtain ⟨x, hx⟩ : ∃ x, N[i]? = some x := ⟨_, List.getElem?_eq_getElem (by omega)⟩
    refine XC.slnn (pK : Pick _ (sl A21 N.length c21 9 1 (cells sv N)) _) fun hl hA => ?_
    obtain ⟨g, rfl⟩ := hA (by omega)
    have hr := Rdb.of_sl (W0 := W0) (pK : Pick (sl A L.length c 9 1 (cells sv L) :: sl (some ⟨g, 0, none⟩) N.length c21 9 1 (cells sv N) :: blk d 74 [.map (some mb), .int .i64 D.fuse, .bool D.off, .int .i64 (D.steps : Int)] :: mpf mb .string f :: filesM T :: Fr) (sl (some ⟨g, 0, none⟩) N.length c21 9 1 (cells sv N)) _) hl (fun _ => ⟨g, rfl⟩)
    obtain ⟨g2, o2, he2, hat⟩ := hr.at_ (by omega)
    injection he2 with he2
    injection he2 with hg2 ho2
    subst hg2
    subst ho2
    refine XC.region ?_
    refine x_v (r_ia (k := i) Tryz.underlying22 ty9 rfl rfl (by omega) (by omega)) rfl ?_
    refine x_v (r_ldr (v := str x) ty9 rfl (fun w hw => hat w (Gets.own gS hw) (i * 1) _ (by rw [Nat.mul_one]; exact sv_get hx))) rfl ?_
    refine x_v (r_as rfl) rfl ?_
    refine XL.nil ?_
    refine hK11 _ _ ?_
    refine XC.keep [(1, _), (5, _), (7, _), (21, _), (22, _), (23, _)] ⟨rfl, rfl, rfl, rfl, rfl, rfl, trivial⟩ ?_
    refine XC.seq fun K12 hK12 => ?_
    refine XC.region ?_
    refine x_v (r_mv rfl) rfl ?_
    refine x_v (r_mv rfl) rfl ?_
    refine x_c (r_call0 (args := [_, _]) ⟨rfl, rfl, rfl⟩ (prefix_tr x p (sl A L.length c 9 1 (cells sv L) :: sl (some ⟨g, 0, none⟩) N.length c21 9 1 (cells sv N) :: blk d 74 [.map (some mb), .int .i64 D.fuse, .bool D.off, .int .i64 (D.steps : Int)] :: mpf mb .string f :: filesM T :: Fr)) gS) rfl ?_
    rintro _ _ ⟨rfl, hRs⟩
    rw [hRs]
    refine XL.nil ?_
    refine hK12 _ _ ?_
    refine XC.keep [(1, _), (5, _), (7, _), (21, _), (22, _), (23, _), (29, _)] ⟨rfl, rfl, rfl, rfl, rfl, rfl, rfl, trivial⟩ ?_
    refine XC.cond rfl (fun hc3 => ?_) (fun hc3 => ?_)
    ·refine XC.region ?_
     refine x_v (r_mv rfl) rfl ?_
     refine x_v (r_mv rfl) rfl ?_
     refine x_a (r_bs (vs := [_]) rfl ⟨rfl, rfl⟩ (bs22_1_0 _)) rfl fun b32 => ?_
     refine x_a (r_app Tryz.underlying22 ty9 rfl (by decide) rfl rfl pK (Rdb.of_blk (cs := [str x]) (xs := [str x]) pK 0 (by rfl) (fun j u hu => by simpa using hu)) rfl (by unfold maxLen; omega) (by omega)) rfl fun ⟨A33, c33⟩ => ?_
     refine x_v (r_as rfl) rfl ?_
     refine XL.nil ?_
     refine hK10 _ _ ?_
     refine XC.keep [(1, _), (5, _), (21, _), (22, _), (23, _)] ⟨rfl, rfl, rfl, rfl, rfl, trivial⟩ ?_
     refine XC.region ?_
     refine x_v (r_add rfl rfl (by omega)) rfl ?_
     refine x_v (r_mv rfl) rfl ?_
     refine XL.nil ?_
     rw [show L.length + 1 = (L ++ [x]).length by simp, show cells sv L ++ [str x] = cells sv (L ++ [x]) by rw [cells_app]; rfl]
     refine ⟨(i + 1, L ++ [x], A33, c33), ?_, ?_, ⟨rfl, rfl, rfl, rfl, rfl, trivial⟩, gS⟩
     ·exact ⟨by dsimp only; omega, by simp; omega, by dsimp only; rw [filter_snoc _ _ _ _ hx, if_pos hc3, ← hg]⟩
     ·dsimp only; omega
    ·refine XC.skip ?_
     refine hK10 _ _ ?_
     refine XC.keep [(1, _), (5, _), (21, _), (22, _), (23, _)] ⟨rfl, rfl, rfl, rfl, rfl, trivial⟩ ?_
     refine XC.region ?_
     refine x_v (r_add rfl rfl (by omega)) rfl ?_
     refine x_v (r_mv rfl) rfl ?_
     refine XL.nil ?_
     refine ⟨(i + 1, L, A, c), ?_, ?_, ⟨rfl, rfl, rfl, rfl, rfl, trivial⟩, gS⟩
     ·exact ⟨by dsimp only; omega, by dsimp only; omega, by dsimp only; rw [filter_snoc _ _ _ _ hx, if_neg (by simp [hc3]), ← hg]⟩
     ·dsimp only; omega
   ·refine XC.exit rfl ?_
    refine hK6 _ _ ?_
    refine XC.keep [(5, _)] ⟨rfl, trivial⟩ ?_
    refine XC.seq fun K13 hK13 => ?_
    obtain rfl : i = N.length := by omega
    rw [List.take_of_length_le (Nat.le_refl _)] at hg
    rw [← hnm] at hg
    subst hg
    refine XC.region ?_
    refine x_v (r_mv rfl) rfl ?_
    refine x_v (r_as rfl) rfl ?_
    refine XL.nil ?_
    refine hK13 _ _ ?_
    refine XC.keep [(4, _)] ⟨rfl, trivial⟩ ?_
    refine XC.ret ?_
    exact fin1 rfl (⟨A, c, rfl, rfl⟩) gS
 exact h.out fun v Rs' w ⟨A, c, h1, h2⟩ ho => ⟨_, ⟨A, c, h1, rfl⟩, by
  rw [h2] at ho
  have h3 : Own W0 w (blk d 74 (dcells mb D) :: mpf mb .string f :: filesM T :: sl A (namesD D p).length c 9 1 (cells sv (namesD D p)) :: Fr) := Gets.own gS ho
  exact (dsk_shut hD h3).perm (.swap _ _ _)⟩
end Go.Proofs.YtcmdmhmgffjknaaGreatDoor
/- The drive's functions: 41, 16. -/
namespace Go.Proofs.YtcmdmhmgffjknaaGreatDoor
open Go.Sx
set_option linter.unusedVariables false

theorem bv_take (l : List UInt8) (m : Nat) : (bv l).take m = bv (l.take m) := by simp [bv, List.map_take]
def cutM (x : Fi) (keep : Int) : Nat := x.sure + (min (max keep 0) ((x.bytes.length - x.sure : Nat) : Int)).toNat
theorem cut_tr {W0 : World} (b : Nat) (A : Option Addr) (c : Nat) (x : Fi) (keep : Int) (Fr : List HP) (hs : x.sure ≤ x.bytes.length) (hn : x.bytes.length ≤ maxS) : Tr W0 Tryz.prog 41 [.pointer (some ⟨b, 0, none⟩), .int .i64 keep] (blk b 84 (fcells A c x) :: sl A x.bytes.length c 5 1 (bv x.bytes) :: Fr)
  (fun v Rs' => v = .tuple #[] ∧ Rs' = blk b 84 (fcells A c ⟨x.bytes.take (cutM x keep), cutM x keep, x.old⟩) :: sl A (x.bytes.take (cutM x keep)).length c 5 1 (bv (x.bytes.take (cutM x keep))) :: Fr) := by
 have hmax : maxS = 140737488355328 := rfl
 have hm : cutM x keep ≤ x.bytes.length := by unfold cutM; omega
 have hml : (x.bytes.take (cutM x keep)).length = cutM x keep := by rw [List.length_take]; omega
 have hmv : ((cutM x keep : Nat) : Int) = (x.sure : Int) + min (max keep 0) ((x.bytes.length - x.sure : Nat) : Int) := by unfold cutM; omega
 unfold fcells
 dsimp only
 rw [hml]
 generalize cutM x keep = m at *
 refine Entry.tr (N := 24) (rs := []) ⟨_, Tryz.func41, rfl, by kernel_rfl, rfl, rfl⟩ rfl ?_
 refine XC.seq fun K1 hK1 => ?_
 refine XC.sllen pK fun hl1 hl2 hl3 => ?_
 refine XC.draw (blk b 84 [.slice A x.bytes.length c, .int .i64 (x.sure : Int), .bool x.old] :: []) true [(0, false), (1, false), (2, false), (3, false), (4, false), (5, false), (6, false), (7, false), (8, false), (9, false), (10, false), (11, false), (12, true), (13, false), (14, false), (15, false), (16, false), (17, false), (18, true)] (by kernel_rfl) (by kernel_rfl) ?_
 refine y_v rfl (r_mv rfl) gT rfl ?_
 refine y_v rfl (r_mv rfl) gT rfl ?_
 refine y_v rfl (r_nc rfl) gT rfl ?_
 refine y_v rfl (r_fa fo82_0 rfl) gT rfl ?_
 refine y_v rfl (r_ld ty80 rfl pK (by rfl)) gT rfl ?_
 refine y_v rfl (r_mv rfl) gT rfl ?_
 refine y_v rfl (r_nc rfl) gT rfl ?_
 refine y_v rfl (r_fa fo82_1 rfl) gT rfl ?_
 refine y_v rfl (r_ld ty3 rfl pK (by rfl)) gT rfl ?_
 refine y_v rfl (r_mv rfl) gT rfl ?_
 refine y_v rfl (r_max rfl rfl) gT rfl ?_
 refine y_v rfl (r_mv rfl) gT rfl ?_
 refine y_c rfl (r_call0 (args := [_]) ⟨rfl, rfl⟩ (waits_tr b A x.bytes.length c x.sure x.old (sl A x.bytes.length c 5 1 (bv x.bytes) :: Fr) hs hn) gS) (by rintro _ _ _ _ ⟨rfl, rfl⟩ h; exact Gets.own gS h) rfl ?_
 rintro _ _ ⟨rfl, rfl⟩
 refine y_v rfl (r_min rfl rfl) gT rfl ?_
 refine y_v rfl (yv (v' := .int .i64 (m : Int)) (r_add rfl rfl (by omega)) (congrArg _ hmv.symm)) gT rfl ?_
 refine y_v rfl (r_sll0 m Tryz.underlying80 ty5 rfl ⟨_, by rfl⟩ (by omega)) gT rfl ?_
 refine y_v rfl (r_nc rfl) gT rfl ?_
 refine y_v rfl (r_fa fo82_0 rfl) gT rfl ?_
 refine y_e rfl (r_st ty80 rfl rfl rfl rfl rfl uD oV) (fun h => absurd h (by decide)) ?_
 refine XH.nil ?_
 refine hK1 _ _ ?_
 refine XC.keep [(0, _)] ⟨rfl, trivial⟩ ?_
 refine XC.mem (sl A m c 5 1 (bv (x.bytes.take m)) :: blk b 84 [.slice A m c, .int .i64 (x.sure : Int), .bool x.old] :: Fr) (fun w hw => Own.imp (R := sl A x.bytes.length c 5 1 (bv x.bytes)) (Gets.own gS hw) (fun h hh => by have := sl_take (m := m) hm hh; rw [Nat.mul_one, bv_take] at this; exact this)) ?_
 refine XC.region ?_
 refine x_v (r_mv rfl) rfl ?_
 refine x_c (r_call0 (args := [_]) ⟨rfl, rfl⟩ (settle_tr b A m c x.sure x.old (sl A m c 5 1 (bv (x.bytes.take m)) :: Fr)) gS) rfl ?_
 rintro _ _ ⟨rfl, hRs⟩
 rw [hRs]
 refine XL.nil ?_
 exact fin0 (⟨rfl, rfl⟩) gS
theorem crash_th : ∃ fn c, Tryz.prog.funcs[16]? = some fn ∧ (fn.name == "runtime.NumGoroutine") = false ∧ fn.body = some c := ⟨_, _, Tryz.func16, by kernel_rfl, rfl⟩
def gE (t : En) : List UInt8 × Fi := (t.1, t.2.2)
def cutP (x : Fi) (ks : List Int) : Fi × List Int := if x.sure < x.bytes.length then (cutF x (ks.headD 0), ks.tail) else (x, ks)
theorem crashL_cons (n : List UInt8) (x : Fi) (r : List (List UInt8 × Fi)) (ks : List Int) : crashL ((n, x) :: r) ks = (if (cutP x ks).1.old = true then [(n, (cutP x ks).1)] else []) ++ crashL r (cutP x ks).2 := by
 unfold cutP
 rw [crashL]
 split <;> split <;> simp_all
theorem cutP_ok {n : List UInt8} {x : Fi} (ks : List Int) (h : FiOk (n, x)) : FiOk (n, (cutP x ks).1) := by
 unfold cutP
 obtain ⟨h1, h2, h3⟩ := h
 dsimp only at h1 h2 h3
 split
 ·refine ⟨?_, ?_, h3⟩
  ·simp only [cutF, List.length_take]; omega
  ·simp only [cutF, List.length_take]; omega
 ·exact ⟨h1, h2, h3⟩
theorem DIs.re {D : Dk} {L : List (List UInt8 × Fi)} {f : Value → Option Value} {T : List En} (h : DIs { D with files := L } f T) : DIs { D with files := T.map gE } f T := by
 have e : T.map gE = L := h.files
 rw [e]; exact h
theorem head_at {kr : List Int} (h : 0 < kr.length) : kr[0]? = some (kr.headD 0) := by
 cases kr with
 | nil => simp at h
 | cons a r => rfl
theorem rd_tail {W0 : World} {Fr : List HP} {A : Option Addr} {kr : List Int} {c : Nat} (h : Rdb W0 Fr A kr.length 1 (iv kr)) (hc : kr.length ≤ c) (h0 : 0 < kr.length) : Rdb W0 Fr (if c = 1 then A else A.map (·.add (1 * 1))) kr.tail.length 1 (iv kr.tail) := by
 have h1 := h.cut (lo := 1) (hi := kr.length) (cap := c) h0 (Nat.le_refl _) hc
 have e : ((iv kr).drop (1 * 1)).take ((kr.length - 1) * 1) = iv kr.tail := by
  rw [List.take_of_length_le (by simp [iv])]; simp [iv, List.map_tail]
 rw [e] at h1
 rw [List.length_tail]; exact h1
theorem crash_tr {W0 : World} (d : Nat) (D : Dk) (A0 : Option Addr) (c0 : Nat) (ks : List Int) (Fr : List HP) (hb : D.files.length ≤ 1000000000) (hr : Rdb W0 Fr A0 ks.length 1 (iv ks)) (hc : ks.length ≤ c0) : Tr W0 Tryz.prog 16 [.pointer (some ⟨d, 0, none⟩), .slice A0 ks.length c0] (dsk d D :: Fr) (fun v Rs' => v = .tuple #[] ∧ Rs' = dsk d (crashD D ks) :: Fr) := by
 refine Tr.opn _ crash_th (fun w => dsk_open) fun ⟨mb, f, T⟩ hD => ?_
 dsimp only at hD ⊢
 obtain ⟨k1, k2, k3⟩ := hD.keys
 have hmax : maxS = 140737488355328 := rfl
 have hNl : (D.files.map (·.1)).length = D.files.length := by simp
 have hNT : D.files.map (·.1) = T.map (·.1) := by rw [← hD.files, List.map_map]; rfl
 generalize hN : D.files.map (·.1) = N at k1 k2 k3 hNl hNT
 have hTl : N.length = T.length := by rw [hNT, List.length_map]
 have h : Tr W0 Tryz.prog 16 [.pointer (some ⟨d, 0, none⟩), .slice A0 ks.length c0] (blk d 74 (dcells mb D) :: mpf mb .string f :: filesM T :: Fr) (fun v Rs' => v = .tuple #[] ∧ ∃ f' T', DIs { D with files := crashL D.files ks } f' T' ∧ Rs' = blk d 74 (dcells mb (crashD D ks)) :: mpf mb .string f' :: filesM T' :: Fr) := by
  unfold dcells crashD
  dsimp only
  refine Entry.tr (N := 84) (rs := []) ⟨_, Tryz.func16, rfl, by kernel_rfl, rfl, rfl⟩ rfl ?_
  refine XC.seq fun K1 hK1 => ?_
  refine XC.seq fun K2 hK2 => ?_
  refine XC.region ?_
  refine x_v (r_mv rfl) rfl ?_
  refine x_v (r_peq_some Tryz.underlying38 rfl rfl) rfl ?_
  refine XL.nil ?_
  refine hK2 _ _ ?_
  refine XC.keep [(0, _), (1, _), (10, _)] ⟨rfl, rfl, rfl, trivial⟩ ?_
  refine XC.cond_f rfl ?_
  refine XC.skip ?_
  refine hK1 _ _ ?_
  refine XC.keep [(0, _), (1, _)] ⟨rfl, rfl, trivial⟩ ?_
  refine XC.seq fun K3 hK3 => ?_
  refine XC.seq fun K4 hK4 => ?_
  refine XC.region ?_
  refine x_v (r_mv rfl) rfl ?_
  refine x_v (r_nc rfl) rfl ?_
  refine x_v (r_fa fo74_0 rfl) rfl ?_
  refine x_v (r_ld ty72 rfl pK (by rfl)) rfl ?_
  refine x_c (r_call0 (args := [_]) ⟨rfl, rfl⟩ (keys_tr mb (blk d 74 [.map (some mb), .int .i64 D.fuse, .bool D.off, .int .i64 (D.steps : Int)] :: mpf mb .string f :: filesM T :: Fr)) gS) rfl ?_
  rintro _ _ ⟨bx, rfl, hRs⟩
  rw [hRs]
  refine x_c (r_call0 (args := [_]) ⟨rfl, rfl⟩ (sorted_tr bx mb f N (blk d 74 [.map (some mb), .int .i64 D.fuse, .bool D.off, .int .i64 (D.steps : Int)] :: filesM T :: Fr) k1 k2 k3 (by omega)) gS) rfl ?_
  rintro _ _ ⟨A16, c16, rfl, hRs⟩
  rw [hRs]
  refine x_v (r_lensl Tryz.underlying22 rfl) rfl ?_
  refine x_v (r_mv rfl) rfl ?_
  refine XL.nil ?_
  refine hK4 _ _ ?_
  refine XC.keep [(0, _), (1, _), (16, _), (17, _), (18, _)] ⟨rfl, rfl, rfl, rfl, rfl, trivial⟩ ?_
  refine XC.block ?_
  refine XC.loop (σ := Nat × List En × (Value → Option Value) × Option Addr × Nat × List Int) (fun q => [(0, .pointer (some ⟨d, 0, none⟩)), (1, .slice q.2.2.2.1 q.2.2.2.2.2.length q.2.2.2.2.1), (16, .slice A16 N.length c16), (17, .int .i64 (N.length : Int)), (18, .int .i64 (q.1 : Int))]) (fun q => blk d 74 [.map (some mb), .int .i64 D.fuse, .bool D.off, .int .i64 (D.steps : Int)] :: mpf mb .string q.2.2.1 :: filesM (q.2.1 ++ T.drop q.1) :: sl A16 N.length c16 9 1 (cells sv N) :: Fr) (fun q => q.1 ≤ N.length ∧ DIs { D with files := (q.2.1 ++ T.drop q.1).map gE } q.2.2.1 (q.2.1 ++ T.drop q.1) ∧ crashL D.files ks = q.2.1.map gE ++ crashL ((T.drop q.1).map gE) q.2.2.2.2.2 ∧ Rdb W0 Fr q.2.2.2.1 q.2.2.2.2.2.length 1 (iv q.2.2.2.2.2) ∧ q.2.2.2.2.2.length ≤ q.2.2.2.2.1) (fun q => N.length - q.1) (0, [], f, A0, c0, ks) ?_ ⟨rfl, rfl, rfl, rfl, rfl, trivial⟩ gS ?_
  ·exact ⟨Nat.zero_le _, by have := hD.files; exact this ▸ hD, by rw [← hD.files]; rfl, hr, hc⟩
  rintro ⟨i, Td, f, A, c, kr⟩ ⟨hi, hDi, hg, hrk, hck⟩
  dsimp only at hi hDi hg hrk hck ⊢
  refine XC.seq fun K5 hK5 => ?_
  refine XC.region ?_
  refine x_v (r_lt rfl rfl) rfl ?_
  refine XL.nil ?_
  refine hK5 _ _ ?_
  refine XC.keep [(0, _), (1, _), (16, _), (17, _), (18, _), (19, _)] ⟨rfl, rfl, rfl, rfl, rfl, rfl, trivial⟩ ?_
  refine XC.seq fun K6 hK6 => ?_
  refine XC.cond_d rfl (fun hc2 => ?_) (fun hc2 => ?_)
  ·refine XC.skip ?_
   refine hK6 _ _ ?_
   refine XC.keep [(0, _), (1, _), (16, _), (17, _), (18, _)] ⟨rfl, rfl, rfl, rfl, rfl, trivial⟩ ?_
   refine XC.seq fun K7 hK7 => ?_
   refine XC.block ?_
   refine XC.seq fun K8 hK8 => ?_
   obtain ⟨⟨n, b, x⟩, hx⟩ : ∃ x, T[i]? = some x := ⟨_, List.getElem?_eq_getElem (by omega)⟩
   have hTd : T.drop i = (n, b, x) :: T.drop (i + 1) := by rw [List.drop_eq_getElem_cons (show i < T.length by omega), (List.getElem?_eq_some_iff.1 hx).2]
   have hNi : N[i]? = some n := by rw [hNT, List.getElem?_map, hx]; rfl
   rw [hTd] at hDi
   have hfn : f (str n) = some (.pointer (some ⟨b, 0, none⟩)) := (hDi.tab _ _).2 ⟨(n, b, x), by simp, rfl, rfl⟩
   have hxo := hDi.fiok (t := (n, b, x)) (by simp)
   refine XC.slnn (pK : Pick _ (sl A16 N.length c16 9 1 (cells sv N)) _) fun hl hA => ?_
   obtain ⟨g, rfl⟩ := hA (by omega)
   have hrN := Rdb.of_sl (W0 := W0) (pK : Pick (sl (some ⟨g, 0, none⟩) N.length c16 9 1 (cells sv N) :: Fr) (sl (some ⟨g, 0, none⟩) N.length c16 9 1 (cells sv N)) _) hl (fun _ => ⟨g, rfl⟩)
   obtain ⟨g2, o2, he2, hat⟩ := hrN.at_ (by omega)
   injection he2 with he2
   injection he2 with hg2 ho2
   subst hg2
   subst ho2
   refine XC.region ?_
   refine x_v (r_ia (k := i) Tryz.underlying22 ty9 rfl rfl (by omega) (by omega)) rfl ?_
   refine x_v (r_ldr (v := str n) ty9 rfl (fun w hw => hat w (Gets.own gS hw) (i * 1) _ (by rw [Nat.mul_one]; exact sv_get hNi))) rfl ?_
   refine x_v (r_as rfl) rfl ?_
   refine XL.nil ?_
   refine hK8 _ _ ?_
   refine XC.keep [(0, _), (1, _), (5, _), (16, _), (17, _), (18, _)] ⟨rfl, rfl, rfl, rfl, rfl, rfl, trivial⟩ ?_
   refine XC.seq fun K9 hK9 => ?_
   refine XC.region ?_
   refine x_v (r_mv rfl) rfl ?_
   refine x_v (r_nc rfl) rfl ?_
   refine x_v (r_fa fo74_0 rfl) rfl ?_
   refine x_v (r_ld ty72 rfl pK (by rfl)) rfl ?_
   refine x_v (r_mv rfl) rfl ?_
   refine x_v (yv (v' := .pointer (some ⟨b, 0, none⟩)) (r_lk1 Tryz.underlying72 Tryz.underlying9 ty79 rfl rfl (isKey_str n) pK) (by rw [hfn]; rfl)) rfl ?_
   refine x_v (r_as rfl) rfl ?_
   refine XL.nil ?_
   refine hK9 _ _ ?_
   refine XC.keep [(0, _), (1, _), (5, _), (6, _), (16, _), (17, _), (18, _)] ⟨rfl, rfl, rfl, rfl, rfl, rfl, rfl, trivial⟩ ?_
   refine XC.seqcut (σ := Option Addr × Nat × Fi × Option Addr × Nat × List Int) (fun q => [(0, .pointer (some ⟨d, 0, none⟩)), (1, .slice q.2.2.2.1 q.2.2.2.2.2.length q.2.2.2.2.1), (5, str n), (6, .pointer (some ⟨b, 0, none⟩)), (16, .slice (some ⟨g, 0, none⟩) N.length c16), (17, .int .i64 (N.length : Int)), (18, .int .i64 (i : Int))]) (fun q => blk b 84 [.slice q.1 q.2.2.1.bytes.length q.2.1, .int .i64 (q.2.2.1.sure : Int), .bool q.2.2.1.old] :: sl q.1 q.2.2.1.bytes.length q.2.1 5 1 (bv q.2.2.1.bytes) :: filesM (Td ++ T.drop (i + 1)) :: blk d 74 [.map (some mb), .int .i64 D.fuse, .bool D.off, .int .i64 (D.steps : Int)] :: mpf mb .string f :: sl (some ⟨g, 0, none⟩) N.length c16 9 1 (cells sv N) :: Fr) (fun q => (q.2.2.1 = (cutP x kr).1 ∧ q.2.2.2.2.2 = (cutP x kr).2) ∧ Rdb W0 Fr q.2.2.2.1 q.2.2.2.2.2.length 1 (iv q.2.2.2.2.2) ∧ q.2.2.2.2.2.length ≤ q.2.2.2.2.1) ?_ ?_
   ·refine XC.seq fun K11 hK11 => ?_
    rw [hTd]
    refine XC.mem (filesM (Td ++ (n, b, x) :: T.drop (i + 1)) :: blk d 74 [.map (some mb), .int .i64 D.fuse, .bool D.off, .int .i64 (D.steps : Int)] :: mpf mb .string f :: sl (some ⟨g, 0, none⟩) N.length c16 9 1 (cells sv N) :: Fr) gT (XC.opn (fun q : Option Addr × Nat => _) (fun w => file_open) fun ⟨Af, cf⟩ _ => ?_)
    unfold fcells
    dsimp only
    refine XC.region ?_
    refine x_v (r_mv rfl) rfl ?_
    refine x_v (r_nc rfl) rfl ?_
    refine x_v (r_fa fo84_0 rfl) rfl ?_
    refine x_c (r_call0 (args := [_]) ⟨rfl, rfl⟩ (waits_tr b Af x.bytes.length cf x.sure x.old (sl Af x.bytes.length cf 5 1 (bv x.bytes) :: filesM (Td ++ T.drop (i + 1)) :: blk d 74 [.map (some mb), .int .i64 D.fuse, .bool D.off, .int .i64 (D.steps : Int)] :: mpf mb .string f :: sl (some ⟨g, 0, none⟩) N.length c16 9 1 (cells sv N) :: Fr) hxo.1 (by have := hxo.2.1; dsimp only at this; omega)) gS) rfl ?_
    rintro _ _ ⟨rfl, hRs⟩
    rw [hRs]
    refine x_v (r_gt rfl rfl) rfl ?_
    refine XL.nil ?_
    refine hK11 _ _ ?_
    refine XC.keep [(0, _), (1, _), (5, _), (6, _), (16, _), (17, _), (18, _), (32, _)] ⟨rfl, rfl, rfl, rfl, rfl, rfl, rfl, rfl, trivial⟩ ?_
    refine XC.cond_d rfl (fun hc3 => ?_) (fun hc3 => ?_)
    ·refine XC.seq fun K12 hK12 => ?_
     refine XC.region ?_
     refine x_v (r_as rfl) rfl ?_
     refine XL.nil ?_
     refine hK12 _ _ ?_
     refine XC.keep [(0, _), (1, _), (5, _), (6, _), (7, _), (16, _), (17, _), (18, _)] ⟨rfl, rfl, rfl, rfl, rfl, rfl, rfl, rfl, trivial⟩ ?_
     refine XC.seqcut (σ := Option Addr × Nat) (fun q => [(0, .pointer (some ⟨d, 0, none⟩)), (1, .slice q.1 kr.tail.length q.2), (5, str n), (6, .pointer (some ⟨b, 0, none⟩)), (7, .int .i64 (kr.headD 0)), (16, .slice (some ⟨g, 0, none⟩) N.length c16), (17, .int .i64 (N.length : Int)), (18, .int .i64 (i : Int))]) (fun q => blk b 84 [.slice Af x.bytes.length cf, .int .i64 (x.sure : Int), .bool x.old] :: sl Af x.bytes.length cf 5 1 (bv x.bytes) :: filesM (Td ++ T.drop (i + 1)) :: blk d 74 [.map (some mb), .int .i64 D.fuse, .bool D.off, .int .i64 (D.steps : Int)] :: mpf mb .string f :: sl (some ⟨g, 0, none⟩) N.length c16 9 1 (cells sv N) :: Fr) (fun q => Rdb W0 Fr q.1 kr.tail.length 1 (iv kr.tail) ∧ kr.tail.length ≤ q.2) ?_ ?_
     ·refine XC.seq fun K14 hK14 => ?_
      refine XC.region ?_
      refine x_v (r_mv rfl) rfl ?_
      refine x_v (r_lensl Tryz.underlying25 rfl) rfl ?_
      refine x_v (r_gt rfl rfl) rfl ?_
      refine XL.nil ?_
      refine hK14 _ _ ?_
      refine XC.keep [(0, _), (1, _), (5, _), (6, _), (7, _), (16, _), (17, _), (18, _), (35, _)] ⟨rfl, rfl, rfl, rfl, rfl, rfl, rfl, rfl, rfl, trivial⟩ ?_
      refine XC.cond_d rfl (fun hc4 => ?_) (fun hc4 => ?_)
      ·have hk0 : kr[0]? = some (kr.headD 0) := head_at (by omega)
       obtain ⟨kb, ko, rfl, hatk⟩ := hrk.at_ (by omega)
       have hrt := rd_tail hrk hck (by omega)
       refine XC.draw Fr false [(0, false), (1, false), (2, false), (3, false), (4, false), (5, false), (6, false)] (by kernel_rfl) (by kernel_rfl) ?_
       refine y_v rfl (r_mv rfl) gT rfl ?_
       refine y_v rfl (r_ia (k := 0) Tryz.underlying25 ty3 rfl rfl (by omega) (by omega)) gT rfl ?_
       refine y_v rfl (r_ldr (v := .int .i64 (kr.headD 0)) ty3 rfl (fun w hw => hatk w hw (0 * 1) _ (by rw [Nat.zero_mul]; exact iv_get hk0))) gT rfl ?_
       refine y_v rfl (r_mv rfl) gT rfl ?_
       refine y_v rfl (yv (v' := .slice (if c = 1 then some ⟨kb, ko, none⟩ else (some ⟨kb, ko, none⟩ : Option Addr).map (·.add (1 * 1))) kr.tail.length (c - 1)) (r_sll 1 kr.length Tryz.underlying25 ty3 rfl ⟨_, by rfl⟩ rfl (by omega) (by omega)) (by rw [List.length_tail])) gT rfl ?_
       refine y_v rfl (r_as rfl) gT rfl ?_
       refine y_v rfl (r_as rfl) gT rfl ?_
       refine XH.nil ?_
       exact ⟨(if c = 1 then some ⟨kb, ko, none⟩ else (some ⟨kb, ko, none⟩ : Option Addr).map (·.add (1 * 1)), c - 1), ⟨hrt, by dsimp only; rw [List.length_tail]; omega⟩, ⟨rfl, rfl, rfl, rfl, rfl, rfl, rfl, rfl, trivial⟩, gS⟩
      ·refine XC.skip ?_
       obtain rfl : kr = [] := List.eq_nil_of_length_eq_zero (by omega)
       exact ⟨(A, c), ⟨hrk, hck⟩, ⟨rfl, rfl, rfl, rfl, rfl, rfl, rfl, rfl, trivial⟩, gS⟩
     ·rintro ⟨A9, c9⟩ ⟨hr9, hc9⟩
      dsimp only at hr9 hc9 ⊢
      have hcP : cutP x kr = (cutF x (kr.headD 0), kr.tail) := by unfold cutP; rw [if_pos (by omega)]
      refine XC.seq fun K15 hK15 => ?_
      refine XC.region ?_
      refine x_v (r_mv rfl) rfl ?_
      refine x_v (r_nc rfl) rfl ?_
      refine x_v (r_fa fo84_0 rfl) rfl ?_
      refine x_v (r_fa fo82_1 rfl) rfl ?_
      refine x_v (r_ld ty3 rfl pK (by rfl)) rfl ?_
      refine x_v (r_as rfl) rfl ?_
      refine XL.nil ?_
      refine hK15 _ _ ?_
      refine XC.keep [(0, _), (1, _), (5, _), (6, _), (7, _), (8, _), (16, _), (17, _), (18, _)] ⟨rfl, rfl, rfl, rfl, rfl, rfl, rfl, rfl, rfl, trivial⟩ ?_
      refine XC.seq fun K16 hK16 => ?_
      refine XC.region ?_
      refine x_v (r_mv rfl) rfl ?_
      refine x_v (r_nc rfl) rfl ?_
      refine x_v (r_fa fo84_0 rfl) rfl ?_
      refine x_v (r_mv rfl) rfl ?_
      refine x_c (r_call0 (args := [_, _]) ⟨rfl, rfl, rfl⟩ (cut_tr b Af cf x (kr.headD 0) (filesM (Td ++ T.drop (i + 1)) :: blk d 74 [.map (some mb), .int .i64 D.fuse, .bool D.off, .int .i64 (D.steps : Int)] :: mpf mb .string f :: sl (some ⟨g, 0, none⟩) N.length c16 9 1 (cells sv N) :: Fr) hxo.1 (by have := hxo.2.1; dsimp only at this; omega)) gS) rfl ?_
      rintro _ _ ⟨rfl, hRs⟩
      rw [hRs]
      unfold fcells
      dsimp only
      refine XL.nil ?_
      refine hK16 _ _ ?_
      refine XC.keep [(0, _), (1, _), (5, _), (6, _), (8, _), (16, _), (17, _), (18, _)] ⟨rfl, rfl, rfl, rfl, rfl, rfl, rfl, rfl, trivial⟩ ?_
      refine XC.region ?_
      refine x_v (r_mv rfl) rfl ?_
      refine x_v (r_mv rfl) rfl ?_
      refine x_v (r_nc rfl) rfl ?_
      refine x_v (r_fa fo84_1 rfl) rfl ?_
      refine x_v (r_ld ty4 rfl pK (by rfl)) rfl ?_
      refine x_v (r_mv rfl) rfl ?_
      refine XL.split 56 rfl (fun hg56 => ?_) (fun hg56 => ?_)
      ·refine x_unwant rfl rfl rfl rfl rfl ?_
       refine x_unwant rfl rfl rfl rfl rfl ?_
       refine x_unwant rfl rfl rfl rfl rfl ?_
       refine x_unwant rfl rfl rfl rfl rfl ?_
       refine x_unwant rfl rfl rfl rfl rfl ?_
       refine x_unwant rfl rfl rfl rfl rfl ?_
       refine x_unwant rfl rfl rfl rfl rfl ?_
       refine x_v (r_pk_t rfl rfl) rfl ?_
       refine x_v (r_nc rfl) rfl ?_
       refine x_v (r_fa fo84_1 rfl) rfl ?_
       refine x_e (r_st ty4 rfl rfl rfl rfl rfl uD oV) ?_
       refine XL.nil ?_
       exact ⟨(Af, cf, ⟨x.bytes.take (cutM x (kr.headD 0)), cutM x (kr.headD 0), true⟩, A9, c9, kr.tail), ⟨⟨by rw [hcP]; simp [cutF, cutM, hg56], by rw [hcP]⟩, hr9, hc9⟩, ⟨rfl, rfl, rfl, rfl, rfl, rfl, rfl, trivial⟩, gS⟩
      ·refine x_want rfl rfl rfl ?_
       refine x_v (r_mv rfl) rfl ?_
       refine x_want rfl rfl rfl ?_
       refine x_v (r_nc rfl) rfl ?_
       refine x_want rfl rfl rfl ?_
       refine x_v (r_fa fo84_0 rfl) rfl ?_
       refine x_want rfl rfl rfl ?_
       refine x_v (r_fa fo82_1 rfl) rfl ?_
       refine x_want rfl rfl rfl ?_
       refine x_v (r_ld ty3 rfl pK (by rfl)) rfl ?_
       refine x_want rfl rfl rfl ?_
       refine x_v (r_mv rfl) rfl ?_
       refine x_want rfl rfl rfl ?_
       refine x_v (r_gt rfl rfl) rfl ?_
       refine x_v (r_pk_f rfl rfl) rfl ?_
       refine x_v (r_nc rfl) rfl ?_
       refine x_v (r_fa fo84_1 rfl) rfl ?_
       refine x_e (r_st ty4 rfl rfl rfl rfl rfl uD oV) ?_
       refine XL.nil ?_
       exact ⟨(Af, cf, ⟨x.bytes.take (cutM x (kr.headD 0)), cutM x (kr.headD 0), decide ((x.sure : Int) < ((cutM x (kr.headD 0) : Nat) : Int))⟩, A9, c9, kr.tail), ⟨⟨by rw [hcP]; simp only [cutF, hg56, Bool.false_or]; unfold cutM; congr 1; rw [decide_eq_decide]; omega, by rw [hcP]⟩, hr9, hc9⟩, ⟨rfl, rfl, rfl, rfl, rfl, rfl, rfl, trivial⟩, gS⟩
    ·refine XC.skip ?_
     exact ⟨(Af, cf, x, A, c, kr), ⟨⟨by unfold cutP; rw [if_neg (by omega)], by unfold cutP; rw [if_neg (by omega)]⟩, hrk, hck⟩, ⟨rfl, rfl, rfl, rfl, rfl, rfl, rfl, trivial⟩, gS⟩
   ·rintro ⟨Af, cf, x2, Ak, ck, kr2⟩ ⟨⟨hx2, hk2⟩, hrk2, hck2⟩
    dsimp only at hx2 hk2 hrk2 hck2 ⊢
    refine XC.seq fun K17 hK17 => ?_
    refine XC.region ?_
    refine x_v (r_mv rfl) rfl ?_
    refine x_v (r_nc rfl) rfl ?_
    refine x_v (r_fa fo84_1 rfl) rfl ?_
    refine x_v (r_ld ty4 rfl pK (by rfl)) rfl ?_
    refine x_v (r_not rfl) rfl ?_
    refine XL.nil ?_
    refine hK17 _ _ ?_
    refine XC.keep [(0, _), (1, _), (5, _), (16, _), (17, _), (18, _), (71, _)] ⟨rfl, rfl, rfl, rfl, rfl, rfl, rfl, trivial⟩ ?_
    refine XC.cond rfl (fun hc5 => ?_) (fun hc5 => ?_)
    ·refine XC.region ?_
     refine x_v (r_mv rfl) rfl ?_
     refine x_v (r_nc rfl) rfl ?_
     refine x_v (r_fa fo74_0 rfl) rfl ?_
     refine x_v (r_ld ty72 rfl pK (by rfl)) rfl ?_
     refine x_v (r_mv rfl) rfl ?_
     refine x_e (r_del (updV f (str n) none) Tryz.underlying72 Tryz.underlying9 rfl rfl (isKey_str n) (updV_at _ _ _) (updV_else _ _ _) uD) ?_
     refine XL.nil ?_
     refine hK7 _ _ ?_
     refine XC.keep [(0, _), (1, _), (16, _), (17, _), (18, _)] ⟨rfl, rfl, rfl, rfl, rfl, trivial⟩ ?_
     refine XC.region ?_
     refine x_v (r_add rfl rfl (by omega)) rfl ?_
     refine x_v (r_mv rfl) rfl ?_
     refine XL.nil ?_
     refine ⟨(i + 1, Td, updV f (str n) none, Ak, ck, kr2), ?_, ?_, ⟨rfl, rfl, rfl, rfl, rfl, trivial⟩, gS⟩
     ·exact ⟨by dsimp only; omega, hDi.del.re, by dsimp only; rw [hg, hTd, List.map_cons]; show _ ++ crashL ((n, x) :: _) _ = _; rw [crashL_cons, if_neg (by rw [← hx2]; simpa using hc5), ← hk2]; rfl, hrk2, hck2⟩
     ·dsimp only; omega
    ·refine XC.mem (filesM ((Td ++ [(n, b, x2)]) ++ T.drop (i + 1)) :: blk d 74 [.map (some mb), .int .i64 D.fuse, .bool D.off, .int .i64 (D.steps : Int)] :: mpf mb .string f :: sl (some ⟨g, 0, none⟩) N.length c16 9 1 (cells sv N) :: Fr) (fun w hw => by rw [List.append_assoc]; exact file_shut (A := Af) (c := cf) (x := x2) hw) ?_
     refine XC.skip ?_
     refine hK7 _ _ ?_
     refine XC.keep [(0, _), (1, _), (16, _), (17, _), (18, _)] ⟨rfl, rfl, rfl, rfl, rfl, trivial⟩ ?_
     refine XC.region ?_
     refine x_v (r_add rfl rfl (by omega)) rfl ?_
     refine x_v (r_mv rfl) rfl ?_
     refine XL.nil ?_
     refine ⟨(i + 1, Td ++ [(n, b, x2)], f, Ak, ck, kr2), ?_, ?_, ⟨rfl, rfl, rfl, rfl, rfl, trivial⟩, gS⟩
     ·exact ⟨by dsimp only; omega, by have h1 := hDi.repl x2 (by rw [hx2]; exact cutP_ok kr (hDi.fiok (t := (n, b, x)) (by simp))); dsimp only; rw [List.append_assoc]; exact h1.re, by dsimp only; rw [hg, hTd, List.map_cons]; show _ ++ crashL ((n, x) :: _) _ = _; rw [crashL_cons, if_pos (by rw [← hx2]; simpa using hc5), ← hk2, ← hx2]; simp [gE], hrk2, hck2⟩
     ·dsimp only; omega
  ·refine XC.exit rfl ?_
   refine hK3 _ _ ?_
   refine XC.keep [(0, _)] ⟨rfl, trivial⟩ ?_
   have hdr : T.drop i = [] := List.drop_eq_nil_of_le (by omega)
   rw [hdr, List.append_nil] at hDi
   rw [hdr, List.append_nil]
   rw [hdr] at hg
   have hg2 : crashL D.files ks = Td.map gE := by rw [hg]; simp [crashL]
   rw [← hg2] at hDi
   refine XC.region ?_
   refine x_v (r_mv rfl) rfl ?_
   refine x_v (r_mv rfl) rfl ?_
   refine x_v (r_nc rfl) rfl ?_
   refine x_v (r_fa fo74_1 rfl) rfl ?_
   refine x_e (r_st ty3 rfl rfl rfl rfl rfl uD oV) ?_
   refine x_v (r_nc rfl) rfl ?_
   refine x_v (r_fa fo74_2 rfl) rfl ?_
   refine x_e (r_st ty4 rfl rfl rfl rfl rfl uD oV) ?_
   refine XL.nil ?_
   exact fin0 (⟨rfl, f, Td, hDi, rfl⟩) gS
 exact h.out fun v Rs' w ⟨h1, f', T', h2, h3⟩ ho => ⟨_, ⟨h1, rfl⟩, dsk_shut (mb := mb) (f := f') (T := T') ⟨h2.files, h2.tab, ⟨h2.ok.srt, h2.ok.fi, by simp [crashD]⟩⟩ (h3 ▸ ho)⟩
end Go.Proofs.YtcmdmhmgffjknaaGreatDoor
/- Numerals and segments' names: functions 56, 55, 54, 29, 27. -/
namespace Go.Sx
section
variable {C : Cx} {e : Env} {Rs : List HP} {x y : Operand} {ty T T2 : TypeId}
theorem r_ine {te : TypeId} {pe : Value} {D : TypeDesc} (hT : C.P.underlying T = some D) (hD : ∃ ms, D = .interface ms) (hx : ev e x = some (.iface te pe)) (hy : ev e y = some .nilIface) : Yld C e Rs (.binOp .neq T x y T2) ty (.bool true) := by
 obtain ⟨ms, rfl⟩ := hD
 exact r_nev (r := false) hx hy rfl (fun w d => by simp [Op.equalIn, run_underlying hT])
theorem r_ine0 {D : TypeDesc} (hT : C.P.underlying T = some D) (hD : ∃ ms, D = .interface ms) (hx : ev e x = some .nilIface) : Yld C e Rs (.binOp .neq T x (.const .nilIface) T2) ty (.bool false) := by
 obtain ⟨ms, rfl⟩ := hD
 exact r_bin hx rfl (fun w => by
  have hh := eq_of (P := C.P) (T := T) (a := .nilIface) (b := .nilIface) (r := true) (w := w) (fun d => by simp [Op.equalIn, run_underlying hT])
  simp [eqGuard, binOp, hh])
end
theorem var_own {W0 w : World} {P : Program} {Rs : List HP} {name : String} {cs : Array Value} (h : W0.var? P name = some cs) (H : Own W0 w Rs) : w.var? P name = some cs := by
 unfold World.var? at *
 cases hg : P.globalNamed name with
 | none => rw [hg] at h; cases h
 | some g =>
  rw [hg] at h
  simp only [Option.bind_some] at h ⊢
  have hlt : g < W0.heap.size := by
   by_cases hl : g < W0.heap.size
   ·exact hl
   ·rw [Array.getElem?_eq_none (by omega)] at h; cases h
  rw [H.old g hlt]; exact h
end Go.Sx
namespace Go.Proofs.YtcmdmhmgffjknaaGreatDoor
open Go.Sx
set_option linter.unusedVariables false

theorem ends3 (x : Lib.NumEnd Int) : (∃ v, x = .ok v) ∨ x = Lib.atoiAll [] ∨ x = .range := by
 cases x
 ·exact .inl ⟨_, rfl⟩
 ·exact .inr (.inl rfl)
 ·exact .inr (.inr rfl)
structure Laid (W : World) : Prop where
 tab : Lib.TabIs Tryz.prog W "internal/strconv.uint64pow10" .u64 Lib.pow10Tab
 syn : ∃ tp p, W.var? Tryz.prog "strconv.ErrSyntax" = some #[.iface tp p]
 rng : ∃ tp p, W.var? Tryz.prog "strconv.ErrRange" = some #[.iface tp p]
theorem itoa_th : ∃ fn c, Tryz.prog.funcs[56]? = some fn ∧ (fn.name == "runtime.NumGoroutine") = false ∧ fn.body = some c := ⟨_, _, Tryz.func56, by kernel_rfl, rfl⟩
theorem atoi_th : ∃ fn c, Tryz.prog.funcs[55]? = some fn ∧ (fn.name == "runtime.NumGoroutine") = false ∧ fn.body = some c := ⟨_, _, Tryz.func55, by kernel_rfl, rfl⟩
theorem trim_th : ∃ fn c, Tryz.prog.funcs[54]? = some fn ∧ (fn.name == "runtime.NumGoroutine") = false ∧ fn.body = some c := ⟨_, _, Tryz.func54, by kernel_rfl, rfl⟩
theorem itoa_tr {W0 : World} (hL : Laid W0) (n : Int) (h0 : -9223372036854775808 ≤ n) (h1 : n ≤ 9223372036854775807) (Fr : List HP) : Tr W0 Tryz.prog 56 [.int .i64 n] Fr (fun v Rs' => v = str (Lib.itoa n) ∧ Rs' = Fr) :=
 Tr.of_below (Q := fun v => v = str (Lib.itoa n)) itoa_th fun w hw => (Tryz.strconv_Itoa n h0 h1 w (var_own hL.tab hw)).mono fun e w' ⟨h2, k, os, h3⟩ => ⟨_, rfl, h2, h3 ▸ Lib.below_grow _ _ (Nat.le_refl _) _ _⟩
theorem trim_tr {W0 : World} (s p : List UInt8) (Fr : List HP) : Tr W0 Tryz.prog 54 [str s, str p] Fr (fun v Rs' => v = str (Lib.trimPrefix s p) ∧ Rs' = Fr) :=
 Tr.of_below (Q := fun v => v = str (Lib.trimPrefix s p)) trim_th fun w hw => (Tryz.strings_TrimPrefix ⟨s.toArray⟩ ⟨p.toArray⟩ w).mono fun e w' ⟨h1, h2⟩ => ⟨_, rfl, h1, h2 ▸ RowKit.Below.refl _ _⟩
def AtoiV (s : List UInt8) (u : Value) : Prop := (∃ v, Lib.atoiAll s = .ok v ∧ u = .tuple #[.int .i64 v, .nilIface]) ∨ ∃ v te pe, (∀ v, Lib.atoiAll s ≠ .ok v) ∧ u = .tuple #[.int .i64 v, .iface te pe]
theorem atoi_tr {W0 : World} (hL : Laid W0) (s : List UInt8) (hs : s.length ≤ maxS) (Fr : List HP) : Tr W0 Tryz.prog 55 [str s] Fr (fun v Rs' => AtoiV s v ∧ Rs' = Fr) := by
 have hmax : maxS = 140737488355328 := rfl
 refine Tr.of_below (Q := AtoiV s) atoi_th fun w hw => ?_
 have hsz := str_size s
 obtain ⟨tp, p, h2⟩ := hL.syn
 obtain ⟨tp3, p3, h3⟩ := hL.rng
 rcases ends3 (Lib.atoiAll s) with ⟨v, h⟩ | h | h
 ·refine (Tryz.strconv_Atoi_ok ⟨s.toArray⟩ (by omega) v h w).mono fun e w' ⟨h4, h5⟩ => ⟨_, .inl ⟨v, h, rfl⟩, h4, ?_⟩
  rcases h5 with rfl | ⟨t, rfl⟩
  ·exact RowKit.Below.refl _ _
  ·exact Joins.below_bytesWorld _ _ _ _ (Nat.le_refl _)
 ·exact (Tryz.strconv_Atoi_syntax_var ⟨s.toArray⟩ (by omega) h tp p w (var_own h2 hw)).mono fun e w' ⟨N, h4, _, _, h5⟩ => ⟨_, .inr ⟨_, _, _, (fun v hv => by rw [h] at hv; cases hv), rfl⟩, h4, h5⟩
 ·exact (Tryz.strconv_Atoi_range_var ⟨s.toArray⟩ (by omega) h tp3 p3 w (var_own h3 hw)).mono fun e w' ⟨N, h4, _, _, h5⟩ => ⟨_, .inr ⟨_, _, _, (fun v hv => by rw [h] at hv; cases hv), rfl⟩, h4, h5⟩
def logP : List UInt8 := [108, 111, 103, 46]
def nameB (n : Nat) : List UInt8 := logP ++ Lib.itoa (n : Int)
def numB (file : List UInt8) : Nat := match Lib.atoiAll (Lib.trimPrefix file logP) with
 | .ok v => if v < 1 ∨ 999999999 < v ∨ Lib.itoa v ≠ Lib.trimPrefix file logP then 0 else v.toNat
 | _ => 0
theorem name_tr {W0 : World} (hL : Laid W0) (n : Nat) (hn : n ≤ 1000000001) (hl : (Lib.itoa (n : Int)).length ≤ 100) (Fr : List HP) : Tr W0 Tryz.prog 29 [.int .i64 (n : Int)] Fr (fun v Rs' => v = str (nameB n) ∧ Rs' = Fr) := by
 refine Entry.tr (N := 6) (rs := [.tmp 2]) ⟨_, Tryz.func29, rfl, by kernel_rfl, rfl, rfl⟩ rfl ?_
 refine XC.seq fun K1 hK1 => ?_
 refine XC.region ?_
 refine x_v (r_as rfl) rfl ?_
 refine XL.nil ?_
 refine hK1 _ _ ?_
 refine XC.keep [(0, _)] ⟨rfl, trivial⟩ ?_
 refine XC.seq fun K2 hK2 => ?_
 refine XC.region ?_
 refine x_v (r_mv rfl) rfl ?_
 refine x_c (r_call0 (args := [_]) ⟨rfl, rfl⟩ (itoa_tr hL (n : Int) (by omega) (by omega) Fr) gS) rfl ?_
 rintro _ _ ⟨rfl, hRs⟩
 rw [hRs]
 refine x_v (r_cat rfl rfl (by simp; omega)) rfl ?_
 refine x_v (r_as rfl) rfl ?_
 refine XL.nil ?_
 refine hK2 _ _ ?_
 refine XC.keep [(2, _)] ⟨rfl, trivial⟩ ?_
 refine XC.ret ?_
 exact fin1 rfl (⟨rfl, rfl⟩) gS
theorem trim_len (s p : List UInt8) : (Lib.trimPrefix s p).length ≤ s.length := by unfold Lib.trimPrefix; split <;> simp
theorem number_tr {W0 : World} (hL : Laid W0) (f : List UInt8) (hf : f.length ≤ 80) (Fr : List HP) : Tr W0 Tryz.prog 27 [str f] Fr (fun v Rs' => v = .int .i64 (numB f : Int) ∧ Rs' = Fr) := by
 have hmax : maxS = 140737488355328 := rfl
 have hlen := trim_len f logP
 have hnum : numB f = match Lib.atoiAll (Lib.trimPrefix f logP) with
  | .ok v => if v < 1 ∨ 999999999 < v ∨ Lib.itoa v ≠ Lib.trimPrefix f logP then 0 else v.toNat
  | _ => 0 := rfl
 generalize hs : Lib.trimPrefix f logP = s at hlen hnum
 have hat : Tr W0 Tryz.prog 55 [str s] Fr (fun v Rs' => AtoiV s v ∧ Rs' = Fr) := atoi_tr hL s (by omega) Fr
 by_cases hok : ∃ v, Lib.atoiAll s = .ok v
 ·obtain ⟨v, hv⟩ := hok
  rw [hv] at hnum
  dsimp only at hnum
  have hat2 : Tr W0 Tryz.prog 55 [str s] Fr (fun u Rs' => u = .tuple #[.int .i64 v, .nilIface] ∧ Rs' = Fr) := hat.mono fun u Rs' ⟨h1, h2⟩ => ⟨by
   rcases h1 with ⟨v', h3, h4⟩ | ⟨_, _, _, h3, _⟩
   ·rw [hv] at h3; injection h3 with h3; rw [h4, h3]
   ·exact absurd hv (h3 v), h2⟩
  refine Entry.tr (N := 30) (rs := [.tmp 2]) ⟨_, Tryz.func27, rfl, by kernel_rfl, rfl, rfl⟩ rfl ?_
  refine XC.seq fun K1 hK1 => ?_
  refine XC.region ?_
  refine x_v (r_as rfl) rfl ?_
  refine XL.nil ?_
  refine hK1 _ _ ?_
  refine XC.keep [(0, _)] ⟨rfl, trivial⟩ ?_
  refine XC.seq fun K2 hK2 => ?_
  refine XC.region ?_
  refine x_v (r_mv rfl) rfl ?_
  refine x_c (r_call0 (args := [_, _]) ⟨rfl, rfl, rfl⟩ (trim_tr f logP Fr) gS) rfl ?_
  rintro _ _ ⟨hv7, hRs⟩
  rw [hs] at hv7
  subst hv7
  rw [hRs]
  refine x_v (r_as rfl) rfl ?_
  refine XL.nil ?_
  refine hK2 _ _ ?_
  refine XC.keep [(3, _)] ⟨rfl, trivial⟩ ?_
  refine XC.seq fun K3 hK3 => ?_
  refine XC.region ?_
  refine x_v (r_mv rfl) rfl ?_
  refine x_c (r_call0 (args := [_]) ⟨rfl, rfl⟩ (hat2) gS) rfl ?_
  rintro _ _ ⟨rfl, hRs⟩
  rw [hRs]
  refine x_v (r_mv rfl) rfl ?_
  refine x_v (r_ex rfl rfl) rfl ?_
  refine x_v (r_ex rfl rfl) rfl ?_
  refine x_v (r_as rfl) rfl ?_
  refine x_v (r_as rfl) rfl ?_
  refine XL.nil ?_
  refine hK3 _ _ ?_
  refine XC.keep [(3, _), (4, _), (5, _)] ⟨rfl, rfl, rfl, trivial⟩ ?_
  refine XC.seq fun K4 hK4 => ?_
  refine XC.seq fun K5 hK5 => ?_
  refine XC.region ?_
  refine x_v (r_mv rfl) rfl ?_
  refine x_v (r_ine0 Tryz.underlying99 ⟨_, rfl⟩ rfl) rfl ?_
  refine x_v (r_mv rfl) rfl ?_
  refine x_want rfl rfl rfl ?_
  refine x_v (r_mv rfl) rfl ?_
  refine x_want rfl rfl rfl ?_
  refine x_v (r_lt rfl rfl) rfl ?_
  refine x_v (r_pk_f rfl rfl) rfl ?_
  refine x_v (r_mv rfl) rfl ?_
  refine XL.splitd 19 rfl (fun hg19 => ?_) (fun hg19 => ?_)
  ·refine x_unwant rfl rfl rfl rfl rfl ?_
   refine x_unwant rfl rfl rfl rfl rfl ?_
   refine x_v (r_pk_t rfl rfl) rfl ?_
   refine x_v (r_mv rfl) rfl ?_
   refine x_unwant rfl rfl rfl rfl rfl ?_
   refine x_unwant rfl rfl rfl rfl rfl ?_
   refine x_unwant rfl rfl rfl rfl rfl ?_
   refine x_unwant rfl rfl rfl rfl rfl ?_
   refine x_v (r_pk_t rfl rfl) rfl ?_
   refine XL.nil ?_
   refine hK5 _ _ ?_
   refine XC.keep [(4, _), (28, _)] ⟨rfl, rfl, trivial⟩ ?_
   refine XC.cond_t rfl ?_
   refine XC.seq fun K6 hK6 => ?_
   refine XC.region ?_
   refine x_v (r_as rfl) rfl ?_
   refine XL.nil ?_
   refine hK6 _ _ ?_
   refine XC.keep [(2, _)] ⟨rfl, trivial⟩ ?_
   refine XC.ret ?_
   exact fin1 rfl (⟨by rw [hnum]; first | (rw [if_pos (by first | exact .inl (by omega) | exact .inr (.inl (by omega)) | exact .inr (.inr (by assumption)))]; rfl) | (rw [if_neg (by rintro (h | h | h); omega; omega; exact absurd h (by assumption))]; congr 1; omega), rfl⟩) gS
  ·refine x_want rfl rfl rfl ?_
   refine x_v (r_mv rfl) rfl ?_
   refine x_want rfl rfl rfl ?_
   refine x_v (r_gt rfl rfl) rfl ?_
   refine x_v (r_pk_f rfl rfl) rfl ?_
   refine x_v (r_mv rfl) rfl ?_
   refine XL.splitd 23 rfl (fun hg23 => ?_) (fun hg23 => ?_)
   ·refine x_unwant rfl rfl rfl rfl rfl ?_
    refine x_unwant rfl rfl rfl rfl rfl ?_
    refine x_unwant rfl rfl rfl rfl rfl ?_
    refine x_unwant rfl rfl rfl rfl rfl ?_
    refine x_v (r_pk_t rfl rfl) rfl ?_
    refine XL.nil ?_
    refine hK5 _ _ ?_
    refine XC.keep [(4, _), (28, _)] ⟨rfl, rfl, trivial⟩ ?_
    refine XC.cond_t rfl ?_
    refine XC.seq fun K7 hK7 => ?_
    refine XC.region ?_
    refine x_v (r_as rfl) rfl ?_
    refine XL.nil ?_
    refine hK7 _ _ ?_
    refine XC.keep [(2, _)] ⟨rfl, trivial⟩ ?_
    refine XC.ret ?_
    exact fin1 rfl (⟨by rw [hnum]; first | (rw [if_pos (by first | exact .inl (by omega) | exact .inr (.inl (by omega)) | exact .inr (.inr (by assumption)))]; rfl) | (rw [if_neg (by rintro (h | h | h); omega; omega; exact absurd h (by assumption))]; congr 1; omega), rfl⟩) gS
   ·refine x_want rfl rfl rfl ?_
    refine x_v (r_mv rfl) rfl ?_
    refine x_want rfl rfl rfl ?_
    refine x_c (r_call0 (args := [_]) ⟨rfl, rfl⟩ (itoa_tr hL v (by omega) (by omega) Fr) gS) rfl ?_
    rintro _ _ ⟨rfl, hRs⟩
    rw [hRs]
    refine x_want rfl rfl rfl ?_
    refine x_v (r_mv rfl) rfl ?_
    refine x_want rfl rfl rfl ?_
    refine x_v (r_sne rfl rfl) rfl ?_
    refine x_v (r_pk_f rfl rfl) rfl ?_
    refine XL.nil ?_
    refine hK5 _ _ ?_
    refine XC.keep [(4, _), (28, _)] ⟨rfl, rfl, trivial⟩ ?_
    refine XC.cond_d rfl (fun hc3 => ?_) (fun hc3 => ?_)
    ·refine XC.seq fun K8 hK8 => ?_
     refine XC.region ?_
     refine x_v (r_as rfl) rfl ?_
     refine XL.nil ?_
     refine hK8 _ _ ?_
     refine XC.keep [(2, _)] ⟨rfl, trivial⟩ ?_
     refine XC.ret ?_
     exact fin1 rfl (⟨by rw [hnum]; first | (rw [if_pos (by first | exact .inl (by omega) | exact .inr (.inl (by omega)) | exact .inr (.inr (by assumption)))]; rfl) | (rw [if_neg (by rintro (h | h | h); omega; omega; exact absurd h (by assumption))]; congr 1; omega), rfl⟩) gS
    ·refine XC.skip ?_
     refine hK4 _ _ ?_
     refine XC.keep [(4, _)] ⟨rfl, trivial⟩ ?_
     refine XC.seq fun K9 hK9 => ?_
     refine XC.region ?_
     refine x_v (r_mv rfl) rfl ?_
     refine x_v (r_as rfl) rfl ?_
     refine XL.nil ?_
     refine hK9 _ _ ?_
     refine XC.keep [(2, _)] ⟨rfl, trivial⟩ ?_
     refine XC.ret ?_
     exact fin1 rfl (⟨by rw [hnum]; first | (rw [if_pos (by first | exact .inl (by omega) | exact .inr (.inl (by omega)) | exact .inr (.inr (by assumption)))]; rfl) | (rw [if_neg (by rintro (h | h | h); omega; omega; exact absurd h (by assumption))]; congr 1; omega), rfl⟩) gS
 ·have hat2 : Tr W0 Tryz.prog 55 [str s] Fr (fun u Rs' => ∃ v te pe, u = .tuple #[.int .i64 v, .iface te pe] ∧ Rs' = Fr) := hat.mono fun u Rs' ⟨h1, h2⟩ => by
   rcases h1 with ⟨v', h3, h4⟩ | ⟨v, te, pe, _, h3⟩
   ·exact absurd ⟨v', h3⟩ hok
   ·exact ⟨v, te, pe, h3, h2⟩
  have hn0 : numB f = 0 := by
   rw [hnum]
   rcases ends3 (Lib.atoiAll s) with ⟨v, h⟩ | h | h
   ·exact absurd ⟨v, h⟩ hok
   ·rw [h]; rfl
   ·rw [h]
  refine Entry.tr (N := 30) (rs := [.tmp 2]) ⟨_, Tryz.func27, rfl, by kernel_rfl, rfl, rfl⟩ rfl ?_
  refine XC.seq fun K1 hK1 => ?_
  refine XC.region ?_
  refine x_v (r_as rfl) rfl ?_
  refine XL.nil ?_
  refine hK1 _ _ ?_
  refine XC.keep [(0, _)] ⟨rfl, trivial⟩ ?_
  refine XC.seq fun K2 hK2 => ?_
  refine XC.region ?_
  refine x_v (r_mv rfl) rfl ?_
  refine x_c (r_call0 (args := [_, _]) ⟨rfl, rfl, rfl⟩ (trim_tr f logP Fr) gS) rfl ?_
  rintro _ _ ⟨hv7, hRs⟩
  rw [hs] at hv7
  subst hv7
  rw [hRs]
  refine x_v (r_as rfl) rfl ?_
  refine XL.nil ?_
  refine hK2 _ _ ?_
  refine XC.keep [(3, _)] ⟨rfl, trivial⟩ ?_
  refine XC.seq fun K3 hK3 => ?_
  refine XC.region ?_
  refine x_v (r_mv rfl) rfl ?_
  refine x_c (r_call0 (args := [_]) ⟨rfl, rfl⟩ (hat2) gS) rfl ?_
  rintro _ _ ⟨v, te, pe, rfl, hRs⟩
  rw [hRs]
  refine x_v (r_mv rfl) rfl ?_
  refine x_v (r_ex rfl rfl) rfl ?_
  refine x_v (r_ex rfl rfl) rfl ?_
  refine x_v (r_as rfl) rfl ?_
  refine x_v (r_as rfl) rfl ?_
  refine XL.nil ?_
  refine hK3 _ _ ?_
  refine XC.keep [(3, _), (4, _), (5, _)] ⟨rfl, rfl, rfl, trivial⟩ ?_
  refine XC.seq fun K4 hK4 => ?_
  refine XC.seq fun K5 hK5 => ?_
  refine XC.region ?_
  refine x_v (r_mv rfl) rfl ?_
  refine x_v (r_ine Tryz.underlying99 ⟨_, rfl⟩ rfl rfl) rfl ?_
  refine x_v (r_mv rfl) rfl ?_
  refine x_unwant rfl rfl rfl rfl rfl ?_
  refine x_unwant rfl rfl rfl rfl rfl ?_
  refine x_v (r_pk_t rfl rfl) rfl ?_
  refine x_v (r_mv rfl) rfl ?_
  refine x_unwant rfl rfl rfl rfl rfl ?_
  refine x_unwant rfl rfl rfl rfl rfl ?_
  refine x_v (r_pk_t rfl rfl) rfl ?_
  refine x_v (r_mv rfl) rfl ?_
  refine x_unwant rfl rfl rfl rfl rfl ?_
  refine x_unwant rfl rfl rfl rfl rfl ?_
  refine x_unwant rfl rfl rfl rfl rfl ?_
  refine x_unwant rfl rfl rfl rfl rfl ?_
  refine x_v (r_pk_t rfl rfl) rfl ?_
  refine XL.nil ?_
  refine hK5 _ _ ?_
  refine XC.keep [(4, _), (28, _)] ⟨rfl, rfl, trivial⟩ ?_
  refine XC.cond_t rfl ?_
  refine XC.seq fun K6 hK6 => ?_
  refine XC.region ?_
  refine x_v (r_as rfl) rfl ?_
  refine XL.nil ?_
  refine hK6 _ _ ?_
  refine XC.keep [(2, _)] ⟨rfl, trivial⟩ ?_
  refine XC.ret ?_
  exact fin1 rfl (⟨by rw [hn0]; rfl, rfl⟩) gS
end Go.Proofs.YtcmdmhmgffjknaaGreatDoor
/- Segments: functions 28, 30, 36, 35, 13. -/
namespace Go.Proofs.YtcmdmhmgffjknaaGreatDoor
open Go.Sx
set_option linter.unusedVariables false

structure Sg where
 bytes : List UInt8
 kind : Int
 base : List UInt8
 behind : Int
def sgc (s : Sg) : List Value := [str s.bytes, .int .i64 s.kind, str s.base, .int .i64 s.behind]
def doneB (y : Rd) : Bool := !y.2 && decide (y.1 = [])
def readS (b : List UInt8) : Sg := match openF b with
 | none => ⟨b, 0, [], 0⟩
 | some (p, _) => if (numR (p, false)).1 = 1 then ⟨b, if doneB (textR (numR (p, false)).2).2 = true then 1 else 0, (textR (numR (p, false)).2).1, 0⟩
  else if (numR (p, false)).1 = 2 then ⟨b, if doneB (numR (numR (p, false)).2).2 = true then 2 else 0, [], (numR (numR (p, false)).2).1⟩ else ⟨b, 0, [], 0⟩
theorem dsk_ok {W0 w : World} {d : Nat} {D : Dk} {Rs : List HP} (H : Own W0 w (dsk d D :: Rs)) : DkOk D := let ⟨_, h, _⟩ := dsk_open H; h.ok
theorem getF_mem {L : List (List UInt8 × Fi)} {n : List UInt8} {x : Fi} (h : getF L n = some x) : (n, x) ∈ L := by
 rcases getF_split L n with ⟨h1, _⟩ | ⟨L1, y, L2, rfl, h1, _⟩
 ·rw [h1] at h; cases h
 ·rw [h1] at h; injection h with h; subst h; simp
theorem readD_len {D : Dk} (h : DkOk D) (n : List UInt8) : (readD D n).1.length ≤ 1048576 := by
 unfold readD
 split
 ·simp
 ·split
  ·simp
  ·rename_i x hx; exact (h.fi _ (getF_mem hx)).2.1
theorem sread_th : ∃ fn c, Tryz.prog.funcs[28]? = some fn ∧ (fn.name == "runtime.NumGoroutine") = false ∧ fn.body = some c := ⟨_, _, Tryz.func28, by kernel_rfl, rfl⟩
theorem sread_tr {W0 : World} (d : Nat) (D : Dk) (f : List UInt8) (Fr : List HP) : Tr W0 Tryz.prog 28 [.pointer (some ⟨d, 0, none⟩), str f] (dsk d D :: Fr) (fun v Rs' => v = .agg (sgc (readS (readD D f).1)).toArray ∧ Rs' = dsk d D :: Fr) := by
 have hmax : maxS = 140737488355328 := rfl
 refine Tr.fact sread_th (fun w hw => dsk_ok hw) fun hok => ?_
 have hlen := readD_len hok f
 refine Entry.tr (N := 51) (rs := [.cell 4 59]) ⟨_, Tryz.func28, rfl, by kernel_rfl, rfl, rfl⟩ rfl ?_
 refine XC.seq fun K1 hK1 => ?_
 refine XC.region ?_
 refine x_a (r_al ty59 rfl) rfl fun b4 => ?_
 refine XL.nil ?_
 refine hK1 _ _ ?_
 refine XC.keep [(0, _), (1, _), (4, _)] ⟨rfl, rfl, rfl, trivial⟩ ?_
 refine XC.seq fun K2 hK2 => ?_
 refine XC.region ?_
 refine x_v (r_mv rfl) rfl ?_
 refine x_v (r_mv rfl) rfl ?_
 refine x_c (r_call0 (args := [_, _]) ⟨rfl, rfl, rfl⟩ (dread_tr d D f (blk b4 59 [str [], .int .i64 0, str [], .int .i64 0] :: Fr)) gS) rfl ?_
 rintro _ _ ⟨rfl, hRs⟩
 rw [hRs]
 refine x_v (r_mv rfl) rfl ?_
 refine x_v (r_ex rfl rfl) rfl ?_
 refine x_v (r_ex rfl rfl) rfl ?_
 refine x_v (r_fa fo59_0 rfl) rfl ?_
 refine x_e (r_st ty9 rfl rfl rfl rfl rfl uD oV) ?_
 refine XL.nil ?_
 refine hK2 _ _ ?_
 refine XC.keep [(4, _)] ⟨rfl, trivial⟩ ?_
 refine XC.seq fun K3 hK3 => ?_
 refine XC.region ?_
 refine x_v (r_fa fo59_0 rfl) rfl ?_
 refine x_v (r_ld ty9 rfl pK (by rfl)) rfl ?_
 refine x_c (r_call0 (args := [_]) ⟨rfl, rfl⟩ (open_tr (readD D f).1 (blk b4 59 [str (readD D f).1, .int .i64 0, str [], .int .i64 0] :: dsk d D :: Fr) (by omega)) gS) rfl ?_
 rintro _ _ ⟨hv, hRs⟩
 rw [hRs]
 generalize hb : (readD D f).1 = b at hlen hv ⊢
 rcases hO : openF b with _ | ⟨p, q⟩ <;> rw [hO] at hv <;> subst hv <;> simp only [openV]
 ·refine x_v (r_mv rfl) rfl ?_
  refine x_v (r_ex rfl rfl) rfl ?_
  refine x_v (r_ex rfl rfl) rfl ?_
  refine x_v (r_ex rfl rfl) rfl ?_
  refine x_v (r_as rfl) rfl ?_
  refine x_v (r_as rfl) rfl ?_
  refine x_v (r_as rfl) rfl ?_
  refine XL.nil ?_
  refine hK3 _ _ ?_
  refine XC.keep [(4, _), (5, _), (7, _)] ⟨rfl, rfl, rfl, trivial⟩ ?_
  refine XC.seq fun K4 hK4 => ?_
  refine XC.seq fun K5 hK5 => ?_
  refine XC.region ?_
  refine x_v (r_mv rfl) rfl ?_
  refine x_v (r_ne rfl rfl) rfl ?_
  refine XL.nil ?_
  refine hK5 _ _ ?_
  refine XC.keep [(4, _), (5, _), (25, _)] ⟨rfl, rfl, rfl, trivial⟩ ?_
  refine XC.cond_d rfl (fun hc1 => ?_) (fun hc1 => ?_)
  ·refine XC.seq fun K6 hK6 => ?_
   refine XC.region ?_
   refine x_v (r_lda (l' := [_, _, _, _]) ty59 rfl pK rfl (Sub.get sU)) rfl ?_
   refine x_e (r_st ty59 rfl rfl rfl rfl rfl uD oV) ?_
   refine XL.nil ?_
   refine hK6 _ _ ?_
   refine XC.keep [(4, _)] ⟨rfl, trivial⟩ ?_
   refine XC.ret ?_
   exact finc1 ty59 rfl pK (by rfl) (⟨by unfold readS; rw [hb, hO]; dsimp only; simp_all [sgc, doneB], rfl⟩) gS
  ·exfalso; omega
 ·obtain ⟨jj, hj1, hj2, hj3, hj4⟩ := openF_suf hO
  have hnl := numR_le (p, false)
  dsimp only at hnl
  refine x_v (r_mv rfl) rfl ?_
  refine x_v (r_ex rfl rfl) rfl ?_
  refine x_v (r_ex rfl rfl) rfl ?_
  refine x_v (r_ex rfl rfl) rfl ?_
  refine x_v (r_as rfl) rfl ?_
  refine x_v (r_as rfl) rfl ?_
  refine x_v (r_as rfl) rfl ?_
  refine XL.nil ?_
  refine hK3 _ _ ?_
  refine XC.keep [(4, _), (5, _), (7, _)] ⟨rfl, rfl, rfl, trivial⟩ ?_
  refine XC.seq fun K7 hK7 => ?_
  refine XC.seq fun K8 hK8 => ?_
  refine XC.region ?_
  refine x_v (r_mv rfl) rfl ?_
  refine x_v (r_ne rfl rfl) rfl ?_
  refine XL.nil ?_
  refine hK8 _ _ ?_
  refine XC.keep [(4, _), (5, _), (25, _)] ⟨rfl, rfl, rfl, trivial⟩ ?_
  refine XC.cond_d rfl (fun hc2 => ?_) (fun hc2 => ?_)
  ·exfalso; omega
  ·refine XC.skip ?_
   refine hK7 _ _ ?_
   refine XC.keep [(4, _), (5, _)] ⟨rfl, rfl, trivial⟩ ?_
   refine XC.seq fun K9 hK9 => ?_
   refine XC.region ?_
   refine x_v (r_mv rfl) rfl ?_
   refine x_c (r_call0 (args := [_]) ⟨rfl, rfl⟩ (read_tr p (blk b4 59 [str b, .int .i64 0, str [], .int .i64 0] :: dsk d D :: Fr)) gS) rfl ?_
   rintro _ _ ⟨r, rfl, hRs⟩
   rw [hRs]
   refine x_v (r_as rfl) rfl ?_
   refine XL.nil ?_
   refine hK9 _ _ ?_
   refine XC.keep [(4, _), (8, _)] ⟨rfl, rfl, trivial⟩ ?_
   refine XC.seq fun K10 hK10 => ?_
   refine XC.seq fun K11 hK11 => ?_
   refine XC.region ?_
   refine x_v (r_mv rfl) rfl ?_
   refine x_c (r_call0 (args := [_]) ⟨rfl, rfl⟩ (num_tr r (p, false) (blk b4 59 [str b, .int .i64 0, str [], .int .i64 0] :: dsk d D :: Fr) (by dsimp only; omega)) gS) rfl ?_
   rintro _ _ ⟨rfl, hRs⟩
   rw [hRs]
   refine x_v (r_as rfl) rfl ?_
   refine XL.nil ?_
   refine hK11 _ _ ?_
   refine XC.keep [(4, _), (8, _), (9, _)] ⟨rfl, rfl, rfl, trivial⟩ ?_
   refine XC.seq fun K12 hK12 => ?_
   refine XC.region ?_
   refine x_v (r_mv rfl) rfl ?_
   refine XL.nil ?_
   refine hK12 _ _ ?_
   refine XC.keep [(4, _), (8, _), (9, _), (31, _)] ⟨rfl, rfl, rfl, rfl, trivial⟩ ?_
   refine XC.block ?_
   refine XC.seq fun K13 hK13 => ?_
   refine XC.region ?_
   refine x_v (r_eq rfl rfl) rfl ?_
   refine x_v (r_as rfl) rfl ?_
   refine XL.nil ?_
   refine hK13 _ _ ?_
   refine XC.keep [(4, _), (8, _), (9, _), (31, _), (32, _)] ⟨rfl, rfl, rfl, rfl, rfl, trivial⟩ ?_
   refine XC.cond_d rfl (fun hc3 => ?_) (fun hc3 => ?_)
   ·refine XC.seq fun K14 hK14 => ?_
    refine XC.region ?_
    refine x_v (r_mv rfl) rfl ?_
    refine x_c (r_call0 (args := [_]) ⟨rfl, rfl⟩ (textt_tr r (numR (p, false)).2 (blk b4 59 [str b, .int .i64 0, str [], .int .i64 0] :: dsk d D :: Fr) (by omega)) gS) rfl ?_
    rintro _ _ ⟨rfl, hRs⟩
    rw [hRs]
    refine x_v (r_fa fo59_2 rfl) rfl ?_
    refine x_e (r_st ty9 rfl rfl rfl rfl rfl uD oV) ?_
    refine XL.nil ?_
    refine hK14 _ _ ?_
    refine XC.keep [(4, _), (8, _), (9, _)] ⟨rfl, rfl, rfl, trivial⟩ ?_
    refine XC.seq fun K15 hK15 => ?_
    refine XC.region ?_
    refine x_v (r_mv rfl) rfl ?_
    refine x_c (r_call0 (args := [_]) ⟨rfl, rfl⟩ (done_tr r (textR (numR (p, false)).2).2 (blk b4 59 [str b, .int .i64 0, str (textR (numR (p, false)).2).1, .int .i64 0] :: dsk d D :: Fr)) gS) rfl ?_
    rintro _ _ ⟨rfl, hRs⟩
    rw [hRs]
    refine XL.nil ?_
    refine hK15 _ _ ?_
    refine XC.keep [(4, _), (9, _), (38, _)] ⟨rfl, rfl, rfl, trivial⟩ ?_
    refine XC.cond rfl (fun hc4 => ?_) (fun hc4 => ?_)
    ·refine XC.region ?_
     refine x_v (r_mv rfl) rfl ?_
     refine x_v (r_fa fo59_1 rfl) rfl ?_
     refine x_e (r_st ty3 rfl rfl rfl rfl rfl uD oV) ?_
     refine XL.nil ?_
     refine hK10 _ _ ?_
     refine XC.keep [(4, _)] ⟨rfl, trivial⟩ ?_
     refine XC.seq fun K16 hK16 => ?_
     refine XC.region ?_
     refine x_v (r_lda (l' := [_, _, _, _]) ty59 rfl pK rfl (Sub.get sU)) rfl ?_
     refine x_e (r_st ty59 rfl rfl rfl rfl rfl uD oV) ?_
     refine XL.nil ?_
     refine hK16 _ _ ?_
     refine XC.keep [(4, _)] ⟨rfl, trivial⟩ ?_
     refine XC.ret ?_
     exact finc1 ty59 rfl pK (by rfl) (⟨by unfold readS; rw [hb, hO]; dsimp only; simp_all [sgc, doneB], rfl⟩) gS
    ·refine XC.skip ?_
     refine hK10 _ _ ?_
     refine XC.keep [(4, _)] ⟨rfl, trivial⟩ ?_
     refine XC.seq fun K17 hK17 => ?_
     refine XC.region ?_
     refine x_v (r_lda (l' := [_, _, _, _]) ty59 rfl pK rfl (Sub.get sU)) rfl ?_
     refine x_e (r_st ty59 rfl rfl rfl rfl rfl uD oV) ?_
     refine XL.nil ?_
     refine hK17 _ _ ?_
     refine XC.keep [(4, _)] ⟨rfl, trivial⟩ ?_
     refine XC.ret ?_
     exact finc1 ty59 rfl pK (by rfl) (⟨by unfold readS; rw [hb, hO]; dsimp only; simp_all [sgc, doneB], rfl⟩) gS
   ·refine XC.seq fun K18 hK18 => ?_
    refine XC.region ?_
    refine x_v (r_eq rfl rfl) rfl ?_
    refine x_v (r_as rfl) rfl ?_
    refine XL.nil ?_
    refine hK18 _ _ ?_
    refine XC.keep [(4, _), (8, _), (9, _), (41, _)] ⟨rfl, rfl, rfl, rfl, trivial⟩ ?_
    refine XC.cond_d rfl (fun hc5 => ?_) (fun hc5 => ?_)
    ·refine XC.seq fun K19 hK19 => ?_
     refine XC.region ?_
     refine x_v (r_mv rfl) rfl ?_
     refine x_c (r_call0 (args := [_]) ⟨rfl, rfl⟩ (num_tr r (numR (p, false)).2 (blk b4 59 [str b, .int .i64 0, str [], .int .i64 0] :: dsk d D :: Fr) (by omega)) gS) rfl ?_
     rintro _ _ ⟨rfl, hRs⟩
     rw [hRs]
     refine x_v (r_fa fo59_3 rfl) rfl ?_
     refine x_e (r_st ty3 rfl rfl rfl rfl rfl uD oV) ?_
     refine XL.nil ?_
     refine hK19 _ _ ?_
     refine XC.keep [(4, _), (8, _), (9, _)] ⟨rfl, rfl, rfl, trivial⟩ ?_
     refine XC.seq fun K20 hK20 => ?_
     refine XC.region ?_
     refine x_v (r_mv rfl) rfl ?_
     refine x_c (r_call0 (args := [_]) ⟨rfl, rfl⟩ (done_tr r (numR (numR (p, false)).2).2 (blk b4 59 [str b, .int .i64 0, str [], .int .i64 (numR (numR (p, false)).2).1] :: dsk d D :: Fr)) gS) rfl ?_
     rintro _ _ ⟨rfl, hRs⟩
     rw [hRs]
     refine XL.nil ?_
     refine hK20 _ _ ?_
     refine XC.keep [(4, _), (9, _), (47, _)] ⟨rfl, rfl, rfl, trivial⟩ ?_
     refine XC.cond rfl (fun hc6 => ?_) (fun hc6 => ?_)
     ·refine XC.region ?_
      refine x_v (r_mv rfl) rfl ?_
      refine x_v (r_fa fo59_1 rfl) rfl ?_
      refine x_e (r_st ty3 rfl rfl rfl rfl rfl uD oV) ?_
      refine XL.nil ?_
      refine hK10 _ _ ?_
      refine XC.keep [(4, _)] ⟨rfl, trivial⟩ ?_
      refine XC.seq fun K21 hK21 => ?_
      refine XC.region ?_
      refine x_v (r_lda (l' := [_, _, _, _]) ty59 rfl pK rfl (Sub.get sU)) rfl ?_
      refine x_e (r_st ty59 rfl rfl rfl rfl rfl uD oV) ?_
      refine XL.nil ?_
      refine hK21 _ _ ?_
      refine XC.keep [(4, _)] ⟨rfl, trivial⟩ ?_
      refine XC.ret ?_
      exact finc1 ty59 rfl pK (by rfl) (⟨by unfold readS; rw [hb, hO]; dsimp only; simp_all [sgc, doneB], rfl⟩) gS
     ·refine XC.skip ?_
      refine hK10 _ _ ?_
      refine XC.keep [(4, _)] ⟨rfl, trivial⟩ ?_
      refine XC.seq fun K22 hK22 => ?_
      refine XC.region ?_
      refine x_v (r_lda (l' := [_, _, _, _]) ty59 rfl pK rfl (Sub.get sU)) rfl ?_
      refine x_e (r_st ty59 rfl rfl rfl rfl rfl uD oV) ?_
      refine XL.nil ?_
      refine hK22 _ _ ?_
      refine XC.keep [(4, _)] ⟨rfl, trivial⟩ ?_
      refine XC.ret ?_
      exact finc1 ty59 rfl pK (by rfl) (⟨by unfold readS; rw [hb, hO]; dsimp only; simp_all [sgc, doneB], rfl⟩) gS
    ·refine XC.skip ?_
     refine hK10 _ _ ?_
     refine XC.keep [(4, _)] ⟨rfl, trivial⟩ ?_
     refine XC.seq fun K23 hK23 => ?_
     refine XC.region ?_
     refine x_v (r_lda (l' := [_, _, _, _]) ty59 rfl pK rfl (Sub.get sU)) rfl ?_
     refine x_e (r_st ty59 rfl rfl rfl rfl rfl uD oV) ?_
     refine XL.nil ?_
     refine hK23 _ _ ?_
     refine XC.keep [(4, _)] ⟨rfl, trivial⟩ ?_
     refine XC.ret ?_
     exact finc1 ty59 rfl pK (by rfl) (⟨by unfold readS; rw [hb, hO]; dsimp only; simp_all [sgc, doneB], rfl⟩) gS
def followsF (s a : Sg) : Option (List (List UInt8)) :=
 if s.kind ≠ 2 ∨ s.behind < 1 ∨ (a.bytes.length : Int) < s.behind then none
 else if ((scanF (a.bytes.take s.behind.toNat)).2 : Int) ≠ s.behind ∨ (scanF (a.bytes.take s.behind.toNat)).1.length = 0 then none
 else some (scanF (a.bytes.take s.behind.toNat)).1.tail
def FolV (s a : Sg) (W0 : World) (Fr : List HP) (v : Value) (Rs' : List HP) : Prop := match followsF s a with
 | none => v = .tuple #[.slice none 0 0, .bool false] ∧ Rs' = Fr
 | some L => ∃ (A A0 : Option Addr) (c c0 : Nat) (x : List UInt8), v = .tuple #[.slice A L.length c, .bool true] ∧ L.length ≤ c ∧ Rs' = sl A0 (x :: L).length c0 9 1 (cells sv (x :: L)) :: Fr ∧ Rdb W0 Rs' A L.length 1 (cells sv L)
theorem rd_cut1 {W0 : World} {Fr : List HP} {A : Option Addr} {x : List UInt8} {L : List (List UInt8)} {c : Nat} (h : Rdb W0 Fr A (x :: L).length 1 (cells sv (x :: L))) (hc : (x :: L).length ≤ c) : Rdb W0 Fr (if c = 1 then A else A.map (·.add (1 * 1))) L.length 1 (cells sv L) := by
 have h1 := h.cut (lo := 1) (hi := (x :: L).length) (cap := c) (by simp) (Nat.le_refl _) hc
 have e : (x :: L).length - 1 = L.length := by simp
 rw [e] at h1
 have e2 : ((cells sv (x :: L)).drop (1 * 1)).take (L.length * 1) = cells sv L := by
  rw [cells_cons]
  show ((cells sv L)).take (L.length * 1) = _
  exact List.take_of_length_le (by rw [cells_len sv_len]; omega)
 rw [e2] at h1; exact h1
theorem follows_tr {W0 : World} (s a : Sg) (Fr : List HP) (hl : a.bytes.length ≤ 4194304) : Tr W0 Tryz.prog 30 [.agg (sgc s).toArray, .agg (sgc a).toArray] Fr (FolV s a W0 Fr) := by
 have hmax : maxS = 140737488355328 := rfl
 have htl : (a.bytes.take s.behind.toNat).length ≤ 4194304 := by rw [List.length_take]; omega
 have hF : followsF s a = if s.kind ≠ 2 ∨ s.behind < 1 ∨ (a.bytes.length : Int) < s.behind then none
  else if ((scanF (a.bytes.take s.behind.toNat)).2 : Int) ≠ s.behind ∨ (scanF (a.bytes.take s.behind.toNat)).1.length = 0 then none
  else some (scanF (a.bytes.take s.behind.toNat)).1.tail := rfl
 generalize hS : scanF (a.bytes.take s.behind.toNat) = S at hF
 obtain ⟨L, e⟩ := S
 dsimp only at hF
 have hP : ∀ v Rs', (match followsF s a with
  | none => v = .tuple #[.slice none 0 0, .bool false] ∧ Rs' = Fr
  | some L => ∃ (A A0 : Option Addr) (c c0 : Nat) (x : List UInt8), v = .tuple #[.slice A L.length c, .bool true] ∧ L.length ≤ c ∧ Rs' = sl A0 (x :: L).length c0 9 1 (cells sv (x :: L)) :: Fr ∧ Rdb W0 Rs' A L.length 1 (cells sv L)) → FolV s a W0 Fr v Rs' := fun v Rs' h => h
 unfold sgc
 refine Entry.tr (N := 44) (rs := [.tmp 4, .tmp 5]) ⟨_, Tryz.func30, rfl, by kernel_rfl, rfl, rfl⟩ rfl ?_
 refine XC.seq fun K1 hK1 => ?_
 refine XC.region ?_
 refine x_a (r_bx rfl rfl) rfl fun b2 => ?_
 refine x_a (r_bx rfl rfl) rfl fun b3 => ?_
 refine x_v (r_as rfl) rfl ?_
 refine x_v (r_as rfl) rfl ?_
 refine XL.nil ?_
 refine hK1 _ _ ?_
 refine XC.keep [(2, _), (3, _)] ⟨rfl, rfl, trivial⟩ ?_
 refine XC.seq fun K2 hK2 => ?_
 refine XC.seq fun K3 hK3 => ?_
 refine XC.region ?_
 refine x_v (r_fa fo59_1 rfl) rfl ?_
 refine x_v (r_ld ty3 rfl pK (by rfl)) rfl ?_
 refine x_v (r_ne rfl rfl) rfl ?_
 refine x_v (r_mv rfl) rfl ?_
 refine XL.splitd 11 rfl (fun hg11 => ?_) (fun hg11 => ?_)
 ·refine x_unwant rfl rfl rfl rfl rfl ?_
  refine x_unwant rfl rfl rfl rfl rfl ?_
  refine x_unwant rfl rfl rfl rfl rfl ?_
  refine x_v (r_pk_t rfl rfl) rfl ?_
  refine x_v (r_mv rfl) rfl ?_
  refine x_unwant rfl rfl rfl rfl rfl ?_
  refine x_unwant rfl rfl rfl rfl rfl ?_
  refine x_unwant rfl rfl rfl rfl rfl ?_
  refine x_unwant rfl rfl rfl rfl rfl ?_
  refine x_unwant rfl rfl rfl rfl rfl ?_
  refine x_unwant rfl rfl rfl rfl rfl ?_
  refine x_v (r_pk_t rfl rfl) rfl ?_
  refine XL.nil ?_
  refine hK3 _ _ ?_
  refine XC.keep [(2, _), (3, _), (23, _)] ⟨rfl, rfl, rfl, trivial⟩ ?_
  refine XC.cond_t rfl ?_
  refine XC.seq fun K4 hK4 => ?_
  refine XC.region ?_
  refine x_v (r_as rfl) rfl ?_
  refine x_v (r_as rfl) rfl ?_
  refine XL.nil ?_
  refine hK4 _ _ ?_
  refine XC.keep [(4, _), (5, _)] ⟨rfl, rfl, trivial⟩ ?_
  refine XC.ret ?_
  exact fin2 rfl rfl ((by unfold FolV; rw [hF]; first | (rw [if_pos (by omega)]; exact ⟨rfl, rfl⟩) | exact ⟨_, A, _, c, x, rfl, by have h0 := hl4; simp only [List.length_cons] at h0; show L.length ≤ c - 1; omega, rfl, hrd⟩)) gS
 ·refine x_want rfl rfl rfl ?_
  refine x_v (r_fa fo59_3 rfl) rfl ?_
  refine x_want rfl rfl rfl ?_
  refine x_v (r_ld ty3 rfl pK (by rfl)) rfl ?_
  refine x_want rfl rfl rfl ?_
  refine x_v (r_lt rfl rfl) rfl ?_
  refine x_v (r_pk_f rfl rfl) rfl ?_
  refine x_v (r_mv rfl) rfl ?_
  refine XL.splitd 16 rfl (fun hg16 => ?_) (fun hg16 => ?_)
  ·refine x_unwant rfl rfl rfl rfl rfl ?_
   refine x_unwant rfl rfl rfl rfl rfl ?_
   refine x_unwant rfl rfl rfl rfl rfl ?_
   refine x_unwant rfl rfl rfl rfl rfl ?_
   refine x_unwant rfl rfl rfl rfl rfl ?_
   refine x_unwant rfl rfl rfl rfl rfl ?_
   refine x_v (r_pk_t rfl rfl) rfl ?_
   refine XL.nil ?_
   refine hK3 _ _ ?_
   refine XC.keep [(2, _), (3, _), (23, _)] ⟨rfl, rfl, rfl, trivial⟩ ?_
   refine XC.cond_t rfl ?_
   refine XC.seq fun K5 hK5 => ?_
   refine XC.region ?_
   refine x_v (r_as rfl) rfl ?_
   refine x_v (r_as rfl) rfl ?_
   refine XL.nil ?_
   refine hK5 _ _ ?_
   refine XC.keep [(4, _), (5, _)] ⟨rfl, rfl, trivial⟩ ?_
   refine XC.ret ?_
   exact fin2 rfl rfl ((by unfold FolV; rw [hF]; first | (rw [if_pos (by omega)]; exact ⟨rfl, rfl⟩) | exact ⟨_, A, _, c, x, rfl, by have h0 := hl4; simp only [List.length_cons] at h0; show L.length ≤ c - 1; omega, rfl, hrd⟩)) gS
  ·refine x_want rfl rfl rfl ?_
   refine x_v (r_fa fo59_3 rfl) rfl ?_
   refine x_want rfl rfl rfl ?_
   refine x_v (r_ld ty3 rfl pK (by rfl)) rfl ?_
   refine x_want rfl rfl rfl ?_
   refine x_v (r_fa fo59_0 rfl) rfl ?_
   refine x_want rfl rfl rfl ?_
   refine x_v (r_ld ty9 rfl pK (by rfl)) rfl ?_
   refine x_want rfl rfl rfl ?_
   refine x_v (r_lens Tryz.underlying9 rfl) rfl ?_
   refine x_want rfl rfl rfl ?_
   refine x_v (r_gt rfl rfl) rfl ?_
   refine x_v (r_pk_f rfl rfl) rfl ?_
   refine XL.nil ?_
   refine hK3 _ _ ?_
   refine XC.keep [(2, _), (3, _), (23, _)] ⟨rfl, rfl, rfl, trivial⟩ ?_
   refine XC.cond_d rfl (fun hc3 => ?_) (fun hc3 => ?_)
   ·refine XC.seq fun K6 hK6 => ?_
    refine XC.region ?_
    refine x_v (r_as rfl) rfl ?_
    refine x_v (r_as rfl) rfl ?_
    refine XL.nil ?_
    refine hK6 _ _ ?_
    refine XC.keep [(4, _), (5, _)] ⟨rfl, rfl, trivial⟩ ?_
    refine XC.ret ?_
    exact fin2 rfl rfl ((by unfold FolV; rw [hF]; first | (rw [if_pos (by omega)]; exact ⟨rfl, rfl⟩) | exact ⟨_, A, _, c, x, rfl, by have h0 := hl4; simp only [List.length_cons] at h0; show L.length ≤ c - 1; omega, rfl, hrd⟩)) gS
   ·refine XC.skip ?_
    refine hK2 _ _ ?_
    refine XC.keep [(2, _), (3, _)] ⟨rfl, rfl, trivial⟩ ?_
    refine XC.seq fun K7 hK7 => ?_
    rw [if_neg (by omega)] at hF
    obtain ⟨m, hm⟩ : ∃ m : Nat, s.behind = (m : Int) := ⟨s.behind.toNat, by omega⟩
    rw [hm] at hF hS htl ⊢
    rw [Int.toNat_natCast] at hS htl
    refine XC.region ?_
    refine x_v (r_fa fo59_0 rfl) rfl ?_
    refine x_v (r_ld ty9 rfl pK (by rfl)) rfl ?_
    refine x_v (r_fa fo59_3 rfl) rfl ?_
    refine x_v (r_ld ty3 rfl pK (by rfl)) rfl ?_
    refine x_v (yv (v' := str (a.bytes.take m)) (r_ssl 0 m Tryz.underlying9 rfl rfl ⟨_, by rfl⟩ (by omega) (by omega)) rfl) rfl ?_
    refine x_c (r_call0 (args := [_]) ⟨rfl, rfl⟩ (scan_tr (a.bytes.take m) (blk b2 59 [str s.bytes, .int .i64 s.kind, str s.base, .int .i64 (m : Int)] :: blk b3 59 [str a.bytes, .int .i64 a.kind, str a.base, .int .i64 a.behind] :: Fr) htl) gS) rfl ?_
    rintro _ _ ⟨A, c, hv, hRs⟩
    rw [hS] at hv hRs
    subst hv
    rw [hRs]
    dsimp only
    refine x_v (r_mv rfl) rfl ?_
    refine x_v (r_ex rfl rfl) rfl ?_
    refine x_v (r_ex rfl rfl) rfl ?_
    refine x_v (r_as rfl) rfl ?_
    refine x_v (r_as rfl) rfl ?_
    refine XL.nil ?_
    refine hK7 _ _ ?_
    refine XC.keep [(2, _), (6, _), (7, _)] ⟨rfl, rfl, rfl, trivial⟩ ?_
    refine XC.seq fun K8 hK8 => ?_
    refine XC.seq fun K9 hK9 => ?_
    refine XC.region ?_
    refine x_v (r_mv rfl) rfl ?_
    refine x_v (r_fa fo59_3 rfl) rfl ?_
    refine x_v (r_ld ty3 rfl pK (by rfl)) rfl ?_
    refine x_v (r_ne rfl rfl) rfl ?_
    refine x_v (r_mv rfl) rfl ?_
    refine XL.splitd 37 rfl (fun hg37 => ?_) (fun hg37 => ?_)
    ·refine x_unwant rfl rfl rfl rfl rfl ?_
     refine x_unwant rfl rfl rfl rfl rfl ?_
     refine x_unwant rfl rfl rfl rfl rfl ?_
     refine x_v (r_pk_t rfl rfl) rfl ?_
     refine XL.nil ?_
     refine hK9 _ _ ?_
     refine XC.keep [(6, _), (41, _)] ⟨rfl, rfl, trivial⟩ ?_
     refine XC.cond_t rfl ?_
     refine XC.seq fun K10 hK10 => ?_
     refine XC.region ?_
     refine x_v (r_as rfl) rfl ?_
     refine x_v (r_as rfl) rfl ?_
     refine XL.nil ?_
     refine hK10 _ _ ?_
     refine XC.keep [(4, _), (5, _)] ⟨rfl, rfl, trivial⟩ ?_
     refine XC.ret ?_
     exact fin2 rfl rfl ((by unfold FolV; rw [hF]; first | (rw [if_pos (by omega)]; exact ⟨rfl, rfl⟩) | exact ⟨_, A, _, c, x, rfl, by have h0 := hl4; simp only [List.length_cons] at h0; show L.length ≤ c - 1; omega, rfl, hrd⟩)) gS
    ·refine x_want rfl rfl rfl ?_
     refine x_v (r_mv rfl) rfl ?_
     refine x_want rfl rfl rfl ?_
     refine x_v (r_lensl Tryz.underlying22 rfl) rfl ?_
     refine x_want rfl rfl rfl ?_
     refine x_v (r_eq rfl rfl) rfl ?_
     refine x_v (r_pk_f rfl rfl) rfl ?_
     refine XL.nil ?_
     refine hK9 _ _ ?_
     refine XC.keep [(6, _), (41, _)] ⟨rfl, rfl, trivial⟩ ?_
     refine XC.cond_d rfl (fun hc5 => ?_) (fun hc5 => ?_)
     ·refine XC.seq fun K11 hK11 => ?_
      refine XC.region ?_
      refine x_v (r_as rfl) rfl ?_
      refine x_v (r_as rfl) rfl ?_
      refine XL.nil ?_
      refine hK11 _ _ ?_
      refine XC.keep [(4, _), (5, _)] ⟨rfl, rfl, trivial⟩ ?_
      refine XC.ret ?_
      exact fin2 rfl rfl ((by unfold FolV; rw [hF]; first | (rw [if_pos (by omega)]; exact ⟨rfl, rfl⟩) | exact ⟨_, A, _, c, x, rfl, by have h0 := hl4; simp only [List.length_cons] at h0; show L.length ≤ c - 1; omega, rfl, hrd⟩)) gS
     ·refine XC.skip ?_
      refine hK8 _ _ ?_
      refine XC.keep [(6, _)] ⟨rfl, trivial⟩ ?_
      refine XC.seq fun K12 hK12 => ?_
      rw [if_neg (by omega)] at hF
      obtain ⟨x, L, rfl⟩ : ∃ x L2, L = x :: L2 := List.exists_cons_of_length_pos (by omega)
      refine XC.slnn pK fun hl1 hl2 => ?_
      refine XC.sllen pK fun hl3 hl4 hl5 => ?_
      have hrd : Rdb W0 (sl A (x :: L).length c 9 1 (cells sv (x :: L)) :: Fr) (if c = 1 then A else A.map (·.add (1 * 1))) L.length 1 (cells sv L) := rd_cut1 (Rdb.of_sl pK hl1 hl2) hl4
      refine XC.region ?_
      refine x_v (r_mv rfl) rfl ?_
      refine x_v (yv (v' := .slice (if c = 1 then A else A.map (·.add (1 * 1))) L.length (c - 1)) (r_sll 1 (x :: L).length Tryz.underlying22 ty9 rfl ⟨_, by rfl⟩ rfl (by simp) hl4) (by congr 1)) rfl ?_
      refine x_v (r_as rfl) rfl ?_
      refine x_v (r_as rfl) rfl ?_
      refine XL.nil ?_
      refine hK12 _ _ ?_
      refine XC.keep [(4, _), (5, _)] ⟨rfl, rfl, trivial⟩ ?_
      refine XC.ret ?_
      exact fin2 rfl rfl ((by unfold FolV; rw [hF]; first | (rw [if_pos (by omega)]; exact ⟨rfl, rfl⟩) | exact ⟨_, A, _, c, x, rfl, by have h0 := hl4; simp only [List.length_cons] at h0; show L.length ≤ c - 1; omega, rfl, hrd⟩)) gS
theorem spent_tr {W0 : World} (l : Nat) (n g : Int) (t : Bool) (q1 q2 : Value) (Fr : List HP) : Tr W0 Tryz.prog 35 [.pointer (some ⟨l, 0, none⟩)] (blk l 56 [.int .i64 n, .int .i64 g, .bool t, q1, q2] :: Fr) (fun v Rs' => v = .bool (t || decide (2048 ≤ g)) ∧ Rs' = blk l 56 [.int .i64 n, .int .i64 g, .bool t, q1, q2] :: Fr) := by
 refine Entry.tr (N := 14) (rs := [.tmp 2]) ⟨_, Tryz.func35, rfl, by kernel_rfl, rfl, rfl⟩ rfl ?_
 refine XC.seq fun K1 hK1 => ?_
 refine XC.region ?_
 refine x_v (r_as rfl) rfl ?_
 refine XL.nil ?_
 refine hK1 _ _ ?_
 refine XC.keep [(0, _)] ⟨rfl, trivial⟩ ?_
 refine XC.seq fun K2 hK2 => ?_
 refine XC.region ?_
 refine x_v (r_mv rfl) rfl ?_
 refine x_v (r_nc rfl) rfl ?_
 refine x_v (r_fa fo54_2 rfl) rfl ?_
 refine x_v (r_ld ty4 rfl pK (by rfl)) rfl ?_
 refine x_v (r_mv rfl) rfl ?_
 refine XL.split 7 rfl (fun hg7 => ?_) (fun hg7 => ?_)
 ·refine x_unwant rfl rfl rfl rfl rfl ?_
  refine x_unwant rfl rfl rfl rfl rfl ?_
  refine x_unwant rfl rfl rfl rfl rfl ?_
  refine x_unwant rfl rfl rfl rfl rfl ?_
  refine x_unwant rfl rfl rfl rfl rfl ?_
  refine x_v (r_pk_t rfl rfl) rfl ?_
  refine x_v (r_as rfl) rfl ?_
  refine XL.nil ?_
  refine hK2 _ _ ?_
  refine XC.keep [(2, _)] ⟨rfl, trivial⟩ ?_
  refine XC.ret ?_
  exact fin1 rfl (⟨by simp_all, rfl⟩) gS
 ·refine x_want rfl rfl rfl ?_
  refine x_v (r_mv rfl) rfl ?_
  refine x_want rfl rfl rfl ?_
  refine x_v (r_nc rfl) rfl ?_
  refine x_want rfl rfl rfl ?_
  refine x_v (r_fa fo54_1 rfl) rfl ?_
  refine x_want rfl rfl rfl ?_
  refine x_v (r_ld ty3 rfl pK (by rfl)) rfl ?_
  refine x_want rfl rfl rfl ?_
  refine x_v (r_ge rfl rfl) rfl ?_
  refine x_v (r_pk_f rfl rfl) rfl ?_
  refine x_v (r_as rfl) rfl ?_
  refine XL.nil ?_
  refine hK2 _ _ ?_
  refine XC.keep [(2, _)] ⟨rfl, trivial⟩ ?_
  refine XC.ret ?_
  exact fin1 rfl (⟨by simp_all, rfl⟩) gS
structure Lg where
 number : Nat
 good : Nat
 torn : Bool
 first : Nat
def lgc (l d : Nat) (L : Lg) : HP := blk l 56 [.int .i64 (L.number : Int), .int .i64 (L.good : Int), .bool L.torn, .pointer (some ⟨d, 0, none⟩), .int .i64 (L.first : Int)]
theorem segment_tr {W0 : World} (l d : Nat) (L : Lg) (Fr : List HP) : Tr W0 Tryz.prog 13 [.pointer (some ⟨l, 0, none⟩)] (lgc l d L :: Fr) (fun v Rs' => v = .int .i64 (L.number : Int) ∧ Rs' = lgc l d L :: Fr) := by
 unfold lgc
 refine Entry.tr (N := 10) (rs := [.tmp 2]) ⟨_, Tryz.func13, rfl, by kernel_rfl, rfl, rfl⟩ rfl ?_
 refine XC.seq fun K1 hK1 => ?_
 refine XC.region ?_
 refine x_v (r_as rfl) rfl ?_
 refine XL.nil ?_
 refine hK1 _ _ ?_
 refine XC.keep [(0, _)] ⟨rfl, trivial⟩ ?_
 refine XC.seq fun K2 hK2 => ?_
 refine XC.seq fun K3 hK3 => ?_
 refine XC.region ?_
 refine x_v (r_mv rfl) rfl ?_
 refine x_v (r_peq_some Tryz.underlying29 rfl rfl) rfl ?_
 refine XL.nil ?_
 refine hK3 _ _ ?_
 refine XC.keep [(0, _), (4, _)] ⟨rfl, rfl, trivial⟩ ?_
 refine XC.cond_f rfl ?_
 refine XC.skip ?_
 refine hK2 _ _ ?_
 refine XC.keep [(0, _)] ⟨rfl, trivial⟩ ?_
 refine XC.seq fun K4 hK4 => ?_
 refine XC.region ?_
 refine x_v (r_mv rfl) rfl ?_
 refine x_v (r_nc rfl) rfl ?_
 refine x_v (r_fa fo56_0 rfl) rfl ?_
 refine x_v (r_fa fo54_0 rfl) rfl ?_
 refine x_v (r_ld ty3 rfl pK (by rfl)) rfl ?_
 refine x_v (r_as rfl) rfl ?_
 refine XL.nil ?_
 refine hK4 _ _ ?_
 refine XC.keep [(2, _)] ⟨rfl, trivial⟩ ?_
 refine XC.ret ?_
 exact fin1 rfl (⟨rfl, rfl⟩) gS
theorem segment_nil {W0 : World} (Fr : List HP) : Tr W0 Tryz.prog 13 [.pointer none] Fr (fun v Rs' => v = .int .i64 0 ∧ Rs' = Fr) := by
 refine Entry.tr (N := 10) (rs := [.tmp 2]) ⟨_, Tryz.func13, rfl, by kernel_rfl, rfl, rfl⟩ rfl ?_
 refine XC.seq fun K1 hK1 => ?_
 refine XC.region ?_
 refine x_v (r_as rfl) rfl ?_
 refine XL.nil ?_
 refine hK1 _ _ ?_
 refine XC.keep [(0, _)] ⟨rfl, trivial⟩ ?_
 refine XC.seq fun K2 hK2 => ?_
 refine XC.seq fun K3 hK3 => ?_
 refine XC.region ?_
 refine x_v (r_mv rfl) rfl ?_
 refine x_v (r_peq_nil Tryz.underlying29 rfl rfl) rfl ?_
 refine XL.nil ?_
 refine hK3 _ _ ?_
 refine XC.keep [(0, _), (4, _)] ⟨rfl, rfl, trivial⟩ ?_
 refine XC.cond_t rfl ?_
 refine XC.seq fun K4 hK4 => ?_
 refine XC.region ?_
 refine x_v (r_as rfl) rfl ?_
 refine XL.nil ?_
 refine hK4 _ _ ?_
 refine XC.keep [(2, _)] ⟨rfl, trivial⟩ ?_
 refine XC.ret ?_
 exact fin1 rfl (⟨rfl, rfl⟩) gS
def writeD (D : Dk) (n s : List UInt8) : Int × Dk := if (appendD D n s).1 ≠ 0 then appendD D n s else syncD (appendD D n s).2 n
theorem appendD_steps (D : Dk) (n s : List UInt8) : (appendD D n s).2.steps ≤ D.steps + 1 := by
 unfold appendD
 split
 ·simp
 ·dsimp only; split
  ·simp
  ·split <;> simp [stepD]
theorem write_l {W0 : World} (hL : Laid W0) (l d : Nat) (L : Lg) (D : Dk) (n : Nat) (s : List UInt8) (Fr : List HP) (hn : n ≤ 1000000001) (hl : (Lib.itoa (n : Int)).length ≤ 100) (hs : D.steps < 1000000000) : Tr W0 Tryz.prog 36 [.pointer (some ⟨l, 0, none⟩), .int .i64 (n : Int), str s] (lgc l d L :: dsk d D :: Fr) (fun v Rs' => v = .int .i64 (writeD D (nameB n) s).1 ∧ Rs' = lgc l d L :: dsk d (writeD D (nameB n) s).2 :: Fr) := by
 have hst := appendD_steps D (nameB n) s
 have hW : writeD D (nameB n) s = if (appendD D (nameB n) s).1 ≠ 0 then appendD D (nameB n) s else syncD (appendD D (nameB n) s).2 (nameB n) := rfl
 unfold lgc
 refine Entry.tr (N := 26) (rs := [.tmp 6]) ⟨_, Tryz.func36, rfl, by kernel_rfl, rfl, rfl⟩ rfl ?_
 refine XC.seq fun K1 hK1 => ?_
 refine XC.region ?_
 refine x_v (r_as rfl) rfl ?_
 refine XL.nil ?_
 refine hK1 _ _ ?_
 refine XC.keep [(0, _), (1, _), (2, _)] ⟨rfl, rfl, rfl, trivial⟩ ?_
 refine XC.seq fun K2 hK2 => ?_
 refine XC.seq fun K3 hK3 => ?_
 refine XC.draw (blk l 56 [.int .i64 (L.number : Int), .int .i64 (L.good : Int), .bool L.torn, .pointer (some ⟨d, 0, none⟩), .int .i64 (L.first : Int)] :: []) false [(0, false), (1, false), (2, false), (3, false), (4, false), (6, false), (5, true), (7, true), (8, false)] (by kernel_rfl) (by kernel_rfl) ?_
 refine y_v rfl (r_mv rfl) gT rfl ?_
 refine y_v rfl (r_nc rfl) gT rfl ?_
 refine y_v rfl (r_fa fo56_1 rfl) gT rfl ?_
 refine y_v rfl (r_ld ty38 rfl pK (by rfl)) gT rfl ?_
 refine y_v rfl (r_mv rfl) gT rfl ?_
 refine y_v rfl (r_mv rfl) gT rfl ?_
 refine y_c rfl (r_call0 (args := [_]) ⟨rfl, rfl⟩ (name_tr hL n hn hl (blk l 56 [.int .i64 (L.number : Int), .int .i64 (L.good : Int), .bool L.torn, .pointer (some ⟨d, 0, none⟩), .int .i64 (L.first : Int)] :: dsk d D :: Fr)) gS) (by rintro _ _ _ _ ⟨rfl, rfl⟩ h; exact Gets.own gS h) rfl ?_
 rintro _ _ ⟨rfl, rfl⟩
 refine y_c rfl (r_call0 (args := [_, _, _]) ⟨rfl, rfl, rfl, rfl⟩ (append_tr d D (nameB n) s (blk l 56 [.int .i64 (L.number : Int), .int .i64 (L.good : Int), .bool L.torn, .pointer (some ⟨d, 0, none⟩), .int .i64 (L.first : Int)] :: Fr) (by omega)) gS) (by rintro _ _ _ _ ⟨rfl, rfl⟩ h; exact Gets.own gS h) rfl ?_
 rintro _ _ ⟨rfl, rfl⟩
 refine y_v rfl (r_as rfl) gT rfl ?_
 refine XH.nil ?_
 refine hK3 _ _ ?_
 refine XC.keep [(0, _), (1, _), (7, _)] ⟨rfl, rfl, rfl, trivial⟩ ?_
 refine XC.seq fun K4 hK4 => ?_
 refine XC.region ?_
 refine x_v (r_mv rfl) rfl ?_
 refine x_v (r_ne rfl rfl) rfl ?_
 refine XL.nil ?_
 refine hK4 _ _ ?_
 refine XC.keep [(0, _), (1, _), (7, _), (17, _)] ⟨rfl, rfl, rfl, rfl, trivial⟩ ?_
 refine XC.cond_d rfl (fun hc1 => ?_) (fun hc1 => ?_)
 ·refine XC.seq fun K5 hK5 => ?_
  refine XC.region ?_
  refine x_v (r_mv rfl) rfl ?_
  refine x_v (r_as rfl) rfl ?_
  refine XL.nil ?_
  refine hK5 _ _ ?_
  refine XC.keep [(6, _)] ⟨rfl, trivial⟩ ?_
  refine XC.ret ?_
  exact fin1 rfl (⟨by rw [hW, if_pos hc1], by rw [hW, if_pos hc1]⟩) gS
 ·refine XC.skip ?_
  refine hK2 _ _ ?_
  refine XC.keep [(0, _), (1, _)] ⟨rfl, rfl, trivial⟩ ?_
  refine XC.seq fun K6 hK6 => ?_
  refine XC.draw (blk l 56 [.int .i64 (L.number : Int), .int .i64 (L.good : Int), .bool L.torn, .pointer (some ⟨d, 0, none⟩), .int .i64 (L.first : Int)] :: []) false [(0, false), (1, false), (2, false), (3, false), (4, false), (5, true), (6, true), (7, false)] (by kernel_rfl) (by kernel_rfl) ?_
  refine y_v rfl (r_mv rfl) gT rfl ?_
  refine y_v rfl (r_nc rfl) gT rfl ?_
  refine y_v rfl (r_fa fo56_1 rfl) gT rfl ?_
  refine y_v rfl (r_ld ty38 rfl pK (by rfl)) gT rfl ?_
  refine y_v rfl (r_mv rfl) gT rfl ?_
  refine y_c rfl (r_call0 (args := [_]) ⟨rfl, rfl⟩ (name_tr hL n hn hl (blk l 56 [.int .i64 (L.number : Int), .int .i64 (L.good : Int), .bool L.torn, .pointer (some ⟨d, 0, none⟩), .int .i64 (L.first : Int)] :: dsk d (appendD D (nameB n) s).2 :: Fr)) gS) (by rintro _ _ _ _ ⟨rfl, rfl⟩ h; exact Gets.own gS h) rfl ?_
  rintro _ _ ⟨rfl, rfl⟩
  refine y_c rfl (r_call0 (args := [_, _]) ⟨rfl, rfl, rfl⟩ (sync_tr d (appendD D (nameB n) s).2 (nameB n) (blk l 56 [.int .i64 (L.number : Int), .int .i64 (L.good : Int), .bool L.torn, .pointer (some ⟨d, 0, none⟩), .int .i64 (L.first : Int)] :: Fr) (by omega)) gS) (by rintro _ _ _ _ ⟨rfl, rfl⟩ h; exact Gets.own gS h) rfl ?_
  rintro _ _ ⟨rfl, rfl⟩
  refine y_v rfl (r_as rfl) gT rfl ?_
  refine XH.nil ?_
  refine hK6 _ _ ?_
  refine XC.keep [(6, _)] ⟨rfl, trivial⟩ ?_
  refine XC.ret ?_
  exact fin1 rfl (⟨by rw [hW, if_neg hc1], by rw [hW, if_neg hc1]⟩) gS
end Go.Proofs.YtcmdmhmgffjknaaGreatDoor
/- Records put behind: function 10. -/
namespace Go.Proofs.YtcmdmhmgffjknaaGreatDoor
open Go.Sx
set_option linter.unusedVariables false

theorem nDig : ∀ (k u : Nat), u < 10 ^ (k + 1) → Lib.nDigits u ≤ k + 1
 | 0, u, h => by rw [Lib.nDigits, dif_pos (by omega)]; omega
 | k + 1, u, h => by
  rw [Lib.nDigits]
  split
  ·omega
  ·have := nDig k (u / 10) (Nat.div_lt_of_lt_mul (by rw [Nat.pow_succ] at h; omega)); omega
theorem itoa_short (n : Nat) (h : n ≤ 1000000001) : (Lib.itoa (n : Int)).length ≤ 100 := by
 unfold Lib.itoa
 rw [if_neg (by omega), Int.toNat_natCast, Lib.decDigits_length]
 have := nDig 9 n (Nat.lt_of_le_of_lt h (by decide))
 omega
def planL (L : Lg) : Option (List UInt8 × Nat × Nat × Bool) :=
 if L.number = 0 then some (numsB [1, 0], 1, 0, false)
 else if (L.torn || decide (2048 ≤ (L.good : Int))) = true then (if L.number = 999999999 then none else some (numsB [2, L.good], L.number + 1, 0, false))
 else some ([], L.number, L.good, L.torn)
def fullB (h s : List UInt8) : List UInt8 := if h = [] then s else sealB [h] ++ s
def appendL (L : Lg) (D : Dk) (rs : List (List UInt8)) : Int × Lg × Dk :=
 if ∃ r ∈ rs, 8192 < r.length then (4, L, D) else if 65536 < (sealB rs).length then (4, L, D) else if sealB rs = [] then (0, L, D) else
 match planL L with
 | none => (52, L, D)
 | some (h, n, g, t) => if (writeD D (nameB n) (fullB h (sealB rs))).1 ≠ 0 then ((writeD D (nameB n) (fullB h (sealB rs))).1, L, (writeD D (nameB n) (fullB h (sealB rs))).2)
   else (0, ⟨n, g + (fullB h (sealB rs)).length, t, max L.first 1⟩, (writeD D (nameB n) (fullB h (sealB rs))).2)
theorem append_nil {W0 : World} (v : Value) (Fr : List HP) : Tr W0 Tryz.prog 10 [.pointer none, v] Fr (fun v Rs' => v = .int .i64 2 ∧ Rs' = Fr) := by
 refine Entry.tr (N := 118) (rs := [.tmp 4]) ⟨_, Tryz.func10, rfl, by kernel_rfl, rfl, rfl⟩ rfl ?_
 refine XC.seq fun K1 hK1 => ?_
 refine XC.region ?_
 refine x_v (r_as rfl) rfl ?_
 refine XL.nil ?_
 refine hK1 _ _ ?_
 refine XC.keep [(0, _), (1, _)] ⟨rfl, rfl, trivial⟩ ?_
 refine XC.seq fun K2 hK2 => ?_
 refine XC.seq fun K3 hK3 => ?_
 refine XC.region ?_
 refine x_v (r_mv rfl) rfl ?_
 refine x_v (r_peq_nil Tryz.underlying29 rfl rfl) rfl ?_
 refine XL.nil ?_
 refine hK3 _ _ ?_
 refine XC.keep [(0, _), (1, _), (15, _)] ⟨rfl, rfl, rfl, trivial⟩ ?_
 refine XC.cond_t rfl ?_
 refine XC.seq fun K4 hK4 => ?_
 refine XC.region ?_
 refine x_v (r_as rfl) rfl ?_
 refine XL.nil ?_
 refine hK4 _ _ ?_
 refine XC.keep [(4, _)] ⟨rfl, trivial⟩ ?_
 refine XC.ret ?_
 exact fin1 rfl (⟨rfl, rfl⟩) gS
theorem numsB_len2 (a b : Nat) (ha : a ≤ maxS) (hb : b ≤ maxS) : (numsB [a, b]).length ≤ 20 ∧ numsB [a, b] ≠ [] := by
 have hmax : maxS = 140737488355328 := rfl
 have h1 := vb_ten (z := 2 * a) (by omega)
 have h2 := vb_ten (z := 2 * b) (by omega)
 have h3 := vb_pos (2 * a)
 have e : numsB [a, b] = vb (2 * a) ++ vb (2 * b) := by simp [numsB]
 rw [e]
 refine ⟨by rw [List.length_append]; omega, fun h => ?_⟩
 have := congrArg List.length h
 rw [List.length_append, List.length_nil] at this; omega
theorem planL_some {L : Lg} {h : List UInt8} {n g : Nat} {t : Bool} (hp : planL L = some (h, n, g, t)) (h1 : L.number ≤ 999999999) (h2 : L.good ≤ 100000000) : n ≤ 999999999 ∧ g ≤ 100000000 ∧ h.length ≤ 20 ∧ 1 ≤ n := by
 have hmax : maxS = 140737488355328 := rfl
 unfold planL at hp
 split at hp
 ·injection hp with hp; injection hp with e1 e2; injection e2 with e2 e3; injection e3 with e3 e4
  subst e1; subst e2; subst e3
  exact ⟨by omega, by omega, (numsB_len2 1 0 (by omega) (by omega)).1, by omega⟩
 ·split at hp
  ·split at hp
   ·cases hp
   ·injection hp with hp; injection hp with e1 e2; injection e2 with e2 e3; injection e3 with e3 e4
    subst e1; subst e2; subst e3
    exact ⟨by omega, by omega, (numsB_len2 2 L.good (by omega) (by omega)).1, by omega⟩
  ·injection hp with hp; injection hp with e1 e2; injection e2 with e2 e3; injection e3 with e3 e4
   subst e1; subst e2; subst e3
   exact ⟨by omega, by omega, by simp, by omega⟩
theorem seal_len {rs : List (List UInt8)} (h : ∀ r ∈ rs, r.length ≤ 8192) (hl : rs.length ≤ 10000000) : (sealB rs).length ≤ 100000000000 := by
 have key : ∀ L : List (List UInt8), (∀ r ∈ L, r.length ≤ 8192) → (sealB L).length ≤ L.length * 9000 := by
  intro L
  induction L with
  | nil => intro _; simp [sealB]
  | cons a L ih =>
   intro h
   have h1 := h a (by simp)
   have h2 := ih fun r hr => h r (by simp [hr])
   have h3 := vb_ten (z := 2 * a.length) (by omega)
   have e : sealB (a :: L) = frameB a ++ sealB L := by simp [sealB]
   rw [e, List.length_append, frameB_len, List.length_cons]; omega
 have := key rs h; omega
theorem seal_one_len (h : List UInt8) (hh : h.length ≤ 600000) : (sealB [h]).length ≤ h.length + 14 := by
 have := vb_ten (z := 2 * h.length) (by omega)
 simp only [sealB, List.flatMap_cons, List.flatMap_nil, List.append_nil, frameB_len]; omega
theorem appendl_tr {W0 : World} (hL : Laid W0) (l d : Nat) (L : Lg) (D : Dk) (A0 : Option Addr) (c0 : Nat) (rs : List (List UInt8)) (Fr : List HP) (hr : Rdb W0 Fr A0 rs.length 1 (cells sv rs)) (hnum : L.number ≤ 999999999) (hgood : L.good ≤ 100000000) (hfirst : L.first ≤ 999999999) (hst : D.steps < 1000000000) (hrl : rs.length ≤ 10000000) :
  Tr W0 Tryz.prog 10 [.pointer (some ⟨l, 0, none⟩), .slice A0 rs.length c0] (lgc l d L :: dsk d D :: Fr) (fun v Rs' => v = .int .i64 (appendL L D rs).1 ∧ Rs' = lgc l d (appendL L D rs).2.1 :: dsk d (appendL L D rs).2.2 :: Fr) := by
 have hmax : maxS = 140737488355328 := rfl
 have hA : appendL L D rs = if ∃ r ∈ rs, 8192 < r.length then (4, L, D) else if 65536 < (sealB rs).length then (4, L, D) else if sealB rs = [] then (0, L, D) else
  match planL L with
  | none => (52, L, D)
  | some (h, n, g, t) => if (writeD D (nameB n) (fullB h (sealB rs))).1 ≠ 0 then ((writeD D (nameB n) (fullB h (sealB rs))).1, L, (writeD D (nameB n) (fullB h (sealB rs))).2)
    else (0, ⟨n, g + (fullB h (sealB rs)).length, t, max L.first 1⟩, (writeD D (nameB n) (fullB h (sealB rs))).2) := rfl
 unfold lgc
 refine Entry.tr (N := 118) (rs := [.tmp 4]) ⟨_, Tryz.func10, rfl, by kernel_rfl, rfl, rfl⟩ rfl ?_
 refine XC.seq fun K1 hK1 => ?_
 refine XC.region ?_
 refine x_v (r_as rfl) rfl ?_
 refine XL.nil ?_
 refine hK1 _ _ ?_
 refine XC.keep [(0, _), (1, _)] ⟨rfl, rfl, trivial⟩ ?_
 refine XC.seq fun K2 hK2 => ?_
 refine XC.seq fun K3 hK3 => ?_
 refine XC.region ?_
 refine x_v (r_mv rfl) rfl ?_
 refine x_v (r_peq_some Tryz.underlying29 rfl rfl) rfl ?_
 refine XL.nil ?_
 refine hK3 _ _ ?_
 refine XC.keep [(0, _), (1, _), (15, _)] ⟨rfl, rfl, rfl, trivial⟩ ?_
 refine XC.cond_f rfl ?_
 refine XC.skip ?_
 refine hK2 _ _ ?_
 refine XC.keep [(0, _), (1, _)] ⟨rfl, rfl, trivial⟩ ?_
 refine XC.seq fun K4 hK4 => ?_
 refine XC.seq fun K5 hK5 => ?_
 refine XC.region ?_
 refine x_v (r_mv rfl) rfl ?_
 refine x_v (r_lensl Tryz.underlying22 rfl) rfl ?_
 refine x_v (r_mv rfl) rfl ?_
 refine XL.nil ?_
 refine hK5 _ _ ?_
 refine XC.keep [(0, _), (1, _), (16, _), (17, _), (18, _)] ⟨rfl, rfl, rfl, rfl, rfl, trivial⟩ ?_
 refine XC.block ?_
 refine XC.loop (σ := Nat) (fun i => [(0, .pointer (some ⟨l, 0, none⟩)), (1, .slice A0 rs.length c0), (16, .slice A0 rs.length c0), (17, .int .i64 (rs.length : Int)), (18, .int .i64 (i : Int))]) (fun i => blk l 56 [.int .i64 (L.number : Int), .int .i64 (L.good : Int), .bool L.torn, .pointer (some ⟨d, 0, none⟩), .int .i64 (L.first : Int)] :: dsk d D :: Fr) (fun i => i ≤ rs.length ∧ ∀ r ∈ rs.take i, r.length ≤ 8192) (fun i => rs.length - i) 0 ?_ ⟨rfl, rfl, rfl, rfl, rfl, trivial⟩ gS ?_
 ·exact ⟨Nat.zero_le _, by simp⟩
 rintro i ⟨hi, hI⟩
 refine XC.seq fun K6 hK6 => ?_
 refine XC.region ?_
 refine x_v (r_lt rfl rfl) rfl ?_
 refine XL.nil ?_
 refine hK6 _ _ ?_
 refine XC.keep [(0, _), (1, _), (16, _), (17, _), (18, _), (19, _)] ⟨rfl, rfl, rfl, rfl, rfl, rfl, trivial⟩ ?_
 refine XC.seq fun K7 hK7 => ?_
 refine XC.cond_d rfl (fun hc2 => ?_) (fun hc2 => ?_)
 ·refine XC.skip ?_
  refine hK7 _ _ ?_
  refine XC.keep [(0, _), (1, _), (16, _), (17, _), (18, _)] ⟨rfl, rfl, rfl, rfl, rfl, trivial⟩ ?_
  refine XC.seq fun K8 hK8 => ?_
  refine XC.block ?_
  refine XC.seq fun K9 hK9 => ?_
  obtain ⟨x, hx⟩ : ∃ x, rs[i]? = some x := ⟨_, List.getElem?_eq_getElem (by omega)⟩
  obtain ⟨ob, oo, rfl, hat⟩ := hr.at_ (by omega)
  refine XC.region ?_
  refine x_v (r_ia (k := i) Tryz.underlying22 ty9 rfl rfl (by omega) (by omega)) rfl ?_
  refine x_v (r_ldr (v := str x) ty9 rfl (fun w hw => hat w (Gets.own gS hw) (i * 1) _ (by rw [Nat.mul_one]; exact sv_get hx))) rfl ?_
  refine x_v (r_as rfl) rfl ?_
  refine XL.nil ?_
  refine hK9 _ _ ?_
  refine XC.keep [(0, _), (1, _), (6, _), (16, _), (17, _), (18, _)] ⟨rfl, rfl, rfl, rfl, rfl, rfl, trivial⟩ ?_
  refine XC.seq fun K10 hK10 => ?_
  refine XC.region ?_
  refine x_v (r_mv rfl) rfl ?_
  refine x_v (r_lens Tryz.underlying9 rfl) rfl ?_
  refine x_v (r_gt rfl rfl) rfl ?_
  refine XL.nil ?_
  refine hK10 _ _ ?_
  refine XC.keep [(0, _), (1, _), (16, _), (17, _), (18, _), (24, _)] ⟨rfl, rfl, rfl, rfl, rfl, rfl, trivial⟩ ?_
  refine XC.cond_d rfl (fun hc3 => ?_) (fun hc3 => ?_)
  ·refine XC.seq fun K11 hK11 => ?_
   refine XC.region ?_
   refine x_v (r_as rfl) rfl ?_
   refine XL.nil ?_
   refine hK11 _ _ ?_
   refine XC.keep [(4, _)] ⟨rfl, trivial⟩ ?_
   refine XC.ret ?_
   rw [if_pos ⟨x, List.mem_of_getElem? hx, by omega⟩] at hA
   exact fin1 rfl (⟨by rw [hA], by rw [hA]⟩) gS
  ·refine XC.skip ?_
   refine hK8 _ _ ?_
   refine XC.keep [(0, _), (1, _), (16, _), (17, _), (18, _)] ⟨rfl, rfl, rfl, rfl, rfl, trivial⟩ ?_
   refine XC.region ?_
   refine x_v (r_add rfl rfl (by omega)) rfl ?_
   refine x_v (r_mv rfl) rfl ?_
   refine XL.nil ?_
   refine ⟨i + 1, ?_, ?_, ⟨rfl, rfl, rfl, rfl, rfl, trivial⟩, gS⟩
   ·exact ⟨by omega, fun r hr2 => by rw [List.take_add_one, hx] at hr2; rcases List.mem_append.1 hr2 with h | h; exact hI r h; (simp at h; subst h; omega)⟩
   ·omega
 ·refine XC.exit rfl ?_
  refine hK4 _ _ ?_
  refine XC.keep [(0, _), (1, _)] ⟨rfl, rfl, trivial⟩ ?_
  refine XC.seq fun K12 hK12 => ?_
  obtain rfl : i = rs.length := by omega
  rw [List.take_of_length_le (Nat.le_refl _)] at hI
  rw [if_neg (fun ⟨r, h1, h2⟩ => by have := hI r h1; omega)] at hA
  have hsl := seal_len hI hrl
  refine XC.region ?_
  refine x_v (r_mv rfl) rfl ?_
  refine x_c (r_call0 (args := [_]) ⟨rfl, rfl⟩ (seal_tr A0 c0 rs (Rdb.suf hr (.cons _ (.cons _ (.refl _)))) (fun p hp => by have := hI p hp; omega) (by omega) (by omega) (Fr := blk l 56 [.int .i64 (L.number : Int), .int .i64 (L.good : Int), .bool L.torn, .pointer (some ⟨d, 0, none⟩), .int .i64 (L.first : Int)] :: dsk d D :: Fr)) gS) rfl ?_
  rintro _ _ ⟨rfl, hRs⟩
  rw [hRs]
  refine x_v (r_mv rfl) rfl ?_
  refine x_v (r_ex rfl rfl) rfl ?_
  refine x_v (r_ex rfl rfl) rfl ?_
  refine x_v (r_as rfl) rfl ?_
  refine x_v (r_as rfl) rfl ?_
  refine XL.nil ?_
  refine hK12 _ _ ?_
  refine XC.keep [(0, _), (7, _), (8, _)] ⟨rfl, rfl, rfl, trivial⟩ ?_
  refine XC.seq fun K13 hK13 => ?_
  refine XC.block ?_
  refine XC.seq fun K14 hK14 => ?_
  refine XC.region ?_
  refine x_v (r_mv rfl) rfl ?_
  refine x_v (r_ne rfl rfl) rfl ?_
  refine x_v (r_mv rfl) rfl ?_
  refine XL.splitd 34 rfl (fun hg34 => ?_) (fun hg34 => ?_)
  ·exfalso; omega
  ·refine x_want rfl rfl rfl ?_
   refine x_v (r_mv rfl) rfl ?_
   refine x_want rfl rfl rfl ?_
   refine x_v (r_lens Tryz.underlying9 rfl) rfl ?_
   refine x_want rfl rfl rfl ?_
   refine x_v (r_gt rfl rfl) rfl ?_
   refine x_v (r_pk_f rfl rfl) rfl ?_
   refine x_v (r_as rfl) rfl ?_
   refine XL.nil ?_
   refine hK14 _ _ ?_
   refine XC.keep [(0, _), (7, _), (31, _)] ⟨rfl, rfl, rfl, trivial⟩ ?_
   refine XC.cond_d rfl (fun hc4 => ?_) (fun hc4 => ?_)
   ·refine XC.seq fun K15 hK15 => ?_
    refine XC.region ?_
    refine x_v (r_as rfl) rfl ?_
    refine XL.nil ?_
    refine hK15 _ _ ?_
    refine XC.keep [(4, _)] ⟨rfl, trivial⟩ ?_
    refine XC.ret ?_
    rw [if_pos (by omega)] at hA
    exact fin1 rfl (⟨by rw [hA], by rw [hA]⟩) gS
   ·refine XC.seq fun K16 hK16 => ?_
    refine XC.region ?_
    refine x_v (r_mv rfl) rfl ?_
    refine x_v (r_seq rfl rfl) rfl ?_
    refine x_v (r_as rfl) rfl ?_
    refine XL.nil ?_
    refine hK16 _ _ ?_
    refine XC.keep [(0, _), (7, _), (39, _)] ⟨rfl, rfl, rfl, trivial⟩ ?_
    refine XC.cond_d rfl (fun hc5 => ?_) (fun hc5 => ?_)
    ·refine XC.seq fun K17 hK17 => ?_
     refine XC.region ?_
     refine x_v (r_as rfl) rfl ?_
     refine XL.nil ?_
     refine hK17 _ _ ?_
     refine XC.keep [(4, _)] ⟨rfl, trivial⟩ ?_
     refine XC.ret ?_
     rw [if_neg (by omega), if_pos (by assumption)] at hA
     exact fin1 rfl (⟨by rw [hA], by rw [hA]⟩) gS
    ·refine XC.skip ?_
     refine hK13 _ _ ?_
     refine XC.keep [(0, _), (7, _)] ⟨rfl, rfl, trivial⟩ ?_
     refine XC.seq fun K18 hK18 => ?_
     rw [if_neg (by omega), if_neg (by assumption)] at hA
     refine XC.region ?_
     refine x_v (r_mv rfl) rfl ?_
     refine x_v (r_nc rfl) rfl ?_
     refine x_v (r_fa fo56_0 rfl) rfl ?_
     refine x_v (r_lda (l' := [.int .i64 (L.number : Int), .int .i64 (L.good : Int), .bool L.torn]) ty54 rfl pK rfl (Sub.get sU)) rfl ?_
     refine x_a (r_al ty54 rfl) rfl fun b9 => ?_
     refine x_e (r_st ty54 rfl rfl rfl rfl rfl uD oV) ?_
     refine XL.nil ?_
     refine hK18 _ _ ?_
     refine XC.keep [(0, _), (7, _), (9, _)] ⟨rfl, rfl, rfl, trivial⟩ ?_
     refine XC.seq fun K19 hK19 => ?_
     refine XC.region ?_
     refine x_v (r_as rfl) rfl ?_
     refine XL.nil ?_
     refine hK19 _ _ ?_
     refine XC.keep [(0, _), (7, _), (9, _), (10, _)] ⟨rfl, rfl, rfl, rfl, trivial⟩ ?_
     refine XC.seqcut (σ := List UInt8 × Nat × Nat × Bool) (fun q => [(0, .pointer (some ⟨l, 0, none⟩)), (7, str (sealB rs)), (9, .pointer (some ⟨b9, 0, none⟩)), (10, str q.1)]) (fun q => blk b9 54 [.int .i64 (q.2.1 : Int), .int .i64 (q.2.2.1 : Int), .bool q.2.2.2] :: blk l 56 [.int .i64 (L.number : Int), .int .i64 (L.good : Int), .bool L.torn, .pointer (some ⟨d, 0, none⟩), .int .i64 (L.first : Int)] :: dsk d D :: Fr) (fun q => planL L = some q) ?_ ?_
     ·refine XC.block ?_
      refine XC.seq fun K21 hK21 => ?_
      refine XC.region ?_
      refine x_v (r_mv rfl) rfl ?_
      refine x_v (r_nc rfl) rfl ?_
      refine x_v (r_fa fo56_0 rfl) rfl ?_
      refine x_v (r_fa fo54_0 rfl) rfl ?_
      refine x_v (r_ld ty3 rfl pK (by rfl)) rfl ?_
      refine x_v (r_eq rfl rfl) rfl ?_
      refine x_v (r_as rfl) rfl ?_
      refine XL.nil ?_
      refine hK21 _ _ ?_
      refine XC.keep [(0, _), (7, _), (9, _), (10, _), (46, _)] ⟨rfl, rfl, rfl, rfl, rfl, trivial⟩ ?_
      refine XC.cond_d rfl (fun hc6 => ?_) (fun hc6 => ?_)
      ·refine XC.region ?_
       refine x_a (r_bs (vs := [_, _]) rfl ⟨rfl, rfl, rfl⟩ (bs25_2_0_1 _ _)) rfl fun b53 => ?_
       refine x_c (r_call0 (args := [_]) ⟨rfl, rfl⟩ (nums_tr (Fr := blk b53 3 [.int .i64 1, .int .i64 0] :: blk b9 54 [.int .i64 (L.number : Int), .int .i64 (L.good : Int), .bool L.torn] :: blk l 56 [.int .i64 (L.number : Int), .int .i64 (L.good : Int), .bool L.torn, .pointer (some ⟨d, 0, none⟩), .int .i64 (L.first : Int)] :: dsk d D :: Fr) (some ⟨b53, 0, none⟩) 2 [1, 0] (Rdb.of_blk (cs := [.int .i64 1, .int .i64 0]) (xs := [.int .i64 1, .int .i64 0]) pK 0 rfl (fun j u hu => by simpa using hu)) (by simp; omega) (by have := (numsB_len2 1 0 (by omega) (by omega)).1; omega) (by simp; omega)) gS) rfl ?_
       rintro _ _ ⟨rfl, hRs⟩
       rw [hRs]
       refine x_v (r_bd (vs := [_]) rfl ⟨rfl, rfl⟩ (bd54_0 _)) rfl ?_
       refine x_v (r_as rfl) rfl ?_
       refine x_e (r_st ty54 rfl rfl rfl rfl rfl uD oV) ?_
       refine XL.nil ?_
       exact ⟨(numsB [1, 0], 1, 0, false), by unfold planL; rw [if_pos (by omega)], ⟨rfl, rfl, rfl, rfl, trivial⟩, gS⟩
      ·refine XC.seq fun K22 hK22 => ?_
       refine XC.region ?_
       refine x_v (r_mv rfl) rfl ?_
       refine x_v (r_nc rfl) rfl ?_
       refine x_v (r_fa fo56_0 rfl) rfl ?_
       refine x_c (r_call0 (args := [_]) ⟨rfl, rfl⟩ (spent_tr l (L.number : Int) (L.good : Int) L.torn _ _ (blk b9 54 [.int .i64 (L.number : Int), .int .i64 (L.good : Int), .bool L.torn] :: dsk d D :: Fr)) gS) rfl ?_
       rintro _ _ ⟨rfl, hRs⟩
       rw [hRs]
       refine x_v (r_as rfl) rfl ?_
       refine XL.nil ?_
       refine hK22 _ _ ?_
       refine XC.keep [(0, _), (7, _), (9, _), (10, _), (56, _)] ⟨rfl, rfl, rfl, rfl, rfl, trivial⟩ ?_
       refine XC.cond rfl (fun hc7 => ?_) (fun hc7 => ?_)
       ·refine XC.seq fun K23 hK23 => ?_
        refine XC.seq fun K24 hK24 => ?_
        refine XC.region ?_
        refine x_v (r_mv rfl) rfl ?_
        refine x_v (r_nc rfl) rfl ?_
        refine x_v (r_fa fo56_0 rfl) rfl ?_
        refine x_v (r_fa fo54_0 rfl) rfl ?_
        refine x_v (r_ld ty3 rfl pK (by rfl)) rfl ?_
        refine x_v (r_eq rfl rfl) rfl ?_
        refine XL.nil ?_
        refine hK24 _ _ ?_
        refine XC.keep [(0, _), (7, _), (9, _), (66, _)] ⟨rfl, rfl, rfl, rfl, trivial⟩ ?_
        refine XC.cond_d rfl (fun hc8 => ?_) (fun hc8 => ?_)
        ·refine XC.seq fun K25 hK25 => ?_
         refine XC.region ?_
         refine x_v (r_as rfl) rfl ?_
         refine XL.nil ?_
         refine hK25 _ _ ?_
         refine XC.keep [(4, _)] ⟨rfl, trivial⟩ ?_
         refine XC.ret ?_
         have hpn : planL L = none := by unfold planL; rw [if_neg (by omega), if_pos (by assumption), if_pos (by omega)]
         rw [hpn] at hA
         exact fin1 rfl (⟨by rw [hA], by rw [hA]⟩) gS
        ·refine XC.skip ?_
         refine hK23 _ _ ?_
         refine XC.keep [(0, _), (7, _), (9, _)] ⟨rfl, rfl, rfl, trivial⟩ ?_
         refine XC.draw (blk l 56 [.int .i64 (L.number : Int), .int .i64 (L.good : Int), .bool L.torn, .pointer (some ⟨d, 0, none⟩), .int .i64 (L.first : Int)] :: []) true [(0, false), (1, false), (2, false), (3, false), (4, false), (7, false), (8, false), (9, false), (10, false), (11, false), (12, false), (13, false), (5, true), (6, true), (14, false), (15, true)] (by kernel_rfl) (by kernel_rfl) ?_
         refine y_v rfl (r_mv rfl) gT rfl ?_
         refine y_v rfl (r_nc rfl) gT rfl ?_
         refine y_v rfl (r_fa fo56_0 rfl) gT rfl ?_
         refine y_v rfl (r_fa fo54_1 rfl) gT rfl ?_
         refine y_v rfl (r_ld ty3 rfl pK (by rfl)) gT rfl ?_
         refine y_v rfl (r_mv rfl) gT rfl ?_
         refine y_v rfl (r_nc rfl) gT rfl ?_
         refine y_v rfl (r_fa fo56_0 rfl) gT rfl ?_
         refine y_v rfl (r_fa fo54_0 rfl) gT rfl ?_
         refine y_v rfl (r_ld ty3 rfl pK (by rfl)) gT rfl ?_
         refine y_v rfl (yv (v' := .int .i64 ((L.number + 1 : Nat) : Int)) (r_add rfl rfl (by omega)) (by congr 1)) gT rfl ?_
         refine y_v rfl (r_bd (vs := [_]) rfl ⟨rfl, rfl⟩ (bd54_0 _)) gT rfl ?_
         refine y_a rfl (r_bs (vs := [_, _]) rfl ⟨rfl, rfl, rfl⟩ (bs25_2_0_1 _ _)) (fun _ _ _ h => Gets.own gS h) rfl fun b72 => ?_
         refine y_c rfl (r_call0 (args := [_]) ⟨rfl, rfl⟩ (nums_tr (Fr := blk b72 3 [.int .i64 2, .int .i64 (L.good : Int)] :: blk b9 54 [.int .i64 (L.number : Int), .int .i64 (L.good : Int), .bool L.torn] :: blk l 56 [.int .i64 (L.number : Int), .int .i64 (L.good : Int), .bool L.torn, .pointer (some ⟨d, 0, none⟩), .int .i64 (L.first : Int)] :: dsk d D :: Fr) (some ⟨b72, 0, none⟩) 2 [2, L.good] (Rdb.of_blk (cs := [.int .i64 2, .int .i64 (L.good : Int)]) (xs := [.int .i64 2, .int .i64 (L.good : Int)]) pK 0 rfl (fun j u hu => by simpa using hu)) (by simp; omega) (by have := (numsB_len2 2 L.good (by omega) (by omega)).1; omega) (by simp; omega)) gS) (by rintro _ _ _ _ ⟨rfl, rfl⟩ h; exact Gets.own gS h) rfl ?_
         rintro _ _ ⟨rfl, rfl⟩
         refine y_v rfl (r_as rfl) gT rfl ?_
         refine y_e rfl (r_st ty54 rfl rfl rfl rfl rfl uD oV) (fun h => absurd h (by decide)) ?_
         refine XH.nil ?_
         exact ⟨(numsB [2, L.good], L.number + 1, 0, false), by unfold planL; rw [if_neg (by omega), if_pos (by assumption), if_neg (by omega)], ⟨rfl, rfl, rfl, rfl, trivial⟩, gS⟩
       ·refine XC.skip ?_
        exact ⟨([], L.number, L.good, L.torn), by unfold planL; rw [if_neg (by omega), if_neg (by simp_all)], ⟨rfl, rfl, rfl, rfl, trivial⟩, gS⟩
     ·rintro ⟨h, n, g, t⟩ hpl
      rw [hpl] at hA
      dsimp only at hA ⊢
      obtain ⟨hn9, hg9, hh9, hn1⟩ := planL_some hpl hnum hgood
      have hso := seal_one_len h (by omega)
      refine XC.seqcut (σ := Unit) (fun _u => [(0, .pointer (some ⟨l, 0, none⟩)), (7, str (fullB h (sealB rs))), (9, .pointer (some ⟨b9, 0, none⟩))]) (fun _u => blk b9 54 [.int .i64 (n : Int), .int .i64 (g : Int), .bool t] :: blk l 56 [.int .i64 (L.number : Int), .int .i64 (L.good : Int), .bool L.torn, .pointer (some ⟨d, 0, none⟩), .int .i64 (L.first : Int)] :: dsk d D :: Fr) (fun _u => True) ?_ ?_
      ·refine XC.seq fun K27 hK27 => ?_
       refine XC.region ?_
       refine x_v (r_mv rfl) rfl ?_
       refine x_v (r_sne rfl rfl) rfl ?_
       refine XL.nil ?_
       refine hK27 _ _ ?_
       refine XC.keep [(0, _), (7, _), (9, _), (10, _), (82, _)] ⟨rfl, rfl, rfl, rfl, rfl, trivial⟩ ?_
       refine XC.cond_d rfl (fun hc9 => ?_) (fun hc9 => ?_)
       ·refine XC.seq fun K28 hK28 => ?_
        refine XC.region ?_
        refine x_v (r_mv rfl) rfl ?_
        refine x_a (r_bs (vs := [_]) rfl ⟨rfl, rfl⟩ (bs22_1_0 _)) rfl fun b85 => ?_
        refine x_c (r_call0 (args := [_]) ⟨rfl, rfl⟩ (seal_tr (some ⟨b85, 0, none⟩) 1 [h] (Fr := blk b85 9 [str h] :: blk b9 54 [.int .i64 (n : Int), .int .i64 (g : Int), .bool t] :: blk l 56 [.int .i64 (L.number : Int), .int .i64 (L.good : Int), .bool L.torn, .pointer (some ⟨d, 0, none⟩), .int .i64 (L.first : Int)] :: dsk d D :: Fr) (Rdb.of_blk (cs := [str h]) (xs := [str h]) pK 0 rfl (fun j u hu => by simpa using hu)) (by simp; omega) (by omega) (by simp; omega)) gS) rfl ?_
        rintro _ _ ⟨rfl, hRs⟩
        rw [hRs]
        refine x_v (r_mv rfl) rfl ?_
        refine x_v (r_ex rfl rfl) rfl ?_
        refine x_v (r_ex rfl rfl) rfl ?_
        refine x_v (r_as rfl) rfl ?_
        refine x_v (r_as rfl) rfl ?_
        refine XL.nil ?_
        refine hK28 _ _ ?_
        refine XC.keep [(0, _), (7, _), (9, _), (11, _)] ⟨rfl, rfl, rfl, rfl, trivial⟩ ?_
        refine XC.region ?_
        refine x_v (r_mv rfl) rfl ?_
        refine x_v (r_mv rfl) rfl ?_
        refine x_v (r_cat rfl rfl (by omega)) rfl ?_
        refine x_v (r_as rfl) rfl ?_
        refine XL.nil ?_
        rw [show fullB h (sealB rs) = sealB [h] ++ sealB rs by unfold fullB; rw [if_neg (by assumption)]]
        exact ⟨(), trivial, ⟨rfl, rfl, rfl, trivial⟩, gS⟩
       ·refine XC.skip ?_
        rw [show fullB h (sealB rs) = sealB rs by unfold fullB; rw [if_pos (Decidable.not_not.1 (by assumption))]]
        exact ⟨(), trivial, ⟨rfl, rfl, rfl, trivial⟩, gS⟩
      ·rintro _u _
       have hfl : (fullB h (sealB rs)).length ≤ 100000 := by unfold fullB; split; omega; (rw [List.length_append]; omega)
       refine XC.seq fun K29 hK29 => ?_
       refine XC.seq fun K30 hK30 => ?_
       refine XC.region ?_
       refine x_v (r_mv rfl) rfl ?_
       refine x_v (r_fa fo54_0 rfl) rfl ?_
       refine x_v (r_ld ty3 rfl pK (by rfl)) rfl ?_
       refine x_v (r_mv rfl) rfl ?_
       refine x_c (r_call0 (args := [_, _, _]) ⟨rfl, rfl, rfl, rfl⟩ (write_l hL l d L D n (fullB h (sealB rs)) (blk b9 54 [.int .i64 (n : Int), .int .i64 (g : Int), .bool t] :: Fr) (by omega) (itoa_short n (by omega)) hst) gS) rfl ?_
       rintro _ _ ⟨rfl, hRs⟩
       unfold lgc at hRs
       rw [hRs]
       refine x_v (r_as rfl) rfl ?_
       refine XL.nil ?_
       refine hK30 _ _ ?_
       refine XC.keep [(0, _), (7, _), (9, _), (13, _)] ⟨rfl, rfl, rfl, rfl, trivial⟩ ?_
       refine XC.seq fun K31 hK31 => ?_
       refine XC.region ?_
       refine x_v (r_mv rfl) rfl ?_
       refine x_v (r_ne rfl rfl) rfl ?_
       refine XL.nil ?_
       refine hK31 _ _ ?_
       refine XC.keep [(0, _), (7, _), (9, _), (13, _), (98, _)] ⟨rfl, rfl, rfl, rfl, rfl, trivial⟩ ?_
       refine XC.cond_d rfl (fun hc10 => ?_) (fun hc10 => ?_)
       ·refine XC.seq fun K32 hK32 => ?_
        refine XC.region ?_
        refine x_v (r_mv rfl) rfl ?_
        refine x_v (r_as rfl) rfl ?_
        refine XL.nil ?_
        refine hK32 _ _ ?_
        refine XC.keep [(4, _)] ⟨rfl, trivial⟩ ?_
        refine XC.ret ?_
        rw [if_pos (by assumption)] at hA
        exact fin1 rfl (⟨by rw [hA], by rw [hA]⟩) gS
       ·refine XC.skip ?_
        refine hK29 _ _ ?_
        refine XC.keep [(0, _), (7, _), (9, _)] ⟨rfl, rfl, rfl, trivial⟩ ?_
        refine XC.seq fun K33 hK33 => ?_
        refine XC.region ?_
        refine x_v (r_fa fo54_1 rfl) rfl ?_
        refine x_v (r_ld ty3 rfl pK (by rfl)) rfl ?_
        refine x_v (r_mv rfl) rfl ?_
        refine x_v (r_lens Tryz.underlying9 rfl) rfl ?_
        refine x_v (yv (v' := .int .i64 ((g + (fullB h (sealB rs)).length : Nat) : Int)) (r_add rfl rfl (by omega)) (by congr 1)) rfl ?_
        refine x_v (r_fa fo54_1 rfl) rfl ?_
        refine x_e (r_st ty3 rfl rfl rfl rfl rfl uD oV) ?_
        refine XL.nil ?_
        refine hK33 _ _ ?_
        refine XC.keep [(0, _), (9, _)] ⟨rfl, rfl, trivial⟩ ?_
        refine XC.seq fun K34 hK34 => ?_
        refine XC.draw (blk b9 54 [.int .i64 (n : Int), .int .i64 ((g + (fullB h (sealB rs)).length : Nat) : Int), .bool t] :: []) true [(0, false), (1, false), (2, false), (3, false), (4, false), (5, false), (6, true), (7, false), (8, false), (9, false), (10, true), (11, false), (12, false), (13, true)] (by kernel_rfl) (by kernel_rfl) ?_
        refine y_v rfl (r_mv rfl) gT rfl ?_
        refine y_v rfl (r_mv rfl) gT rfl ?_
        refine y_v rfl (r_lda (l' := [_, _, _]) ty54 rfl pK rfl (Sub.get sU)) gT rfl ?_
        refine y_v rfl (r_mv rfl) gT rfl ?_
        refine y_v rfl (r_nc rfl) gT rfl ?_
        refine y_v rfl (r_fa fo56_2 rfl) gT rfl ?_
        refine y_vl rfl (r_ld ty3 rfl pK (by rfl)) gT rfl ?_
        refine y_v rfl (yv (v' := .int .i64 ((max L.first 1 : Nat) : Int)) (r_max rfl rfl) (by first | (congr 1; done) | (congr 1; omega))) gT rfl ?_
        refine y_v rfl (r_nc rfl) gT rfl ?_
        refine y_v rfl (r_fa fo56_0 rfl) gT rfl ?_
        refine y_e rfl (r_st ty54 rfl rfl rfl rfl rfl uD oV) (fun _ _ h => Gets.own gS h) ?_
        refine y_v rfl (r_nc rfl) gT rfl ?_
        refine y_v rfl (r_fa fo56_2 rfl) gT rfl ?_
        refine y_e rfl (r_st ty3 rfl rfl rfl rfl rfl uD oV) (fun h => absurd h (by decide)) ?_
        refine XH.nil ?_
        refine hK34 _ _ ?_
        refine XC.keep [] trivial ?_
        refine XC.seq fun K35 hK35 => ?_
        refine XC.region ?_
        refine x_v (r_as rfl) rfl ?_
        refine XL.nil ?_
        refine hK35 _ _ ?_
        refine XC.keep [(4, _)] ⟨rfl, trivial⟩ ?_
        refine XC.ret ?_
        rw [if_neg (by assumption)] at hA
        exact fin1 rfl (⟨by rw [hA], by rw [hA]⟩) gS
end Go.Proofs.YtcmdmhmgffjknaaGreatDoor
/- A log begun anew: function 12. -/
namespace Go.Proofs.YtcmdmhmgffjknaaGreatDoor
open Go.Sx
set_option linter.unusedVariables false

def phi (D : Dk) : Nat := D.steps + D.files.length
theorem getF_none_setF {L : List (List UInt8 × Fi)} {n : List UInt8} {x : Fi} : (setF L n x).length ≤ L.length + 1 := by
 induction L with
 | nil => simp [setF]
 | cons t L ih =>
  obtain ⟨m, y⟩ := t
  simp only [setF]
  split
  ·simp
  ·split
   ·simp
   ·simp only [List.length_cons]; omega
theorem delF_len {L : List (List UInt8 × Fi)} {n : List UInt8} {x : Fi} (h : getF L n = some x) : (delF L n).length + 1 ≤ L.length := by
 have hm := getF_mem h
 have : (L.filter (fun t => decide (t.1 ≠ n))).length < L.length := by
  apply List.length_filter_lt_length_iff_exists.2
  exact ⟨_, hm, by simp⟩
 unfold delF; omega
theorem removeD_phi (D : Dk) (n : List UInt8) : phi (removeD D n).2 ≤ phi D := by
 unfold removeD knownD phi
 split
 ·exact Nat.le_refl _
 ·split
  ·exact Nat.le_refl _
  ·rename_i x hx
   split
   ·exact Nat.le_refl _
   ·have := delF_len hx
    simp only [stepD]; omega
theorem syncD_phi (D : Dk) (n : List UInt8) : phi (syncD D n).2 ≤ phi D + 2 := by
 unfold syncD knownD phi
 split
 ·dsimp only; omega
 ·split
  ·dsimp only; omega
  ·rename_i x hx
   split
   ·dsimp only; omega
   ·have := getF_none_setF (L := D.files) (n := n) (x := ⟨x.bytes, x.bytes.length, true⟩)
    simp only [stepD]; omega
theorem appendD_phi (D : Dk) (n s : List UInt8) : phi (appendD D n s).2 ≤ phi D + 2 := by
 unfold appendD phi
 split
 ·dsimp only; omega
 ·dsimp only
  split
  ·dsimp only; omega
  ·split
   ·dsimp only; omega
   ·refine Nat.le_trans (Nat.add_le_add_left getF_none_setF _) ?_
    simp only [stepD]; omega
theorem writeD_phi (D : Dk) (n s : List UInt8) : phi (writeD D n s).2 ≤ phi D + 4 := by
 unfold writeD
 have h1 := appendD_phi D n s
 split
 ·omega
 ·have := syncD_phi (appendD D n s).2 n; omega
def remD (D : Dk) (n : Nat) : Nat → Int × Dk
 | 0 => (0, D)
 | k + 1 => if (removeD D (nameB n)).1 ≠ 0 then removeD D (nameB n) else remD (removeD D (nameB n)).2 (n + 1) k
def baseB (base : List UInt8) : List UInt8 := sealB [numsB [1] ++ textB [base]]
def layL (L : Lg) (D : Dk) (base : List UInt8) : Int × Lg × Dk :=
 if 524288 < base.length then (4, L, D) else if L.number = 999999999 then (52, L, D) else
 if (writeD D (nameB (L.number + 1)) (baseB base)).1 ≠ 0 then ((writeD D (nameB (L.number + 1)) (baseB base)).1, L, (writeD D (nameB (L.number + 1)) (baseB base)).2)
 else ((remD (writeD D (nameB (L.number + 1)) (baseB base)).2 (max L.first 1) (L.number + 1 - max L.first 1)).1, ⟨L.number + 1, (baseB base).length, false, L.number + 1⟩, (remD (writeD D (nameB (L.number + 1)) (baseB base)).2 (max L.first 1) (L.number + 1 - max L.first 1)).2)
theorem lay_nil {W0 : World} (v : Value) (Fr : List HP) : Tr W0 Tryz.prog 12 [.pointer none, v] Fr (fun u Rs' => u = .int .i64 2 ∧ Rs' = Fr) := by
 refine Entry.tr (N := 91) (rs := [.tmp 4]) ⟨_, Tryz.func12, rfl, by kernel_rfl, rfl, rfl⟩ rfl ?_
 refine XC.seq fun K1 hK1 => ?_
 refine XC.region ?_
 refine x_v (r_as rfl) rfl ?_
 refine XL.nil ?_
 refine hK1 _ _ ?_
 refine XC.keep [(0, _), (1, _)] ⟨rfl, rfl, trivial⟩ ?_
 refine XC.seq fun K2 hK2 => ?_
 refine XC.block ?_
 refine XC.seq fun K3 hK3 => ?_
 refine XC.region ?_
 refine x_v (r_mv rfl) rfl ?_
 refine x_v (r_peq_nil Tryz.underlying29 rfl rfl) rfl ?_
 refine x_v (r_as rfl) rfl ?_
 refine XL.nil ?_
 refine hK3 _ _ ?_
 refine XC.keep [(0, _), (1, _), (12, _)] ⟨rfl, rfl, rfl, trivial⟩ ?_
 refine XC.cond_t rfl ?_
 refine XC.seq fun K4 hK4 => ?_
 refine XC.region ?_
 refine x_v (r_as rfl) rfl ?_
 refine XL.nil ?_
 refine hK4 _ _ ?_
 refine XC.keep [(4, _)] ⟨rfl, trivial⟩ ?_
 refine XC.ret ?_
 exact fin1 rfl (⟨rfl, rfl⟩) gS
theorem head_len (base : List UInt8) (h : base.length ≤ 524288) : (numsB [1]).length ≤ 10 ∧ (textB [base]).length ≤ base.length + 10 := by
 rw [numsB_one]
 have h1 := vb_ten (z := 2 * 1) (by omega)
 have h2 := vb_ten (z := 2 * base.length) (by omega)
 refine ⟨h1, ?_⟩
 have e : textB [base] = vb (2 * base.length) ++ base := by simp [textB]
 rw [e, List.length_append]; omega
theorem layl_tr {W0 : World} (hL : Laid W0) (l d : Nat) (L : Lg) (D : Dk) (base : List UInt8) (Fr : List HP) (hnum : L.number ≤ 999999999) (hfirst : L.first ≤ 999999999) (hst : phi D + 10 ≤ 1000000000) :
  Tr W0 Tryz.prog 12 [.pointer (some ⟨l, 0, none⟩), str base] (lgc l d L :: dsk d D :: Fr) (fun v Rs' => v = .int .i64 (layL L D base).1 ∧ Rs' = lgc l d (layL L D base).2.1 :: dsk d (layL L D base).2.2 :: Fr) := by
 have hmax : maxS = 140737488355328 := rfl
 have hds : D.steps ≤ phi D := by unfold phi; omega
 have hA : layL L D base = if 524288 < base.length then (4, L, D) else if L.number = 999999999 then (52, L, D) else
  if (writeD D (nameB (L.number + 1)) (baseB base)).1 ≠ 0 then ((writeD D (nameB (L.number + 1)) (baseB base)).1, L, (writeD D (nameB (L.number + 1)) (baseB base)).2)
  else ((remD (writeD D (nameB (L.number + 1)) (baseB base)).2 (max L.first 1) (L.number + 1 - max L.first 1)).1, ⟨L.number + 1, (baseB base).length, false, L.number + 1⟩, (remD (writeD D (nameB (L.number + 1)) (baseB base)).2 (max L.first 1) (L.number + 1 - max L.first 1)).2) := rfl
 have hwp := writeD_phi D (nameB (L.number + 1)) (baseB base)
 generalize hD1 : writeD D (nameB (L.number + 1)) (baseB base) = W at hA hwp
 obtain ⟨we, D1⟩ := W
 dsimp only at hA hwp
 unfold lgc
 refine Entry.tr (N := 91) (rs := [.tmp 4]) ⟨_, Tryz.func12, rfl, by kernel_rfl, rfl, rfl⟩ rfl ?_
 refine XC.seq fun K1 hK1 => ?_
 refine XC.region ?_
 refine x_v (r_as rfl) rfl ?_
 refine XL.nil ?_
 refine hK1 _ _ ?_
 refine XC.keep [(0, _), (1, _)] ⟨rfl, rfl, trivial⟩ ?_
 refine XC.seq fun K2 hK2 => ?_
 refine XC.block ?_
 refine XC.seq fun K3 hK3 => ?_
 refine XC.region ?_
 refine x_v (r_mv rfl) rfl ?_
 refine x_v (r_peq_some Tryz.underlying29 rfl rfl) rfl ?_
 refine x_v (r_as rfl) rfl ?_
 refine XL.nil ?_
 refine hK3 _ _ ?_
 refine XC.keep [(0, _), (1, _), (12, _)] ⟨rfl, rfl, rfl, trivial⟩ ?_
 refine XC.cond_f rfl ?_
 refine XC.seq fun K4 hK4 => ?_
 refine XC.region ?_
 refine x_v (r_mv rfl) rfl ?_
 refine x_v (r_lens Tryz.underlying9 rfl) rfl ?_
 refine x_v (r_gt rfl rfl) rfl ?_
 refine x_v (r_as rfl) rfl ?_
 refine XL.nil ?_
 refine hK4 _ _ ?_
 refine XC.keep [(0, _), (1, _), (15, _)] ⟨rfl, rfl, rfl, trivial⟩ ?_
 refine XC.cond_d rfl (fun hc2 => ?_) (fun hc2 => ?_)
 ·refine XC.seq fun K5 hK5 => ?_
  refine XC.region ?_
  refine x_v (r_as rfl) rfl ?_
  refine XL.nil ?_
  refine hK5 _ _ ?_
  refine XC.keep [(4, _)] ⟨rfl, trivial⟩ ?_
  refine XC.ret ?_
  rw [if_pos (by omega)] at hA
  exact fin1 rfl (⟨by rw [hA], by rw [hA]⟩) gS
 ·refine XC.seq fun K6 hK6 => ?_
  refine XC.region ?_
  refine x_v (r_mv rfl) rfl ?_
  refine x_v (r_nc rfl) rfl ?_
  refine x_v (r_fa fo56_0 rfl) rfl ?_
  refine x_v (r_fa fo54_0 rfl) rfl ?_
  refine x_v (r_ld ty3 rfl pK (by rfl)) rfl ?_
  refine x_v (r_eq rfl rfl) rfl ?_
  refine x_v (r_as rfl) rfl ?_
  refine XL.nil ?_
  refine hK6 _ _ ?_
  refine XC.keep [(0, _), (1, _), (19, _)] ⟨rfl, rfl, rfl, trivial⟩ ?_
  refine XC.cond_d rfl (fun hc3 => ?_) (fun hc3 => ?_)
  ·refine XC.seq fun K7 hK7 => ?_
   refine XC.region ?_
   refine x_v (r_as rfl) rfl ?_
   refine XL.nil ?_
   refine hK7 _ _ ?_
   refine XC.keep [(4, _)] ⟨rfl, trivial⟩ ?_
   refine XC.ret ?_
   rw [if_neg (by omega), if_pos (by omega)] at hA
   exact fin1 rfl (⟨by rw [hA], by rw [hA]⟩) gS
  ·refine XC.skip ?_
   refine hK2 _ _ ?_
   refine XC.keep [(0, _), (1, _)] ⟨rfl, rfl, trivial⟩ ?_
   refine XC.seq fun K8 hK8 => ?_
   rw [if_neg (by omega), if_neg (by omega)] at hA
   obtain ⟨hh1, hh2⟩ := head_len base (by omega)
   have hso := seal_one_len (numsB [1] ++ textB [base]) (by rw [List.length_append]; omega)
   have hbb : (baseB base).length ≤ 600000 := by unfold baseB; rw [List.length_append] at hso; omega
   refine XC.region ?_
   refine x_a (r_bs (vs := [_]) rfl ⟨rfl, rfl⟩ (bs25_1_0 _)) rfl fun b27 => ?_
   refine x_c (r_call0 (args := [_]) ⟨rfl, rfl⟩ (nums_tr (Fr := blk b27 3 [.int .i64 1] :: blk l 56 [.int .i64 (L.number : Int), .int .i64 (L.good : Int), .bool L.torn, .pointer (some ⟨d, 0, none⟩), .int .i64 (L.first : Int)] :: dsk d D :: Fr) (some ⟨b27, 0, none⟩) 1 [1] (Rdb.of_blk (cs := [.int .i64 1]) (xs := [.int .i64 1]) pK 0 rfl (fun j u hu => by simpa using hu)) (by simp; omega) (by omega) (by simp; omega)) gS) rfl ?_
   rintro _ _ ⟨rfl, hRs⟩
   rw [hRs]
   refine x_v (r_mv rfl) rfl ?_
   refine x_a (r_bs (vs := [_]) rfl ⟨rfl, rfl⟩ (bs22_1_0 _)) rfl fun b30 => ?_
   refine x_c (r_call0 (args := [_]) ⟨rfl, rfl⟩ (text_tr (Fr := blk b30 9 [str base] :: blk l 56 [.int .i64 (L.number : Int), .int .i64 (L.good : Int), .bool L.torn, .pointer (some ⟨d, 0, none⟩), .int .i64 (L.first : Int)] :: dsk d D :: Fr) (some ⟨b30, 0, none⟩) 1 [base] (Rdb.of_blk (cs := [str base]) (xs := [str base]) pK 0 rfl (fun j u hu => by simpa using hu)) (by omega) (by simp; omega)) gS) rfl ?_
   rintro _ _ ⟨rfl, hRs⟩
   rw [hRs]
   refine x_v (r_cat rfl rfl (by omega)) rfl ?_
   refine x_a (r_bs (vs := [_]) rfl ⟨rfl, rfl⟩ (bs22_1_0 _)) rfl fun b33 => ?_
   refine x_c (r_call0 (args := [_]) ⟨rfl, rfl⟩ (seal_tr (Fr := blk b33 9 [str (numsB [1] ++ textB [base])] :: blk l 56 [.int .i64 (L.number : Int), .int .i64 (L.good : Int), .bool L.torn, .pointer (some ⟨d, 0, none⟩), .int .i64 (L.first : Int)] :: dsk d D :: Fr) (some ⟨b33, 0, none⟩) 1 [numsB [1] ++ textB [base]] (Rdb.of_blk (cs := [str (numsB [1] ++ textB [base])]) (xs := [str (numsB [1] ++ textB [base])]) pK 0 rfl (fun j u hu => by simpa using hu)) (by simp; omega) (by unfold baseB at hbb; omega) (by simp; omega)) gS) rfl ?_
   rintro _ _ ⟨hv34, hRs⟩
   rw [show sealB [numsB [1] ++ textB [base]] = baseB base from rfl] at hv34
   subst hv34
   rw [hRs]
   refine x_v (r_mv rfl) rfl ?_
   refine x_v (r_ex rfl rfl) rfl ?_
   refine x_v (r_ex rfl rfl) rfl ?_
   refine x_v (r_as rfl) rfl ?_
   refine x_v (r_as rfl) rfl ?_
   refine XL.nil ?_
   refine hK8 _ _ ?_
   refine XC.keep [(0, _), (5, _)] ⟨rfl, rfl, trivial⟩ ?_
   refine XC.seq fun K9 hK9 => ?_
   refine XC.seq fun K10 hK10 => ?_
   refine XC.region ?_
   refine x_v (r_mv rfl) rfl ?_
   refine x_v (r_mv rfl) rfl ?_
   refine x_v (r_nc rfl) rfl ?_
   refine x_v (r_fa fo56_0 rfl) rfl ?_
   refine x_v (r_fa fo54_0 rfl) rfl ?_
   refine x_v (r_ld ty3 rfl pK (by rfl)) rfl ?_
   refine x_v (yv (v' := .int .i64 ((L.number + 1 : Nat) : Int)) (r_add rfl rfl (by omega)) (by congr 1)) rfl ?_
   refine x_v (r_mv rfl) rfl ?_
   refine x_c (r_call0 (args := [_, _, _]) ⟨rfl, rfl, rfl, rfl⟩ (write_l hL l d L D (L.number + 1) (baseB base) Fr (by omega) (itoa_short _ (by omega)) (by omega)) gS) rfl ?_
   rintro _ _ ⟨hv45, hRs⟩
   rw [hD1] at hv45 hRs
   dsimp only at hv45 hRs
   subst hv45
   unfold lgc at hRs
   rw [hRs]
   refine x_v (r_as rfl) rfl ?_
   refine XL.nil ?_
   refine hK10 _ _ ?_
   refine XC.keep [(0, _), (5, _), (7, _)] ⟨rfl, rfl, rfl, trivial⟩ ?_
   refine XC.seq fun K11 hK11 => ?_
   refine XC.region ?_
   refine x_v (r_mv rfl) rfl ?_
   refine x_v (r_ne rfl rfl) rfl ?_
   refine XL.nil ?_
   refine hK11 _ _ ?_
   refine XC.keep [(0, _), (5, _), (7, _), (47, _)] ⟨rfl, rfl, rfl, rfl, trivial⟩ ?_
   refine XC.cond_d rfl (fun hc4 => ?_) (fun hc4 => ?_)
   ·refine XC.seq fun K12 hK12 => ?_
    refine XC.region ?_
    refine x_v (r_mv rfl) rfl ?_
    refine x_v (r_as rfl) rfl ?_
    refine XL.nil ?_
    refine hK12 _ _ ?_
    refine XC.keep [(4, _)] ⟨rfl, trivial⟩ ?_
    refine XC.ret ?_
    rw [if_pos (by assumption)] at hA
    exact fin1 rfl (⟨by rw [hA], by rw [hA]⟩) gS
   ·refine XC.skip ?_
    refine hK9 _ _ ?_
    refine XC.keep [(0, _), (5, _)] ⟨rfl, rfl, trivial⟩ ?_
    refine XC.seq fun K13 hK13 => ?_
    rw [if_neg (by assumption)] at hA
    refine XC.draw (blk l 56 [.int .i64 (L.number : Int), .int .i64 (L.good : Int), .bool L.torn, .pointer (some ⟨d, 0, none⟩), .int .i64 (L.first : Int)] :: []) false [(0, false), (1, false), (2, false), (3, false), (4, false), (5, false), (6, false), (7, false), (8, false), (9, false), (10, false), (11, false)] (by kernel_rfl) (by kernel_rfl) ?_
    refine y_v rfl (r_mv rfl) gT rfl ?_
    refine y_v rfl (r_nc rfl) gT rfl ?_
    refine y_v rfl (r_fa fo56_2 rfl) gT rfl ?_
    refine y_v rfl (r_ld ty3 rfl pK (by rfl)) gT rfl ?_
    refine y_v rfl (yv (v' := .int .i64 ((max L.first 1 : Nat) : Int)) (r_max rfl rfl) (by first | (congr 1; done) | (congr 1; omega))) gT rfl ?_
    refine y_v rfl (r_mv rfl) gT rfl ?_
    refine y_v rfl (r_nc rfl) gT rfl ?_
    refine y_v rfl (r_fa fo56_0 rfl) gT rfl ?_
    refine y_v rfl (r_fa fo54_0 rfl) gT rfl ?_
    refine y_v rfl (r_ld ty3 rfl pK (by rfl)) gT rfl ?_
    refine y_v rfl (r_as rfl) gT rfl ?_
    refine y_v rfl (r_as rfl) gT rfl ?_
    refine XH.nil ?_
    refine hK13 _ _ ?_
    refine XC.keep [(0, _), (5, _), (8, _), (9, _)] ⟨rfl, rfl, rfl, rfl, trivial⟩ ?_
    refine XC.seq fun K14 hK14 => ?_
    refine XC.region ?_
    refine x_v (r_mv rfl) rfl ?_
    refine x_v (r_mv rfl) rfl ?_
    refine x_v (yv (v' := .int .i64 ((L.number + 1 : Nat) : Int)) (r_add rfl rfl (by omega)) (by congr 1)) rfl ?_
    refine x_v (r_mv rfl) rfl ?_
    refine x_v (r_lens Tryz.underlying9 rfl) rfl ?_
    refine x_v (r_bd (vs := [_, _]) rfl ⟨rfl, rfl, rfl⟩ (bd54_0_1 _ _)) rfl ?_
    refine x_v (r_nc rfl) rfl ?_
    refine x_v (r_fa fo56_0 rfl) rfl ?_
    refine x_e (r_st ty54 rfl rfl rfl rfl rfl uD oV) ?_
    refine XL.nil ?_
    refine hK14 _ _ ?_
    refine XC.keep [(0, _), (8, _), (9, _)] ⟨rfl, rfl, rfl, trivial⟩ ?_
    refine XC.seq fun K15 hK15 => ?_
    refine XC.region ?_
    refine x_v (r_mv rfl) rfl ?_
    refine x_v (r_mv rfl) rfl ?_
    refine x_v (r_nc rfl) rfl ?_
    refine x_v (r_fa fo56_0 rfl) rfl ?_
    refine x_v (r_fa fo54_0 rfl) rfl ?_
    refine x_v (r_ld ty3 rfl pK (by rfl)) rfl ?_
    refine x_v (r_nc rfl) rfl ?_
    refine x_v (r_fa fo56_2 rfl) rfl ?_
    refine x_e (r_st ty3 rfl rfl rfl rfl rfl uD oV) ?_
    refine XL.nil ?_
    refine hK15 _ _ ?_
    refine XC.keep [(0, _), (8, _), (9, _)] ⟨rfl, rfl, rfl, trivial⟩ ?_
    refine XC.seq fun K16 hK16 => ?_
    refine XC.seq fun K17 hK17 => ?_
    refine XC.region ?_
    refine x_v (r_mv rfl) rfl ?_
    refine x_v (r_as rfl) rfl ?_
    refine XL.nil ?_
    refine hK17 _ _ ?_
    refine XC.keep [(0, _), (9, _), (10, _)] ⟨rfl, rfl, rfl, trivial⟩ ?_
    refine XC.block ?_
    refine XC.loop (σ := Nat × Dk) (fun q => [(0, .pointer (some ⟨l, 0, none⟩)), (9, .int .i64 (L.number : Int)), (10, .int .i64 (q.1 : Int))]) (fun q => blk l 56 [.int .i64 ((L.number + 1 : Nat) : Int), .int .i64 ((baseB base).length : Int), .bool false, .pointer (some ⟨d, 0, none⟩), .int .i64 ((L.number + 1 : Nat) : Int)] :: dsk d q.2 :: Fr) (fun q => remD D1 (max L.first 1) (L.number + 1 - max L.first 1) = remD q.2 q.1 (L.number + 1 - q.1) ∧ phi q.2 ≤ phi D + 4) (fun q => L.number + 1 - q.1) (max L.first 1, D1) ?_ ⟨rfl, rfl, rfl, trivial⟩ gS ?_
    ·exact ⟨rfl, hwp⟩
    rintro ⟨n, D2⟩ ⟨hrm, hph⟩
    dsimp only at hrm hph ⊢
    have hds2 : D2.steps ≤ phi D2 := by unfold phi; omega
    have hrp := removeD_phi D2 (nameB n)
    refine XC.seq fun K18 hK18 => ?_
    refine XC.seq fun K19 hK19 => ?_
    refine XC.region ?_
    refine x_v (r_mv rfl) rfl ?_
    refine x_v (r_mv rfl) rfl ?_
    refine x_v (r_le rfl rfl) rfl ?_
    refine XL.nil ?_
    refine hK19 _ _ ?_
    refine XC.keep [(0, _), (9, _), (10, _), (78, _)] ⟨rfl, rfl, rfl, rfl, trivial⟩ ?_
    refine XC.cond_d rfl (fun hc5 => ?_) (fun hc5 => ?_)
    ·refine XC.skip ?_
     refine hK18 _ _ ?_
     refine XC.keep [(0, _), (9, _), (10, _)] ⟨rfl, rfl, rfl, trivial⟩ ?_
     refine XC.seq fun K20 hK20 => ?_
     refine XC.block ?_
     refine XC.seq fun K21 hK21 => ?_
     have hk : L.number + 1 - n = (L.number - n) + 1 := by omega
     refine XC.draw (blk l 56 [.int .i64 ((L.number + 1 : Nat) : Int), .int .i64 ((baseB base).length : Int), .bool false, .pointer (some ⟨d, 0, none⟩), .int .i64 ((L.number + 1 : Nat) : Int)] :: []) false [(0, false), (1, false), (2, false), (3, false), (4, false), (5, true), (6, true), (7, false)] (by kernel_rfl) (by kernel_rfl) ?_
     refine y_v rfl (r_mv rfl) gT rfl ?_
     refine y_v rfl (r_nc rfl) gT rfl ?_
     refine y_v rfl (r_fa fo56_1 rfl) gT rfl ?_
     refine y_v rfl (r_ld ty38 rfl pK (by rfl)) gT rfl ?_
     refine y_v rfl (r_mv rfl) gT rfl ?_
     refine y_c rfl (r_call0 (args := [_]) ⟨rfl, rfl⟩ (name_tr hL n (by omega) (itoa_short _ (by omega)) (blk l 56 [.int .i64 ((L.number + 1 : Nat) : Int), .int .i64 ((baseB base).length : Int), .bool false, .pointer (some ⟨d, 0, none⟩), .int .i64 ((L.number + 1 : Nat) : Int)] :: dsk d D2 :: Fr)) gS) (by rintro _ _ _ _ ⟨rfl, rfl⟩ h; exact Gets.own gS h) rfl ?_
     rintro _ _ ⟨rfl, rfl⟩
     refine y_c rfl (r_call0 (args := [_, _]) ⟨rfl, rfl, rfl⟩ (remove_tr d D2 (nameB n) (blk l 56 [.int .i64 ((L.number + 1 : Nat) : Int), .int .i64 ((baseB base).length : Int), .bool false, .pointer (some ⟨d, 0, none⟩), .int .i64 ((L.number + 1 : Nat) : Int)] :: Fr) (by omega)) gS) (by rintro _ _ _ _ ⟨rfl, rfl⟩ h; exact Gets.own gS h) rfl ?_
     rintro _ _ ⟨rfl, rfl⟩
     refine y_v rfl (r_as rfl) gT rfl ?_
     refine XH.nil ?_
     refine hK21 _ _ ?_
     refine XC.keep [(0, _), (9, _), (10, _), (11, _)] ⟨rfl, rfl, rfl, rfl, trivial⟩ ?_
     refine XC.seq fun K22 hK22 => ?_
     refine XC.region ?_
     refine x_v (r_mv rfl) rfl ?_
     refine x_v (r_ne rfl rfl) rfl ?_
     refine XL.nil ?_
     refine hK22 _ _ ?_
     refine XC.keep [(0, _), (9, _), (10, _), (11, _), (89, _)] ⟨rfl, rfl, rfl, rfl, rfl, trivial⟩ ?_
     refine XC.cond_d rfl (fun hc6 => ?_) (fun hc6 => ?_)
     ·refine XC.seq fun K23 hK23 => ?_
      refine XC.region ?_
      refine x_v (r_mv rfl) rfl ?_
      refine x_v (r_as rfl) rfl ?_
      refine XL.nil ?_
      refine hK23 _ _ ?_
      refine XC.keep [(4, _)] ⟨rfl, trivial⟩ ?_
      refine XC.ret ?_
      rw [hrm, hk, remD, if_pos (by assumption)] at hA
      exact fin1 rfl (⟨by rw [hA], by rw [hA]⟩) gS
     ·refine XC.skip ?_
      refine hK20 _ _ ?_
      refine XC.keep [(0, _), (9, _), (10, _)] ⟨rfl, rfl, rfl, trivial⟩ ?_
      refine XC.region ?_
      refine x_v (r_mv rfl) rfl ?_
      refine x_v (yv (v' := .int .i64 ((n + 1 : Nat) : Int)) (r_add rfl rfl (by omega)) (by congr 1)) rfl ?_
      refine x_v (r_as rfl) rfl ?_
      refine XL.nil ?_
      refine ⟨(n + 1, (removeD D2 (nameB n)).2), ?_, ?_, ⟨rfl, rfl, rfl, trivial⟩, gS⟩
      ·exact ⟨by dsimp only; rw [hrm, hk, remD, if_neg (by assumption)]; congr 1; omega, by dsimp only; omega⟩
      ·dsimp only; omega
    ·refine XC.exit rfl ?_
     refine hK16 _ _ ?_
     refine XC.keep [] trivial ?_
     refine XC.seq fun K24 hK24 => ?_
     refine XC.region ?_
     refine x_v (r_as rfl) rfl ?_
     refine XL.nil ?_
     refine hK24 _ _ ?_
     refine XC.keep [(4, _)] ⟨rfl, trivial⟩ ?_
     refine XC.ret ?_
     rw [hrm, show L.number + 1 - n = 0 by omega, remD] at hA
     exact fin1 rfl (⟨by rw [hA], by rw [hA]⟩) gS
end Go.Proofs.YtcmdmhmgffjknaaGreatDoor
/- Segments' names and numbers: plain facts. -/
namespace Go.Proofs.YtcmdmhmgffjknaaGreatDoor
open Go.Sx
set_option linter.unusedVariables false

theorem parse_app (l r : List UInt8) : ∀ acc v, Lib.parseUint10 acc l = .ok v → Lib.parseUint10 acc (l ++ r) = Lib.parseUint10 v r := by
 induction l with
 | nil => intro acc v h; simp only [Lib.parseUint10] at h; injection h with h; subst h; rfl
 | cons c l ih =>
  intro acc v h
  rw [List.cons_append]
  rw [Lib.parseUint10] at h ⊢
  split at h
  ·rename_i h1
   rw [if_pos h1]
   split at h
   ·cases h
   ·rename_i h2
    rw [if_neg h2]
    split at h
    ·cases h
    ·rename_i h3
     rw [if_neg h3]
     exact ih _ _ h
  ·cases h
theorem dig_nat (k : Nat) (h : k < 10) : (UInt8.ofNat (48 + k)).toNat = 48 + k := by simp; omega
theorem parse_dec : ∀ (n u : Nat), u ≤ n → u < 10000000000000000000 → Lib.parseUint10 0 (Lib.decDigits u) = .ok u := by
 intro n
 induction n with
 | zero =>
  intro u h _
  obtain rfl : u = 0 := by omega
  rw [Lib.decDigits, dif_pos (by omega), Lib.parseUint10, dig_nat 0 (by omega), if_pos (by omega), if_neg (by omega), if_neg (by omega), Lib.parseUint10]
 | succ n ih =>
  intro u h hu
  by_cases h1 : u < 10
  ·rw [Lib.decDigits, dif_pos h1, Lib.parseUint10, dig_nat u h1, if_pos (by omega), if_neg (by omega), if_neg (by omega), Lib.parseUint10]
   congr 1; omega
  ·rw [Lib.decDigits, dif_neg h1, parse_app _ _ _ _ (ih (u / 10) (by omega) (by omega)), Lib.parseUint10, dig_nat (u % 10) (by omega), if_pos (by omega), if_neg (by omega), if_neg (by omega), Lib.parseUint10]
   congr 1; omega
theorem dec_digit (u : Nat) : ∀ c ∈ Lib.decDigits u, 48 ≤ c.toNat ∧ c.toNat ≤ 57 := by
 induction u using Nat.strongRecOn with
 | _ u ih =>
  intro c hc
  rw [Lib.decDigits] at hc
  split at hc
  ·rename_i h; simp only [List.mem_singleton] at hc; subst hc; rw [dig_nat u h]; omega
  ·rename_i h
   rcases List.mem_append.1 hc with hc | hc
   ·exact ih (u / 10) (by omega) c hc
   ·simp only [List.mem_singleton] at hc; subst hc; rw [dig_nat (u % 10) (by omega)]; omega
theorem dec_ne (u : Nat) : Lib.decDigits u ≠ [] := by
 rw [Lib.decDigits]; split <;> simp
theorem itoa_nat (n : Nat) : Lib.itoa (n : Int) = Lib.decDigits n := by unfold Lib.itoa; rw [if_neg (by omega), Int.toNat_natCast]
theorem atoi_itoa (n : Nat) (h : n ≤ 1000000001) : Lib.atoiAll (Lib.itoa (n : Int)) = .ok (n : Int) := by
 rw [itoa_nat]
 have hp := parse_dec n n (Nat.le_refl _) (by omega)
 have hd := dec_digit n
 have hne := dec_ne n
 generalize Lib.decDigits n = l at hp hd hne
 match l, hp, hd, hne with
 | c :: r, hp, hd, _ =>
  have hc := hd c (by simp)
  have hm : Lib.parseMag (c :: r) = .ok n := by unfold Lib.parseMag; rw [if_neg (by simp)]; exact hp
  unfold Lib.atoiAll
  dsimp only
  rw [if_neg (show ¬ (c.toNat = 43 ∨ c.toNat = 45) by omega), hm]
  dsimp only
  rw [if_neg (by omega), if_neg (by omega), if_neg (show ¬ c.toNat = 45 by omega)]
theorem name_inj {a b : Nat} (ha : a ≤ 1000000001) (hb : b ≤ 1000000001) (h : nameB a = nameB b) : a = b := by
 have h1 : Lib.itoa (a : Int) = Lib.itoa (b : Int) := List.append_cancel_left h
 have h2 := atoi_itoa a ha
 rw [h1, atoi_itoa b hb] at h2
 injection h2 with h2; omega
theorem pre_log (s : List UInt8) : Lib.hasPrefix (logP ++ s) logP = true := by
 unfold Lib.hasPrefix; simp [logP]
theorem trim_log (s : List UInt8) : Lib.trimPrefix (logP ++ s) logP = s := by
 unfold Lib.trimPrefix; rw [if_pos (pre_log s)]; simp [logP]
theorem num_name (n : Nat) (h1 : 1 ≤ n) (h2 : n ≤ 999999999) : numB (nameB n) = n := by
 unfold numB nameB
 rw [trim_log, atoi_itoa n (by omega)]
 dsimp only
 rw [if_neg (by rintro (h | h | h); omega; omega; exact h rfl)]
 omega
theorem num_is {f : List UInt8} (hp : Lib.hasPrefix f logP = true) (hn : numB f ≠ 0) : f = nameB (numB f) ∧ 1 ≤ numB f ∧ numB f ≤ 999999999 := by
 obtain ⟨s, rfl⟩ : ∃ s, f = logP ++ s := by
  unfold Lib.hasPrefix at hp
  exact ⟨_, (List.prefix_iff_eq_append.1 (List.isPrefixOf_iff_prefix.1 hp)).symm⟩
 unfold numB at *
 rw [trim_log] at *
 rcases ends3 (Lib.atoiAll s) with ⟨v, h⟩ | h | h
 ·rw [h] at hn
  rw [h]
  dsimp only at hn ⊢
  split at hn
  ·exact absurd rfl hn
  ·rename_i hv
   rw [if_neg hv]
   have h3 : ¬ v < 1 := fun h => hv (.inl h)
   have h4 : ¬ 999999999 < v := fun h => hv (.inr (.inl h))
   have h5 : Lib.itoa v = s := Decidable.not_not.1 fun h => hv (.inr (.inr h))
   refine ⟨?_, by omega, by omega⟩
   unfold nameB
   rw [show ((v.toNat : Nat) : Int) = v by omega, h5]
 ·rw [h] at hn; exact absurd rfl hn
 ·rw [h] at hn; exact absurd rfl hn
theorem numB_le (f : List UInt8) : numB f ≤ 999999999 := by
 unfold numB
 split
 ·split
  ·omega
  ·rename_i v hq hv; have : ¬ (999999999 : Int) < v := fun h => hv (.inr (.inl h)); omega
 ·omega
/-! how a log is opened -/
def zeroSg : Sg := ⟨[], 0, [], 0⟩
def stepF (D : Dk) (q : Nat × Sg) (f : List UInt8) : Nat × Sg := if q.1 < numB f ∧ (readS (readD D f).1).kind = 1 then (numB f, readS (readD D f).1) else q
def firstL (D : Dk) (N : List (List UInt8)) : Nat × Sg := N.foldl (stepF D) (0, zeroSg)
def chainL (D : Dk) : Nat → Nat → Sg → List (List UInt8) → Nat × Sg × List (List UInt8)
 | 0, n, a, r => (n, a, r)
 | k + 1, n, a, r => match followsF (readS (readD D (nameB (n + 1))).1) a with
  | none => (n, a, r)
  | some L => chainL D k (n + 1) (readS (readD D (nameB (n + 1))).1) (r ++ L)
def cleanL (a b : Nat) : List (List UInt8) → Dk → Int × Dk
 | [], D => (0, D)
 | f :: r, D => if numB f = 0 ∨ numB f < a ∨ b < numB f then (if (removeD D f).1 ≠ 0 then removeD D f else cleanL a b r (removeD D f).2) else cleanL a b r D
/-- The last segment, behind which it goes on. -/
def chainD (D : Dk) : Nat × Sg × List (List UInt8) := if 0 < (firstL D (namesD D logP)).1 then chainL D (999999999 - (firstL D (namesD D logP)).1) (firstL D (namesD D logP)).1 (firstL D (namesD D logP)).2 [] else (0, zeroSg, [])
def tailD (D : Dk) : List (List UInt8) × Nat × Bool := if 0 < (firstL D (namesD D logP)).1 then ((chainD D).2.2 ++ (scanF (chainD D).2.1.bytes).1.tail, (scanF (chainD D).2.1.bytes).2, decide ((scanF (chainD D).2.1.bytes).2 < (chainD D).2.1.bytes.length)) else ([], 0, false)
def openL (D : Dk) : Int × Option (Lg × List UInt8 × List (List UInt8)) × Dk :=
 if D.off = true then (50, none, D) else
 if (cleanL (firstL D (namesD D logP)).1 (chainD D).1 (namesD D logP) D).1 ≠ 0 then ((cleanL (firstL D (namesD D logP)).1 (chainD D).1 (namesD D logP) D).1, none, (cleanL (firstL D (namesD D logP)).1 (chainD D).1 (namesD D logP) D).2)
 else (0, some (⟨(chainD D).1, (tailD D).2.1, (tailD D).2.2, (firstL D (namesD D logP)).1⟩, (firstL D (namesD D logP)).2.base, (tailD D).1), (cleanL (firstL D (namesD D logP)).1 (chainD D).1 (namesD D logP) D).2)
theorem openF_nil : openF [] = none := by
 have hn : numR (([], false) : Rd) = (0, [], true) := rfl
 unfold openF
 rw [hn]
 unfold openQ
 rw [if_neg (by simp)]
theorem readS_kind {b : List UInt8} (h : (readS b).kind ≠ 0) : ∃ p q, openF b = some (p, q) := by
 cases hO : openF b with
 | none => unfold readS at h; rw [hO] at h; exact absurd rfl h
 | some x => exact ⟨x.1, x.2, rfl⟩
theorem readS_bytes (b : List UInt8) : (readS b).bytes = b := by
 unfold readS; split
 ·rfl
 ·split
  ·rfl
  ·split <;> rfl
def AtOk (a : Sg) : Prop := a.bytes.length ≤ 1048576 ∧ (a.kind ≠ 0 → 0 < (scanF a.bytes).1.length)
theorem readS_ok {D : Dk} (h : DkOk D) (f : List UInt8) : AtOk (readS (readD D f).1) := by
 refine ⟨by rw [readS_bytes]; exact readD_len h f, fun hk => ?_⟩
 obtain ⟨p, q, hO⟩ := readS_kind hk
 rw [readS_bytes, scanF_some hO]; simp
theorem scanF_len : ∀ (n : Nat) (s : List UInt8), s.length ≤ n → (scanF s).1.length ≤ s.length
 | 0, s, h => by
  have : s = [] := List.eq_nil_of_length_eq_zero (by omega)
  subst this
  rw [scanF_none openF_nil]; simp
 | n + 1, s, h => by
  cases hO : openF s with
  | none => rw [scanF_none hO]; simp
  | some x =>
   obtain ⟨p, r⟩ := x
   have hlt := openF_lt hO
   rw [scanF_some hO]
   have := scanF_len n r (by omega)
   simp only [List.length_cons]; omega
theorem follows_kind {s a : Sg} {L : List (List UInt8)} (h : followsF s a = some L) : s.kind = 2 ∧ L.length ≤ a.bytes.length := by
 unfold followsF at h
 split at h
 ·cases h
 ·rename_i h1
  split at h
  ·cases h
  ·injection h with h
   refine ⟨Decidable.not_not.1 fun hk => h1 (.inl hk), ?_⟩
   have := scanF_len _ (a.bytes.take s.behind.toNat) (Nat.le_refl _)
   rw [← h, List.length_tail]
   rw [List.length_take] at this; omega
theorem mem_len {K N : List (List UInt8)} (hk : K.Nodup) (hn : N.Nodup) (h : ∀ x ∈ K, x ∈ N) : K.length ≤ N.length := by
 have hp : K.Perm (N.filter (fun x => decide (x ∈ K))) := by
  refine (List.perm_ext_iff_of_nodup hk (hn.filter _)).2 fun x => ?_
  rw [List.mem_filter, decide_eq_true_iff]
  exact ⟨fun hx => ⟨h x hx, hx⟩, fun hx => hx.2⟩
 rw [hp.length_eq]
 exact List.length_filter_le _ _
/-- As many segments as are found stand on the drive. -/
theorem chain_bound {D : Dk} (hD : DkOk D) {a m : Nat} (ha : a + m ≤ 999999999) (h : ∀ k, a < k → k ≤ a + m → getF D.files (nameB k) ≠ none) : m ≤ D.files.length := by
 have hnd : (D.files.map (·.1)).Nodup := List.pairwise_map.2 (hD.srt.imp fun h e => by rw [e] at h; exact List.lt_irrefl _ h)
 have hK : ((List.range m).map fun i => nameB (a + 1 + i)).Nodup := by
  rw [List.Nodup, List.pairwise_map]
  refine List.Pairwise.imp_of_mem (fun {i j} hi hj hij e => ?_) (List.nodup_range (n := m))
  have hi' := List.mem_range.1 hi
  have hj' := List.mem_range.1 hj
  have := name_inj (by omega) (by omega) e
  omega
 have := mem_len hK hnd fun x hx => by
  obtain ⟨i, hi, rfl⟩ := List.mem_map.1 hx
  have hi' := List.mem_range.1 hi
  obtain ⟨y, hy⟩ := Option.ne_none_iff_exists'.1 (h (a + 1 + i) (by omega) (by omega))
  exact List.mem_map.2 ⟨_, getF_mem hy, rfl⟩
 simpa using this
theorem follows_there {D : Dk} {n : List UInt8} {a : Sg} {L : List (List UInt8)} (h : followsF (readS (readD D n).1) a = some L) : getF D.files n ≠ none := fun hn => by
 have hk := (follows_kind h).1
 have hr : (readD D n).1 = [] := by unfold readD; split; rfl; rw [hn]
 rw [hr] at hk
 unfold readS at hk
 rw [openF_nil] at hk
 exact absurd hk (by decide)
end Go.Proofs.YtcmdmhmgffjknaaGreatDoor
/- A log opened: function 9. -/
namespace Go.Proofs.YtcmdmhmgffjknaaGreatDoor
open Go.Sx
set_option linter.unusedVariables false

def OpenV (R : Int × Option (Lg × List UInt8 × List (List UInt8)) × Dk) (d : Nat) (Fr : List HP) (v : Value) (Rs' : List HP) : Prop := match R.2.1 with
 | none => v = .tuple #[.pointer none, str [], .slice none 0 0, .int .i64 R.1] ∧ Rs' = dsk d R.2.2 :: Fr
 | some (L, base, rc) => ∃ l A c, v = .tuple #[.pointer (some ⟨l, 0, none⟩), str base, .slice A rc.length c, .int .i64 0] ∧ Rs' = lgc l d L :: sl A rc.length c 9 1 (cells sv rc) :: dsk d R.2.2 :: Fr
theorem open_th : ∃ fn c, Tryz.prog.funcs[9]? = some fn ∧ (fn.name == "runtime.NumGoroutine") = false ∧ fn.body = some c := ⟨_, _, Tryz.func9, by kernel_rfl, rfl⟩
theorem open_nil {W0 : World} (Fr : List HP) : Tr W0 Tryz.prog 9 [.pointer none] Fr (fun v Rs' => v = .tuple #[.pointer none, str [], .slice none 0 0, .int .i64 2] ∧ Rs' = Fr) := by
 refine Entry.tr (N := 168) (rs := [.tmp 2, .tmp 3, .tmp 4, .tmp 5]) ⟨_, Tryz.func9, rfl, by kernel_rfl, rfl, rfl⟩ rfl ?_
 refine XC.seq fun K1 hK1 => ?_
 refine XC.region ?_
 refine x_v (r_as rfl) rfl ?_
 refine x_v (r_as rfl) rfl ?_
 refine x_v (r_as rfl) rfl ?_
 refine x_v (r_as rfl) rfl ?_
 refine XL.nil ?_
 refine hK1 _ _ ?_
 refine XC.keep [(0, _), (4, _)] ⟨rfl, rfl, trivial⟩ ?_
 refine XC.seq fun K2 hK2 => ?_
 refine XC.seq fun K3 hK3 => ?_
 refine XC.region ?_
 refine x_v (r_mv rfl) rfl ?_
 refine x_v (r_peq_nil Tryz.underlying38 rfl rfl) rfl ?_
 refine XL.nil ?_
 refine hK3 _ _ ?_
 refine XC.keep [(0, _), (4, _), (22, _)] ⟨rfl, rfl, rfl, trivial⟩ ?_
 refine XC.cond_t rfl ?_
 refine XC.seq fun K4 hK4 => ?_
 refine XC.region ?_
 refine x_v (r_as rfl) rfl ?_
 refine x_v (r_as rfl) rfl ?_
 refine x_v (r_as rfl) rfl ?_
 refine x_v (r_as rfl) rfl ?_
 refine XL.nil ?_
 refine hK4 _ _ ?_
 refine XC.keep [(2, _), (3, _), (4, _), (5, _)] ⟨rfl, rfl, rfl, rfl, trivial⟩ ?_
 refine XC.ret ?_
 exact fin4 rfl rfl rfl rfl (⟨rfl, rfl⟩) gS
theorem openl_tr {W0 : World} (hL : Laid W0) (d : Nat) (D : Dk) (Fr : List HP) (hph0 : phi D ≤ 1000000) : Tr W0 Tryz.prog 9 [.pointer (some ⟨d, 0, none⟩)] (dsk d D :: Fr) (OpenV (openL D) d Fr) := by
 have hmax : maxS = 140737488355328 := rfl
 refine Tr.fact open_th (fun w hw => dsk_ok hw) fun hok => ?_
 have hfl0 : D.files.length ≤ phi D := by unfold phi; omega
 have hNl : ∀ n ∈ namesD D logP, n.length ≤ 80 := fun n hn => by
  unfold namesD at hn
  split at hn
  ·cases hn
  ·obtain ⟨t, ht, rfl⟩ := List.mem_map.1 (List.mem_filter.1 hn).1
   exact fineB_len (hok.fi t ht).2.2
 have hO : openL D = if D.off = true then (50, none, D) else
  if (cleanL (firstL D (namesD D logP)).1 (chainD D).1 (namesD D logP) D).1 ≠ 0 then ((cleanL (firstL D (namesD D logP)).1 (chainD D).1 (namesD D logP) D).1, none, (cleanL (firstL D (namesD D logP)).1 (chainD D).1 (namesD D logP) D).2)
  else (0, some (⟨(chainD D).1, (tailD D).2.1, (tailD D).2.2, (firstL D (namesD D logP)).1⟩, (firstL D (namesD D logP)).2.base, (tailD D).1), (cleanL (firstL D (namesD D logP)).1 (chainD D).1 (namesD D logP) D).2) := rfl
 have hCh : chainD D = if 0 < (firstL D (namesD D logP)).1 then chainL D (999999999 - (firstL D (namesD D logP)).1) (firstL D (namesD D logP)).1 (firstL D (namesD D logP)).2 [] else (0, zeroSg, []) := rfl
 have hTl : tailD D = if 0 < (firstL D (namesD D logP)).1 then ((chainD D).2.2 ++ (scanF (chainD D).2.1.bytes).1.tail, (scanF (chainD D).2.1.bytes).2, decide ((scanF (chainD D).2.1.bytes).2 < (chainD D).2.1.bytes.length)) else ([], 0, false) := rfl
 have hNle : (namesD D logP).length ≤ D.files.length := by
  unfold namesD
  split
  ·simp
  ·exact Nat.le_trans (List.length_filter_le _ _) (by simp)
 generalize hNd : namesD D logP = N at hNl hO hCh hTl hNle
 refine Entry.tr (N := 168) (rs := [.tmp 2, .tmp 3, .tmp 4, .tmp 5]) ⟨_, Tryz.func9, rfl, by kernel_rfl, rfl, rfl⟩ rfl ?_
 refine XC.seq fun K1 hK1 => ?_
 refine XC.region ?_
 refine x_v (r_as rfl) rfl ?_
 refine x_v (r_as rfl) rfl ?_
 refine x_v (r_as rfl) rfl ?_
 refine x_v (r_as rfl) rfl ?_
 refine XL.nil ?_
 refine hK1 _ _ ?_
 refine XC.keep [(0, _), (4, _)] ⟨rfl, rfl, trivial⟩ ?_
 refine XC.seq fun K2 hK2 => ?_
 refine XC.seq fun K3 hK3 => ?_
 refine XC.region ?_
 refine x_v (r_mv rfl) rfl ?_
 refine x_v (r_peq_some Tryz.underlying38 rfl rfl) rfl ?_
 refine XL.nil ?_
 refine hK3 _ _ ?_
 refine XC.keep [(0, _), (4, _), (22, _)] ⟨rfl, rfl, rfl, trivial⟩ ?_
 refine XC.cond_f rfl ?_
 refine XC.skip ?_
 refine hK2 _ _ ?_
 refine XC.keep [(0, _), (4, _)] ⟨rfl, rfl, trivial⟩ ?_
 refine XC.seq fun K4 hK4 => ?_
 refine XC.seq fun K5 hK5 => ?_
 refine XC.region ?_
 refine x_v (r_mv rfl) rfl ?_
 refine x_c (r_call0 (args := [_]) ⟨rfl, rfl⟩ (down_tr d D Fr) gS) rfl ?_
 rintro _ _ ⟨rfl, hRs⟩
 rw [hRs]
 refine XL.nil ?_
 refine hK5 _ _ ?_
 refine XC.keep [(0, _), (4, _), (24, _)] ⟨rfl, rfl, rfl, trivial⟩ ?_
 refine XC.cond rfl (fun hc2 => ?_) (fun hc2 => ?_)
 ·refine XC.seq fun K6 hK6 => ?_
  refine XC.region ?_
  refine x_v (r_as rfl) rfl ?_
  refine x_v (r_as rfl) rfl ?_
  refine x_v (r_as rfl) rfl ?_
  refine x_v (r_as rfl) rfl ?_
  refine XL.nil ?_
  refine hK6 _ _ ?_
  refine XC.keep [(2, _), (3, _), (4, _), (5, _)] ⟨rfl, rfl, rfl, rfl, trivial⟩ ?_
  refine XC.ret ?_
  unfold OpenV
  rw [hO, if_pos (by simpa using hc2)]
  exact fin4 rfl rfl rfl rfl (⟨rfl, rfl⟩) gS
 ·refine XC.skip ?_
  refine hK4 _ _ ?_
  refine XC.keep [(0, _), (4, _)] ⟨rfl, rfl, trivial⟩ ?_
  refine XC.seq fun K7 hK7 => ?_
  have hoff : D.off = false := by simpa using hc2
  rw [if_neg (by rw [hoff]; decide)] at hO
  refine XC.region ?_
  refine x_v (r_mv rfl) rfl ?_
  refine x_v (r_bd (vs := [_]) rfl ⟨rfl, rfl⟩ (bd56_1 _)) rfl ?_
  refine x_a (r_bx rfl rfl) rfl fun b27 => ?_
  refine x_v (r_as rfl) rfl ?_
  refine XL.nil ?_
  refine hK7 _ _ ?_
  refine XC.keep [(0, _), (2, _), (4, _)] ⟨rfl, rfl, rfl, trivial⟩ ?_
  refine XC.seq fun K8 hK8 => ?_
  refine XC.region ?_
  refine x_v (r_mv rfl) rfl ?_
  refine x_c (r_call0 (args := [_, _]) ⟨rfl, rfl, rfl⟩ (names_tr d D logP (blk b27 56 [.int .i64 0, .int .i64 0, .bool false, .pointer (some ⟨d, 0, none⟩), .int .i64 0] :: Fr) (by omega)) gS) rfl ?_
  rintro _ _ ⟨A29, c29, hv29, hRs⟩
  rw [hNd] at hv29 hRs
  subst hv29
  rw [hRs]
  refine x_v (r_as rfl) rfl ?_
  refine XL.nil ?_
  refine hK8 _ _ ?_
  refine XC.keep [(0, _), (2, _), (4, _), (6, _)] ⟨rfl, rfl, rfl, rfl, trivial⟩ ?_
  refine XC.seq fun K9 hK9 => ?_
  refine XC.region ?_
  refine x_a (r_al ty59 rfl) rfl fun b7 => ?_
  refine XL.nil ?_
  refine hK9 _ _ ?_
  refine XC.keep [(0, _), (2, _), (4, _), (6, _), (7, _)] ⟨rfl, rfl, rfl, rfl, rfl, trivial⟩ ?_
  refine XC.seq fun K10 hK10 => ?_
  refine XC.seq fun K11 hK11 => ?_
  refine XC.region ?_
  refine x_v (r_mv rfl) rfl ?_
  refine x_v (r_lensl Tryz.underlying22 rfl) rfl ?_
  refine x_v (r_mv rfl) rfl ?_
  refine XL.nil ?_
  refine hK11 _ _ ?_
  refine XC.keep [(0, _), (2, _), (4, _), (6, _), (7, _), (30, _), (31, _), (32, _)] ⟨rfl, rfl, rfl, rfl, rfl, rfl, rfl, rfl, trivial⟩ ?_
  refine XC.block ?_
  refine XC.loop (σ := Nat × Nat × Sg) (fun q => [(0, .pointer (some ⟨d, 0, none⟩)), (2, .pointer (some ⟨b27, 0, none⟩)), (4, .slice none 0 0), (6, .slice A29 N.length c29), (7, .pointer (some ⟨b7, 0, none⟩)), (30, .slice A29 N.length c29), (31, .int .i64 (N.length : Int)), (32, .int .i64 (q.1 : Int))]) (fun q => blk b27 56 [.int .i64 0, .int .i64 0, .bool false, .pointer (some ⟨d, 0, none⟩), .int .i64 (q.2.1 : Int)] :: blk b7 59 [str q.2.2.bytes, .int .i64 q.2.2.kind, str q.2.2.base, .int .i64 q.2.2.behind] :: sl A29 N.length c29 9 1 (cells sv N) :: dsk d D :: Fr) (fun q => q.1 ≤ N.length ∧ (N.take q.1).foldl (stepF D) (0, zeroSg) = (q.2.1, q.2.2) ∧ AtOk q.2.2 ∧ (0 < q.2.1 → q.2.2.kind ≠ 0) ∧ q.2.1 ≤ 999999999) (fun q => N.length - q.1) (0, 0, zeroSg) ?_ ⟨rfl, rfl, rfl, rfl, rfl, rfl, rfl, rfl, trivial⟩ gS ?_
  ·exact ⟨Nat.zero_le _, rfl, ⟨by simp [zeroSg], fun h => absurd rfl h⟩, fun h => absurd h (by decide), Nat.zero_le _⟩
  rintro ⟨i, first, a⟩ ⟨hi, hfo, hao, hak, hf9⟩
  dsimp only at hi hfo hao hak hf9 ⊢
  refine XC.seq fun K12 hK12 => ?_
  refine XC.region ?_
  refine x_v (r_lt rfl rfl) rfl ?_
  refine XL.nil ?_
  refine hK12 _ _ ?_
  refine XC.keep [(0, _), (2, _), (4, _), (6, _), (7, _), (30, _), (31, _), (32, _), (33, _)] ⟨rfl, rfl, rfl, rfl, rfl, rfl, rfl, rfl, rfl, trivial⟩ ?_
  refine XC.seq fun K13 hK13 => ?_
  refine XC.cond_d rfl (fun hc3 => ?_) (fun hc3 => ?_)
  ·refine XC.skip ?_
   refine hK13 _ _ ?_
   refine XC.keep [(0, _), (2, _), (4, _), (6, _), (7, _), (30, _), (31, _), (32, _)] ⟨rfl, rfl, rfl, rfl, rfl, rfl, rfl, rfl, trivial⟩ ?_
   refine XC.seq fun K14 hK14 => ?_
   refine XC.block ?_
   refine XC.seq fun K15 hK15 => ?_
   obtain ⟨x, hx⟩ : ∃ x, N[i]? = some x := ⟨_, List.getElem?_eq_getElem (by omega)⟩
   have hxl := hNl x (List.mem_of_getElem? hx)
   refine XC.slnn (pK : Pick _ (sl A29 N.length c29 9 1 (cells sv N)) _) fun hl hA => ?_
   obtain ⟨g, rfl⟩ := hA (by omega)
   have hrN := Rdb.of_sl (W0 := W0) (pK : Pick (sl (some ⟨g, 0, none⟩) N.length c29 9 1 (cells sv N) :: Fr) (sl (some ⟨g, 0, none⟩) N.length c29 9 1 (cells sv N)) _) hl (fun _ => ⟨g, rfl⟩)
   obtain ⟨g2, o2, he2, hat⟩ := hrN.at_ (by omega)
   injection he2 with he2
   injection he2 with hg2 ho2
   subst hg2
   subst ho2
   refine XC.region ?_
   refine x_v (r_ia (k := i) Tryz.underlying22 ty9 rfl rfl (by omega) (by omega)) rfl ?_
   refine x_v (r_ldr (v := str x) ty9 rfl (fun w hw => hat w (Gets.own gS hw) (i * 1) _ (by rw [Nat.mul_one]; exact sv_get hx))) rfl ?_
   refine x_v (r_as rfl) rfl ?_
   refine XL.nil ?_
   refine hK15 _ _ ?_
   refine XC.keep [(0, _), (2, _), (4, _), (6, _), (7, _), (9, _), (30, _), (31, _), (32, _)] ⟨rfl, rfl, rfl, rfl, rfl, rfl, rfl, rfl, rfl, trivial⟩ ?_
   refine XC.seq fun K16 hK16 => ?_
   refine XC.region ?_
   refine x_v (r_mv rfl) rfl ?_
   refine x_c (r_call0 (args := [_]) ⟨rfl, rfl⟩ (number_tr hL x hxl (blk b27 56 [.int .i64 0, .int .i64 0, .bool false, .pointer (some ⟨d, 0, none⟩), .int .i64 (first : Int)] :: blk b7 59 [str a.bytes, .int .i64 a.kind, str a.base, .int .i64 a.behind] :: sl (some ⟨g, 0, none⟩) N.length c29 9 1 (cells sv N) :: dsk d D :: Fr)) gS) rfl ?_
   rintro _ _ ⟨rfl, hRs⟩
   rw [hRs]
   refine x_v (r_as rfl) rfl ?_
   refine XL.nil ?_
   refine hK16 _ _ ?_
   refine XC.keep [(0, _), (2, _), (4, _), (6, _), (7, _), (9, _), (10, _), (30, _), (31, _), (32, _)] ⟨rfl, rfl, rfl, rfl, rfl, rfl, rfl, rfl, rfl, rfl, trivial⟩ ?_
   refine XC.seq fun K17 hK17 => ?_
   refine XC.region ?_
   refine x_v (r_mv rfl) rfl ?_
   refine x_v (r_mv rfl) rfl ?_
   refine x_v (r_nc rfl) rfl ?_
   refine x_v (r_fa fo56_2 rfl) rfl ?_
   refine x_v (r_ld ty3 rfl pK (by rfl)) rfl ?_
   refine x_v (r_gt rfl rfl) rfl ?_
   refine XL.nil ?_
   refine hK17 _ _ ?_
   refine XC.keep [(0, _), (2, _), (4, _), (6, _), (7, _), (9, _), (10, _), (30, _), (31, _), (32, _), (43, _)] ⟨rfl, rfl, rfl, rfl, rfl, rfl, rfl, rfl, rfl, rfl, rfl, trivial⟩ ?_
   refine XC.cond_d rfl (fun hc4 => ?_) (fun hc4 => ?_)
   ·refine XC.seq fun K18 hK18 => ?_
    refine XC.region ?_
    refine x_v (r_mv rfl) rfl ?_
    refine x_v (r_mv rfl) rfl ?_
    refine x_c (r_call0 (args := [_, _]) ⟨rfl, rfl, rfl⟩ (sread_tr d D x (blk b27 56 [.int .i64 0, .int .i64 0, .bool false, .pointer (some ⟨d, 0, none⟩), .int .i64 (first : Int)] :: blk b7 59 [str a.bytes, .int .i64 a.kind, str a.base, .int .i64 a.behind] :: sl (some ⟨g, 0, none⟩) N.length c29 9 1 (cells sv N) :: Fr)) gS) rfl ?_
    rintro _ _ ⟨rfl, hRs⟩
    rw [hRs]
    unfold sgc
    refine x_a (r_al ty59 rfl) rfl fun b11 => ?_
    refine x_e (r_st ty59 rfl rfl rfl rfl rfl uD oV) ?_
    refine XL.nil ?_
    refine hK18 _ _ ?_
    refine XC.keep [(0, _), (2, _), (4, _), (6, _), (7, _), (10, _), (11, _), (30, _), (31, _), (32, _)] ⟨rfl, rfl, rfl, rfl, rfl, rfl, rfl, rfl, rfl, rfl, trivial⟩ ?_
    refine XC.seq fun K19 hK19 => ?_
    refine XC.region ?_
    refine x_v (r_fa fo59_1 rfl) rfl ?_
    refine x_v (r_ld ty3 rfl pK (by rfl)) rfl ?_
    refine x_v (r_eq rfl rfl) rfl ?_
    refine XL.nil ?_
    refine hK19 _ _ ?_
    refine XC.keep [(0, _), (2, _), (4, _), (6, _), (7, _), (10, _), (11, _), (30, _), (31, _), (32, _), (49, _)] ⟨rfl, rfl, rfl, rfl, rfl, rfl, rfl, rfl, rfl, rfl, rfl, trivial⟩ ?_
    refine XC.cond_d rfl (fun hc5 => ?_) (fun hc5 => ?_)
    ·refine XC.draw (blk b11 59 [str (readS (readD D x).1).bytes, .int .i64 (readS (readD D x).1).kind, str (readS (readD D x).1).base, .int .i64 (readS (readD D x).1).behind] :: []) true [(0, false), (1, false), (2, false), (3, false), (4, false), (5, true), (6, true)] (by kernel_rfl) (by kernel_rfl) ?_
     refine y_v rfl (r_mv rfl) gT rfl ?_
     refine y_v rfl (r_mv rfl) gT rfl ?_
     refine y_v rfl (r_lda (l' := [_, _, _, _]) ty59 rfl pK rfl (Sub.get sU)) gT rfl ?_
     refine y_v rfl (r_nc rfl) gT rfl ?_
     refine y_v rfl (r_fa fo56_2 rfl) gT rfl ?_
     refine y_e rfl (r_st ty3 rfl rfl rfl rfl rfl uD oV) (fun _ _ h => Gets.own gS h) ?_
     refine y_e rfl (r_st ty59 rfl rfl rfl rfl rfl uD oV) (fun h => absurd h (by decide)) ?_
     refine XH.nil ?_
     refine hK14 _ _ ?_
     refine XC.keep [(0, _), (2, _), (4, _), (6, _), (7, _), (30, _), (31, _), (32, _)] ⟨rfl, rfl, rfl, rfl, rfl, rfl, rfl, rfl, trivial⟩ ?_
     refine XC.region ?_
     refine x_v (r_add rfl rfl (by omega)) rfl ?_
     refine x_v (r_mv rfl) rfl ?_
     refine XL.nil ?_
     refine ⟨(i + 1, numB x, readS (readD D x).1), ?_, ?_, ⟨rfl, rfl, rfl, rfl, rfl, rfl, rfl, rfl, trivial⟩, gS⟩
     ·exact ⟨by dsimp only; omega, by dsimp only; rw [foldl_snoc _ _ _ _ _ hx, hfo]; unfold stepF; rw [if_pos ⟨by omega, by assumption⟩], readS_ok hok x, fun _ => by dsimp only; omega, numB_le x⟩
     ·dsimp only; omega
    ·refine XC.skip ?_
     refine hK14 _ _ ?_
     refine XC.keep [(0, _), (2, _), (4, _), (6, _), (7, _), (30, _), (31, _), (32, _)] ⟨rfl, rfl, rfl, rfl, rfl, rfl, rfl, rfl, trivial⟩ ?_
     refine XC.region ?_
     refine x_v (r_add rfl rfl (by omega)) rfl ?_
     refine x_v (r_mv rfl) rfl ?_
     refine XL.nil ?_
     refine ⟨(i + 1, first, a), ?_, ?_, ⟨rfl, rfl, rfl, rfl, rfl, rfl, rfl, rfl, trivial⟩, gS⟩
     ·exact ⟨by dsimp only; omega, by dsimp only; rw [foldl_snoc _ _ _ _ _ hx, hfo]; unfold stepF; rw [if_neg (by rintro ⟨_, h⟩; exact absurd h (by assumption))], hao, hak, hf9⟩
     ·dsimp only; omega
   ·refine XC.skip ?_
    refine hK14 _ _ ?_
    refine XC.keep [(0, _), (2, _), (4, _), (6, _), (7, _), (30, _), (31, _), (32, _)] ⟨rfl, rfl, rfl, rfl, rfl, rfl, rfl, rfl, trivial⟩ ?_
    refine XC.region ?_
    refine x_v (r_add rfl rfl (by omega)) rfl ?_
    refine x_v (r_mv rfl) rfl ?_
    refine XL.nil ?_
    refine ⟨(i + 1, first, a), ?_, ?_, ⟨rfl, rfl, rfl, rfl, rfl, rfl, rfl, rfl, trivial⟩, gS⟩
    ·exact ⟨by dsimp only; omega, by dsimp only; rw [foldl_snoc _ _ _ _ _ hx, hfo]; unfold stepF; rw [if_neg (by rintro ⟨h, _⟩; omega)], hao, hak, hf9⟩
    ·dsimp only; omega
  ·refine XC.exit rfl ?_
   refine hK10 _ _ ?_
   refine XC.keep [(0, _), (2, _), (4, _), (6, _), (7, _)] ⟨rfl, rfl, rfl, rfl, rfl, trivial⟩ ?_
   refine XC.seq fun K20 hK20 => ?_
   obtain rfl : i = N.length := by omega
   rw [List.take_of_length_le (Nat.le_refl _)] at hfo
   have hFi : firstL D N = (first, a) := hfo
   rw [hFi] at hO hCh hTl
   dsimp only at hO hCh hTl
   refine XC.nil_ 9 1 ?_
   refine XC.draw (blk b7 59 [str a.bytes, .int .i64 a.kind, str a.base, .int .i64 a.behind] :: []) false [(0, false), (1, false), (2, false), (3, false), (5, false), (6, false), (4, true), (7, false), (8, false), (9, false), (10, true), (11, false)] (by kernel_rfl) (by kernel_rfl) ?_
   refine y_v rfl (r_mv rfl) gT rfl ?_
   refine y_v rfl (r_mv rfl) gT rfl ?_
   refine y_v rfl (r_nc rfl) gT rfl ?_
   refine y_v rfl (r_fa fo56_2 rfl) gT rfl ?_
   refine y_v rfl (r_fa fo59_2 rfl) gT rfl ?_
   refine y_v rfl (r_ld ty9 rfl pK (by rfl)) gT rfl ?_
   refine y_vl rfl (r_ld ty3 rfl pK (by rfl)) gT rfl ?_
   refine y_v rfl (r_nc rfl) gT rfl ?_
   refine y_v rfl (r_fa fo56_0 rfl) gT rfl ?_
   refine y_v rfl (r_fa fo54_0 rfl) gT rfl ?_
   refine y_e rfl (r_st ty3 rfl rfl rfl rfl rfl uD oV) (fun _ _ h => Gets.own gS h) ?_
   refine y_v rfl (r_as rfl) gT rfl ?_
   refine XH.nil ?_
   refine hK20 _ _ ?_
   refine XC.keep [(0, _), (2, _), (3, _), (4, _), (6, _), (7, _)] ⟨rfl, rfl, rfl, rfl, rfl, rfl, trivial⟩ ?_
   refine XC.seqcut (σ := Nat × Nat × Bool × List (List UInt8) × Option Addr × Nat) (fun q => [(0, .pointer (some ⟨d, 0, none⟩)), (2, .pointer (some ⟨b27, 0, none⟩)), (3, str a.base), (4, .slice q.2.2.2.2.1 q.2.2.2.1.length q.2.2.2.2.2), (6, .slice A29 N.length c29)]) (fun q => blk b27 56 [.int .i64 (q.1 : Int), .int .i64 (q.2.1 : Int), .bool q.2.2.1, .pointer (some ⟨d, 0, none⟩), .int .i64 (first : Int)] :: sl q.2.2.2.2.1 q.2.2.2.1.length q.2.2.2.2.2 9 1 (cells sv q.2.2.2.1) :: sl A29 N.length c29 9 1 (cells sv N) :: dsk d D :: Fr) (fun q => (chainD D).1 = q.1 ∧ tailD D = (q.2.2.2.1, q.2.1, q.2.2.1) ∧ q.1 ≤ 999999999) ?_ ?_
   ·refine XC.seq fun K22 hK22 => ?_
    refine XC.region ?_
    refine x_v (r_mv rfl) rfl ?_
    refine x_v (r_nc rfl) rfl ?_
    refine x_v (r_fa fo56_2 rfl) rfl ?_
    refine x_v (r_ld ty3 rfl pK (by rfl)) rfl ?_
    refine x_v (r_gt rfl rfl) rfl ?_
    refine XL.nil ?_
    refine hK22 _ _ ?_
    refine XC.keep [(0, _), (2, _), (3, _), (4, _), (6, _), (7, _), (70, _)] ⟨rfl, rfl, rfl, rfl, rfl, rfl, rfl, trivial⟩ ?_
    refine XC.cond_d rfl (fun hc6 => ?_) (fun hc6 => ?_)
    ·refine XC.seqcut (σ := Nat × Sg × List (List UInt8) × Option Addr × Nat) (fun q => [(0, .pointer (some ⟨d, 0, none⟩)), (2, .pointer (some ⟨b27, 0, none⟩)), (3, str a.base), (4, .slice q.2.2.2.1 q.2.2.1.length q.2.2.2.2), (6, .slice A29 N.length c29), (7, .pointer (some ⟨b7, 0, none⟩))]) (fun q => blk b27 56 [.int .i64 (q.1 : Int), .int .i64 0, .bool false, .pointer (some ⟨d, 0, none⟩), .int .i64 (first : Int)] :: blk b7 59 [str q.2.1.bytes, .int .i64 q.2.1.kind, str q.2.1.base, .int .i64 q.2.1.behind] :: sl q.2.2.2.1 q.2.2.1.length q.2.2.2.2 9 1 (cells sv q.2.2.1) :: sl A29 N.length c29 9 1 (cells sv N) :: dsk d D :: Fr) (fun q => chainL D (999999999 - first) first a [] = (q.1, q.2.1, q.2.2.1) ∧ AtOk q.2.1 ∧ q.2.1.kind ≠ 0 ∧ q.2.2.1.length ≤ 1048576000000 ∧ q.1 ≤ 999999999) ?_ ?_
     ·refine XC.block ?_
      refine XC.loop (σ := Nat × Sg × List (List UInt8) × Option Addr × Nat) (fun q => [(0, .pointer (some ⟨d, 0, none⟩)), (2, .pointer (some ⟨b27, 0, none⟩)), (3, str a.base), (4, .slice q.2.2.2.1 q.2.2.1.length q.2.2.2.2), (6, .slice A29 N.length c29), (7, .pointer (some ⟨b7, 0, none⟩))]) (fun q => blk b27 56 [.int .i64 (q.1 : Int), .int .i64 0, .bool false, .pointer (some ⟨d, 0, none⟩), .int .i64 (first : Int)] :: blk b7 59 [str q.2.1.bytes, .int .i64 q.2.1.kind, str q.2.1.base, .int .i64 q.2.1.behind] :: sl q.2.2.2.1 q.2.2.1.length q.2.2.2.2 9 1 (cells sv q.2.2.1) :: sl A29 N.length c29 9 1 (cells sv N) :: dsk d D :: Fr) (fun q => first ≤ q.1 ∧ q.1 ≤ 999999999 ∧ chainL D (999999999 - first) first a [] = chainL D (999999999 - q.1) q.1 q.2.1 q.2.2.1 ∧ AtOk q.2.1 ∧ q.2.1.kind ≠ 0 ∧ (∀ k, first < k → k ≤ q.1 → getF D.files (nameB k) ≠ none) ∧ q.2.2.1.length ≤ (q.1 - first) * 1048576) (fun q => 999999999 - q.1) (first, a, [], none, 0) ?_ ⟨rfl, rfl, rfl, rfl, rfl, rfl, trivial⟩ gS ?_
      ·exact ⟨Nat.le_refl _, hf9, rfl, hao, hak (by omega), fun k h1 h2 => absurd h1 (by dsimp only at h2; omega), by simp⟩
      rintro ⟨n, a2, rc, A, c⟩ ⟨h1n, h2n, hch, hao2, hak2, hth, hrl⟩
      dsimp only at h1n h2n hch hao2 hak2 hth hrl ⊢
      refine XC.seq fun K24 hK24 => ?_
      refine XC.seq fun K25 hK25 => ?_
      have hcb := chain_bound hok (a := first) (m := n - first) (by omega) (fun k h1 h2 => hth k h1 (by omega))
      have hrl2 : rc.length ≤ 1048576000000 := Nat.le_trans hrl (Nat.le_trans (Nat.mul_le_mul_right _ (show n - first ≤ 1000000 by omega)) (by decide))
      refine XC.region ?_
      refine x_v (r_mv rfl) rfl ?_
      refine x_v (r_nc rfl) rfl ?_
      refine x_v (r_fa fo56_0 rfl) rfl ?_
      refine x_v (r_fa fo54_0 rfl) rfl ?_
      refine x_v (r_ld ty3 rfl pK (by rfl)) rfl ?_
      refine x_v (r_lt rfl rfl) rfl ?_
      refine XL.nil ?_
      refine hK25 _ _ ?_
      refine XC.keep [(0, _), (2, _), (3, _), (4, _), (6, _), (7, _), (76, _)] ⟨rfl, rfl, rfl, rfl, rfl, rfl, rfl, trivial⟩ ?_
      refine XC.cond_d rfl (fun hc7 => ?_) (fun hc7 => ?_)
      ·refine XC.skip ?_
       refine hK24 _ _ ?_
       refine XC.keep [(0, _), (2, _), (3, _), (4, _), (6, _), (7, _)] ⟨rfl, rfl, rfl, rfl, rfl, rfl, trivial⟩ ?_
       refine XC.block ?_
       refine XC.seq fun K26 hK26 => ?_
       refine XC.region ?_
       refine x_v (r_mv rfl) rfl ?_
       refine x_v (r_mv rfl) rfl ?_
       refine x_v (r_nc rfl) rfl ?_
       refine x_v (r_fa fo56_0 rfl) rfl ?_
       refine x_v (r_fa fo54_0 rfl) rfl ?_
       refine x_v (r_ld ty3 rfl pK (by rfl)) rfl ?_
       refine x_v (yv (v' := .int .i64 ((n + 1 : Nat) : Int)) (r_add rfl rfl (by omega)) (by congr 1)) rfl ?_
       refine x_c (r_call0 (args := [_]) ⟨rfl, rfl⟩ (name_tr hL (n + 1) (by omega) (itoa_short _ (by omega)) (blk b27 56 [.int .i64 (n : Int), .int .i64 0, .bool false, .pointer (some ⟨d, 0, none⟩), .int .i64 (first : Int)] :: blk b7 59 [str a2.bytes, .int .i64 a2.kind, str a2.base, .int .i64 a2.behind] :: sl A rc.length c 9 1 (cells sv rc) :: sl A29 N.length c29 9 1 (cells sv N) :: dsk d D :: Fr)) gS) rfl ?_
       rintro _ _ ⟨rfl, hRs⟩
       rw [hRs]
       refine x_c (r_call0 (args := [_, _]) ⟨rfl, rfl, rfl⟩ (sread_tr d D (nameB (n + 1)) (blk b27 56 [.int .i64 (n : Int), .int .i64 0, .bool false, .pointer (some ⟨d, 0, none⟩), .int .i64 (first : Int)] :: blk b7 59 [str a2.bytes, .int .i64 a2.kind, str a2.base, .int .i64 a2.behind] :: sl A rc.length c 9 1 (cells sv rc) :: sl A29 N.length c29 9 1 (cells sv N) :: Fr)) gS) rfl ?_
       rintro _ _ ⟨rfl, hRs⟩
       rw [hRs]
       unfold sgc
       refine x_a (r_al ty59 rfl) rfl fun b12 => ?_
       refine x_e (r_st ty59 rfl rfl rfl rfl rfl uD oV) ?_
       refine XL.nil ?_
       refine hK26 _ _ ?_
       refine XC.keep [(0, _), (2, _), (3, _), (4, _), (6, _), (7, _), (12, _)] ⟨rfl, rfl, rfl, rfl, rfl, rfl, rfl, trivial⟩ ?_
       refine XC.seq fun K27 hK27 => ?_
       refine XC.region ?_
       refine x_v (r_lda (l' := [_, _, _, _]) ty59 rfl pK rfl (Sub.get sU)) rfl ?_
       refine x_v (r_lda (l' := [_, _, _, _]) ty59 rfl pK rfl (Sub.get sU)) rfl ?_
       refine x_c (r_call0 (args := [_, _]) ⟨rfl, rfl, rfl⟩ (follows_tr (readS (readD D (nameB (n + 1))).1) a2 (blk b12 59 [str (readS (readD D (nameB (n + 1))).1).bytes, .int .i64 (readS (readD D (nameB (n + 1))).1).kind, str (readS (readD D (nameB (n + 1))).1).base, .int .i64 (readS (readD D (nameB (n + 1))).1).behind] :: blk b27 56 [.int .i64 (n : Int), .int .i64 0, .bool false, .pointer (some ⟨d, 0, none⟩), .int .i64 (first : Int)] :: blk b7 59 [str a2.bytes, .int .i64 a2.kind, str a2.base, .int .i64 a2.behind] :: sl A rc.length c 9 1 (cells sv rc) :: sl A29 N.length c29 9 1 (cells sv N) :: dsk d D :: Fr) (by have := hao2.1; omega)) gS) rfl ?_
       rintro _ _ hfv
       unfold FolV at hfv
       rcases hfl : followsF (readS (readD D (nameB (n + 1))).1) a2 with _ | L2 <;> rw [hfl] at hfv <;> dsimp only at hfv
       ·obtain ⟨rfl, rfl⟩ := hfv
        refine x_v (r_mv rfl) rfl ?_
        refine x_v (r_ex rfl rfl) rfl ?_
        refine x_v (r_ex rfl rfl) rfl ?_
        refine x_v (r_as rfl) rfl ?_
        refine x_v (r_as rfl) rfl ?_
        refine XL.nil ?_
        refine hK27 _ _ ?_
        refine XC.keep [(0, _), (2, _), (3, _), (4, _), (6, _), (7, _), (12, _), (13, _), (14, _)] ⟨rfl, rfl, rfl, rfl, rfl, rfl, rfl, rfl, rfl, trivial⟩ ?_
        refine XC.seq fun K28 hK28 => ?_
        refine XC.seq fun K29 hK29 => ?_
        refine XC.region ?_
        refine x_v (r_mv rfl) rfl ?_
        refine x_v (r_not rfl) rfl ?_
        refine XL.nil ?_
        refine hK29 _ _ ?_
        refine XC.keep [(0, _), (2, _), (3, _), (4, _), (6, _), (7, _), (12, _), (13, _), (93, _)] ⟨rfl, rfl, rfl, rfl, rfl, rfl, rfl, rfl, rfl, trivial⟩ ?_
        refine XC.cond rfl (fun hc8 => ?_) (fun hc8 => ?_)
        ·refine XC.exit rfl ?_
         exact ⟨(n, a2, rc, A, c), ⟨by rw [hch, show 999999999 - n = (999999999 - (n + 1)) + 1 by omega, chainL, hfl], hao2, hak2, hrl2, h2n⟩, ⟨rfl, rfl, rfl, rfl, rfl, rfl, trivial⟩, gS⟩
        ·exfalso; exact absurd hc8 (by decide)
       ·obtain ⟨A2, A3, c2, c3, y, rfl, hc2, rfl, hrd⟩ := hfv
        refine x_v (r_mv rfl) rfl ?_
        refine x_v (r_ex rfl rfl) rfl ?_
        refine x_v (r_ex rfl rfl) rfl ?_
        refine x_v (r_as rfl) rfl ?_
        refine x_v (r_as rfl) rfl ?_
        refine XL.nil ?_
        refine hK27 _ _ ?_
        refine XC.keep [(0, _), (2, _), (3, _), (4, _), (6, _), (7, _), (12, _), (13, _), (14, _)] ⟨rfl, rfl, rfl, rfl, rfl, rfl, rfl, rfl, rfl, trivial⟩ ?_
        refine XC.seq fun K30 hK30 => ?_
        refine XC.seq fun K31 hK31 => ?_
        refine XC.region ?_
        refine x_v (r_mv rfl) rfl ?_
        refine x_v (r_not rfl) rfl ?_
        refine XL.nil ?_
        refine hK31 _ _ ?_
        refine XC.keep [(0, _), (2, _), (3, _), (4, _), (6, _), (7, _), (12, _), (13, _), (93, _)] ⟨rfl, rfl, rfl, rfl, rfl, rfl, rfl, rfl, rfl, trivial⟩ ?_
        refine XC.cond rfl (fun hc9 => ?_) (fun hc9 => ?_)
        ·exfalso; exact absurd hc9 (by decide)
        ·refine XC.skip ?_
         refine hK30 _ _ ?_
         refine XC.keep [(0, _), (2, _), (3, _), (4, _), (6, _), (7, _), (12, _), (13, _)] ⟨rfl, rfl, rfl, rfl, rfl, rfl, rfl, rfl, trivial⟩ ?_
         refine XC.seq fun K32 hK32 => ?_
         refine XC.draw (blk b12 59 [str (readS (readD D (nameB (n + 1))).1).bytes, .int .i64 (readS (readD D (nameB (n + 1))).1).kind, str (readS (readD D (nameB (n + 1))).1).base, .int .i64 (readS (readD D (nameB (n + 1))).1).behind] :: []) true [(0, false), (1, false), (3, false), (2, true), (4, false), (5, true)] (by kernel_rfl) (by kernel_rfl) ?_
         refine y_v rfl (r_mv rfl) gT rfl ?_
         refine y_v rfl (r_mv rfl) gT rfl ?_
         refine y_v rfl (r_lda (l' := [_, _, _, _]) ty59 rfl pK rfl (Sub.get sU)) gT rfl ?_
         refine y_a rfl (r_app Tryz.underlying22 ty9 rfl (by decide) rfl rfl pK (hrd.mono (fun w hw => Gets.own gS hw)) (cells_one' sv_one _) (by have := (follows_kind hfl).2; have := hao2.1; unfold maxLen; omega) (by have := (follows_kind hfl).2; have := hao2.1; omega)) (fun _ _ _ h => Gets.own gS h) rfl fun ⟨A96, c96⟩ => ?_
         refine y_v rfl (r_as rfl) gT rfl ?_
         refine y_e rfl (r_st ty59 rfl rfl rfl rfl rfl uD oV) (fun h => absurd h (by decide)) ?_
         refine XH.nil ?_
         refine hK32 _ _ ?_
         refine XC.keep [(0, _), (2, _), (3, _), (4, _), (6, _), (7, _)] ⟨rfl, rfl, rfl, rfl, rfl, rfl, trivial⟩ ?_
         refine XC.region ?_
         refine x_v (r_mv rfl) rfl ?_
         refine x_v (r_nc rfl) rfl ?_
         refine x_v (r_fa fo56_0 rfl) rfl ?_
         refine x_v (r_fa fo54_0 rfl) rfl ?_
         refine x_v (r_ld ty3 rfl pK (by rfl)) rfl ?_
         refine x_v (yv (v' := .int .i64 ((n + 1 : Nat) : Int)) (r_add rfl rfl (by omega)) (by congr 1)) rfl ?_
         refine x_v (r_nc rfl) rfl ?_
         refine x_v (r_fa fo56_0 rfl) rfl ?_
         refine x_v (r_fa fo54_0 rfl) rfl ?_
         refine x_e (r_st ty3 rfl rfl rfl rfl rfl uD oV) ?_
         refine XL.nil ?_
         rw [← List.length_append, ← cells_app]
         refine ⟨(n + 1, readS (readD D (nameB (n + 1))).1, rc ++ L2, A96, c96), ?_, ?_, ⟨rfl, rfl, rfl, rfl, rfl, rfl, trivial⟩, gS⟩
         ·exact ⟨by dsimp only; omega, by dsimp only; omega, by dsimp only; rw [hch, show 999999999 - n = (999999999 - (n + 1)) + 1 by omega, chainL, hfl], readS_ok hok _, by dsimp only; rw [(follows_kind hfl).1]; decide, fun k h1 h2 => by by_cases hk : k = n + 1; (subst hk; exact follows_there hfl); exact hth k h1 (by dsimp only at h2; omega), by have := (follows_kind hfl).2; have := hao2.1; dsimp only; rw [List.length_append, show n + 1 - first = (n - first) + 1 by omega, Nat.add_mul]; omega⟩
         ·dsimp only; omega
      ·refine XC.exit rfl ?_
       exact ⟨(n, a2, rc, A, c), ⟨by rw [hch, show 999999999 - n = 0 by omega]; rfl, hao2, hak2, hrl2, h2n⟩, ⟨rfl, rfl, rfl, rfl, rfl, rfl, trivial⟩, gS⟩
     ·rintro ⟨n, a2, rc, A, c⟩ ⟨hch, hao2, hak2, hrl2, h2n⟩
      dsimp only at hch hao2 hak2 hrl2 h2n ⊢
      have hf0 : 0 < first := by omega
      rw [if_pos hf0, hch] at hCh
      rw [hCh] at hTl
      rw [if_pos hf0] at hTl
      dsimp only at hTl
      refine XC.seq fun K33 hK33 => ?_
      refine XC.region ?_
      refine x_v (r_fa fo59_0 rfl) rfl ?_
      refine x_v (r_ld ty9 rfl pK (by rfl)) rfl ?_
      refine x_c (r_call0 (args := [_]) ⟨rfl, rfl⟩ (scan_tr a2.bytes (blk b27 56 [.int .i64 (n : Int), .int .i64 0, .bool false, .pointer (some ⟨d, 0, none⟩), .int .i64 (first : Int)] :: blk b7 59 [str a2.bytes, .int .i64 a2.kind, str a2.base, .int .i64 a2.behind] :: sl A rc.length c 9 1 (cells sv rc) :: sl A29 N.length c29 9 1 (cells sv N) :: dsk d D :: Fr) (by have := hao2.1; omega)) gS) rfl ?_
      rintro _ _ ⟨A5, c5, hv5, hRs⟩
      generalize hS : scanF a2.bytes = S at hv5 hRs hTl
      have hS0 := hao2.2 hak2
      have hSl := scanF_len _ a2.bytes (Nat.le_refl _)
      rw [hS] at hS0 hSl
      obtain ⟨SL, se⟩ := S
      dsimp only at hv5 hRs hTl hS0 hSl
      obtain ⟨y, L2, rfl⟩ : ∃ y L2, SL = y :: L2 := List.exists_cons_of_length_pos hS0
      subst hv5
      rw [hRs]
      refine x_v (r_mv rfl) rfl ?_
      refine x_v (r_ex rfl rfl) rfl ?_
      refine x_v (r_ex rfl rfl) rfl ?_
      refine x_v (r_as rfl) rfl ?_
      refine x_v (r_as rfl) rfl ?_
      refine XL.nil ?_
      refine hK33 _ _ ?_
      refine XC.keep [(0, _), (2, _), (3, _), (4, _), (6, _), (7, _), (15, _), (16, _)] ⟨rfl, rfl, rfl, rfl, rfl, rfl, rfl, rfl, trivial⟩ ?_
      refine XC.slnn (pK : Pick _ (sl A5 (y :: L2).length c5 9 1 (cells sv (y :: L2))) _) fun hl1 hl2 => ?_
      refine XC.sllen (pK : Pick _ (sl A5 (y :: L2).length c5 9 1 (cells sv (y :: L2))) _) fun hl3 hl4 hl5 => ?_
      have hrd : Rdb W0 (sl A5 (y :: L2).length c5 9 1 (cells sv (y :: L2)) :: Fr) (if c5 = 1 then A5 else A5.map (·.add (1 * 1))) L2.length 1 (cells sv L2) := rd_cut1 (Rdb.of_sl pK hl1 hl2) hl4
      refine XC.draw (blk b7 59 [str a2.bytes, .int .i64 a2.kind, str a2.base, .int .i64 a2.behind] :: []) true [(0, false), (1, false), (2, false), (3, false), (4, false), (6, false), (7, false), (8, false), (9, false), (10, false), (11, false), (5, true), (12, false), (13, false), (14, false), (15, false), (16, true), (17, false), (18, false), (19, false), (20, true)] (by kernel_rfl) (by kernel_rfl) ?_
      refine y_v rfl (r_mv rfl) gT rfl ?_
      refine y_v rfl (r_mv rfl) gT rfl ?_
      refine y_v rfl (r_mv rfl) gT rfl ?_
      refine y_v rfl (r_mv rfl) gT rfl ?_
      refine y_v rfl (yv (v' := .slice (if c5 = 1 then A5 else A5.map (·.add (1 * 1))) L2.length (c5 - 1)) (r_sll 1 (y :: L2).length Tryz.underlying22 ty9 rfl ⟨_, by rfl⟩ rfl (by simp) hl4) (by congr 1)) gT rfl ?_
      refine y_v rfl (r_mv rfl) gT rfl ?_
      refine y_v rfl (r_mv rfl) gT rfl ?_
      refine y_v rfl (r_fa fo59_0 rfl) gT rfl ?_
      refine y_v rfl (r_ld ty9 rfl pK (by rfl)) gT rfl ?_
      refine y_v rfl (r_lens Tryz.underlying9 rfl) gT rfl ?_
      refine y_v rfl (r_lt rfl rfl) gT rfl ?_
      refine y_a rfl (r_app Tryz.underlying22 ty9 rfl (by decide) rfl rfl pK (hrd.mono (fun w hw => Gets.own gS hw)) (cells_one' sv_one _) (by have := hao2.1; simp only [List.length_cons] at hSl; unfold maxLen; omega) (by have := hao2.1; simp only [List.length_cons] at hSl; omega)) (fun _ _ _ h => Gets.own gS h) rfl fun ⟨A118, c118⟩ => ?_
      refine y_v rfl (r_as rfl) gT rfl ?_
      refine y_v rfl (r_nc rfl) gT rfl ?_
      refine y_v rfl (r_fa fo56_0 rfl) gT rfl ?_
      refine y_v rfl (r_fa fo54_1 rfl) gT rfl ?_
      refine y_e rfl (r_st ty3 rfl rfl rfl rfl rfl uD oV) (fun _ _ h => Gets.own gS h) ?_
      refine y_v rfl (r_nc rfl) gT rfl ?_
      refine y_v rfl (r_fa fo56_0 rfl) gT rfl ?_
      refine y_v rfl (r_fa fo54_2 rfl) gT rfl ?_
      refine y_e rfl (r_st ty4 rfl rfl rfl rfl rfl uD oV) (fun h => absurd h (by decide)) ?_
      refine XH.nil ?_
      rw [← List.length_append, ← cells_app]
      exact ⟨(n, se, decide ((se : Int) < (a2.bytes.length : Int)), rc ++ L2, A118, c118), ⟨by rw [hCh], by rw [hTl]; simp, h2n⟩, ⟨rfl, rfl, rfl, rfl, rfl, trivial⟩, gS⟩
    ·refine XC.skip ?_
     exact ⟨(first, 0, false, [], none, 0), ⟨by rw [hCh, if_neg (by omega)]; dsimp only; omega, by rw [hTl, if_neg (by omega)], hf9⟩, ⟨rfl, rfl, rfl, rfl, rfl, trivial⟩, gS⟩
   ·rintro ⟨n, gd, tn, rc, A, c⟩ ⟨hc1n, htd, h2n⟩
    dsimp only at hc1n htd h2n ⊢
    rw [hc1n, htd] at hO
    dsimp only at hO
    refine XC.seq fun K34 hK34 => ?_
    refine XC.seq fun K35 hK35 => ?_
    refine XC.region ?_
    refine x_v (r_mv rfl) rfl ?_
    refine x_v (r_lensl Tryz.underlying22 rfl) rfl ?_
    refine x_v (r_mv rfl) rfl ?_
    refine XL.nil ?_
    refine hK35 _ _ ?_
    refine XC.keep [(0, _), (2, _), (3, _), (4, _), (131, _), (132, _), (133, _)] ⟨rfl, rfl, rfl, rfl, rfl, rfl, rfl, trivial⟩ ?_
    refine XC.block ?_
    refine XC.loop (σ := Nat × Dk) (fun q => [(0, .pointer (some ⟨d, 0, none⟩)), (2, .pointer (some ⟨b27, 0, none⟩)), (3, str a.base), (4, .slice A rc.length c), (131, .slice A29 N.length c29), (132, .int .i64 (N.length : Int)), (133, .int .i64 (q.1 : Int))]) (fun q => blk b27 56 [.int .i64 (n : Int), .int .i64 (gd : Int), .bool tn, .pointer (some ⟨d, 0, none⟩), .int .i64 (first : Int)] :: sl A rc.length c 9 1 (cells sv rc) :: sl A29 N.length c29 9 1 (cells sv N) :: dsk d q.2 :: Fr) (fun q => q.1 ≤ N.length ∧ cleanL first n N D = cleanL first n (N.drop q.1) q.2 ∧ phi q.2 ≤ phi D) (fun q => N.length - q.1) (0, D) ?_ ⟨rfl, rfl, rfl, rfl, rfl, rfl, rfl, trivial⟩ gS ?_
    ·exact ⟨Nat.zero_le _, rfl, Nat.le_refl _⟩
    rintro ⟨i, D2⟩ ⟨hi, hcl, hph⟩
    dsimp only at hi hcl hph ⊢
    have hds2 : D2.steps ≤ phi D2 := by unfold phi; omega
    refine XC.seq fun K36 hK36 => ?_
    refine XC.region ?_
    refine x_v (r_lt rfl rfl) rfl ?_
    refine XL.nil ?_
    refine hK36 _ _ ?_
    refine XC.keep [(0, _), (2, _), (3, _), (4, _), (131, _), (132, _), (133, _), (134, _)] ⟨rfl, rfl, rfl, rfl, rfl, rfl, rfl, rfl, trivial⟩ ?_
    refine XC.seq fun K37 hK37 => ?_
    refine XC.cond_d rfl (fun hc10 => ?_) (fun hc10 => ?_)
    ·refine XC.skip ?_
     refine hK37 _ _ ?_
     refine XC.keep [(0, _), (2, _), (3, _), (4, _), (131, _), (132, _), (133, _)] ⟨rfl, rfl, rfl, rfl, rfl, rfl, rfl, trivial⟩ ?_
     refine XC.seq fun K38 hK38 => ?_
     refine XC.block ?_
     refine XC.seq fun K39 hK39 => ?_
     obtain ⟨x, hx⟩ : ∃ x, N[i]? = some x := ⟨_, List.getElem?_eq_getElem (by omega)⟩
     have hxl := hNl x (List.mem_of_getElem? hx)
     refine XC.slnn (pK : Pick _ (sl A29 N.length c29 9 1 (cells sv N)) _) fun hl hA => ?_
     obtain ⟨g, rfl⟩ := hA (by omega)
     have hrN := Rdb.of_sl (W0 := W0) (pK : Pick (sl (some ⟨g, 0, none⟩) N.length c29 9 1 (cells sv N) :: Fr) (sl (some ⟨g, 0, none⟩) N.length c29 9 1 (cells sv N)) _) hl (fun _ => ⟨g, rfl⟩)
     obtain ⟨g2, o2, he2, hat⟩ := hrN.at_ (by omega)
     injection he2 with he2
     injection he2 with hg2 ho2
     subst hg2
     subst ho2
     have hdr : N.drop i = x :: N.drop (i + 1) := by rw [List.drop_eq_getElem_cons (show i < N.length by omega), (List.getElem?_eq_some_iff.1 hx).2]
     have hrp := removeD_phi D2 x
     refine XC.region ?_
     refine x_v (r_ia (k := i) Tryz.underlying22 ty9 rfl rfl (by omega) (by omega)) rfl ?_
     refine x_v (r_ldr (v := str x) ty9 rfl (fun w hw => hat w (Gets.own gS hw) (i * 1) _ (by rw [Nat.mul_one]; exact sv_get hx))) rfl ?_
     refine x_v (r_as rfl) rfl ?_
     refine XL.nil ?_
     refine hK39 _ _ ?_
     refine XC.keep [(0, _), (2, _), (3, _), (4, _), (18, _), (131, _), (132, _), (133, _)] ⟨rfl, rfl, rfl, rfl, rfl, rfl, rfl, rfl, trivial⟩ ?_
     refine XC.seq fun K40 hK40 => ?_
     refine XC.region ?_
     refine x_v (r_mv rfl) rfl ?_
     refine x_c (r_call0 (args := [_]) ⟨rfl, rfl⟩ (number_tr hL x hxl (blk b27 56 [.int .i64 (n : Int), .int .i64 (gd : Int), .bool tn, .pointer (some ⟨d, 0, none⟩), .int .i64 (first : Int)] :: sl A rc.length c 9 1 (cells sv rc) :: sl (some ⟨g, 0, none⟩) N.length c29 9 1 (cells sv N) :: dsk d D2 :: Fr)) gS) rfl ?_
     rintro _ _ ⟨rfl, hRs⟩
     rw [hRs]
     refine x_v (r_as rfl) rfl ?_
     refine XL.nil ?_
     refine hK40 _ _ ?_
     refine XC.keep [(0, _), (2, _), (3, _), (4, _), (18, _), (19, _), (131, _), (132, _), (133, _)] ⟨rfl, rfl, rfl, rfl, rfl, rfl, rfl, rfl, rfl, trivial⟩ ?_
     refine XC.seq fun K41 hK41 => ?_
     refine XC.region ?_
     refine x_v (r_mv rfl) rfl ?_
     refine x_v (r_eq rfl rfl) rfl ?_
     refine x_v (r_mv rfl) rfl ?_
     refine XL.splitd 141 rfl (fun hg141 => ?_) (fun hg141 => ?_)
     ·refine x_unwant rfl rfl rfl rfl rfl ?_
      refine x_unwant rfl rfl rfl rfl rfl ?_
      refine x_unwant rfl rfl rfl rfl rfl ?_
      refine x_unwant rfl rfl rfl rfl rfl ?_
      refine x_unwant rfl rfl rfl rfl rfl ?_
      refine x_unwant rfl rfl rfl rfl rfl ?_
      refine x_v (r_pk_t rfl rfl) rfl ?_
      refine x_v (r_mv rfl) rfl ?_
      refine x_unwant rfl rfl rfl rfl rfl ?_
      refine x_unwant rfl rfl rfl rfl rfl ?_
      refine x_unwant rfl rfl rfl rfl rfl ?_
      refine x_unwant rfl rfl rfl rfl rfl ?_
      refine x_unwant rfl rfl rfl rfl rfl ?_
      refine x_unwant rfl rfl rfl rfl rfl ?_
      refine x_unwant rfl rfl rfl rfl rfl ?_
      refine x_v (r_pk_t rfl rfl) rfl ?_
      refine XL.nil ?_
      refine hK41 _ _ ?_
      refine XC.keep [(0, _), (2, _), (3, _), (4, _), (18, _), (131, _), (132, _), (133, _), (157, _)] ⟨rfl, rfl, rfl, rfl, rfl, rfl, rfl, rfl, rfl, trivial⟩ ?_
      refine XC.cond_t rfl ?_
      refine XC.seq fun K42 hK42 => ?_
      refine XC.region ?_
      refine x_v (r_mv rfl) rfl ?_
      refine x_v (r_mv rfl) rfl ?_
      refine x_c (r_call0 (args := [_, _]) ⟨rfl, rfl, rfl⟩ (remove_tr d D2 x (blk b27 56 [.int .i64 (n : Int), .int .i64 (gd : Int), .bool tn, .pointer (some ⟨d, 0, none⟩), .int .i64 (first : Int)] :: sl A rc.length c 9 1 (cells sv rc) :: sl (some ⟨g, 0, none⟩) N.length c29 9 1 (cells sv N) :: Fr) (by omega)) gS) rfl ?_
      rintro _ _ ⟨rfl, hRs⟩
      rw [hRs]
      refine x_v (r_as rfl) rfl ?_
      refine XL.nil ?_
      refine hK42 _ _ ?_
      refine XC.keep [(0, _), (2, _), (3, _), (4, _), (20, _), (131, _), (132, _), (133, _)] ⟨rfl, rfl, rfl, rfl, rfl, rfl, rfl, rfl, trivial⟩ ?_
      refine XC.seq fun K43 hK43 => ?_
      refine XC.region ?_
      refine x_v (r_mv rfl) rfl ?_
      refine x_v (r_ne rfl rfl) rfl ?_
      refine XL.nil ?_
      refine hK43 _ _ ?_
      refine XC.keep [(0, _), (2, _), (3, _), (4, _), (20, _), (131, _), (132, _), (133, _), (162, _)] ⟨rfl, rfl, rfl, rfl, rfl, rfl, rfl, rfl, rfl, trivial⟩ ?_
      refine XC.cond_d rfl (fun hc12 => ?_) (fun hc12 => ?_)
      ·refine XC.seq fun K44 hK44 => ?_
       refine XC.region ?_
       refine x_v (r_mv rfl) rfl ?_
       refine x_v (r_as rfl) rfl ?_
       refine x_v (r_as rfl) rfl ?_
       refine x_v (r_as rfl) rfl ?_
       refine x_v (r_as rfl) rfl ?_
       refine XL.nil ?_
       refine hK44 _ _ ?_
       refine XC.keep [(2, _), (3, _), (4, _), (5, _)] ⟨rfl, rfl, rfl, rfl, trivial⟩ ?_
       refine XC.ret ?_
       unfold OpenV
       have hcc : cleanL first n N D = removeD D2 x := by rw [hcl, hdr, cleanL, if_pos (by omega), if_pos (by assumption)]
       rw [hcc, if_pos (by assumption)] at hO
       rw [hO]
       exact fin4 rfl rfl rfl rfl (⟨rfl, rfl⟩) gS
      ·refine XC.skip ?_
       refine hK38 _ _ ?_
       refine XC.keep [(0, _), (2, _), (3, _), (4, _), (131, _), (132, _), (133, _)] ⟨rfl, rfl, rfl, rfl, rfl, rfl, rfl, trivial⟩ ?_
       refine XC.region ?_
       refine x_v (r_add rfl rfl (by omega)) rfl ?_
       refine x_v (r_mv rfl) rfl ?_
       refine XL.nil ?_
       refine ⟨(i + 1, (removeD D2 x).2), ?_, ?_, ⟨rfl, rfl, rfl, rfl, rfl, rfl, rfl, trivial⟩, gS⟩
       ·exact ⟨by dsimp only; omega, by dsimp only; rw [hcl, hdr, cleanL, if_pos (by omega), if_neg (by assumption)], by dsimp only; omega⟩
       ·dsimp only; omega
     ·refine x_want rfl rfl rfl ?_
      refine x_v (r_mv rfl) rfl ?_
      refine x_want rfl rfl rfl ?_
      refine x_v (r_mv rfl) rfl ?_
      refine x_want rfl rfl rfl ?_
      refine x_v (r_nc rfl) rfl ?_
      refine x_want rfl rfl rfl ?_
      refine x_v (r_fa fo56_2 rfl) rfl ?_
      refine x_want rfl rfl rfl ?_
      refine x_v (r_ld ty3 rfl pK (by rfl)) rfl ?_
      refine x_want rfl rfl rfl ?_
      refine x_v (r_lt rfl rfl) rfl ?_
      refine x_v (r_pk_f rfl rfl) rfl ?_
      refine x_v (r_mv rfl) rfl ?_
      refine XL.splitd 149 rfl (fun hg149 => ?_) (fun hg149 => ?_)
      ·refine x_unwant rfl rfl rfl rfl rfl ?_
       refine x_unwant rfl rfl rfl rfl rfl ?_
       refine x_unwant rfl rfl rfl rfl rfl ?_
       refine x_unwant rfl rfl rfl rfl rfl ?_
       refine x_unwant rfl rfl rfl rfl rfl ?_
       refine x_unwant rfl rfl rfl rfl rfl ?_
       refine x_unwant rfl rfl rfl rfl rfl ?_
       refine x_v (r_pk_t rfl rfl) rfl ?_
       refine XL.nil ?_
       refine hK41 _ _ ?_
       refine XC.keep [(0, _), (2, _), (3, _), (4, _), (18, _), (131, _), (132, _), (133, _), (157, _)] ⟨rfl, rfl, rfl, rfl, rfl, rfl, rfl, rfl, rfl, trivial⟩ ?_
       refine XC.cond_t rfl ?_
       refine XC.seq fun K45 hK45 => ?_
       refine XC.region ?_
       refine x_v (r_mv rfl) rfl ?_
       refine x_v (r_mv rfl) rfl ?_
       refine x_c (r_call0 (args := [_, _]) ⟨rfl, rfl, rfl⟩ (remove_tr d D2 x (blk b27 56 [.int .i64 (n : Int), .int .i64 (gd : Int), .bool tn, .pointer (some ⟨d, 0, none⟩), .int .i64 (first : Int)] :: sl A rc.length c 9 1 (cells sv rc) :: sl (some ⟨g, 0, none⟩) N.length c29 9 1 (cells sv N) :: Fr) (by omega)) gS) rfl ?_
       rintro _ _ ⟨rfl, hRs⟩
       rw [hRs]
       refine x_v (r_as rfl) rfl ?_
       refine XL.nil ?_
       refine hK45 _ _ ?_
       refine XC.keep [(0, _), (2, _), (3, _), (4, _), (20, _), (131, _), (132, _), (133, _)] ⟨rfl, rfl, rfl, rfl, rfl, rfl, rfl, rfl, trivial⟩ ?_
       refine XC.seq fun K46 hK46 => ?_
       refine XC.region ?_
       refine x_v (r_mv rfl) rfl ?_
       refine x_v (r_ne rfl rfl) rfl ?_
       refine XL.nil ?_
       refine hK46 _ _ ?_
       refine XC.keep [(0, _), (2, _), (3, _), (4, _), (20, _), (131, _), (132, _), (133, _), (162, _)] ⟨rfl, rfl, rfl, rfl, rfl, rfl, rfl, rfl, rfl, trivial⟩ ?_
       refine XC.cond_d rfl (fun hc14 => ?_) (fun hc14 => ?_)
       ·refine XC.seq fun K47 hK47 => ?_
        refine XC.region ?_
        refine x_v (r_mv rfl) rfl ?_
        refine x_v (r_as rfl) rfl ?_
        refine x_v (r_as rfl) rfl ?_
        refine x_v (r_as rfl) rfl ?_
        refine x_v (r_as rfl) rfl ?_
        refine XL.nil ?_
        refine hK47 _ _ ?_
        refine XC.keep [(2, _), (3, _), (4, _), (5, _)] ⟨rfl, rfl, rfl, rfl, trivial⟩ ?_
        refine XC.ret ?_
        unfold OpenV
        have hcc : cleanL first n N D = removeD D2 x := by rw [hcl, hdr, cleanL, if_pos (by omega), if_pos (by assumption)]
        rw [hcc, if_pos (by assumption)] at hO
        rw [hO]
        exact fin4 rfl rfl rfl rfl (⟨rfl, rfl⟩) gS
       ·refine XC.skip ?_
        refine hK38 _ _ ?_
        refine XC.keep [(0, _), (2, _), (3, _), (4, _), (131, _), (132, _), (133, _)] ⟨rfl, rfl, rfl, rfl, rfl, rfl, rfl, trivial⟩ ?_
        refine XC.region ?_
        refine x_v (r_add rfl rfl (by omega)) rfl ?_
        refine x_v (r_mv rfl) rfl ?_
        refine XL.nil ?_
        refine ⟨(i + 1, (removeD D2 x).2), ?_, ?_, ⟨rfl, rfl, rfl, rfl, rfl, rfl, rfl, trivial⟩, gS⟩
        ·exact ⟨by dsimp only; omega, by dsimp only; rw [hcl, hdr, cleanL, if_pos (by omega), if_neg (by assumption)], by dsimp only; omega⟩
        ·dsimp only; omega
      ·refine x_want rfl rfl rfl ?_
       refine x_v (r_mv rfl) rfl ?_
       refine x_want rfl rfl rfl ?_
       refine x_v (r_mv rfl) rfl ?_
       refine x_want rfl rfl rfl ?_
       refine x_v (r_nc rfl) rfl ?_
       refine x_want rfl rfl rfl ?_
       refine x_v (r_fa fo56_0 rfl) rfl ?_
       refine x_want rfl rfl rfl ?_
       refine x_v (r_fa fo54_0 rfl) rfl ?_
       refine x_want rfl rfl rfl ?_
       refine x_v (r_ld ty3 rfl pK (by rfl)) rfl ?_
       refine x_want rfl rfl rfl ?_
       refine x_v (r_gt rfl rfl) rfl ?_
       refine x_v (r_pk_f rfl rfl) rfl ?_
       refine XL.nil ?_
       refine hK41 _ _ ?_
       refine XC.keep [(0, _), (2, _), (3, _), (4, _), (18, _), (131, _), (132, _), (133, _), (157, _)] ⟨rfl, rfl, rfl, rfl, rfl, rfl, rfl, rfl, rfl, trivial⟩ ?_
       refine XC.cond_d rfl (fun hc15 => ?_) (fun hc15 => ?_)
       ·refine XC.seq fun K48 hK48 => ?_
        refine XC.region ?_
        refine x_v (r_mv rfl) rfl ?_
        refine x_v (r_mv rfl) rfl ?_
        refine x_c (r_call0 (args := [_, _]) ⟨rfl, rfl, rfl⟩ (remove_tr d D2 x (blk b27 56 [.int .i64 (n : Int), .int .i64 (gd : Int), .bool tn, .pointer (some ⟨d, 0, none⟩), .int .i64 (first : Int)] :: sl A rc.length c 9 1 (cells sv rc) :: sl (some ⟨g, 0, none⟩) N.length c29 9 1 (cells sv N) :: Fr) (by omega)) gS) rfl ?_
        rintro _ _ ⟨rfl, hRs⟩
        rw [hRs]
        refine x_v (r_as rfl) rfl ?_
        refine XL.nil ?_
        refine hK48 _ _ ?_
        refine XC.keep [(0, _), (2, _), (3, _), (4, _), (20, _), (131, _), (132, _), (133, _)] ⟨rfl, rfl, rfl, rfl, rfl, rfl, rfl, rfl, trivial⟩ ?_
        refine XC.seq fun K49 hK49 => ?_
        refine XC.region ?_
        refine x_v (r_mv rfl) rfl ?_
        refine x_v (r_ne rfl rfl) rfl ?_
        refine XL.nil ?_
        refine hK49 _ _ ?_
        refine XC.keep [(0, _), (2, _), (3, _), (4, _), (20, _), (131, _), (132, _), (133, _), (162, _)] ⟨rfl, rfl, rfl, rfl, rfl, rfl, rfl, rfl, rfl, trivial⟩ ?_
        refine XC.cond_d rfl (fun hc16 => ?_) (fun hc16 => ?_)
        ·refine XC.seq fun K50 hK50 => ?_
         refine XC.region ?_
         refine x_v (r_mv rfl) rfl ?_
         refine x_v (r_as rfl) rfl ?_
         refine x_v (r_as rfl) rfl ?_
         refine x_v (r_as rfl) rfl ?_
         refine x_v (r_as rfl) rfl ?_
         refine XL.nil ?_
         refine hK50 _ _ ?_
         refine XC.keep [(2, _), (3, _), (4, _), (5, _)] ⟨rfl, rfl, rfl, rfl, trivial⟩ ?_
         refine XC.ret ?_
         unfold OpenV
         have hcc : cleanL first n N D = removeD D2 x := by rw [hcl, hdr, cleanL, if_pos (by omega), if_pos (by assumption)]
         rw [hcc, if_pos (by assumption)] at hO
         rw [hO]
         exact fin4 rfl rfl rfl rfl (⟨rfl, rfl⟩) gS
        ·refine XC.skip ?_
         refine hK38 _ _ ?_
         refine XC.keep [(0, _), (2, _), (3, _), (4, _), (131, _), (132, _), (133, _)] ⟨rfl, rfl, rfl, rfl, rfl, rfl, rfl, trivial⟩ ?_
         refine XC.region ?_
         refine x_v (r_add rfl rfl (by omega)) rfl ?_
         refine x_v (r_mv rfl) rfl ?_
         refine XL.nil ?_
         refine ⟨(i + 1, (removeD D2 x).2), ?_, ?_, ⟨rfl, rfl, rfl, rfl, rfl, rfl, rfl, trivial⟩, gS⟩
         ·exact ⟨by dsimp only; omega, by dsimp only; rw [hcl, hdr, cleanL, if_pos (by omega), if_neg (by assumption)], by dsimp only; omega⟩
         ·dsimp only; omega
       ·refine XC.skip ?_
        refine hK38 _ _ ?_
        refine XC.keep [(0, _), (2, _), (3, _), (4, _), (131, _), (132, _), (133, _)] ⟨rfl, rfl, rfl, rfl, rfl, rfl, rfl, trivial⟩ ?_
        refine XC.region ?_
        refine x_v (r_add rfl rfl (by omega)) rfl ?_
        refine x_v (r_mv rfl) rfl ?_
        refine XL.nil ?_
        refine ⟨(i + 1, D2), ?_, ?_, ⟨rfl, rfl, rfl, rfl, rfl, rfl, rfl, trivial⟩, gS⟩
        ·exact ⟨by dsimp only; omega, by dsimp only; rw [hcl, hdr, cleanL, if_neg (by omega)], hph⟩
        ·dsimp only; omega
    ·refine XC.exit rfl ?_
     refine hK34 _ _ ?_
     refine XC.keep [(2, _), (3, _), (4, _)] ⟨rfl, rfl, rfl, trivial⟩ ?_
     refine XC.seq fun K51 hK51 => ?_
     obtain rfl : i = N.length := by omega
     rw [hcl, List.drop_of_length_le (Nat.le_refl _), cleanL] at hO
     rw [if_neg (fun h => h rfl)] at hO
     refine XC.region ?_
     refine x_v (r_mv rfl) rfl ?_
     refine x_v (r_mv rfl) rfl ?_
     refine x_v (r_mv rfl) rfl ?_
     refine x_v (r_as rfl) rfl ?_
     refine x_v (r_as rfl) rfl ?_
     refine x_v (r_as rfl) rfl ?_
     refine x_v (r_as rfl) rfl ?_
     refine XL.nil ?_
     refine hK51 _ _ ?_
     refine XC.keep [(2, _), (3, _), (4, _), (5, _)] ⟨rfl, rfl, rfl, rfl, trivial⟩ ?_
     refine XC.ret ?_
     unfold OpenV
     rw [hO]
     exact fin4 rfl rfl rfl rfl (⟨b27, A, c, rfl, rfl⟩) gS
end Go.Proofs.YtcmdmhmgffjknaaGreatDoor

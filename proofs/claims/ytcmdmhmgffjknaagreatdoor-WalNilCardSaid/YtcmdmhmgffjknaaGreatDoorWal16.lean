/- The drive's functions: 86, 47. -/
import Derived.Test.YtcmdmhmgffjknaaGreatDoorFacts
import Derived.Test.YtcmdmhmgffjknaaGreatDoorWal15
namespace Go.Proofs.YtcmdmhmgffjknaaGreatDoor
open Go.Sx
set_option linter.unusedVariables false

theorem updV_same {f : Value → Option Value} {k : Value} {v : Option Value} (h : f k = v) : updV f k v = f := by
  funext x
  by_cases hx : x = k
  · subst hx; rw [updV_at, h]
  · exact updV_else _ _ _ _ hx
theorem app1_tr {W0 : World} (d mb b b8 b5 b3 b4 : Nat) (D : Dk) (f : Value → Option Value) (n s : List UInt8) (A : Option Addr) (c : Nat) (x : Fi) (Fr : List HP) (hl : x.bytes.length + s.length ≤ maxS) :
    Tr W0 Tryz.prog 86 [.pointer (some ⟨b8, 0, none⟩), .pointer (some ⟨b5, 0, none⟩), .pointer (some ⟨b3, 0, none⟩), .pointer (some ⟨b4, 0, none⟩)] (blk d 74 (dcells mb D) :: mpf mb .string f :: blk b8 79 [.pointer (some ⟨b, 0, none⟩)] :: blk b5 9 [str s] :: blk b3 38 [.pointer (some ⟨d, 0, none⟩)] :: blk b4 9 [str n] :: blk b 84 (fcells A c x) :: sl A x.bytes.length c 5 1 (bv x.bytes) :: Fr)
      (fun v Rs' => ∃ A' c', Rs' = blk b 84 (fcells A' c' { x with bytes := x.bytes ++ s }) :: sl A' (x.bytes ++ s).length c' 5 1 (bv (x.bytes ++ s)) :: blk d 74 (dcells mb D) :: mpf mb .string (updV f (str n) (some (.pointer (some ⟨b, 0, none⟩)))) :: Fr) := by
  unfold dcells fcells
  refine Entry.tr (N := 15) (rs := []) ⟨_, Tryz.func86, rfl, by kernel_rfl, rfl, rfl⟩ rfl ?_
  refine XC.seq fun K1 hK1 => ?_
  refine XC.draw (blk b8 79 [.pointer (some ⟨b, 0, none⟩)] :: blk b5 9 [str s] :: []) true [(0, false), (1, false), (2, false), (3, false), (4, true)] (by kernel_rfl) (by kernel_rfl) ?_
  refine y_v rfl (r_ld ty79 rfl pK (by rfl)) gT rfl ?_
  refine y_v rfl (r_nc rfl) gT rfl ?_
  refine y_v rfl (r_fa fo84_0 rfl) gT rfl ?_
  refine y_v rfl (r_ld ty9 rfl pK (by rfl)) gT rfl ?_
  refine y_c rfl (r_call0 (args := [_, _]) ⟨rfl, rfl, rfl⟩ (fput_tr b A x.bytes.length c x.sure x.old x.bytes s (blk d 74 [.map (some mb), .int .i64 D.fuse, .bool D.off, .int .i64 (D.steps : Int)] :: mpf mb .string f :: blk b8 79 [.pointer (some ⟨b, 0, none⟩)] :: blk b3 38 [.pointer (some ⟨d, 0, none⟩)] :: blk b4 9 [str n] :: Fr) rfl hl) gS) (fun h => absurd h (by decide)) rfl ?_
  rintro _ _ ⟨rfl, A8, c8, hRs⟩
  rw [hRs]
  refine XH.nil ?_
  refine hK1 _ _ ?_
  refine XC.keep [(0, _), (2, _), (3, _)] ⟨rfl, rfl, rfl, trivial⟩ ?_
  refine XC.draw (blk b8 79 [.pointer (some ⟨b, 0, none⟩)] :: blk b3 38 [.pointer (some ⟨d, 0, none⟩)] :: blk b4 9 [str n] :: blk d 74 [.map (some mb), .int .i64 D.fuse, .bool D.off, .int .i64 (D.steps : Int)] :: []) true [(0, false), (1, false), (2, false), (3, false), (4, false), (5, false), (6, true)] (by kernel_rfl) (by kernel_rfl) ?_
  refine y_v rfl (r_ld ty38 rfl pK (by rfl)) gT rfl ?_
  refine y_v rfl (r_nc rfl) gT rfl ?_
  refine y_v rfl (r_fa fo74_0 rfl) gT rfl ?_
  refine y_v rfl (r_ld ty72 rfl pK (by rfl)) gT rfl ?_
  refine y_v rfl (r_ld ty9 rfl pK (by rfl)) gT rfl ?_
  refine y_v rfl (r_ld ty79 rfl pK (by rfl)) gT rfl ?_
  refine y_e rfl (r_mu (updV f (str n) (some (.pointer (some ⟨b, 0, none⟩)))) Tryz.underlying72 Tryz.underlying9 rfl rfl rfl (isKey_str n) (updV_at _ _ _) (updV_else _ _ _) uD) (fun h => absurd h (by decide)) ?_
  refine XH.nil ?_
  exact fin0 (⟨A8, c8, rfl⟩) gS
theorem app_bad {W0 : World} (d mb : Nat) (D : Dk) (n s : List UInt8) (Fr : List HP) (h : readyE D n ≠ 0) : Tr W0 Tryz.prog 47 [.pointer (some ⟨d, 0, none⟩), str n, str s] (blk d 74 (dcells mb D) :: Fr) (fun v Rs' => v = .int .i64 (readyE D n) ∧ Rs' = blk d 74 (dcells mb D) :: Fr) := by
  refine Entry.tr (N := 42) (rs := [.tmp 6]) ⟨_, Tryz.func47, rfl, by kernel_rfl, rfl, rfl⟩ rfl ?_
  refine XC.seq fun K1 hK1 => ?_
  refine XC.region ?_
  refine x_a (r_bx rfl rfl) rfl fun b3 => ?_
  refine x_a (r_bx rfl rfl) rfl fun b4 => ?_
  refine x_a (r_bx rfl rfl) rfl fun b5 => ?_
  refine x_v (r_as rfl) rfl ?_
  refine XL.nil ?_
  refine hK1 _ _ ?_
  refine XC.keep [(3, _), (4, _), (5, _)] ⟨rfl, rfl, rfl, trivial⟩ ?_
  refine XC.seq fun K2 hK2 => ?_
  refine XC.seq fun K3 hK3 => ?_
  refine XC.region ?_
  refine x_v (r_ld ty38 rfl pK (by rfl)) rfl ?_
  refine x_v (r_ld ty9 rfl pK (by rfl)) rfl ?_
  refine x_c (r_call0 (args := [_, _]) ⟨rfl, rfl, rfl⟩ (ready_tr d mb D n Fr) gS) rfl ?_
  rintro _ _ ⟨rfl, hRs⟩
  rw [hRs]
  refine x_v (r_as rfl) rfl ?_
  refine XL.nil ?_
  refine hK3 _ _ ?_
  refine XC.keep [(3, _), (4, _), (5, _), (7, _)] ⟨rfl, rfl, rfl, rfl, trivial⟩ ?_
  refine XC.seq fun K4 hK4 => ?_
  refine XC.region ?_
  refine x_v (r_mv rfl) rfl ?_
  refine x_v (r_ne rfl rfl) rfl ?_
  refine XL.nil ?_
  refine hK4 _ _ ?_
  refine XC.keep [(3, _), (4, _), (5, _), (7, _), (14, _)] ⟨rfl, rfl, rfl, rfl, rfl, trivial⟩ ?_
  refine XC.cond_d rfl (fun hc1 => ?_) (fun hc1 => ?_)
  · refine XC.seq fun K5 hK5 => ?_
    refine XC.region ?_
    refine x_v (r_mv rfl) rfl ?_
    refine x_v (r_as rfl) rfl ?_
    refine XL.nil ?_
    refine hK5 _ _ ?_
    refine XC.keep [(6, _)] ⟨rfl, trivial⟩ ?_
    refine XC.ret ?_
    exact fin1 rfl (⟨rfl, rfl⟩) gS
  · exfalso; omega
theorem app_full_o {W0 : World} (d mb b : Nat) (A : Option Addr) (c : Nat) (x : Fi) (D : Dk) (f : Value → Option Value) (n s : List UInt8) (Fr : List HP) (h : readyE D n = 0) (hf : f (str n) = some (.pointer (some ⟨b, 0, none⟩))) (hl : 1048576 < s.length + x.bytes.length) (hx : x.bytes.length ≤ 1048576) :
    Tr W0 Tryz.prog 47 [.pointer (some ⟨d, 0, none⟩), str n, str s] (blk d 74 (dcells mb D) :: mpf mb .string f :: blk b 84 (fcells A c x) :: sl A x.bytes.length c 5 1 (bv x.bytes) :: Fr) (fun v Rs' => v = .int .i64 52 ∧ Rs' = blk d 74 (dcells mb D) :: mpf mb .string f :: blk b 84 (fcells A c x) :: sl A x.bytes.length c 5 1 (bv x.bytes) :: Fr) := by
  have hmax : maxS = 140737488355328 := rfl
  refine Entry.tr (N := 42) (rs := [.tmp 6]) ⟨_, Tryz.func47, rfl, by kernel_rfl, rfl, rfl⟩ rfl ?_
  refine XC.seq fun K1 hK1 => ?_
  refine XC.region ?_
  refine x_a (r_bx rfl rfl) rfl fun b3 => ?_
  refine x_a (r_bx rfl rfl) rfl fun b4 => ?_
  refine x_a (r_bx rfl rfl) rfl fun b5 => ?_
  refine x_v (r_as rfl) rfl ?_
  refine XL.nil ?_
  refine hK1 _ _ ?_
  refine XC.keep [(3, _), (4, _), (5, _)] ⟨rfl, rfl, rfl, trivial⟩ ?_
  refine XC.seq fun K2 hK2 => ?_
  refine XC.seq fun K3 hK3 => ?_
  refine XC.region ?_
  refine x_v (r_ld ty38 rfl pK (by rfl)) rfl ?_
  refine x_v (r_ld ty9 rfl pK (by rfl)) rfl ?_
  refine x_c (r_call0 (args := [_, _]) ⟨rfl, rfl, rfl⟩ (ready_tr d mb D n (blk b3 38 [.pointer (some ⟨d, 0, none⟩)] :: blk b4 9 [str n] :: blk b5 9 [str s] :: mpf mb .string f :: blk b 84 (fcells A c x) :: sl A x.bytes.length c 5 1 (bv x.bytes) :: Fr)) gS) rfl ?_
  rintro _ _ ⟨rfl, hRs⟩
  rw [hRs]
  refine x_v (r_as rfl) rfl ?_
  refine XL.nil ?_
  refine hK3 _ _ ?_
  refine XC.keep [(3, _), (4, _), (5, _), (7, _)] ⟨rfl, rfl, rfl, rfl, trivial⟩ ?_
  refine XC.seq fun K4 hK4 => ?_
  refine XC.region ?_
  refine x_v (r_mv rfl) rfl ?_
  refine x_v (r_ne rfl rfl) rfl ?_
  refine XL.nil ?_
  refine hK4 _ _ ?_
  refine XC.keep [(3, _), (4, _), (5, _), (7, _), (14, _)] ⟨rfl, rfl, rfl, rfl, rfl, trivial⟩ ?_
  refine XC.cond_d rfl (fun hc1 => ?_) (fun hc1 => ?_)
  · exfalso; omega
  · refine XC.skip ?_
    refine hK2 _ _ ?_
    refine XC.keep [(3, _), (4, _), (5, _)] ⟨rfl, rfl, rfl, trivial⟩ ?_
    refine XC.seq fun K5 hK5 => ?_
    unfold dcells
    unfold fcells
    refine XC.draw (blk d 74 [.map (some mb), .int .i64 D.fuse, .bool D.off, .int .i64 (D.steps : Int)] :: mpf mb .string f :: blk b3 38 [.pointer (some ⟨d, 0, none⟩)] :: blk b4 9 [str n] :: []) false [(0, false), (1, false), (2, false), (3, false), (4, false), (5, false), (6, false), (7, false), (8, false), (9, true), (10, true), (11, false)] (by kernel_rfl) (by kernel_rfl) ?_
    refine y_v rfl (r_ld ty38 rfl pK (by rfl)) gT rfl ?_
    refine y_v rfl (r_nc rfl) gT rfl ?_
    refine y_v rfl (r_fa fo74_0 rfl) gT rfl ?_
    refine y_v rfl (r_ld ty72 rfl pK (by rfl)) gT rfl ?_
    refine y_v rfl (r_ld ty9 rfl pK (by rfl)) gT rfl ?_
    refine y_v rfl (yv (v' := .tuple [.pointer (some ⟨b, 0, none⟩), .bool true].toArray) (r_lk Tryz.underlying72 Tryz.underlying9 ty79 rfl rfl (isKey_str n) pK) (by rw [hf]; rfl)) gT rfl ?_
    refine y_v rfl (r_mv rfl) gT rfl ?_
    refine y_v rfl (r_ex rfl rfl) gT rfl ?_
    refine y_v rfl (r_ex rfl rfl) gT rfl ?_
    refine y_a rfl (r_al ty79 rfl) (fun _ _ _ h => Gets.own gS h) rfl fun b8 => ?_
    refine y_e rfl (r_st ty79 rfl rfl rfl rfl rfl uD oV) (fun _ _ h => Gets.own gS h) ?_
    refine y_v rfl (r_as rfl) gT rfl ?_
    refine XH.nil ?_
    refine hK5 _ _ ?_
    refine XC.keep [(3, _), (4, _), (5, _), (8, _), (9, _)] ⟨rfl, rfl, rfl, rfl, rfl, trivial⟩ ?_
    refine XC.seq fun K6 hK6 => ?_
    refine XC.seq fun K7 hK7 => ?_
    refine XC.region ?_
    refine x_v (r_mv rfl) rfl ?_
    refine x_v (r_not rfl) rfl ?_
    refine XL.nil ?_
    refine hK7 _ _ ?_
    refine XC.keep [(3, _), (4, _), (5, _), (8, _), (26, _)] ⟨rfl, rfl, rfl, rfl, rfl, trivial⟩ ?_
    refine XC.cond_f rfl ?_
    refine XC.skip ?_
    refine hK6 _ _ ?_
    refine XC.keep [(3, _), (4, _), (5, _), (8, _)] ⟨rfl, rfl, rfl, rfl, trivial⟩ ?_
    refine XC.seq fun K8 hK8 => ?_
    refine XC.seq fun K9 hK9 => ?_
    refine XC.draw (blk b5 9 [str s] :: blk b8 79 [.pointer (some ⟨b, 0, none⟩)] :: blk b 84 [.slice A x.bytes.length c, .int .i64 (x.sure : Int), .bool x.old] :: []) false [(0, false), (1, false), (2, false), (3, false), (4, false), (5, false), (6, false), (7, false), (8, false), (9, false)] (by kernel_rfl) (by kernel_rfl) ?_
    refine y_v rfl (r_ld ty9 rfl pK (by rfl)) gT rfl ?_
    refine y_v rfl (r_lens Tryz.underlying9 rfl) gT rfl ?_
    refine y_v rfl (r_ld ty79 rfl pK (by rfl)) gT rfl ?_
    refine y_v rfl (r_nc rfl) gT rfl ?_
    refine y_v rfl (r_fa fo84_0 rfl) gT rfl ?_
    refine y_v rfl (r_fa fo82_0 rfl) gT rfl ?_
    refine y_v rfl (r_ld ty80 rfl pK (by rfl)) gT rfl ?_
    refine y_v rfl (r_lensl Tryz.underlying80 rfl) gT rfl ?_
    refine y_v rfl (r_sub rfl rfl (by omega)) gT rfl ?_
    refine y_v rfl (r_gt rfl rfl) gT rfl ?_
    refine XH.nil ?_
    refine hK9 _ _ ?_
    refine XC.keep [(3, _), (4, _), (5, _), (8, _), (38, _)] ⟨rfl, rfl, rfl, rfl, rfl, trivial⟩ ?_
    refine XC.cond_d rfl (fun hc3 => ?_) (fun hc3 => ?_)
    · refine XC.seq fun K10 hK10 => ?_
      refine XC.region ?_
      refine x_v (r_as rfl) rfl ?_
      refine XL.nil ?_
      refine hK10 _ _ ?_
      refine XC.keep [(6, _)] ⟨rfl, trivial⟩ ?_
      refine XC.ret ?_
      exact fin1 rfl (⟨rfl, rfl⟩) gS
    · exfalso; omega
theorem app_0_o {W0 : World} (d mb b : Nat) (A : Option Addr) (c : Nat) (x : Fi) (D : Dk) (f : Value → Option Value) (n s : List UInt8) (Fr : List HP) (h : readyE D n = 0) (hf : f (str n) = some (.pointer (some ⟨b, 0, none⟩))) (hl : s.length + x.bytes.length ≤ 1048576) (h0 : D.fuse = 0) :
    Tr W0 Tryz.prog 47 [.pointer (some ⟨d, 0, none⟩), str n, str s] (blk d 74 (dcells mb D) :: mpf mb .string f :: blk b 84 (fcells A c x) :: sl A x.bytes.length c 5 1 (bv x.bytes) :: Fr) (fun v Rs' => v = .int .i64 50 ∧ Rs' = blk d 74 (dcells mb { D with off := true }) :: mpf mb .string f :: blk b 84 (fcells A c x) :: sl A x.bytes.length c 5 1 (bv x.bytes) :: Fr) := by
  have hmax : maxS = 140737488355328 := rfl
  refine Entry.tr (N := 42) (rs := [.tmp 6]) ⟨_, Tryz.func47, rfl, by kernel_rfl, rfl, rfl⟩ rfl ?_
  refine XC.seq fun K1 hK1 => ?_
  refine XC.region ?_
  refine x_a (r_bx rfl rfl) rfl fun b3 => ?_
  refine x_a (r_bx rfl rfl) rfl fun b4 => ?_
  refine x_a (r_bx rfl rfl) rfl fun b5 => ?_
  refine x_v (r_as rfl) rfl ?_
  refine XL.nil ?_
  refine hK1 _ _ ?_
  refine XC.keep [(3, _), (4, _), (5, _)] ⟨rfl, rfl, rfl, trivial⟩ ?_
  refine XC.seq fun K2 hK2 => ?_
  refine XC.seq fun K3 hK3 => ?_
  refine XC.region ?_
  refine x_v (r_ld ty38 rfl pK (by rfl)) rfl ?_
  refine x_v (r_ld ty9 rfl pK (by rfl)) rfl ?_
  refine x_c (r_call0 (args := [_, _]) ⟨rfl, rfl, rfl⟩ (ready_tr d mb D n (blk b3 38 [.pointer (some ⟨d, 0, none⟩)] :: blk b4 9 [str n] :: blk b5 9 [str s] :: mpf mb .string f :: blk b 84 (fcells A c x) :: sl A x.bytes.length c 5 1 (bv x.bytes) :: Fr)) gS) rfl ?_
  rintro _ _ ⟨rfl, hRs⟩
  rw [hRs]
  refine x_v (r_as rfl) rfl ?_
  refine XL.nil ?_
  refine hK3 _ _ ?_
  refine XC.keep [(3, _), (4, _), (5, _), (7, _)] ⟨rfl, rfl, rfl, rfl, trivial⟩ ?_
  refine XC.seq fun K4 hK4 => ?_
  refine XC.region ?_
  refine x_v (r_mv rfl) rfl ?_
  refine x_v (r_ne rfl rfl) rfl ?_
  refine XL.nil ?_
  refine hK4 _ _ ?_
  refine XC.keep [(3, _), (4, _), (5, _), (7, _), (14, _)] ⟨rfl, rfl, rfl, rfl, rfl, trivial⟩ ?_
  refine XC.cond_d rfl (fun hc1 => ?_) (fun hc1 => ?_)
  · exfalso; omega
  · refine XC.skip ?_
    refine hK2 _ _ ?_
    refine XC.keep [(3, _), (4, _), (5, _)] ⟨rfl, rfl, rfl, trivial⟩ ?_
    refine XC.seq fun K5 hK5 => ?_
    unfold dcells
    unfold fcells
    refine XC.draw (blk d 74 [.map (some mb), .int .i64 D.fuse, .bool D.off, .int .i64 (D.steps : Int)] :: mpf mb .string f :: blk b3 38 [.pointer (some ⟨d, 0, none⟩)] :: blk b4 9 [str n] :: []) false [(0, false), (1, false), (2, false), (3, false), (4, false), (5, false), (6, false), (7, false), (8, false), (9, true), (10, true), (11, false)] (by kernel_rfl) (by kernel_rfl) ?_
    refine y_v rfl (r_ld ty38 rfl pK (by rfl)) gT rfl ?_
    refine y_v rfl (r_nc rfl) gT rfl ?_
    refine y_v rfl (r_fa fo74_0 rfl) gT rfl ?_
    refine y_v rfl (r_ld ty72 rfl pK (by rfl)) gT rfl ?_
    refine y_v rfl (r_ld ty9 rfl pK (by rfl)) gT rfl ?_
    refine y_v rfl (yv (v' := .tuple [.pointer (some ⟨b, 0, none⟩), .bool true].toArray) (r_lk Tryz.underlying72 Tryz.underlying9 ty79 rfl rfl (isKey_str n) pK) (by rw [hf]; rfl)) gT rfl ?_
    refine y_v rfl (r_mv rfl) gT rfl ?_
    refine y_v rfl (r_ex rfl rfl) gT rfl ?_
    refine y_v rfl (r_ex rfl rfl) gT rfl ?_
    refine y_a rfl (r_al ty79 rfl) (fun _ _ _ h => Gets.own gS h) rfl fun b8 => ?_
    refine y_e rfl (r_st ty79 rfl rfl rfl rfl rfl uD oV) (fun _ _ h => Gets.own gS h) ?_
    refine y_v rfl (r_as rfl) gT rfl ?_
    refine XH.nil ?_
    refine hK5 _ _ ?_
    refine XC.keep [(3, _), (4, _), (5, _), (8, _), (9, _)] ⟨rfl, rfl, rfl, rfl, rfl, trivial⟩ ?_
    refine XC.seq fun K6 hK6 => ?_
    refine XC.seq fun K7 hK7 => ?_
    refine XC.region ?_
    refine x_v (r_mv rfl) rfl ?_
    refine x_v (r_not rfl) rfl ?_
    refine XL.nil ?_
    refine hK7 _ _ ?_
    refine XC.keep [(3, _), (4, _), (5, _), (8, _), (26, _)] ⟨rfl, rfl, rfl, rfl, rfl, trivial⟩ ?_
    refine XC.cond_f rfl ?_
    refine XC.skip ?_
    refine hK6 _ _ ?_
    refine XC.keep [(3, _), (4, _), (5, _), (8, _)] ⟨rfl, rfl, rfl, rfl, trivial⟩ ?_
    refine XC.seq fun K8 hK8 => ?_
    refine XC.seq fun K9 hK9 => ?_
    refine XC.draw (blk b5 9 [str s] :: blk b8 79 [.pointer (some ⟨b, 0, none⟩)] :: blk b 84 [.slice A x.bytes.length c, .int .i64 (x.sure : Int), .bool x.old] :: []) false [(0, false), (1, false), (2, false), (3, false), (4, false), (5, false), (6, false), (7, false), (8, false), (9, false)] (by kernel_rfl) (by kernel_rfl) ?_
    refine y_v rfl (r_ld ty9 rfl pK (by rfl)) gT rfl ?_
    refine y_v rfl (r_lens Tryz.underlying9 rfl) gT rfl ?_
    refine y_v rfl (r_ld ty79 rfl pK (by rfl)) gT rfl ?_
    refine y_v rfl (r_nc rfl) gT rfl ?_
    refine y_v rfl (r_fa fo84_0 rfl) gT rfl ?_
    refine y_v rfl (r_fa fo82_0 rfl) gT rfl ?_
    refine y_v rfl (r_ld ty80 rfl pK (by rfl)) gT rfl ?_
    refine y_v rfl (r_lensl Tryz.underlying80 rfl) gT rfl ?_
    refine y_v rfl (r_sub rfl rfl (by omega)) gT rfl ?_
    refine y_v rfl (r_gt rfl rfl) gT rfl ?_
    refine XH.nil ?_
    refine hK9 _ _ ?_
    refine XC.keep [(3, _), (4, _), (5, _), (8, _), (38, _)] ⟨rfl, rfl, rfl, rfl, rfl, trivial⟩ ?_
    refine XC.cond_d rfl (fun hc3 => ?_) (fun hc3 => ?_)
    · exfalso; omega
    · refine XC.skip ?_
      refine hK8 _ _ ?_
      refine XC.keep [(3, _), (4, _), (5, _), (8, _)] ⟨rfl, rfl, rfl, rfl, trivial⟩ ?_
      refine XC.seq fun K10 hK10 => ?_
      change XC _ _ _ _ (blk b8 79 [.pointer (some ⟨b, 0, none⟩)] :: blk d 74 (dcells mb D) :: blk b3 38 [.pointer (some ⟨d, 0, none⟩)] :: blk b4 9 [str n] :: blk b5 9 [str s] :: mpf mb .string f :: blk b 84 (fcells A c x) :: sl A x.bytes.length c 5 1 (bv x.bytes) :: Fr)
      refine XC.region ?_
      refine x_v (r_ld ty38 rfl pK (by rfl)) rfl ?_
      refine x_v (r_mfv (cs := [_, _, _, _]) ⟨rfl, rfl, rfl, rfl, rfl⟩) rfl ?_
      refine x_c (r_call0 (args := [_, _]) ⟨rfl, rfl, rfl⟩ (step0_tr d mb D _ (mpf mb .string f :: blk b 84 (fcells A c x) :: sl A x.bytes.length c 5 1 (bv x.bytes) :: Fr) h0) gS) rfl ?_
      rintro _ _ ⟨rfl, hRs⟩
      rw [hRs]
      refine x_v (r_as rfl) rfl ?_
      refine XL.nil ?_
      refine hK10 _ _ ?_
      refine XC.keep [(6, _)] ⟨rfl, trivial⟩ ?_
      refine XC.ret ?_
      exact fin1 rfl (⟨rfl, rfl⟩) gS
theorem app_1_o {W0 : World} (d mb b : Nat) (A : Option Addr) (c : Nat) (x : Fi) (D : Dk) (f : Value → Option Value) (n s : List UInt8) (Fr : List HP) (Q : List HP → Prop) (h : readyE D n = 0) (hf : f (str n) = some (.pointer (some ⟨b, 0, none⟩))) (hl : s.length + x.bytes.length ≤ 1048576) (h0 : D.fuse ≠ 0) (hfu : -1 ≤ D.fuse ∧ D.fuse < 9223372036854775808) (hs : D.steps ≤ 1000000000)
    (hQ : ∀ A' c', Q (blk b 84 (fcells A' c' { x with bytes := x.bytes ++ s }) :: sl A' (x.bytes ++ s).length c' 5 1 (bv (x.bytes ++ s)) :: blk d 74 (dcells mb (stepD D)) :: mpf mb .string (updV f (str n) (some (.pointer (some ⟨b, 0, none⟩)))) :: Fr)) :
    Tr W0 Tryz.prog 47 [.pointer (some ⟨d, 0, none⟩), str n, str s] (blk d 74 (dcells mb D) :: mpf mb .string f :: blk b 84 (fcells A c x) :: sl A x.bytes.length c 5 1 (bv x.bytes) :: Fr) (fun v Rs' => v = .int .i64 0 ∧ Q Rs') := by
  have hmax : maxS = 140737488355328 := rfl
  refine Entry.tr (N := 42) (rs := [.tmp 6]) ⟨_, Tryz.func47, rfl, by kernel_rfl, rfl, rfl⟩ rfl ?_
  refine XC.seq fun K1 hK1 => ?_
  refine XC.region ?_
  refine x_a (r_bx rfl rfl) rfl fun b3 => ?_
  refine x_a (r_bx rfl rfl) rfl fun b4 => ?_
  refine x_a (r_bx rfl rfl) rfl fun b5 => ?_
  refine x_v (r_as rfl) rfl ?_
  refine XL.nil ?_
  refine hK1 _ _ ?_
  refine XC.keep [(3, _), (4, _), (5, _)] ⟨rfl, rfl, rfl, trivial⟩ ?_
  refine XC.seq fun K2 hK2 => ?_
  refine XC.seq fun K3 hK3 => ?_
  refine XC.region ?_
  refine x_v (r_ld ty38 rfl pK (by rfl)) rfl ?_
  refine x_v (r_ld ty9 rfl pK (by rfl)) rfl ?_
  refine x_c (r_call0 (args := [_, _]) ⟨rfl, rfl, rfl⟩ (ready_tr d mb D n (blk b3 38 [.pointer (some ⟨d, 0, none⟩)] :: blk b4 9 [str n] :: blk b5 9 [str s] :: mpf mb .string f :: blk b 84 (fcells A c x) :: sl A x.bytes.length c 5 1 (bv x.bytes) :: Fr)) gS) rfl ?_
  rintro _ _ ⟨rfl, hRs⟩
  rw [hRs]
  refine x_v (r_as rfl) rfl ?_
  refine XL.nil ?_
  refine hK3 _ _ ?_
  refine XC.keep [(3, _), (4, _), (5, _), (7, _)] ⟨rfl, rfl, rfl, rfl, trivial⟩ ?_
  refine XC.seq fun K4 hK4 => ?_
  refine XC.region ?_
  refine x_v (r_mv rfl) rfl ?_
  refine x_v (r_ne rfl rfl) rfl ?_
  refine XL.nil ?_
  refine hK4 _ _ ?_
  refine XC.keep [(3, _), (4, _), (5, _), (7, _), (14, _)] ⟨rfl, rfl, rfl, rfl, rfl, trivial⟩ ?_
  refine XC.cond_d rfl (fun hc1 => ?_) (fun hc1 => ?_)
  · exfalso; omega
  · refine XC.skip ?_
    refine hK2 _ _ ?_
    refine XC.keep [(3, _), (4, _), (5, _)] ⟨rfl, rfl, rfl, trivial⟩ ?_
    refine XC.seq fun K5 hK5 => ?_
    unfold dcells
    unfold fcells
    refine XC.draw (blk d 74 [.map (some mb), .int .i64 D.fuse, .bool D.off, .int .i64 (D.steps : Int)] :: mpf mb .string f :: blk b3 38 [.pointer (some ⟨d, 0, none⟩)] :: blk b4 9 [str n] :: []) false [(0, false), (1, false), (2, false), (3, false), (4, false), (5, false), (6, false), (7, false), (8, false), (9, true), (10, true), (11, false)] (by kernel_rfl) (by kernel_rfl) ?_
    refine y_v rfl (r_ld ty38 rfl pK (by rfl)) gT rfl ?_
    refine y_v rfl (r_nc rfl) gT rfl ?_
    refine y_v rfl (r_fa fo74_0 rfl) gT rfl ?_
    refine y_v rfl (r_ld ty72 rfl pK (by rfl)) gT rfl ?_
    refine y_v rfl (r_ld ty9 rfl pK (by rfl)) gT rfl ?_
    refine y_v rfl (yv (v' := .tuple [.pointer (some ⟨b, 0, none⟩), .bool true].toArray) (r_lk Tryz.underlying72 Tryz.underlying9 ty79 rfl rfl (isKey_str n) pK) (by rw [hf]; rfl)) gT rfl ?_
    refine y_v rfl (r_mv rfl) gT rfl ?_
    refine y_v rfl (r_ex rfl rfl) gT rfl ?_
    refine y_v rfl (r_ex rfl rfl) gT rfl ?_
    refine y_a rfl (r_al ty79 rfl) (fun _ _ _ h => Gets.own gS h) rfl fun b8 => ?_
    refine y_e rfl (r_st ty79 rfl rfl rfl rfl rfl uD oV) (fun _ _ h => Gets.own gS h) ?_
    refine y_v rfl (r_as rfl) gT rfl ?_
    refine XH.nil ?_
    refine hK5 _ _ ?_
    refine XC.keep [(3, _), (4, _), (5, _), (8, _), (9, _)] ⟨rfl, rfl, rfl, rfl, rfl, trivial⟩ ?_
    refine XC.seq fun K6 hK6 => ?_
    refine XC.seq fun K7 hK7 => ?_
    refine XC.region ?_
    refine x_v (r_mv rfl) rfl ?_
    refine x_v (r_not rfl) rfl ?_
    refine XL.nil ?_
    refine hK7 _ _ ?_
    refine XC.keep [(3, _), (4, _), (5, _), (8, _), (26, _)] ⟨rfl, rfl, rfl, rfl, rfl, trivial⟩ ?_
    refine XC.cond_f rfl ?_
    refine XC.skip ?_
    refine hK6 _ _ ?_
    refine XC.keep [(3, _), (4, _), (5, _), (8, _)] ⟨rfl, rfl, rfl, rfl, trivial⟩ ?_
    refine XC.seq fun K8 hK8 => ?_
    refine XC.seq fun K9 hK9 => ?_
    refine XC.draw (blk b5 9 [str s] :: blk b8 79 [.pointer (some ⟨b, 0, none⟩)] :: blk b 84 [.slice A x.bytes.length c, .int .i64 (x.sure : Int), .bool x.old] :: []) false [(0, false), (1, false), (2, false), (3, false), (4, false), (5, false), (6, false), (7, false), (8, false), (9, false)] (by kernel_rfl) (by kernel_rfl) ?_
    refine y_v rfl (r_ld ty9 rfl pK (by rfl)) gT rfl ?_
    refine y_v rfl (r_lens Tryz.underlying9 rfl) gT rfl ?_
    refine y_v rfl (r_ld ty79 rfl pK (by rfl)) gT rfl ?_
    refine y_v rfl (r_nc rfl) gT rfl ?_
    refine y_v rfl (r_fa fo84_0 rfl) gT rfl ?_
    refine y_v rfl (r_fa fo82_0 rfl) gT rfl ?_
    refine y_v rfl (r_ld ty80 rfl pK (by rfl)) gT rfl ?_
    refine y_v rfl (r_lensl Tryz.underlying80 rfl) gT rfl ?_
    refine y_v rfl (r_sub rfl rfl (by omega)) gT rfl ?_
    refine y_v rfl (r_gt rfl rfl) gT rfl ?_
    refine XH.nil ?_
    refine hK9 _ _ ?_
    refine XC.keep [(3, _), (4, _), (5, _), (8, _), (38, _)] ⟨rfl, rfl, rfl, rfl, rfl, trivial⟩ ?_
    refine XC.cond_d rfl (fun hc3 => ?_) (fun hc3 => ?_)
    · exfalso; omega
    · refine XC.skip ?_
      refine hK8 _ _ ?_
      refine XC.keep [(3, _), (4, _), (5, _), (8, _)] ⟨rfl, rfl, rfl, rfl, trivial⟩ ?_
      refine XC.seq fun K10 hK10 => ?_
      change XC _ _ _ _ (blk b8 79 [.pointer (some ⟨b, 0, none⟩)] :: blk d 74 (dcells mb D) :: blk b3 38 [.pointer (some ⟨d, 0, none⟩)] :: blk b4 9 [str n] :: blk b5 9 [str s] :: mpf mb .string f :: blk b 84 (fcells A c x) :: sl A x.bytes.length c 5 1 (bv x.bytes) :: Fr)
      refine XC.region ?_
      refine x_v (r_ld ty38 rfl pK (by rfl)) rfl ?_
      refine x_v (r_mfv (cs := [_, _, _, _]) ⟨rfl, rfl, rfl, rfl, rfl⟩) rfl ?_
      refine x_c (r_call0 (args := [_, _]) ⟨rfl, rfl, rfl⟩ (step1_tr d mb D 86 [.pointer (some ⟨b8, 0, none⟩), .pointer (some ⟨b5, 0, none⟩), .pointer (some ⟨b3, 0, none⟩), .pointer (some ⟨b4, 0, none⟩)] (mpf mb .string f :: blk b8 79 [.pointer (some ⟨b, 0, none⟩)] :: blk b5 9 [str s] :: blk b3 38 [.pointer (some ⟨d, 0, none⟩)] :: blk b4 9 [str n] :: blk b 84 (fcells A c x) :: sl A x.bytes.length c 5 1 (bv x.bytes) :: Fr) Q h0 hfu hs ((app1_tr d mb b b8 b5 b3 b4 (stepD D) f n s A c x Fr (by first | omega | (simp only [List.length_nil]; omega))).mono fun v Rs2 ⟨A2, c2, e2⟩ => e2 ▸ hQ A2 c2)) gS) rfl ?_
      rintro _ _ ⟨rfl, hq⟩
      refine x_v (r_as rfl) rfl ?_
      refine XL.nil ?_
      refine hK10 _ _ ?_
      refine XC.keep [(6, _)] ⟨rfl, trivial⟩ ?_
      refine XC.ret ?_
      exact fin1 rfl (⟨rfl, hq⟩) gS
theorem app_full_n {W0 : World} (d mb : Nat) (D : Dk) (f : Value → Option Value) (n s : List UInt8) (Fr : List HP) (h : readyE D n = 0) (hf : f (str n) = none) (hl : 1048576 < s.length) :
    Tr W0 Tryz.prog 47 [.pointer (some ⟨d, 0, none⟩), str n, str s] (blk d 74 (dcells mb D) :: mpf mb .string f :: Fr) (fun v Rs' => v = .int .i64 52 ∧ Rs' = blk d 74 (dcells mb D) :: mpf mb .string f :: Fr) := by
  have hmax : maxS = 140737488355328 := rfl
  refine Entry.tr (N := 42) (rs := [.tmp 6]) ⟨_, Tryz.func47, rfl, by kernel_rfl, rfl, rfl⟩ rfl ?_
  refine XC.seq fun K1 hK1 => ?_
  refine XC.region ?_
  refine x_a (r_bx rfl rfl) rfl fun b3 => ?_
  refine x_a (r_bx rfl rfl) rfl fun b4 => ?_
  refine x_a (r_bx rfl rfl) rfl fun b5 => ?_
  refine x_v (r_as rfl) rfl ?_
  refine XL.nil ?_
  refine hK1 _ _ ?_
  refine XC.keep [(3, _), (4, _), (5, _)] ⟨rfl, rfl, rfl, trivial⟩ ?_
  refine XC.seq fun K2 hK2 => ?_
  refine XC.seq fun K3 hK3 => ?_
  refine XC.region ?_
  refine x_v (r_ld ty38 rfl pK (by rfl)) rfl ?_
  refine x_v (r_ld ty9 rfl pK (by rfl)) rfl ?_
  refine x_c (r_call0 (args := [_, _]) ⟨rfl, rfl, rfl⟩ (ready_tr d mb D n (blk b3 38 [.pointer (some ⟨d, 0, none⟩)] :: blk b4 9 [str n] :: blk b5 9 [str s] :: mpf mb .string f :: Fr)) gS) rfl ?_
  rintro _ _ ⟨rfl, hRs⟩
  rw [hRs]
  refine x_v (r_as rfl) rfl ?_
  refine XL.nil ?_
  refine hK3 _ _ ?_
  refine XC.keep [(3, _), (4, _), (5, _), (7, _)] ⟨rfl, rfl, rfl, rfl, trivial⟩ ?_
  refine XC.seq fun K4 hK4 => ?_
  refine XC.region ?_
  refine x_v (r_mv rfl) rfl ?_
  refine x_v (r_ne rfl rfl) rfl ?_
  refine XL.nil ?_
  refine hK4 _ _ ?_
  refine XC.keep [(3, _), (4, _), (5, _), (7, _), (14, _)] ⟨rfl, rfl, rfl, rfl, rfl, trivial⟩ ?_
  refine XC.cond_d rfl (fun hc1 => ?_) (fun hc1 => ?_)
  · exfalso; omega
  · refine XC.skip ?_
    refine hK2 _ _ ?_
    refine XC.keep [(3, _), (4, _), (5, _)] ⟨rfl, rfl, rfl, trivial⟩ ?_
    refine XC.seq fun K5 hK5 => ?_
    unfold dcells
    refine XC.draw (blk d 74 [.map (some mb), .int .i64 D.fuse, .bool D.off, .int .i64 (D.steps : Int)] :: mpf mb .string f :: blk b3 38 [.pointer (some ⟨d, 0, none⟩)] :: blk b4 9 [str n] :: []) false [(0, false), (1, false), (2, false), (3, false), (4, false), (5, false), (6, false), (7, false), (8, false), (9, true), (10, true), (11, false)] (by kernel_rfl) (by kernel_rfl) ?_
    refine y_v rfl (r_ld ty38 rfl pK (by rfl)) gT rfl ?_
    refine y_v rfl (r_nc rfl) gT rfl ?_
    refine y_v rfl (r_fa fo74_0 rfl) gT rfl ?_
    refine y_v rfl (r_ld ty72 rfl pK (by rfl)) gT rfl ?_
    refine y_v rfl (r_ld ty9 rfl pK (by rfl)) gT rfl ?_
    refine y_v rfl (yv (v' := .tuple [.pointer none, .bool false].toArray) (r_lk Tryz.underlying72 Tryz.underlying9 ty79 rfl rfl (isKey_str n) pK) (by rw [hf]; rfl)) gT rfl ?_
    refine y_v rfl (r_mv rfl) gT rfl ?_
    refine y_v rfl (r_ex rfl rfl) gT rfl ?_
    refine y_v rfl (r_ex rfl rfl) gT rfl ?_
    refine y_a rfl (r_al ty79 rfl) (fun _ _ _ h => Gets.own gS h) rfl fun b8 => ?_
    refine y_e rfl (r_st ty79 rfl rfl rfl rfl rfl uD oV) (fun _ _ h => Gets.own gS h) ?_
    refine y_v rfl (r_as rfl) gT rfl ?_
    refine XH.nil ?_
    refine hK5 _ _ ?_
    refine XC.keep [(3, _), (4, _), (5, _), (8, _), (9, _)] ⟨rfl, rfl, rfl, rfl, rfl, trivial⟩ ?_
    refine XC.seq fun K6 hK6 => ?_
    refine XC.seq fun K7 hK7 => ?_
    refine XC.region ?_
    refine x_v (r_mv rfl) rfl ?_
    refine x_v (r_not rfl) rfl ?_
    refine XL.nil ?_
    refine hK7 _ _ ?_
    refine XC.keep [(3, _), (4, _), (5, _), (8, _), (26, _)] ⟨rfl, rfl, rfl, rfl, rfl, trivial⟩ ?_
    refine XC.cond_t rfl ?_
    refine XC.region ?_
    refine x_v (r_bd (vs := []) rfl rfl bd84_z) rfl ?_
    refine x_a (r_bx rfl rfl) rfl fun b28 => ?_
    refine XL.nil_ 5 1 ?_
    refine x_e (r_st ty79 rfl rfl rfl rfl rfl uD oV) ?_
    refine XL.nil ?_
    refine hK6 _ _ ?_
    refine XC.keep [(3, _), (4, _), (5, _), (8, _)] ⟨rfl, rfl, rfl, rfl, trivial⟩ ?_
    refine XC.seq fun K8 hK8 => ?_
    refine XC.seq fun K9 hK9 => ?_
    refine XC.draw (blk b5 9 [str s] :: blk b8 79 [.pointer (some ⟨b28, 0, none⟩)] :: blk b28 84 [.slice none 0 0, .int .i64 0, .bool false] :: []) false [(0, false), (1, false), (2, false), (3, false), (4, false), (5, false), (6, false), (7, false), (8, false), (9, false)] (by kernel_rfl) (by kernel_rfl) ?_
    refine y_v rfl (r_ld ty9 rfl pK (by rfl)) gT rfl ?_
    refine y_v rfl (r_lens Tryz.underlying9 rfl) gT rfl ?_
    refine y_v rfl (r_ld ty79 rfl pK (by rfl)) gT rfl ?_
    refine y_v rfl (r_nc rfl) gT rfl ?_
    refine y_v rfl (r_fa fo84_0 rfl) gT rfl ?_
    refine y_v rfl (r_fa fo82_0 rfl) gT rfl ?_
    refine y_v rfl (r_ld ty80 rfl pK (by rfl)) gT rfl ?_
    refine y_v rfl (r_lensl Tryz.underlying80 rfl) gT rfl ?_
    refine y_v rfl (r_sub rfl rfl (by omega)) gT rfl ?_
    refine y_v rfl (r_gt rfl rfl) gT rfl ?_
    refine XH.nil ?_
    refine hK9 _ _ ?_
    refine XC.keep [(3, _), (4, _), (5, _), (8, _), (38, _)] ⟨rfl, rfl, rfl, rfl, rfl, trivial⟩ ?_
    refine XC.cond_d rfl (fun hc3 => ?_) (fun hc3 => ?_)
    · refine XC.seq fun K10 hK10 => ?_
      refine XC.region ?_
      refine x_v (r_as rfl) rfl ?_
      refine XL.nil ?_
      refine hK10 _ _ ?_
      refine XC.keep [(6, _)] ⟨rfl, trivial⟩ ?_
      refine XC.ret ?_
      exact fin1 rfl (⟨rfl, rfl⟩) gS
    · exfalso; omega
theorem app_0_n {W0 : World} (d mb : Nat) (D : Dk) (f : Value → Option Value) (n s : List UInt8) (Fr : List HP) (h : readyE D n = 0) (hf : f (str n) = none) (hl : s.length ≤ 1048576) (h0 : D.fuse = 0) :
    Tr W0 Tryz.prog 47 [.pointer (some ⟨d, 0, none⟩), str n, str s] (blk d 74 (dcells mb D) :: mpf mb .string f :: Fr) (fun v Rs' => v = .int .i64 50 ∧ Rs' = blk d 74 (dcells mb { D with off := true }) :: mpf mb .string f :: Fr) := by
  have hmax : maxS = 140737488355328 := rfl
  refine Entry.tr (N := 42) (rs := [.tmp 6]) ⟨_, Tryz.func47, rfl, by kernel_rfl, rfl, rfl⟩ rfl ?_
  refine XC.seq fun K1 hK1 => ?_
  refine XC.region ?_
  refine x_a (r_bx rfl rfl) rfl fun b3 => ?_
  refine x_a (r_bx rfl rfl) rfl fun b4 => ?_
  refine x_a (r_bx rfl rfl) rfl fun b5 => ?_
  refine x_v (r_as rfl) rfl ?_
  refine XL.nil ?_
  refine hK1 _ _ ?_
  refine XC.keep [(3, _), (4, _), (5, _)] ⟨rfl, rfl, rfl, trivial⟩ ?_
  refine XC.seq fun K2 hK2 => ?_
  refine XC.seq fun K3 hK3 => ?_
  refine XC.region ?_
  refine x_v (r_ld ty38 rfl pK (by rfl)) rfl ?_
  refine x_v (r_ld ty9 rfl pK (by rfl)) rfl ?_
  refine x_c (r_call0 (args := [_, _]) ⟨rfl, rfl, rfl⟩ (ready_tr d mb D n (blk b3 38 [.pointer (some ⟨d, 0, none⟩)] :: blk b4 9 [str n] :: blk b5 9 [str s] :: mpf mb .string f :: Fr)) gS) rfl ?_
  rintro _ _ ⟨rfl, hRs⟩
  rw [hRs]
  refine x_v (r_as rfl) rfl ?_
  refine XL.nil ?_
  refine hK3 _ _ ?_
  refine XC.keep [(3, _), (4, _), (5, _), (7, _)] ⟨rfl, rfl, rfl, rfl, trivial⟩ ?_
  refine XC.seq fun K4 hK4 => ?_
  refine XC.region ?_
  refine x_v (r_mv rfl) rfl ?_
  refine x_v (r_ne rfl rfl) rfl ?_
  refine XL.nil ?_
  refine hK4 _ _ ?_
  refine XC.keep [(3, _), (4, _), (5, _), (7, _), (14, _)] ⟨rfl, rfl, rfl, rfl, rfl, trivial⟩ ?_
  refine XC.cond_d rfl (fun hc1 => ?_) (fun hc1 => ?_)
  · exfalso; omega
  · refine XC.skip ?_
    refine hK2 _ _ ?_
    refine XC.keep [(3, _), (4, _), (5, _)] ⟨rfl, rfl, rfl, trivial⟩ ?_
    refine XC.seq fun K5 hK5 => ?_
    unfold dcells
    refine XC.draw (blk d 74 [.map (some mb), .int .i64 D.fuse, .bool D.off, .int .i64 (D.steps : Int)] :: mpf mb .string f :: blk b3 38 [.pointer (some ⟨d, 0, none⟩)] :: blk b4 9 [str n] :: []) false [(0, false), (1, false), (2, false), (3, false), (4, false), (5, false), (6, false), (7, false), (8, false), (9, true), (10, true), (11, false)] (by kernel_rfl) (by kernel_rfl) ?_
    refine y_v rfl (r_ld ty38 rfl pK (by rfl)) gT rfl ?_
    refine y_v rfl (r_nc rfl) gT rfl ?_
    refine y_v rfl (r_fa fo74_0 rfl) gT rfl ?_
    refine y_v rfl (r_ld ty72 rfl pK (by rfl)) gT rfl ?_
    refine y_v rfl (r_ld ty9 rfl pK (by rfl)) gT rfl ?_
    refine y_v rfl (yv (v' := .tuple [.pointer none, .bool false].toArray) (r_lk Tryz.underlying72 Tryz.underlying9 ty79 rfl rfl (isKey_str n) pK) (by rw [hf]; rfl)) gT rfl ?_
    refine y_v rfl (r_mv rfl) gT rfl ?_
    refine y_v rfl (r_ex rfl rfl) gT rfl ?_
    refine y_v rfl (r_ex rfl rfl) gT rfl ?_
    refine y_a rfl (r_al ty79 rfl) (fun _ _ _ h => Gets.own gS h) rfl fun b8 => ?_
    refine y_e rfl (r_st ty79 rfl rfl rfl rfl rfl uD oV) (fun _ _ h => Gets.own gS h) ?_
    refine y_v rfl (r_as rfl) gT rfl ?_
    refine XH.nil ?_
    refine hK5 _ _ ?_
    refine XC.keep [(3, _), (4, _), (5, _), (8, _), (9, _)] ⟨rfl, rfl, rfl, rfl, rfl, trivial⟩ ?_
    refine XC.seq fun K6 hK6 => ?_
    refine XC.seq fun K7 hK7 => ?_
    refine XC.region ?_
    refine x_v (r_mv rfl) rfl ?_
    refine x_v (r_not rfl) rfl ?_
    refine XL.nil ?_
    refine hK7 _ _ ?_
    refine XC.keep [(3, _), (4, _), (5, _), (8, _), (26, _)] ⟨rfl, rfl, rfl, rfl, rfl, trivial⟩ ?_
    refine XC.cond_t rfl ?_
    refine XC.region ?_
    refine x_v (r_bd (vs := []) rfl rfl bd84_z) rfl ?_
    refine x_a (r_bx rfl rfl) rfl fun b28 => ?_
    refine XL.nil_ 5 1 ?_
    refine x_e (r_st ty79 rfl rfl rfl rfl rfl uD oV) ?_
    refine XL.nil ?_
    refine hK6 _ _ ?_
    refine XC.keep [(3, _), (4, _), (5, _), (8, _)] ⟨rfl, rfl, rfl, rfl, trivial⟩ ?_
    refine XC.seq fun K8 hK8 => ?_
    refine XC.seq fun K9 hK9 => ?_
    refine XC.draw (blk b5 9 [str s] :: blk b8 79 [.pointer (some ⟨b28, 0, none⟩)] :: blk b28 84 [.slice none 0 0, .int .i64 0, .bool false] :: []) false [(0, false), (1, false), (2, false), (3, false), (4, false), (5, false), (6, false), (7, false), (8, false), (9, false)] (by kernel_rfl) (by kernel_rfl) ?_
    refine y_v rfl (r_ld ty9 rfl pK (by rfl)) gT rfl ?_
    refine y_v rfl (r_lens Tryz.underlying9 rfl) gT rfl ?_
    refine y_v rfl (r_ld ty79 rfl pK (by rfl)) gT rfl ?_
    refine y_v rfl (r_nc rfl) gT rfl ?_
    refine y_v rfl (r_fa fo84_0 rfl) gT rfl ?_
    refine y_v rfl (r_fa fo82_0 rfl) gT rfl ?_
    refine y_v rfl (r_ld ty80 rfl pK (by rfl)) gT rfl ?_
    refine y_v rfl (r_lensl Tryz.underlying80 rfl) gT rfl ?_
    refine y_v rfl (r_sub rfl rfl (by omega)) gT rfl ?_
    refine y_v rfl (r_gt rfl rfl) gT rfl ?_
    refine XH.nil ?_
    refine hK9 _ _ ?_
    refine XC.keep [(3, _), (4, _), (5, _), (8, _), (38, _)] ⟨rfl, rfl, rfl, rfl, rfl, trivial⟩ ?_
    refine XC.cond_d rfl (fun hc3 => ?_) (fun hc3 => ?_)
    · exfalso; omega
    · refine XC.skip ?_
      refine hK8 _ _ ?_
      refine XC.keep [(3, _), (4, _), (5, _), (8, _)] ⟨rfl, rfl, rfl, rfl, trivial⟩ ?_
      refine XC.seq fun K10 hK10 => ?_
      refine XC.mem (blk d 74 (dcells mb D) :: blk b3 38 [.pointer (some ⟨d, 0, none⟩)] :: blk b4 9 [str n] :: blk b5 9 [str s] :: mpf mb .string f :: blk b8 79 [.pointer (some ⟨b28, 0, none⟩)] :: blk b28 84 (fcells none 0 ⟨[], 0, false⟩) :: sl none 0 0 5 1 (bv []) :: Fr) gT ?_
      refine XC.region ?_
      refine x_v (r_ld ty38 rfl pK (by rfl)) rfl ?_
      refine x_v (r_mfv (cs := [_, _, _, _]) ⟨rfl, rfl, rfl, rfl, rfl⟩) rfl ?_
      refine x_c (r_call0 (args := [_, _]) ⟨rfl, rfl, rfl⟩ (step0_tr d mb D _ (mpf mb .string f :: Fr) h0) gS) rfl ?_
      rintro _ _ ⟨rfl, hRs⟩
      rw [hRs]
      refine x_v (r_as rfl) rfl ?_
      refine XL.nil ?_
      refine hK10 _ _ ?_
      refine XC.keep [(6, _)] ⟨rfl, trivial⟩ ?_
      refine XC.ret ?_
      exact fin1 rfl (⟨rfl, rfl⟩) gS
theorem app_1_n {W0 : World} (d mb : Nat) (D : Dk) (f : Value → Option Value) (n s : List UInt8) (Fr : List HP) (Q : List HP → Prop) (h : readyE D n = 0) (hf : f (str n) = none) (hl : s.length ≤ 1048576) (h0 : D.fuse ≠ 0) (hfu : -1 ≤ D.fuse ∧ D.fuse < 9223372036854775808) (hs : D.steps ≤ 1000000000)
    (hQ : ∀ b A' c', Q (blk b 84 (fcells A' c' ⟨[] ++ s, 0, false⟩) :: sl A' ([] ++ s).length c' 5 1 (bv ([] ++ s)) :: blk d 74 (dcells mb (stepD D)) :: mpf mb .string (updV f (str n) (some (.pointer (some ⟨b, 0, none⟩)))) :: Fr)) :
    Tr W0 Tryz.prog 47 [.pointer (some ⟨d, 0, none⟩), str n, str s] (blk d 74 (dcells mb D) :: mpf mb .string f :: Fr) (fun v Rs' => v = .int .i64 0 ∧ Q Rs') := by
  have hmax : maxS = 140737488355328 := rfl
  refine Entry.tr (N := 42) (rs := [.tmp 6]) ⟨_, Tryz.func47, rfl, by kernel_rfl, rfl, rfl⟩ rfl ?_
  refine XC.seq fun K1 hK1 => ?_
  refine XC.region ?_
  refine x_a (r_bx rfl rfl) rfl fun b3 => ?_
  refine x_a (r_bx rfl rfl) rfl fun b4 => ?_
  refine x_a (r_bx rfl rfl) rfl fun b5 => ?_
  refine x_v (r_as rfl) rfl ?_
  refine XL.nil ?_
  refine hK1 _ _ ?_
  refine XC.keep [(3, _), (4, _), (5, _)] ⟨rfl, rfl, rfl, trivial⟩ ?_
  refine XC.seq fun K2 hK2 => ?_
  refine XC.seq fun K3 hK3 => ?_
  refine XC.region ?_
  refine x_v (r_ld ty38 rfl pK (by rfl)) rfl ?_
  refine x_v (r_ld ty9 rfl pK (by rfl)) rfl ?_
  refine x_c (r_call0 (args := [_, _]) ⟨rfl, rfl, rfl⟩ (ready_tr d mb D n (blk b3 38 [.pointer (some ⟨d, 0, none⟩)] :: blk b4 9 [str n] :: blk b5 9 [str s] :: mpf mb .string f :: Fr)) gS) rfl ?_
  rintro _ _ ⟨rfl, hRs⟩
  rw [hRs]
  refine x_v (r_as rfl) rfl ?_
  refine XL.nil ?_
  refine hK3 _ _ ?_
  refine XC.keep [(3, _), (4, _), (5, _), (7, _)] ⟨rfl, rfl, rfl, rfl, trivial⟩ ?_
  refine XC.seq fun K4 hK4 => ?_
  refine XC.region ?_
  refine x_v (r_mv rfl) rfl ?_
  refine x_v (r_ne rfl rfl) rfl ?_
  refine XL.nil ?_
  refine hK4 _ _ ?_
  refine XC.keep [(3, _), (4, _), (5, _), (7, _), (14, _)] ⟨rfl, rfl, rfl, rfl, rfl, trivial⟩ ?_
  refine XC.cond_d rfl (fun hc1 => ?_) (fun hc1 => ?_)
  · exfalso; omega
  · refine XC.skip ?_
    refine hK2 _ _ ?_
    refine XC.keep [(3, _), (4, _), (5, _)] ⟨rfl, rfl, rfl, trivial⟩ ?_
    refine XC.seq fun K5 hK5 => ?_
    unfold dcells
    refine XC.draw (blk d 74 [.map (some mb), .int .i64 D.fuse, .bool D.off, .int .i64 (D.steps : Int)] :: mpf mb .string f :: blk b3 38 [.pointer (some ⟨d, 0, none⟩)] :: blk b4 9 [str n] :: []) false [(0, false), (1, false), (2, false), (3, false), (4, false), (5, false), (6, false), (7, false), (8, false), (9, true), (10, true), (11, false)] (by kernel_rfl) (by kernel_rfl) ?_
    refine y_v rfl (r_ld ty38 rfl pK (by rfl)) gT rfl ?_
    refine y_v rfl (r_nc rfl) gT rfl ?_
    refine y_v rfl (r_fa fo74_0 rfl) gT rfl ?_
    refine y_v rfl (r_ld ty72 rfl pK (by rfl)) gT rfl ?_
    refine y_v rfl (r_ld ty9 rfl pK (by rfl)) gT rfl ?_
    refine y_v rfl (yv (v' := .tuple [.pointer none, .bool false].toArray) (r_lk Tryz.underlying72 Tryz.underlying9 ty79 rfl rfl (isKey_str n) pK) (by rw [hf]; rfl)) gT rfl ?_
    refine y_v rfl (r_mv rfl) gT rfl ?_
    refine y_v rfl (r_ex rfl rfl) gT rfl ?_
    refine y_v rfl (r_ex rfl rfl) gT rfl ?_
    refine y_a rfl (r_al ty79 rfl) (fun _ _ _ h => Gets.own gS h) rfl fun b8 => ?_
    refine y_e rfl (r_st ty79 rfl rfl rfl rfl rfl uD oV) (fun _ _ h => Gets.own gS h) ?_
    refine y_v rfl (r_as rfl) gT rfl ?_
    refine XH.nil ?_
    refine hK5 _ _ ?_
    refine XC.keep [(3, _), (4, _), (5, _), (8, _), (9, _)] ⟨rfl, rfl, rfl, rfl, rfl, trivial⟩ ?_
    refine XC.seq fun K6 hK6 => ?_
    refine XC.seq fun K7 hK7 => ?_
    refine XC.region ?_
    refine x_v (r_mv rfl) rfl ?_
    refine x_v (r_not rfl) rfl ?_
    refine XL.nil ?_
    refine hK7 _ _ ?_
    refine XC.keep [(3, _), (4, _), (5, _), (8, _), (26, _)] ⟨rfl, rfl, rfl, rfl, rfl, trivial⟩ ?_
    refine XC.cond_t rfl ?_
    refine XC.region ?_
    refine x_v (r_bd (vs := []) rfl rfl bd84_z) rfl ?_
    refine x_a (r_bx rfl rfl) rfl fun b28 => ?_
    refine XL.nil_ 5 1 ?_
    refine x_e (r_st ty79 rfl rfl rfl rfl rfl uD oV) ?_
    refine XL.nil ?_
    refine hK6 _ _ ?_
    refine XC.keep [(3, _), (4, _), (5, _), (8, _)] ⟨rfl, rfl, rfl, rfl, trivial⟩ ?_
    refine XC.seq fun K8 hK8 => ?_
    refine XC.seq fun K9 hK9 => ?_
    refine XC.draw (blk b5 9 [str s] :: blk b8 79 [.pointer (some ⟨b28, 0, none⟩)] :: blk b28 84 [.slice none 0 0, .int .i64 0, .bool false] :: []) false [(0, false), (1, false), (2, false), (3, false), (4, false), (5, false), (6, false), (7, false), (8, false), (9, false)] (by kernel_rfl) (by kernel_rfl) ?_
    refine y_v rfl (r_ld ty9 rfl pK (by rfl)) gT rfl ?_
    refine y_v rfl (r_lens Tryz.underlying9 rfl) gT rfl ?_
    refine y_v rfl (r_ld ty79 rfl pK (by rfl)) gT rfl ?_
    refine y_v rfl (r_nc rfl) gT rfl ?_
    refine y_v rfl (r_fa fo84_0 rfl) gT rfl ?_
    refine y_v rfl (r_fa fo82_0 rfl) gT rfl ?_
    refine y_v rfl (r_ld ty80 rfl pK (by rfl)) gT rfl ?_
    refine y_v rfl (r_lensl Tryz.underlying80 rfl) gT rfl ?_
    refine y_v rfl (r_sub rfl rfl (by omega)) gT rfl ?_
    refine y_v rfl (r_gt rfl rfl) gT rfl ?_
    refine XH.nil ?_
    refine hK9 _ _ ?_
    refine XC.keep [(3, _), (4, _), (5, _), (8, _), (38, _)] ⟨rfl, rfl, rfl, rfl, rfl, trivial⟩ ?_
    refine XC.cond_d rfl (fun hc3 => ?_) (fun hc3 => ?_)
    · exfalso; omega
    · refine XC.skip ?_
      refine hK8 _ _ ?_
      refine XC.keep [(3, _), (4, _), (5, _), (8, _)] ⟨rfl, rfl, rfl, rfl, trivial⟩ ?_
      refine XC.seq fun K10 hK10 => ?_
      refine XC.mem (blk d 74 (dcells mb D) :: blk b3 38 [.pointer (some ⟨d, 0, none⟩)] :: blk b4 9 [str n] :: blk b5 9 [str s] :: mpf mb .string f :: blk b8 79 [.pointer (some ⟨b28, 0, none⟩)] :: blk b28 84 (fcells none 0 ⟨[], 0, false⟩) :: sl none 0 0 5 1 (bv []) :: Fr) gT ?_
      refine XC.region ?_
      refine x_v (r_ld ty38 rfl pK (by rfl)) rfl ?_
      refine x_v (r_mfv (cs := [_, _, _, _]) ⟨rfl, rfl, rfl, rfl, rfl⟩) rfl ?_
      refine x_c (r_call0 (args := [_, _]) ⟨rfl, rfl, rfl⟩ (step1_tr d mb D 86 [.pointer (some ⟨b8, 0, none⟩), .pointer (some ⟨b5, 0, none⟩), .pointer (some ⟨b3, 0, none⟩), .pointer (some ⟨b4, 0, none⟩)] (mpf mb .string f :: blk b8 79 [.pointer (some ⟨b28, 0, none⟩)] :: blk b5 9 [str s] :: blk b3 38 [.pointer (some ⟨d, 0, none⟩)] :: blk b4 9 [str n] :: blk b28 84 (fcells none 0 ⟨[], 0, false⟩) :: sl none 0 0 5 1 (bv []) :: Fr) Q h0 hfu hs ((app1_tr d mb b28 b8 b5 b3 b4 (stepD D) f n s none 0 ⟨[], 0, false⟩ Fr (by first | omega | (simp only [List.length_nil]; omega))).mono fun v Rs2 ⟨A2, c2, e2⟩ => e2 ▸ (hQ b28) A2 c2)) gS) rfl ?_
      rintro _ _ ⟨rfl, hq⟩
      refine x_v (r_as rfl) rfl ?_
      refine XL.nil ?_
      refine hK10 _ _ ?_
      refine XC.keep [(6, _)] ⟨rfl, trivial⟩ ?_
      refine XC.ret ?_
      exact fin1 rfl (⟨rfl, hq⟩) gS
theorem app_th : ∃ fn c, Tryz.prog.funcs[47]? = some fn ∧ (fn.name == "runtime.NumGoroutine") = false ∧ fn.body = some c := ⟨_, _, Tryz.func47, by kernel_rfl, rfl⟩
theorem append_tr {W0 : World} (d : Nat) (D : Dk) (n s : List UInt8) (Fr : List HP) (hs : D.steps ≤ 1000000000) : Tr W0 Tryz.prog 47 [.pointer (some ⟨d, 0, none⟩), str n, str s] (dsk d D :: Fr) (fun v Rs' => v = .int .i64 (appendD D n s).1 ∧ Rs' = dsk d (appendD D n s).2 :: Fr) := by
  refine Tr.opn _ app_th (fun w => dsk_open) fun ⟨mb, f, T⟩ hD => ?_
  dsimp only at hD ⊢
  by_cases h : readyE D n = 0
  · have hfine : fineB n = true := by
      unfold readyE at h
      cases hb : fineB n with
      | true => rfl
      | false => rw [hb] at h; simp at h
    rcases hD.at n with ⟨h1, h2, h6⟩ | ⟨T1, b, x, T2, rfl, h1, h2⟩
    · by_cases hl : 1048576 < s.length
      · have e : appendD D n s = (52, D) := by simp [appendD, h, h1, hl]
        rw [e]
        exact (app_full_n d mb D f n s (filesM T :: Fr) h h2 hl).out fun v Rs' w ⟨h3, h4⟩ ho => ⟨_, ⟨h3, rfl⟩, dsk_shut hD (h4 ▸ ho)⟩
      · by_cases h0 : D.fuse = 0
        · have e : appendD D n s = (50, { D with off := true }) := by simp [appendD, h, h1, hl, h0]
          rw [e]
          exact (app_0_n d mb D f n s (filesM T :: Fr) h h2 (by omega) h0).out fun v Rs' w ⟨h3, h4⟩ ho => ⟨_, ⟨h3, rfl⟩, dsk_shut hD.offd (h4 ▸ ho)⟩
        · have e : appendD D n s = (0, { stepD D with files := setF (stepD D).files n ⟨[] ++ s, 0, false⟩ }) := by simp [appendD, h, h1, hl, h0, stepD]
          rw [e]
          refine (app_1_n d mb D f n s (filesM T :: Fr) (fun R => ∃ b A' c', R = blk b 84 (fcells A' c' ⟨[] ++ s, 0, false⟩) :: sl A' ([] ++ s).length c' 5 1 (bv ([] ++ s)) :: blk d 74 (dcells mb (stepD D)) :: mpf mb .string (updV f (str n) (some (.pointer (some ⟨b, 0, none⟩)))) :: filesM T :: Fr) h h2 (by omega) h0 hD.ok.fuse hs (fun b A' c' => ⟨b, A', c', rfl⟩)).out ?_
          rintro v Rs' w ⟨h3, b, A', c', rfl⟩ ho
          obtain ⟨T1, T2, rfl, hD'⟩ := hD.stp.ins h6 b ⟨[] ++ s, 0, false⟩ ⟨Nat.zero_le _, by simp; omega, hfine⟩
          refine ⟨_, ⟨h3, rfl⟩, dsk_shut (mb := mb) hD' ?_⟩
          have h7 : Own W0 w (blk b 84 (fcells A' c' ⟨[] ++ s, 0, false⟩) :: sl A' ([] ++ s).length c' 5 1 (bv ([] ++ s)) :: filesM (T1 ++ T2) :: blk d 74 (dcells mb (stepD D)) :: mpf mb .string (updV f (str n) (some (.pointer (some ⟨b, 0, none⟩)))) :: Fr) := Gets.own gS ho
          exact own_rot (file_shut (n := n) (x := ⟨[] ++ s, 0, false⟩) h7)
    · have hx := hD.fiok (t := (n, b, x)) (by simp)
      refine (Tr.pre (Rs1 := filesM (T1 ++ (n, b, x) :: T2) :: blk d 74 (dcells mb D) :: mpf mb .string f :: Fr) gS (Tr.opn (fun q : Option Addr × Nat => _) app_th (fun w => file_open) fun ⟨A, c⟩ _ => ?_))
      dsimp only
      refine Tr.pre (Rs1 := blk d 74 (dcells mb D) :: mpf mb .string f :: blk b 84 (fcells A c x) :: sl A x.bytes.length c 5 1 (bv x.bytes) :: filesM (T1 ++ T2) :: Fr) gS ?_
      by_cases hl : 1048576 < s.length + x.bytes.length
      · have e : appendD D n s = (52, D) := by simp [appendD, h, h1, hl]
        rw [e]
        refine (app_full_o d mb b A c x D f n s (filesM (T1 ++ T2) :: Fr) h h2 hl hx.2.1).out fun v Rs' w ⟨h3, h4⟩ ho => ⟨_, ⟨h3, rfl⟩, dsk_shut (mb := mb) hD (own_rot (file_shut (A := A) (c := c) ?_))⟩
        rw [h4] at ho; exact Gets.own gS ho
      · by_cases h0 : D.fuse = 0
        · have e : appendD D n s = (50, { D with off := true }) := by simp [appendD, h, h1, hl, h0]
          rw [e]
          refine (app_0_o d mb b A c x D f n s (filesM (T1 ++ T2) :: Fr) h h2 (by omega) h0).out fun v Rs' w ⟨h3, h4⟩ ho => ⟨_, ⟨h3, rfl⟩, dsk_shut (mb := mb) hD.offd (own_rot (file_shut (A := A) (c := c) ?_))⟩
          rw [h4] at ho; exact Gets.own gS ho
        · have e : appendD D n s = (0, { stepD D with files := setF (stepD D).files n { x with bytes := x.bytes ++ s } }) := by simp [appendD, h, h1, hl, h0, stepD]
          rw [e]
          refine (app_1_o d mb b A c x D f n s (filesM (T1 ++ T2) :: Fr) (fun R => ∃ A' c', R = blk b 84 (fcells A' c' { x with bytes := x.bytes ++ s }) :: sl A' (x.bytes ++ s).length c' 5 1 (bv (x.bytes ++ s)) :: blk d 74 (dcells mb (stepD D)) :: mpf mb .string (updV f (str n) (some (.pointer (some ⟨b, 0, none⟩)))) :: filesM (T1 ++ T2) :: Fr) h h2 (by omega) h0 hD.ok.fuse hs (fun A' c' => ⟨A', c', rfl⟩)).out ?_
          rintro v Rs' w ⟨h3, A', c', rfl⟩ ho
          rw [updV_same h2] at ho
          have hD' := hD.stp.repl { x with bytes := x.bytes ++ s } ⟨by have := hx.1; simp only [List.length_append] at *; omega, by simp only [List.length_append]; omega, hfine⟩
          refine ⟨_, ⟨h3, rfl⟩, dsk_shut (mb := mb) hD' (own_rot (file_shut (A := A') (c := c') ?_))⟩
          exact Gets.own gS ho
  · have e : appendD D n s = (readyE D n, D) := by simp [appendD, h]
    rw [e]
    exact (app_bad d mb D n s (mpf mb .string f :: filesM T :: Fr) h).out fun v Rs' w ⟨h3, h4⟩ ho => ⟨_, ⟨h3, rfl⟩, dsk_shut hD (h4 ▸ ho)⟩
end Go.Proofs.YtcmdmhmgffjknaaGreatDoor

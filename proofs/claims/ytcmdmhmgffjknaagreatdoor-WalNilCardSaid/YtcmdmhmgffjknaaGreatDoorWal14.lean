/- The drive's functions: 102, 62, 88, 48, 63, 32. -/
import Derived.Test.YtcmdmhmgffjknaaGreatDoorFacts
import Derived.Test.YtcmdmhmgffjknaaGreatDoorWal13
namespace Go.Proofs.YtcmdmhmgffjknaaGreatDoor
open Go.Sx
set_option linter.unusedVariables false

theorem known1_tr {W0 : World} (b5 b8 b g : Nat) (gcap : List Value) (R : List HP) (Q : List HP → Prop) (hg : Tr W0 Tryz.prog g (.pointer (some ⟨b, 0, none⟩) :: gcap) R (fun v Rs' => Q Rs')) :
    Tr W0 Tryz.prog 102 [.pointer (some ⟨b5, 0, none⟩), .pointer (some ⟨b8, 0, none⟩)] (blk b5 108 [.func (.func g) #[] gcap.toArray] :: blk b8 79 [.pointer (some ⟨b, 0, none⟩)] :: R) (fun v Rs' => Q Rs') := by
  refine Entry.tr (N := 5) (rs := []) ⟨_, Tryz.func102, rfl, by kernel_rfl, rfl, rfl⟩ rfl ?_
  refine XC.region ?_
  refine x_v (r_ld ty108 rfl pK (by rfl)) rfl ?_
  refine x_v (r_ld ty79 rfl pK (by rfl)) rfl ?_
  refine x_c (r_call (fst := []) (cap := gcap) (vs := [.pointer (some ⟨b, 0, none⟩)]) rfl ⟨rfl, rfl⟩ rfl hg gS) rfl ?_
  rintro _ Rs2 hq
  refine XL.nil ?_
  exact fin0 (hq) gS
theorem known_bad {W0 : World} (d mb : Nat) (D : Dk) (n : List UInt8) (g : Value) (Fr : List HP) (hg : g.cells = [g].toArray) (h : readyE D n ≠ 0) : Tr W0 Tryz.prog 62 [.pointer (some ⟨d, 0, none⟩), str n, g] (blk d 74 (dcells mb D) :: Fr) (fun v Rs' => v = .int .i64 (readyE D n) ∧ Rs' = blk d 74 (dcells mb D) :: Fr) := by
  refine Entry.tr (N := 30) (rs := [.tmp 6]) ⟨_, Tryz.func62, rfl, by kernel_rfl, rfl, rfl⟩ rfl ?_
  refine XC.seq fun K1 hK1 => ?_
  refine XC.region ?_
  refine x_a (r_bx rfl hg) rfl fun b5 => ?_
  refine x_v (r_as rfl) rfl ?_
  refine XL.nil ?_
  refine hK1 _ _ ?_
  refine XC.keep [(0, _), (1, _), (5, _)] ⟨rfl, rfl, rfl, trivial⟩ ?_
  refine XC.seq fun K2 hK2 => ?_
  refine XC.seq fun K3 hK3 => ?_
  refine XC.region ?_
  refine x_v (r_mv rfl) rfl ?_
  refine x_v (r_mv rfl) rfl ?_
  refine x_c (r_call0 (args := [_, _]) ⟨rfl, rfl, rfl⟩ (ready_tr d mb D n Fr) gS) rfl ?_
  rintro _ _ ⟨rfl, hRs⟩
  rw [hRs]
  refine x_v (r_as rfl) rfl ?_
  refine XL.nil ?_
  refine hK3 _ _ ?_
  refine XC.keep [(0, _), (1, _), (5, _), (7, _)] ⟨rfl, rfl, rfl, rfl, trivial⟩ ?_
  refine XC.seq fun K4 hK4 => ?_
  refine XC.region ?_
  refine x_v (r_mv rfl) rfl ?_
  refine x_v (r_ne rfl rfl) rfl ?_
  refine XL.nil ?_
  refine hK4 _ _ ?_
  refine XC.keep [(0, _), (1, _), (5, _), (7, _), (14, _)] ⟨rfl, rfl, rfl, rfl, rfl, trivial⟩ ?_
  refine XC.cond_d rfl (fun hc1 => ?_) (fun hc1 => ?_)
  · refine XC.seq fun K5 hK5 => ?_
    refine XC.region ?_
    refine x_v (r_mv rfl) rfl ?_
    refine x_v (r_as rfl) rfl ?_
    refine XL.nil ?_
    refine hK5 _ _ ?_
    refine XC.keep [(6, _)] ⟨rfl, trivial⟩ ?_
    refine XC.ret ?_
    exact fin1 rfl (⟨rfl, rfl⟩) gS
  · exfalso; omega
theorem known_none {W0 : World} (d mb : Nat) (D : Dk) (f : Value → Option Value) (n : List UInt8) (g : Value) (Fr : List HP) (hg : g.cells = [g].toArray) (h : readyE D n = 0) (hf : f (str n) = none) : Tr W0 Tryz.prog 62 [.pointer (some ⟨d, 0, none⟩), str n, g] (blk d 74 (dcells mb D) :: mpf mb .string f :: Fr) (fun v Rs' => v = .int .i64 51 ∧ Rs' = blk d 74 (dcells mb D) :: mpf mb .string f :: Fr) := by
  refine Entry.tr (N := 30) (rs := [.tmp 6]) ⟨_, Tryz.func62, rfl, by kernel_rfl, rfl, rfl⟩ rfl ?_
  refine XC.seq fun K1 hK1 => ?_
  refine XC.region ?_
  refine x_a (r_bx rfl hg) rfl fun b5 => ?_
  refine x_v (r_as rfl) rfl ?_
  refine XL.nil ?_
  refine hK1 _ _ ?_
  refine XC.keep [(0, _), (1, _), (5, _)] ⟨rfl, rfl, rfl, trivial⟩ ?_
  refine XC.seq fun K2 hK2 => ?_
  refine XC.seq fun K3 hK3 => ?_
  refine XC.region ?_
  refine x_v (r_mv rfl) rfl ?_
  refine x_v (r_mv rfl) rfl ?_
  refine x_c (r_call0 (args := [_, _]) ⟨rfl, rfl, rfl⟩ (ready_tr d mb D n (mpf mb .string f :: Fr)) gS) rfl ?_
  rintro _ _ ⟨rfl, hRs⟩
  rw [hRs]
  refine x_v (r_as rfl) rfl ?_
  refine XL.nil ?_
  refine hK3 _ _ ?_
  refine XC.keep [(0, _), (1, _), (5, _), (7, _)] ⟨rfl, rfl, rfl, rfl, trivial⟩ ?_
  refine XC.seq fun K4 hK4 => ?_
  refine XC.region ?_
  refine x_v (r_mv rfl) rfl ?_
  refine x_v (r_ne rfl rfl) rfl ?_
  refine XL.nil ?_
  refine hK4 _ _ ?_
  refine XC.keep [(0, _), (1, _), (5, _), (7, _), (14, _)] ⟨rfl, rfl, rfl, rfl, rfl, trivial⟩ ?_
  refine XC.cond_d rfl (fun hc1 => ?_) (fun hc1 => ?_)
  · exfalso; omega
  · refine XC.skip ?_
    refine hK2 _ _ ?_
    refine XC.keep [(0, _), (1, _), (5, _)] ⟨rfl, rfl, rfl, trivial⟩ ?_
    refine XC.seq fun K5 hK5 => ?_
    unfold dcells
    refine XC.region ?_
    refine x_v (r_mv rfl) rfl ?_
    refine x_v (r_nc rfl) rfl ?_
    refine x_v (r_fa fo74_0 rfl) rfl ?_
    refine x_v (r_ld ty72 rfl pK (by rfl)) rfl ?_
    refine x_v (r_mv rfl) rfl ?_
    refine x_v (r_lk Tryz.underlying72 Tryz.underlying9 ty79 rfl rfl (isKey_str n) pK) rfl ?_
    rw [hf]
    refine x_v (r_mv rfl) rfl ?_
    refine x_v (r_ex rfl rfl) rfl ?_
    refine x_v (r_ex rfl rfl) rfl ?_
    refine x_a (r_al ty79 rfl) rfl fun b8 => ?_
    refine x_e (r_st ty79 rfl rfl rfl rfl rfl uD oV) ?_
    refine x_v (r_as rfl) rfl ?_
    refine XL.nil ?_
    refine hK5 _ _ ?_
    refine XC.keep [(0, _), (5, _), (8, _), (9, _)] ⟨rfl, rfl, rfl, rfl, trivial⟩ ?_
    refine XC.seq fun K6 hK6 => ?_
    refine XC.seq fun K7 hK7 => ?_
    refine XC.region ?_
    refine x_v (r_mv rfl) rfl ?_
    refine x_v (r_not rfl) rfl ?_
    refine XL.nil ?_
    refine hK7 _ _ ?_
    refine XC.keep [(0, _), (5, _), (8, _), (26, _)] ⟨rfl, rfl, rfl, rfl, trivial⟩ ?_
    refine XC.cond_t rfl ?_
    refine XC.seq fun K8 hK8 => ?_
    refine XC.region ?_
    refine x_v (r_as rfl) rfl ?_
    refine XL.nil ?_
    refine hK8 _ _ ?_
    refine XC.keep [(6, _)] ⟨rfl, trivial⟩ ?_
    refine XC.ret ?_
    exact fin1 rfl (⟨rfl, rfl⟩) gS
theorem known_0 {W0 : World} (d mb b : Nat) (D : Dk) (f : Value → Option Value) (n : List UInt8) (g : Value) (Fr : List HP) (hg : g.cells = [g].toArray) (h : readyE D n = 0) (hf : f (str n) = some (.pointer (some ⟨b, 0, none⟩))) (h0 : D.fuse = 0) : Tr W0 Tryz.prog 62 [.pointer (some ⟨d, 0, none⟩), str n, g] (blk d 74 (dcells mb D) :: mpf mb .string f :: Fr) (fun v Rs' => v = .int .i64 50 ∧ Rs' = blk d 74 (dcells mb { D with off := true }) :: mpf mb .string f :: Fr) := by
  refine Entry.tr (N := 30) (rs := [.tmp 6]) ⟨_, Tryz.func62, rfl, by kernel_rfl, rfl, rfl⟩ rfl ?_
  refine XC.seq fun K1 hK1 => ?_
  refine XC.region ?_
  refine x_a (r_bx rfl hg) rfl fun b5 => ?_
  refine x_v (r_as rfl) rfl ?_
  refine XL.nil ?_
  refine hK1 _ _ ?_
  refine XC.keep [(0, _), (1, _), (5, _)] ⟨rfl, rfl, rfl, trivial⟩ ?_
  refine XC.seq fun K2 hK2 => ?_
  refine XC.seq fun K3 hK3 => ?_
  refine XC.region ?_
  refine x_v (r_mv rfl) rfl ?_
  refine x_v (r_mv rfl) rfl ?_
  refine x_c (r_call0 (args := [_, _]) ⟨rfl, rfl, rfl⟩ (ready_tr d mb D n (blk b5 108 [g] :: mpf mb .string f :: Fr)) gS) rfl ?_
  rintro _ _ ⟨rfl, hRs⟩
  rw [hRs]
  refine x_v (r_as rfl) rfl ?_
  refine XL.nil ?_
  refine hK3 _ _ ?_
  refine XC.keep [(0, _), (1, _), (5, _), (7, _)] ⟨rfl, rfl, rfl, rfl, trivial⟩ ?_
  refine XC.seq fun K4 hK4 => ?_
  refine XC.region ?_
  refine x_v (r_mv rfl) rfl ?_
  refine x_v (r_ne rfl rfl) rfl ?_
  refine XL.nil ?_
  refine hK4 _ _ ?_
  refine XC.keep [(0, _), (1, _), (5, _), (7, _), (14, _)] ⟨rfl, rfl, rfl, rfl, rfl, trivial⟩ ?_
  refine XC.cond_d rfl (fun hc1 => ?_) (fun hc1 => ?_)
  · exfalso; omega
  · refine XC.skip ?_
    refine hK2 _ _ ?_
    refine XC.keep [(0, _), (1, _), (5, _)] ⟨rfl, rfl, rfl, trivial⟩ ?_
    refine XC.seq fun K5 hK5 => ?_
    unfold dcells
    refine XC.region ?_
    refine x_v (r_mv rfl) rfl ?_
    refine x_v (r_nc rfl) rfl ?_
    refine x_v (r_fa fo74_0 rfl) rfl ?_
    refine x_v (r_ld ty72 rfl pK (by rfl)) rfl ?_
    refine x_v (r_mv rfl) rfl ?_
    refine x_v (r_lk Tryz.underlying72 Tryz.underlying9 ty79 rfl rfl (isKey_str n) pK) rfl ?_
    rw [hf]
    refine x_v (r_mv rfl) rfl ?_
    refine x_v (r_ex rfl rfl) rfl ?_
    refine x_v (r_ex rfl rfl) rfl ?_
    refine x_a (r_al ty79 rfl) rfl fun b8 => ?_
    refine x_e (r_st ty79 rfl rfl rfl rfl rfl uD oV) ?_
    refine x_v (r_as rfl) rfl ?_
    refine XL.nil ?_
    refine hK5 _ _ ?_
    refine XC.keep [(0, _), (5, _), (8, _), (9, _)] ⟨rfl, rfl, rfl, rfl, trivial⟩ ?_
    refine XC.seq fun K6 hK6 => ?_
    refine XC.seq fun K7 hK7 => ?_
    refine XC.region ?_
    refine x_v (r_mv rfl) rfl ?_
    refine x_v (r_not rfl) rfl ?_
    refine XL.nil ?_
    refine hK7 _ _ ?_
    refine XC.keep [(0, _), (5, _), (8, _), (26, _)] ⟨rfl, rfl, rfl, rfl, trivial⟩ ?_
    refine XC.cond_f rfl ?_
    refine XC.skip ?_
    refine hK6 _ _ ?_
    refine XC.keep [(0, _), (5, _), (8, _)] ⟨rfl, rfl, rfl, trivial⟩ ?_
    refine XC.seq fun K8 hK8 => ?_
    change XC _ _ _ _ (blk b8 79 [.pointer (some ⟨b, 0, none⟩)] :: blk d 74 (dcells mb D) :: blk b5 108 [g] :: mpf mb .string f :: Fr)
    refine XC.region ?_
    refine x_v (r_mv rfl) rfl ?_
    refine x_v (r_mfv (cs := [_, _]) ⟨rfl, rfl, rfl⟩) rfl ?_
    refine x_c (r_call0 (args := [_, _]) ⟨rfl, rfl, rfl⟩ (step0_tr d mb D _ (mpf mb .string f :: Fr) h0) gS) rfl ?_
    rintro _ _ ⟨rfl, hRs⟩
    rw [hRs]
    refine x_v (r_as rfl) rfl ?_
    refine XL.nil ?_
    refine hK8 _ _ ?_
    refine XC.keep [(6, _)] ⟨rfl, trivial⟩ ?_
    refine XC.ret ?_
    exact fin1 rfl (⟨rfl, rfl⟩) gS
theorem known_1 {W0 : World} (d mb b gid : Nat) (gcap : List Value) (D : Dk) (f : Value → Option Value) (n : List UInt8) (Fr : List HP) (Q : List HP → Prop) (h : readyE D n = 0) (hf : f (str n) = some (.pointer (some ⟨b, 0, none⟩))) (h0 : D.fuse ≠ 0) (hfu : -1 ≤ D.fuse ∧ D.fuse < 9223372036854775808) (hs : D.steps ≤ 1000000000)
    (hg : Tr W0 Tryz.prog gid (.pointer (some ⟨b, 0, none⟩) :: gcap) (blk d 74 (dcells mb (stepD D)) :: mpf mb .string f :: Fr) (fun v Rs' => Q Rs')) :
    Tr W0 Tryz.prog 62 [.pointer (some ⟨d, 0, none⟩), str n, .func (.func gid) #[] gcap.toArray] (blk d 74 (dcells mb D) :: mpf mb .string f :: Fr) (fun v Rs' => v = .int .i64 0 ∧ Q Rs') := by
  refine Entry.tr (N := 30) (rs := [.tmp 6]) ⟨_, Tryz.func62, rfl, by kernel_rfl, rfl, rfl⟩ rfl ?_
  refine XC.seq fun K1 hK1 => ?_
  refine XC.region ?_
  refine x_a (r_bx rfl rfl) rfl fun b5 => ?_
  refine x_v (r_as rfl) rfl ?_
  refine XL.nil ?_
  refine hK1 _ _ ?_
  refine XC.keep [(0, _), (1, _), (5, _)] ⟨rfl, rfl, rfl, trivial⟩ ?_
  refine XC.seq fun K2 hK2 => ?_
  refine XC.seq fun K3 hK3 => ?_
  refine XC.region ?_
  refine x_v (r_mv rfl) rfl ?_
  refine x_v (r_mv rfl) rfl ?_
  refine x_c (r_call0 (args := [_, _]) ⟨rfl, rfl, rfl⟩ (ready_tr d mb D n (blk b5 108 [.func (.func gid) #[] gcap.toArray] :: mpf mb .string f :: Fr)) gS) rfl ?_
  rintro _ _ ⟨rfl, hRs⟩
  rw [hRs]
  refine x_v (r_as rfl) rfl ?_
  refine XL.nil ?_
  refine hK3 _ _ ?_
  refine XC.keep [(0, _), (1, _), (5, _), (7, _)] ⟨rfl, rfl, rfl, rfl, trivial⟩ ?_
  refine XC.seq fun K4 hK4 => ?_
  refine XC.region ?_
  refine x_v (r_mv rfl) rfl ?_
  refine x_v (r_ne rfl rfl) rfl ?_
  refine XL.nil ?_
  refine hK4 _ _ ?_
  refine XC.keep [(0, _), (1, _), (5, _), (7, _), (14, _)] ⟨rfl, rfl, rfl, rfl, rfl, trivial⟩ ?_
  refine XC.cond_d rfl (fun hc1 => ?_) (fun hc1 => ?_)
  · exfalso; omega
  · refine XC.skip ?_
    refine hK2 _ _ ?_
    refine XC.keep [(0, _), (1, _), (5, _)] ⟨rfl, rfl, rfl, trivial⟩ ?_
    refine XC.seq fun K5 hK5 => ?_
    unfold dcells
    refine XC.region ?_
    refine x_v (r_mv rfl) rfl ?_
    refine x_v (r_nc rfl) rfl ?_
    refine x_v (r_fa fo74_0 rfl) rfl ?_
    refine x_v (r_ld ty72 rfl pK (by rfl)) rfl ?_
    refine x_v (r_mv rfl) rfl ?_
    refine x_v (r_lk Tryz.underlying72 Tryz.underlying9 ty79 rfl rfl (isKey_str n) pK) rfl ?_
    rw [hf]
    refine x_v (r_mv rfl) rfl ?_
    refine x_v (r_ex rfl rfl) rfl ?_
    refine x_v (r_ex rfl rfl) rfl ?_
    refine x_a (r_al ty79 rfl) rfl fun b8 => ?_
    refine x_e (r_st ty79 rfl rfl rfl rfl rfl uD oV) ?_
    refine x_v (r_as rfl) rfl ?_
    refine XL.nil ?_
    refine hK5 _ _ ?_
    refine XC.keep [(0, _), (5, _), (8, _), (9, _)] ⟨rfl, rfl, rfl, rfl, trivial⟩ ?_
    refine XC.seq fun K6 hK6 => ?_
    refine XC.seq fun K7 hK7 => ?_
    refine XC.region ?_
    refine x_v (r_mv rfl) rfl ?_
    refine x_v (r_not rfl) rfl ?_
    refine XL.nil ?_
    refine hK7 _ _ ?_
    refine XC.keep [(0, _), (5, _), (8, _), (26, _)] ⟨rfl, rfl, rfl, rfl, trivial⟩ ?_
    refine XC.cond_f rfl ?_
    refine XC.skip ?_
    refine hK6 _ _ ?_
    refine XC.keep [(0, _), (5, _), (8, _)] ⟨rfl, rfl, rfl, trivial⟩ ?_
    refine XC.seq fun K8 hK8 => ?_
    change XC _ _ _ _ (blk b8 79 [.pointer (some ⟨b, 0, none⟩)] :: blk d 74 (dcells mb D) :: blk b5 108 [.func (.func gid) #[] gcap.toArray] :: mpf mb .string f :: Fr)
    refine XC.region ?_
    refine x_v (r_mv rfl) rfl ?_
    refine x_v (r_mfv (cs := [_, _]) ⟨rfl, rfl, rfl⟩) rfl ?_
    refine x_c (r_call0 (args := [_, _]) ⟨rfl, rfl, rfl⟩ (step1_tr d mb D 102 [.pointer (some ⟨b5, 0, none⟩), .pointer (some ⟨b8, 0, none⟩)] (blk b5 108 [.func (.func gid) #[] gcap.toArray] :: blk b8 79 [.pointer (some ⟨b, 0, none⟩)] :: mpf mb .string f :: Fr) Q h0 hfu hs (Tr.pre gS (known1_tr b5 b8 b gid gcap (blk d 74 (dcells mb (stepD D)) :: mpf mb .string f :: Fr) Q hg))) gS) rfl ?_
    rintro _ _ ⟨rfl, hq⟩
    refine x_v (r_as rfl) rfl ?_
    refine XL.nil ?_
    refine hK8 _ _ ?_
    refine XC.keep [(6, _)] ⟨rfl, trivial⟩ ?_
    refine XC.ret ?_
    exact fin1 rfl (⟨rfl, hq⟩) gS
theorem sync1_tr {W0 : World} (b : Nat) (A : Option Addr) (c : Nat) (x : Fi) (Fr : List HP) : Tr W0 Tryz.prog 88 [.pointer (some ⟨b, 0, none⟩)] (blk b 84 (fcells A c x) :: Fr) (fun v Rs' => v = .tuple #[] ∧ Rs' = blk b 84 (fcells A c ⟨x.bytes, x.bytes.length, true⟩) :: Fr) := by
  unfold fcells
  refine Entry.tr (N := 9) (rs := []) ⟨_, Tryz.func88, rfl, by kernel_rfl, rfl, rfl⟩ rfl ?_
  refine XC.seq fun K1 hK1 => ?_
  refine XC.region ?_
  refine x_v (r_mv rfl) rfl ?_
  refine x_v (r_nc rfl) rfl ?_
  refine x_v (r_fa fo84_0 rfl) rfl ?_
  refine x_c (r_call0 (args := [_]) ⟨rfl, rfl⟩ (settle_tr b A x.bytes.length c x.sure x.old Fr) gS) rfl ?_
  rintro _ _ ⟨rfl, hRs⟩
  rw [hRs]
  refine XL.nil ?_
  refine hK1 _ _ ?_
  refine XC.keep [(0, _)] ⟨rfl, trivial⟩ ?_
  refine XC.region ?_
  refine x_v (r_mv rfl) rfl ?_
  refine x_v (r_nc rfl) rfl ?_
  refine x_v (r_fa fo84_1 rfl) rfl ?_
  refine x_e (r_st ty4 rfl rfl rfl rfl rfl uD oV) ?_
  refine XL.nil ?_
  exact fin0 (⟨rfl, rfl⟩) gS
theorem remove1_tr {W0 : World} (d mb b b2 b3 : Nat) (D : Dk) (f : Value → Option Value) (n : List UInt8) (Fr : List HP) : Tr W0 Tryz.prog 63 [.pointer (some ⟨b, 0, none⟩), .pointer (some ⟨b2, 0, none⟩), .pointer (some ⟨b3, 0, none⟩)] (blk d 74 (dcells mb D) :: mpf mb .string f :: blk b2 38 [.pointer (some ⟨d, 0, none⟩)] :: blk b3 9 [str n] :: Fr) (fun v Rs' => Rs' = blk d 74 (dcells mb D) :: mpf mb .string (updV f (str n) none) :: Fr) := by
  unfold dcells
  refine Entry.tr (N := 9) (rs := []) ⟨_, Tryz.func63, rfl, by kernel_rfl, rfl, rfl⟩ rfl ?_
  refine XC.draw (blk d 74 [.map (some mb), .int .i64 D.fuse, .bool D.off, .int .i64 (D.steps : Int)] :: blk b2 38 [.pointer (some ⟨d, 0, none⟩)] :: blk b3 9 [str n] :: []) true [(0, false), (1, false), (2, false), (3, false), (4, false), (5, true)] (by kernel_rfl) (by kernel_rfl) ?_
  refine y_v rfl (r_ld ty38 rfl pK (by rfl)) gT rfl ?_
  refine y_v rfl (r_nc rfl) gT rfl ?_
  refine y_v rfl (r_fa fo74_0 rfl) gT rfl ?_
  refine y_v rfl (r_ld ty72 rfl pK (by rfl)) gT rfl ?_
  refine y_v rfl (r_ld ty9 rfl pK (by rfl)) gT rfl ?_
  refine y_e rfl (r_del (updV f (str n) none) Tryz.underlying72 Tryz.underlying9 rfl rfl (isKey_str n) (updV_at _ _ _) (updV_else _ _ _) uD) (fun h => absurd h (by decide)) ?_
  refine XH.nil ?_
  exact fin0 (rfl) gS
end Go.Proofs.YtcmdmhmgffjknaaGreatDoor

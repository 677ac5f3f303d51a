/- Frames: functions 33, 57, 31. -/
import Derived.Test.YtcmdmhmgffjknaaGreatDoorFacts
import Derived.Test.YtcmdmhmgffjknaaGreatDoorWal6
namespace Go.Proofs.YtcmdmhmgffjknaaGreatDoor
open Go.Sx
set_option linter.unusedVariables false

def le4 (r : BitVec 32) : List UInt8 := [⟨r.setWidth 8⟩, ⟨(r >>> 8).setWidth 8⟩, ⟨(r >>> 16).setWidth 8⟩, ⟨(r >>> 24).setWidth 8⟩]
def frameB (p : List UInt8) : List UInt8 := vb (2 * p.length) ++ (le4 (crcS p) ++ p)
def sealB (ps : List (List UInt8)) : List UInt8 := ps.flatMap frameB
theorem numsB_one (n : Nat) : numsB [n] = vb (2 * n) := by simp [numsB]
theorem frameB_len (p : List UInt8) : (frameB p).length = (vb (2 * p.length)).length + 4 + p.length := by simp [frameB, le4]; omega

theorem seal_tr0 {W0 : World} (A0 : Option Addr) (c0 : Nat) (ps : List (List UInt8)) (hr : Rdb W0 [] A0 ps.length 1 (cells sv ps)) (hm : ∀ p ∈ ps, p.length ≤ 1048576) (hl : (sealB ps).length ≤ maxS) (hn : ps.length ≤ maxS) :
    Tr W0 Tryz.prog 33 [.slice A0 ps.length c0] [] (fun u Rs' => u = .tuple #[str (sealB ps), .int .i64 0] ∧ Rs' = []) := by
  have hmax : maxS = 140737488355328 := rfl
  refine Entry.tr (N := 42) (rs := [.tmp 2, .tmp 3]) ⟨_, Tryz.func33, rfl, by kernel_rfl, rfl, rfl⟩ rfl ?_
  refine XC.seq fun K1 hK1 => ?_
  refine XC.region ?_
  refine x_v (r_as rfl) rfl ?_
  refine x_v (r_as rfl) rfl ?_
  refine XL.nil ?_
  refine hK1 _ _ ?_
  refine XC.keep [(0, _)] ⟨rfl, trivial⟩ ?_
  refine XC.seq fun K2 hK2 => ?_
  refine XC.region ?_
  refine x_a (r_al ty111 rfl) rfl fun b4 => ?_
  refine XL.nil_ 5 1 ?_
  refine XL.mem (blk b4 111 [.pointer none, .slice none 0 0] :: sl none 0 0 5 1 [] :: []) gT ?_
  refine XL.nil ?_
  refine hK2 _ _ ?_
  refine XC.keep [(0, _), (4, _)] ⟨rfl, rfl, trivial⟩ ?_
  refine XC.seq fun K3 hK3 => ?_
  refine XC.seq fun K4 hK4 => ?_
  refine XC.region ?_
  refine x_v (r_mv rfl) rfl ?_
  refine x_v (r_lensl Tryz.underlying22 rfl) rfl ?_
  refine x_v (r_mv rfl) rfl ?_
  refine XL.nil ?_
  refine hK4 _ _ ?_
  refine XC.keep [(4, _), (8, _), (9, _), (10, _)] ⟨rfl, rfl, rfl, rfl, trivial⟩ ?_
  refine XC.block ?_
  refine XC.loop (σ := Nat × Option Addr × Option Addr × Nat) (fun s => [(4, .pointer (some ⟨b4, 0, none⟩)), (8, .slice A0 ps.length c0), (9, .int .i64 (ps.length : Int)), (10, .int .i64 (s.1 : Int))]) (fun s => blk b4 111 [.pointer s.2.1, .slice s.2.2.1 (sealB (ps.take s.1)).length s.2.2.2] :: sl s.2.2.1 (sealB (ps.take s.1)).length s.2.2.2 5 1 (bv (sealB (ps.take s.1))) :: []) (fun s => (s.2.1 = none ∨ s.2.1 = some ⟨b4, 0, none⟩) ∧ s.1 ≤ ps.length) (fun s => ps.length - s.1) (0, none, none, 0) ?_ ⟨rfl, rfl, rfl, rfl, trivial⟩ gS ?_
  · exact ⟨.inl rfl, Nat.zero_le _⟩
  rintro ⟨i, p, A, c⟩ ⟨hp, hi⟩
  dsimp only at hp hi ⊢
  refine XC.seq fun K5 hK5 => ?_
  refine XC.region ?_
  refine x_v (r_lt rfl rfl) rfl ?_
  refine XL.nil ?_
  refine hK5 _ _ ?_
  refine XC.keep [(4, _), (8, _), (9, _), (10, _), (11, _)] ⟨rfl, rfl, rfl, rfl, rfl, trivial⟩ ?_
  refine XC.seq fun K6 hK6 => ?_
  refine XC.cond_d rfl (fun hc1 => ?_) (fun hc1 => ?_)
  · refine XC.skip ?_
    refine hK6 _ _ ?_
    refine XC.keep [(4, _), (8, _), (9, _), (10, _)] ⟨rfl, rfl, rfl, rfl, trivial⟩ ?_
    refine XC.seq fun K7 hK7 => ?_
    refine XC.block ?_
    refine XC.seq fun K8 hK8 => ?_
    obtain ⟨x, hx⟩ : ∃ x, ps[i]? = some x := ⟨_, List.getElem?_eq_getElem (by omega)⟩
    have hxm := hm x (List.mem_of_getElem? hx)
    obtain ⟨ob, oo, rfl, hat⟩ := hr.at_ (by omega)
    have hsn : sealB (ps.take i) ++ (vb (2 * x.length) ++ (le4 (crcS x) ++ x)) = sealB (ps.take (i + 1)) := (flat_snoc _ ps i x hx).symm
    have hln : (sealB (ps.take (i + 1))).length ≤ (sealB ps).length := flat_le frameB ps (i + 1)
    have hlx : (sealB (ps.take i)).length + (vb (2 * x.length)).length + 4 + x.length = (sealB (ps.take (i + 1))).length := by rw [← hsn]; simp [le4]; omega
    have hvt := vb_ten (z := 2 * x.length) (by omega)
    refine XC.region ?_
    refine x_v (r_ia (k := i) Tryz.underlying22 ty9 rfl rfl (by omega) (by omega)) rfl ?_
    refine x_v (r_ldr (v := str x) ty9 rfl (fun w hw => hat w (Gets.own gS hw) (i * 1) _ (by rw [Nat.mul_one]; exact sv_get hx))) rfl ?_
    refine x_v (r_as rfl) rfl ?_
    refine XL.nil ?_
    refine hK8 _ _ ?_
    refine XC.keep [(4, _), (6, _), (8, _), (9, _), (10, _)] ⟨rfl, rfl, rfl, rfl, rfl, trivial⟩ ?_
    refine XC.seq fun K9 hK9 => ?_
    refine XC.seq fun K10 hK10 => ?_
    refine XC.region ?_
    refine x_v (r_mv rfl) rfl ?_
    refine x_v (r_lens Tryz.underlying9 rfl) rfl ?_
    refine x_v (r_gt rfl rfl) rfl ?_
    refine XL.nil ?_
    refine hK10 _ _ ?_
    refine XC.keep [(4, _), (6, _), (8, _), (9, _), (10, _), (16, _)] ⟨rfl, rfl, rfl, rfl, rfl, rfl, trivial⟩ ?_
    refine XC.cond_d rfl (fun hc2 => ?_) (fun hc2 => ?_)
    · exfalso; omega
    · refine XC.skip ?_
      refine hK9 _ _ ?_
      refine XC.keep [(4, _), (6, _), (8, _), (9, _), (10, _)] ⟨rfl, rfl, rfl, rfl, rfl, trivial⟩ ?_
      refine XC.seq fun K11 hK11 => ?_
      refine XC.region ?_
      refine x_v (r_mv rfl) rfl ?_
      refine x_v (r_lens Tryz.underlying9 rfl) rfl ?_
      refine x_a (r_bs (vs := [_]) rfl ⟨rfl, rfl⟩ (bs25_1_0 _)) rfl fun b19 => ?_
      refine x_c (r_call0 (args := [_]) ⟨rfl, rfl⟩ (nums_tr (Fr := [blk b4 111 [.pointer p, .slice A (sealB (ps.take i)).length c], sl A (sealB (ps.take i)).length c 5 1 (bv (sealB (ps.take i))), blk b19 3 [.int .i64 (x.length : Int)]]) (some ⟨b19, 0, none⟩) 1 [x.length] (Rdb.of_blk (cs := [.int .i64 (x.length : Int)]) (xs := [.int .i64 (x.length : Int)]) pK 0 rfl (fun j u hu => by simpa using hu)) (by simp; omega) (by rw [numsB_one]; omega) (by simp; omega)) gS) rfl ?_
      rintro _ _ ⟨hv, hRs⟩
      rw [numsB_one] at hv
      subst hv
      rw [hRs]
      refine x_c (r_call0 (args := [_, _]) ⟨rfl, rfl, rfl⟩ (wstr_tr b4 p A c (sealB (ps.take i)).length (bv (sealB (ps.take i))) (vb (2 * x.length)) [] hp (by omega)) gS) rfl ?_
      rintro _ _ ⟨rfl, A21, c21, hRs⟩
      rw [hRs]
      refine XL.nil ?_
      refine hK11 _ _ ?_
      refine XC.keep [(4, _), (6, _), (8, _), (9, _), (10, _)] ⟨rfl, rfl, rfl, rfl, rfl, trivial⟩ ?_
      refine XC.seq fun K12 hK12 => ?_
      refine XC.region ?_
      refine x_v (r_mv rfl) rfl ?_
      refine x_a (r_bs (vs := [_]) rfl ⟨rfl, rfl⟩ (bs22_1_0 _)) rfl fun b23 => ?_
      refine x_c (r_call0 (args := [_]) ⟨rfl, rfl⟩ (sum_tr (Fr := [blk b4 111 [.pointer (some ⟨b4, 0, none⟩), .slice A21 ((sealB (ps.take i)).length + (vb (2 * x.length)).length) c21], sl A21 ((sealB (ps.take i)).length + (vb (2 * x.length)).length) c21 5 1 (bv (sealB (ps.take i)) ++ bv (vb (2 * x.length))), blk b23 9 [str x]]) (some ⟨b23, 0, none⟩) 1 [x] (Rdb.of_blk (cs := [str x]) (xs := [str x]) pK 0 rfl (fun j u hu => by simpa using hu)) (by simp; omega) (by simp; omega)) gS) rfl ?_
      rintro _ _ ⟨hv, hRs⟩
      rw [show crcM 0#32 [x] = crcS x from rfl] at hv
      subst hv
      rw [hRs]
      refine x_v (r_as rfl) rfl ?_
      refine XL.nil ?_
      refine hK12 _ _ ?_
      refine XC.keep [(4, _), (6, _), (7, _), (8, _), (9, _), (10, _)] ⟨rfl, rfl, rfl, rfl, rfl, rfl, trivial⟩ ?_
      refine XC.seq fun K13 hK13 => ?_
      refine XC.region ?_
      refine x_v (r_mv rfl) rfl ?_
      refine x_v (r_bcv (k := .u32) (k' := .u8) rfl (crcS x) Tryz.underlying112 Tryz.underlying5 rfl) rfl ?_
      refine x_v (r_mv rfl) rfl ?_
      refine x_v (r_bshr (k := .u32) 8 (by decide) (crcS x) rfl rfl) rfl ?_
      refine x_v (r_bcv (k := .u32) (k' := .u8) rfl (crcS x >>> 8) Tryz.underlying112 Tryz.underlying5 rfl) rfl ?_
      refine x_v (r_mv rfl) rfl ?_
      refine x_v (r_bshr (k := .u32) 16 (by decide) (crcS x) rfl rfl) rfl ?_
      refine x_v (r_bcv (k := .u32) (k' := .u8) rfl (crcS x >>> 16) Tryz.underlying112 Tryz.underlying5 rfl) rfl ?_
      refine x_v (r_mv rfl) rfl ?_
      refine x_v (r_bshr (k := .u32) 24 (by decide) (crcS x) rfl rfl) rfl ?_
      refine x_v (r_bcv (k := .u32) (k' := .u8) rfl (crcS x >>> 24) Tryz.underlying112 Tryz.underlying5 rfl) rfl ?_
      refine x_a (r_bs (vs := [_, _, _, _]) rfl ⟨rfl, rfl, rfl, rfl, rfl⟩ (bs80_4_0_1_2_3 _ _ _ _)) rfl fun b36 => ?_
      refine x_c (r_call0 (args := [_, _]) ⟨rfl, rfl, rfl⟩ (write_tr b4 (some ⟨b4, 0, none⟩) A21 (some ⟨b36, 0, none⟩) c21 ((sealB (ps.take i)).length + (vb (2 * x.length)).length) 4 4 (bv (sealB (ps.take i)) ++ bv (vb (2 * x.length))) (bv (le4 (crcS x))) [blk b36 5 (bv (le4 (crcS x)))] (.inr rfl) (by omega) rfl (Rdb.of_blk (cs := bv (le4 (crcS x))) pK 0 rfl (fun j u hu => by simpa using hu))) gS) rfl ?_
      rintro _ _ ⟨rfl, A37, c37, hRs⟩
      rw [hRs]
      refine XL.nil ?_
      refine hK13 _ _ ?_
      refine XC.keep [(4, _), (6, _), (8, _), (9, _), (10, _)] ⟨rfl, rfl, rfl, rfl, rfl, trivial⟩ ?_
      refine XC.region ?_
      refine x_v (r_mv rfl) rfl ?_
      refine x_c (r_call0 (args := [_, _]) ⟨rfl, rfl, rfl⟩ (wstr_tr b4 (some ⟨b4, 0, none⟩) A37 c37 ((sealB (ps.take i)).length + (vb (2 * x.length)).length + 4) (bv (sealB (ps.take i)) ++ bv (vb (2 * x.length)) ++ bv (le4 (crcS x))) x [] (.inr rfl) (by omega)) gS) rfl ?_
      rintro _ _ ⟨rfl, A39, c39, hRs⟩
      refine XL.nil ?_
      refine hK7 _ _ ?_
      refine XC.keep [(4, _), (8, _), (9, _), (10, _)] ⟨rfl, rfl, rfl, rfl, trivial⟩ ?_
      refine XC.region ?_
      refine x_v (r_add rfl rfl (by omega)) rfl ?_
      refine x_v (r_mv rfl) rfl ?_
      refine XL.nil ?_
      rw [← bv_app, ← show bv (le4 (crcS x)) = _ from rfl, ← bv_app, ← bv_app, List.append_assoc, List.append_assoc, hsn, hlx] at hRs
      rw [hRs]
      refine ⟨(i + 1, some ⟨b4, 0, none⟩, A39, c39), ?_, ?_, ⟨rfl, rfl, rfl, rfl, trivial⟩, gS⟩
      · exact ⟨.inr rfl, by dsimp only; omega⟩
      · dsimp only; omega
  · refine XC.exit rfl ?_
    refine hK3 _ _ ?_
    refine XC.keep [(4, _)] ⟨rfl, trivial⟩ ?_
    refine XC.seq fun K14 hK14 => ?_
    obtain rfl : i = ps.length := by omega
    rw [List.take_of_length_le (Nat.le_refl _)]
    refine XC.region ?_
    refine x_c (r_call0 (args := [_]) ⟨rfl, rfl⟩ (string_tr b4 p A c _ (sealB ps) hp rfl) gS) rfl ?_
    rintro _ _ ⟨rfl, hRs⟩
    rw [hRs]
    refine x_v (r_as rfl) rfl ?_
    refine x_v (r_as rfl) rfl ?_
    refine XL.nil ?_
    refine hK14 _ _ ?_
    refine XC.keep [(2, _), (3, _)] ⟨rfl, rfl, trivial⟩ ?_
    refine XC.ret ?_
    exact fin2 rfl rfl (⟨rfl, rfl⟩) gS
theorem seal_th : ∃ fn c, Tryz.prog.funcs[33]? = some fn ∧ (fn.name == "runtime.NumGoroutine") = false ∧ fn.body = some c := ⟨_, _, Tryz.func33, by kernel_rfl, rfl⟩
theorem seal_tr {W0 : World} {Fr : List HP} (A0 : Option Addr) (c0 : Nat) (ps : List (List UInt8)) (hr : Rdb W0 Fr A0 ps.length 1 (cells sv ps)) (hm : ∀ p ∈ ps, p.length ≤ 1048576) (hl : (sealB ps).length ≤ maxS) (hn : ps.length ≤ maxS) :
    Tr W0 Tryz.prog 33 [.slice A0 ps.length c0] Fr (fun u Rs' => u = .tuple #[str (sealB ps), .int .i64 0] ∧ Rs' = Fr) :=
  (Tr.frame seal_th fun w hw => seal_tr0 A0 c0 ps (hr.later Nat.one_pos hw []) hm hl hn).mono fun v Rs' ⟨R1, ⟨h1, h2⟩, h3⟩ => ⟨h1, by rw [h3, h2]; rfl⟩
end Go.Proofs.YtcmdmhmgffjknaaGreatDoor

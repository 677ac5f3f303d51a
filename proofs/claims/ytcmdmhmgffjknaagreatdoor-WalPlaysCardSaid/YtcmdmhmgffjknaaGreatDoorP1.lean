/- Checksums (crc): functions 65, 104. -/
import Derived.Test.YtcmdmhmgffjknaaGreatDoorFacts
import Derived.Test.YtcmdmhmgffjknaaGreatDoorYOps10
import Derived.Test.YtcmdmhmgffjknaaGreatDoorYOps11
import Derived.Test.YtcmdmhmgffjknaaGreatDoorShelf
import Derived.Shelf.SlIter.Nil
import Derived.Shelf.SortM.Plain
import Derived.Shelf.SortM.SortNone
import Derived.Test.YtcmdmhmgffjknaaGreatDoorKeys
import Derived.Laws.RangeString
import Derived.Laws.RangeAny
import Derived.Shelf.Strings.FuncGrows
namespace Go.Proofs.YtcmdmhmgffjknaaGreatDoor
open Go.Sx
set_option linter.unusedVariables false

def sv (p : List UInt8) : List Value := [str p]
theorem sv_len (p : List UInt8) : (sv p).length = 1 := rfl
theorem sv_one (p : List UInt8) : (sv p).all (·.oneCell') = true := rfl
theorem sv_get {L : List (List UInt8)} {k : Nat} {p : List UInt8} (h : L[k]? = some p) : (cells sv L)[k]? = some (str p) := by
 have := cells_get sv_len L k p h 0 (str p) rfl
 simpa using this
def maxS : Nat := 140737488355328

/-! what a checksum is -/
def cstep (r : BitVec 32) : BitVec 32 := (r >>> 1) ^^^ (3988292384#32 &&& -(r &&& 1#32))
def csteps : Nat → BitVec 32 → BitVec 32
 | 0, r => r
 | k + 1, r => csteps k (cstep r)
def cbyte (r : BitVec 32) (c : UInt8) : BitVec 32 := csteps 8 (r ^^^ c.toBitVec.setWidth 32)
def crcM (sum : BitVec 32) (parts : List (List UInt8)) : BitVec 32 := ~~~(parts.foldl (fun r s => s.foldl cbyte r) (~~~sum))
def crcS (p : List UInt8) : BitVec 32 := crcM 0#32 [p]
theorem csteps_end (k : Nat) (r : BitVec 32) : csteps (k + 1) r = cstep (csteps k r) := by
 induction k generalizing r with
 | zero => rfl
 | succ k ih => rw [csteps, ih]; rfl
theorem foldl_snoc {α β : Type} (f : β → α → β) (b : β) (l : List α) (k : Nat) (x : α) (h : l[k]? = some x) : (l.take (k + 1)).foldl f b = f ((l.take k).foldl f b) x := by
 rw [List.take_add_one, h, List.foldl_append]; rfl

theorem more_tr {W0 : World} {Fr : List HP} (sum : BitVec 32) (A : Option Addr) (c : Nat) (parts : List (List UInt8)) (hr : Rdb W0 Fr A parts.length 1 (cells sv parts)) (hl : ∀ p ∈ parts, p.length ≤ maxS) (hn : parts.length ≤ maxS) :
  Tr W0 Tryz.prog 104 [.int .u32 (sum.toNat : Int), .slice A parts.length c] Fr (fun v Rs' => v = .int .u32 ((crcM sum parts).toNat : Int) ∧ Rs' = Fr) := by
 have hmax : maxS = 140737488355328 := rfl
 refine Entry.tr (N := 42) (rs := [.tmp 4]) ⟨_, Tryz.func104, rfl, by kernel_rfl, rfl, rfl⟩ rfl ?_
 refine XC.seq fun K1 hK1 => ?_
 refine XC.region ?_
 refine x_v (r_as rfl) rfl ?_
 refine XL.nil ?_
 refine hK1 _ _ ?_
 refine XC.keep [(0, _), (1, _)] ⟨rfl, rfl, trivial⟩ ?_
 refine XC.seq fun K2 hK2 => ?_
 refine XC.region ?_
 refine x_v (r_mv rfl) rfl ?_
 refine x_v (r_bnot32 sum rfl) rfl ?_
 refine x_v (r_as rfl) rfl ?_
 refine XL.nil ?_
 refine hK2 _ _ ?_
 refine XC.keep [(1, _), (5, _)] ⟨rfl, rfl, trivial⟩ ?_
 refine XC.seq fun K3 hK3 => ?_
 refine XC.seq fun K4 hK4 => ?_
 refine XC.region ?_
 refine x_v (r_mv rfl) rfl ?_
 refine x_v (r_lensl Tryz.underlying22 rfl) rfl ?_
 refine x_v (r_mv rfl) rfl ?_
 refine XL.nil ?_
 refine hK4 _ _ ?_
 refine XC.keep [(5, _), (11, _), (12, _), (13, _)] ⟨rfl, rfl, rfl, rfl, trivial⟩ ?_
 refine XC.block ?_
 refine XC.loop (σ := Nat × BitVec 32) (fun s => [(5, .int .u32 (s.2.toNat : Int)), (11, .slice A parts.length c), (12, .int .i64 (parts.length : Int)), (13, .int .i64 (s.1 : Int))]) (fun s => Fr) (fun s => s.1 ≤ parts.length ∧ s.2 = (parts.take s.1).foldl (fun r s => s.foldl cbyte r) (~~~sum)) (fun s => parts.length - s.1) (0, ~~~sum) ?_ ⟨rfl, rfl, rfl, rfl, trivial⟩ gS ?_
 ·exact ⟨Nat.zero_le _, rfl⟩
 rintro ⟨i, r⟩ ⟨hi, hr1⟩
 dsimp only at hi hr1 ⊢
 refine XC.seq fun K5 hK5 => ?_
 refine XC.region ?_
 refine x_v (r_lt rfl rfl) rfl ?_
 refine XL.nil ?_
 refine hK5 _ _ ?_
 refine XC.keep [(5, _), (11, _), (12, _), (13, _), (14, _)] ⟨rfl, rfl, rfl, rfl, rfl, trivial⟩ ?_
 refine XC.seq fun K6 hK6 => ?_
 refine XC.cond_d rfl (fun hc1 => ?_) (fun hc1 => ?_)
 ·refine XC.skip ?_
  refine hK6 _ _ ?_
  refine XC.keep [(5, _), (11, _), (12, _), (13, _)] ⟨rfl, rfl, rfl, rfl, trivial⟩ ?_
  refine XC.seq fun K7 hK7 => ?_
  refine XC.block ?_
  refine XC.seq fun K8 hK8 => ?_
  obtain ⟨p, hp⟩ : ∃ p, parts[i]? = some p := ⟨_, List.getElem?_eq_getElem (by omega)⟩
  have hpl := hl p (List.mem_of_getElem? hp)
  obtain ⟨ob, oo, rfl, hat⟩ := hr.at_ (by omega)
  refine XC.region ?_
  refine x_v (r_ia (k := i) Tryz.underlying22 ty9 rfl rfl (by omega) (by omega)) rfl ?_
  refine x_v (r_ldr ty9 rfl (fun w hw => hat w (Gets.own gS hw) (i * 1) _ (by rw [Nat.mul_one]; exact sv_get hp))) rfl ?_
  refine x_v (r_as rfl) rfl ?_
  refine XL.nil ?_
  refine hK8 _ _ ?_
  refine XC.keep [(5, _), (7, _), (11, _), (12, _), (13, _)] ⟨rfl, rfl, rfl, rfl, rfl, trivial⟩ ?_
  refine XC.seq fun K9 hK9 => ?_
  refine XC.region ?_
  refine x_v (r_mv rfl) rfl ?_
  refine x_v (r_lens Tryz.underlying9 rfl) rfl ?_
  refine x_v (r_mv rfl) rfl ?_
  refine XL.nil ?_
  refine hK9 _ _ ?_
  refine XC.keep [(5, _), (7, _), (11, _), (12, _), (13, _), (18, _), (19, _)] ⟨rfl, rfl, rfl, rfl, rfl, rfl, rfl, trivial⟩ ?_
  refine XC.block ?_
  refine XC.loop (σ := Nat × BitVec 32) (fun s => [(5, .int .u32 (s.2.toNat : Int)), (7, str p), (11, .slice (some ⟨ob, oo, none⟩) parts.length c), (12, .int .i64 (parts.length : Int)), (13, .int .i64 (i : Int)), (18, .int .i64 (p.length : Int)), (19, .int .i64 (s.1 : Int))]) (fun s => Fr) (fun s => s.1 ≤ p.length ∧ s.2 = (p.take s.1).foldl cbyte r) (fun s => p.length - s.1) (0, r) ?_ ⟨rfl, rfl, rfl, rfl, rfl, rfl, rfl, trivial⟩ gS ?_
  ·exact ⟨Nat.zero_le _, rfl⟩
  rintro ⟨j, r2⟩ ⟨hj, hr2⟩
  dsimp only at hj hr2 ⊢
  refine XC.seq fun K10 hK10 => ?_
  refine XC.region ?_
  refine x_v (r_lt rfl rfl) rfl ?_
  refine XL.nil ?_
  refine hK10 _ _ ?_
  refine XC.keep [(5, _), (7, _), (11, _), (12, _), (13, _), (18, _), (19, _), (20, _)] ⟨rfl, rfl, rfl, rfl, rfl, rfl, rfl, rfl, trivial⟩ ?_
  refine XC.seq fun K11 hK11 => ?_
  refine XC.cond_d rfl (fun hc2 => ?_) (fun hc2 => ?_)
  ·refine XC.skip ?_
   refine hK11 _ _ ?_
   refine XC.keep [(5, _), (7, _), (11, _), (12, _), (13, _), (18, _), (19, _)] ⟨rfl, rfl, rfl, rfl, rfl, rfl, rfl, trivial⟩ ?_
   refine XC.seq fun K12 hK12 => ?_
   refine XC.block ?_
   refine XC.seq fun K13 hK13 => ?_
   obtain ⟨x, hx⟩ : ∃ x, p[j]? = some x := ⟨_, List.getElem?_eq_getElem (by omega)⟩
   refine XC.region ?_
   refine x_v (r_mv rfl) rfl ?_
   refine x_v (r_as rfl) rfl ?_
   refine XL.nil ?_
   refine hK13 _ _ ?_
   refine XC.keep [(5, _), (7, _), (8, _), (11, _), (12, _), (13, _), (18, _), (19, _)] ⟨rfl, rfl, rfl, rfl, rfl, rfl, rfl, rfl, trivial⟩ ?_
   refine XC.seq fun K14 hK14 => ?_
   refine XC.region ?_
   refine x_v (r_mv rfl) rfl ?_
   refine x_v (r_mv rfl) rfl ?_
   refine x_v (r_mv rfl) rfl ?_
   refine x_v (r_six (k := j) Tryz.underlying9 rfl rfl (by omega) hx) rfl ?_
   refine x_v (r_bcv (k := .u8) (k' := .u32) rfl x.toBitVec Tryz.underlying5 Tryz.underlying112 rfl) rfl ?_
   refine x_v (r_bxor (k := .u32) rfl r2 (x.toBitVec.setWidth 32) rfl rfl) rfl ?_
   refine x_v (r_as rfl) rfl ?_
   refine XL.nil ?_
   refine hK14 _ _ ?_
   refine XC.keep [(5, _), (7, _), (11, _), (12, _), (13, _), (18, _), (19, _)] ⟨rfl, rfl, rfl, rfl, rfl, rfl, rfl, trivial⟩ ?_
   refine XC.seq fun K15 hK15 => ?_
   refine XC.region ?_
   refine x_v (r_mv rfl) rfl ?_
   refine XL.nil ?_
   refine hK15 _ _ ?_
   refine XC.keep [(5, _), (7, _), (11, _), (12, _), (13, _), (18, _), (19, _), (28, _)] ⟨rfl, rfl, rfl, rfl, rfl, rfl, rfl, rfl, trivial⟩ ?_
   refine XC.block ?_
   refine XC.loop (σ := Nat × BitVec 32) (fun s => [(5, .int .u32 (s.2.toNat : Int)), (7, str p), (11, .slice (some ⟨ob, oo, none⟩) parts.length c), (12, .int .i64 (parts.length : Int)), (13, .int .i64 (i : Int)), (18, .int .i64 (p.length : Int)), (19, .int .i64 (j : Int)), (28, .int .i64 (s.1 : Int))]) (fun s => Fr) (fun s => s.1 ≤ 8 ∧ s.2 = csteps s.1 (r2 ^^^ x.toBitVec.setWidth 32)) (fun s => 8 - s.1) (0, r2 ^^^ x.toBitVec.setWidth 32) ?_ ⟨rfl, rfl, rfl, rfl, rfl, rfl, rfl, rfl, trivial⟩ gS ?_
   ·exact ⟨Nat.zero_le _, rfl⟩
   rintro ⟨m, r3⟩ ⟨hm, hr3⟩
   dsimp only at hm hr3 ⊢
   refine XC.seq fun K16 hK16 => ?_
   refine XC.region ?_
   refine x_v (r_lt rfl rfl) rfl ?_
   refine XL.nil ?_
   refine hK16 _ _ ?_
   refine XC.keep [(5, _), (7, _), (11, _), (12, _), (13, _), (18, _), (19, _), (28, _), (29, _)] ⟨rfl, rfl, rfl, rfl, rfl, rfl, rfl, rfl, rfl, trivial⟩ ?_
   refine XC.seq fun K17 hK17 => ?_
   refine XC.cond_d rfl (fun hc3 => ?_) (fun hc3 => ?_)
   ·refine XC.skip ?_
    refine hK17 _ _ ?_
    refine XC.keep [(5, _), (7, _), (11, _), (12, _), (13, _), (18, _), (19, _), (28, _)] ⟨rfl, rfl, rfl, rfl, rfl, rfl, rfl, rfl, trivial⟩ ?_
    refine XC.seq fun K18 hK18 => ?_
    refine XC.block ?_
    refine XC.region ?_
    refine x_v (r_mv rfl) rfl ?_
    refine x_v (r_bshr (k := .u32) 1 (by decide) r3 rfl rfl) rfl ?_
    refine x_v (r_mv rfl) rfl ?_
    refine x_v (r_band (k := .u32) rfl r3 1#32 rfl rfl) rfl ?_
    refine x_v (r_bneg (k := .u32) rfl (r3 &&& 1#32) rfl) rfl ?_
    refine x_v (r_band (k := .u32) rfl 3988292384#32 (-(r3 &&& 1#32)) rfl rfl) rfl ?_
    refine x_v (r_bxor (k := .u32) rfl (r3 >>> 1) (3988292384#32 &&& -(r3 &&& 1#32)) rfl rfl) rfl ?_
    refine x_v (r_as rfl) rfl ?_
    refine XL.nil ?_
    refine hK18 _ _ ?_
    refine XC.keep [(5, _), (7, _), (11, _), (12, _), (13, _), (18, _), (19, _), (28, _)] ⟨rfl, rfl, rfl, rfl, rfl, rfl, rfl, rfl, trivial⟩ ?_
    refine XC.region ?_
    refine x_v (r_add rfl rfl (by omega)) rfl ?_
    refine x_v (r_mv rfl) rfl ?_
    refine XL.nil ?_
    refine ⟨(m + 1, cstep r3), ?_, ?_, ⟨rfl, rfl, rfl, rfl, rfl, rfl, rfl, rfl, trivial⟩, gS⟩
    ·exact ⟨by dsimp only; omega, by dsimp only; rw [csteps_end, ← hr3]⟩
    ·dsimp only; omega
   ·refine XC.exit rfl ?_
    refine hK12 _ _ ?_
    refine XC.keep [(5, _), (7, _), (11, _), (12, _), (13, _), (18, _), (19, _)] ⟨rfl, rfl, rfl, rfl, rfl, rfl, rfl, trivial⟩ ?_
    refine XC.region ?_
    refine x_v (r_add rfl rfl (by omega)) rfl ?_
    refine x_v (r_mv rfl) rfl ?_
    refine XL.nil ?_
    refine ⟨(j + 1, r3), ?_, ?_, ⟨rfl, rfl, rfl, rfl, rfl, rfl, rfl, trivial⟩, gS⟩
    ·exact ⟨by dsimp only; omega, by dsimp only; rw [foldl_snoc _ _ _ _ _ hx, ← hr2, hr3, show m = 8 by omega]; rfl⟩
    ·dsimp only; omega
  ·refine XC.exit rfl ?_
   refine hK7 _ _ ?_
   refine XC.keep [(5, _), (11, _), (12, _), (13, _)] ⟨rfl, rfl, rfl, rfl, trivial⟩ ?_
   refine XC.region ?_
   refine x_v (r_add rfl rfl (by omega)) rfl ?_
   refine x_v (r_mv rfl) rfl ?_
   refine XL.nil ?_
   refine ⟨(i + 1, r2), ?_, ?_, ⟨rfl, rfl, rfl, rfl, trivial⟩, gS⟩
   ·exact ⟨by dsimp only; omega, by dsimp only; rw [hr2, List.take_of_length_le (by omega), hr1, foldl_snoc _ _ _ _ _ hp]⟩
   ·dsimp only; omega
 ·refine XC.exit rfl ?_
  refine hK3 _ _ ?_
  refine XC.keep [(5, _)] ⟨rfl, trivial⟩ ?_
  refine XC.seq fun K19 hK19 => ?_
  refine XC.region ?_
  refine x_v (r_mv rfl) rfl ?_
  refine x_v (r_bnot32 r rfl) rfl ?_
  refine x_v (r_as rfl) rfl ?_
  refine XL.nil ?_
  refine hK19 _ _ ?_
  refine XC.keep [(4, _)] ⟨rfl, trivial⟩ ?_
  refine XC.ret ?_
  exact fin1 rfl (⟨by rw [hr1, List.take_of_length_le (by omega)]; rfl, rfl⟩) gS
theorem sum_tr {W0 : World} {Fr : List HP} (A : Option Addr) (c : Nat) (parts : List (List UInt8)) (hr : Rdb W0 Fr A parts.length 1 (cells sv parts)) (hl : ∀ p ∈ parts, p.length ≤ maxS) (hn : parts.length ≤ maxS) :
  Tr W0 Tryz.prog 65 [.slice A parts.length c] Fr (fun v Rs' => v = .int .u32 ((crcM 0#32 parts).toNat : Int) ∧ Rs' = Fr) := by
 refine Entry.tr (N := 5) (rs := [.tmp 2]) ⟨_, Tryz.func65, rfl, by kernel_rfl, rfl, rfl⟩ rfl ?_
 refine XC.seq fun K1 hK1 => ?_
 refine XC.region ?_
 refine x_v (r_as rfl) rfl ?_
 refine XL.nil ?_
 refine hK1 _ _ ?_
 refine XC.keep [(0, _)] ⟨rfl, trivial⟩ ?_
 refine XC.seq fun K2 hK2 => ?_
 refine XC.region ?_
 refine x_v (r_mv rfl) rfl ?_
 refine x_c (r_call0 (args := [_, _]) ⟨rfl, rfl, rfl⟩ (more_tr 0#32 A c parts hr hl hn) gS) rfl ?_
 rintro _ _ ⟨rfl, hRs⟩
 rw [hRs]
 refine x_v (r_as rfl) rfl ?_
 refine XL.nil ?_
 refine hK2 _ _ ?_
 refine XC.keep [(2, _)] ⟨rfl, trivial⟩ ?_
 refine XC.ret ?_
 exact fin1 rfl (⟨rfl, rfl⟩) gS
end Go.Proofs.YtcmdmhmgffjknaaGreatDoor
/- The builder of strings: functions 103, 105, 64, 66, 67. -/
namespace Go.Proofs.YtcmdmhmgffjknaaGreatDoor
open Go.Sx
set_option linter.unusedVariables false

/-- What copyCheck leaves: the builder knows itself. -/
theorem check_tr {W0 : World} (b : Nat) (p : Option Addr) (v : Value) (Fr : List HP) (hp : p = none ∨ p = some ⟨b, 0, none⟩) :
  Tr W0 Tryz.prog 103 [.pointer (some ⟨b, 0, none⟩)] (blk b 111 [.pointer p, v] :: Fr) (fun u Rs' => u = .tuple #[] ∧ Rs' = blk b 111 [.pointer (some ⟨b, 0, none⟩), v] :: Fr) := by
 obtain ⟨j, i1, i2, _, _⟩ := ty111.get
 rcases hp with rfl | rfl
 ·
  refine Entry.tr (N := 20) (rs := []) ⟨_, Tryz.func103, rfl, by kernel_rfl, rfl, rfl⟩ rfl ?_
  refine XC.seq fun K1 hK1 => ?_
  refine XC.region ?_
  refine x_v (r_mv rfl) rfl ?_
  refine x_v (r_nc rfl) rfl ?_
  refine x_v (r_fa fo111_0 rfl) rfl ?_
  refine x_v (r_ld ty109 rfl pK (by rfl)) rfl ?_
  refine x_v (r_peq_nil Tryz.underlying109 rfl rfl) rfl ?_
  refine XL.nil ?_
  refine hK1 _ _ ?_
  refine XC.keep [(0, _), (6, _)] ⟨rfl, rfl, trivial⟩ ?_
  refine XC.cond_t rfl ?_
  refine XC.region ?_
  refine x_v (r_mv rfl) rfl ?_
  refine x_v (r_mv rfl) rfl ?_
  refine x_v (r_cvw (v := .pointer (some ⟨b, 0, none⟩)) rfl (fun w hw => Lib.run_to_unsafe w ⟨b, 0, none⟩ Tryz.underlying109 Tryz.underlying158 i1 (by rw [i2]; decide) (shape_blk (cs := [.pointer none, v]) hw pK) (Nat.zero_lt_succ 1))) rfl ?_
  refine x_v (r_ext (v := .pointer (some ⟨b, 0, none⟩)) (args := [.pointer (some ⟨b, 0, none⟩)]) Extern.AbiNoEscape.same Tryz.func121 (by kernel_rfl) (by kernel_rfl) (by kernel_rfl) (by kernel_rfl) ⟨rfl, rfl⟩ (fun w => Lib.run_noEscape w _)) rfl ?_
  refine x_v (r_cvw (v := .pointer (some ⟨b, 0, none⟩)) rfl (fun w hw => Lib.run_from_unsafe w ⟨b, 0, none⟩ Tryz.underlying158 Tryz.underlying109 i1 (shape_blk (cs := [.pointer none, v]) hw pK) (by kernel_rfl))) rfl ?_
  refine x_v (r_nc rfl) rfl ?_
  refine x_v (r_fa fo111_0 rfl) rfl ?_
  refine x_e (r_st ty109 rfl rfl rfl rfl rfl uD oV) ?_
  refine XL.nil ?_
  exact fin0 (⟨rfl, rfl⟩) gS
 ·
  refine Entry.tr (N := 20) (rs := []) ⟨_, Tryz.func103, rfl, by kernel_rfl, rfl, rfl⟩ rfl ?_
  refine XC.seq fun K1 hK1 => ?_
  refine XC.region ?_
  refine x_v (r_mv rfl) rfl ?_
  refine x_v (r_nc rfl) rfl ?_
  refine x_v (r_fa fo111_0 rfl) rfl ?_
  refine x_v (r_ld ty109 rfl pK (by rfl)) rfl ?_
  refine x_v (r_peq_some Tryz.underlying109 rfl rfl) rfl ?_
  refine XL.nil ?_
  refine hK1 _ _ ?_
  refine XC.keep [(0, _), (6, _)] ⟨rfl, rfl, trivial⟩ ?_
  refine XC.cond_f rfl ?_
  refine XC.seq fun K2 hK2 => ?_
  refine XC.region ?_
  refine x_v (r_mv rfl) rfl ?_
  refine x_v (r_nc rfl) rfl ?_
  refine x_v (r_fa fo111_0 rfl) rfl ?_
  refine x_v (r_ld ty109 rfl pK (by rfl)) rfl ?_
  refine x_v (r_mv rfl) rfl ?_
  refine x_v (r_pne_same Tryz.underlying109 ty111 rfl rfl) rfl ?_
  refine XL.nil ?_
  refine hK2 _ _ ?_
  refine XC.keep [(19, _)] ⟨rfl, trivial⟩ ?_
  refine XC.cond_f rfl ?_
  refine XC.skip ?_
  exact fin0 (⟨rfl, rfl⟩) gS
/-- WriteByte -/
theorem wbyte_tr {W0 : World} (b : Nat) (p A : Option Addr) (c n : Nat) (xs : List Value) (x : Int) (Fr : List HP) (hp : p = none ∨ p = some ⟨b, 0, none⟩) (hn : n + 1 ≤ maxS) :
  Tr W0 Tryz.prog 105 [.pointer (some ⟨b, 0, none⟩), .int .u8 x] (blk b 111 [.pointer p, .slice A n c] :: sl A n c 5 1 xs :: Fr) (fun u Rs' => u = .nilIface ∧ ∃ A' c', Rs' = blk b 111 [.pointer (some ⟨b, 0, none⟩), .slice A' (n + 1) c'] :: sl A' (n + 1) c' 5 1 (xs ++ [.int .u8 x]) :: Fr) := by
 have hmax : maxS = 140737488355328 := rfl
 refine Entry.tr (N := 17) (rs := [.tmp 4]) ⟨_, Tryz.func105, rfl, by kernel_rfl, rfl, rfl⟩ rfl ?_
 refine XC.seq fun K1 hK1 => ?_
 refine XC.region ?_
 refine x_v (r_as rfl) rfl ?_
 refine XL.nil ?_
 refine hK1 _ _ ?_
 refine XC.keep [(0, _), (1, _)] ⟨rfl, rfl, trivial⟩ ?_
 refine XC.seq fun K2 hK2 => ?_
 refine XC.region ?_
 refine x_v (r_mv rfl) rfl ?_
 refine x_c (r_call0 (args := [_]) ⟨rfl, rfl⟩ (check_tr b p _ _ hp) gS) rfl ?_
 rintro _ _ ⟨rfl, hRs⟩
 rw [hRs]
 refine XL.nil ?_
 refine hK2 _ _ ?_
 refine XC.keep [(0, _), (1, _)] ⟨rfl, rfl, trivial⟩ ?_
 refine XC.seq fun K3 hK3 => ?_
 refine XC.region ?_
 refine x_v (r_mv rfl) rfl ?_
 refine x_v (r_mv rfl) rfl ?_
 refine x_v (r_nc rfl) rfl ?_
 refine x_v (r_fa fo111_1 rfl) rfl ?_
 refine x_v (r_ld ty80 rfl pK (by rfl)) rfl ?_
 refine x_v (r_mv rfl) rfl ?_
 refine x_a (r_bs (vs := [_]) rfl ⟨rfl, rfl⟩ (bs80_1_0 _)) rfl fun b13 => ?_
 refine x_a (r_app Tryz.underlying80 ty5 rfl (by decide) rfl rfl pK (Rdb.of_blk (xs := [.int .u8 x]) pK 0 (by rfl) (fun j u hu => by simpa using hu)) rfl (by unfold maxLen; omega) (by omega)) rfl fun ⟨A14, c14⟩ => ?_
 refine x_v (r_nc rfl) rfl ?_
 refine x_v (r_fa fo111_1 rfl) rfl ?_
 refine x_e (r_st ty80 rfl rfl rfl rfl rfl uD oV) ?_
 refine XL.nil ?_
 refine hK3 _ _ ?_
 refine XC.keep [] trivial ?_
 refine XC.seq fun K4 hK4 => ?_
 refine XC.region ?_
 refine x_v (r_as rfl) rfl ?_
 refine XL.nil ?_
 refine hK4 _ _ ?_
 refine XC.keep [(4, _)] ⟨rfl, trivial⟩ ?_
 refine XC.ret ?_
 exact fin1 rfl (⟨rfl, _, _, rfl⟩) gS
/-- WriteString -/
theorem wstr_tr {W0 : World} (b : Nat) (p A : Option Addr) (c n : Nat) (xs : List Value) (s : List UInt8) (Fr : List HP) (hp : p = none ∨ p = some ⟨b, 0, none⟩) (hn : n + s.length ≤ maxS) :
  Tr W0 Tryz.prog 64 [.pointer (some ⟨b, 0, none⟩), str s] (blk b 111 [.pointer p, .slice A n c] :: sl A n c 5 1 xs :: Fr) (fun u Rs' => u = .tuple #[.int .i64 (s.length : Int), .nilIface] ∧ ∃ A' c', Rs' = blk b 111 [.pointer (some ⟨b, 0, none⟩), .slice A' (n + s.length) c'] :: sl A' (n + s.length) c' 5 1 (xs ++ bv s) :: Fr) := by
 have hmax : maxS = 140737488355328 := rfl
 refine Entry.tr (N := 19) (rs := [.tmp 4, .tmp 5]) ⟨_, Tryz.func64, rfl, by kernel_rfl, rfl, rfl⟩ rfl ?_
 refine XC.seq fun K1 hK1 => ?_
 refine XC.region ?_
 refine x_v (r_as rfl) rfl ?_
 refine x_v (r_as rfl) rfl ?_
 refine XL.nil ?_
 refine hK1 _ _ ?_
 refine XC.keep [(0, _), (1, _)] ⟨rfl, rfl, trivial⟩ ?_
 refine XC.seq fun K2 hK2 => ?_
 refine XC.region ?_
 refine x_v (r_mv rfl) rfl ?_
 refine x_c (r_call0 (args := [_]) ⟨rfl, rfl⟩ (check_tr b p _ _ hp) gS) rfl ?_
 rintro _ _ ⟨rfl, hRs⟩
 rw [hRs]
 refine XL.nil ?_
 refine hK2 _ _ ?_
 refine XC.keep [(0, _), (1, _)] ⟨rfl, rfl, trivial⟩ ?_
 refine XC.seq fun K3 hK3 => ?_
 refine XC.region ?_
 refine x_v (r_mv rfl) rfl ?_
 refine x_v (r_mv rfl) rfl ?_
 refine x_v (r_nc rfl) rfl ?_
 refine x_v (r_fa fo111_1 rfl) rfl ?_
 refine x_v (r_ld ty80 rfl pK (by rfl)) rfl ?_
 refine x_v (r_mv rfl) rfl ?_
 refine x_a (r_apps Tryz.underlying80 Tryz.underlying9 ty5 rfl rfl pK (by omega)) rfl fun ⟨A14, c14⟩ => ?_
 refine x_v (r_nc rfl) rfl ?_
 refine x_v (r_fa fo111_1 rfl) rfl ?_
 refine x_e (r_st ty80 rfl rfl rfl rfl rfl uD oV) ?_
 refine XL.nil ?_
 refine hK3 _ _ ?_
 refine XC.keep [(1, _)] ⟨rfl, trivial⟩ ?_
 refine XC.seq fun K4 hK4 => ?_
 refine XC.region ?_
 refine x_v (r_mv rfl) rfl ?_
 refine x_v (r_lens Tryz.underlying9 rfl) rfl ?_
 refine x_v (r_as rfl) rfl ?_
 refine x_v (r_as rfl) rfl ?_
 refine XL.nil ?_
 refine hK4 _ _ ?_
 refine XC.keep [(4, _), (5, _)] ⟨rfl, rfl, trivial⟩ ?_
 refine XC.ret ?_
 exact fin2 rfl rfl (⟨rfl, _, _, rfl⟩) gS
/-- Write -/
theorem write_tr {W0 : World} (b : Nat) (p A A2 : Option Addr) (c n m c2 : Nat) (xs ys : List Value) (Fr : List HP) (hp : p = none ∨ p = some ⟨b, 0, none⟩) (hn : n + m ≤ maxS) (hy : ys.all (·.oneCell') = true) (hr : Rdb W0 (blk b 111 [.pointer (some ⟨b, 0, none⟩), .slice A n c] :: sl A n c 5 1 xs :: Fr) A2 m 1 ys) :
  Tr W0 Tryz.prog 66 [.pointer (some ⟨b, 0, none⟩), .slice A2 m c2] (blk b 111 [.pointer p, .slice A n c] :: sl A n c 5 1 xs :: Fr) (fun u Rs' => u = .tuple #[.int .i64 (m : Int), .nilIface] ∧ ∃ A' c', Rs' = blk b 111 [.pointer (some ⟨b, 0, none⟩), .slice A' (n + m) c'] :: sl A' (n + m) c' 5 1 (xs ++ ys) :: Fr) := by
 have hmax : maxS = 140737488355328 := rfl
 refine Entry.tr (N := 19) (rs := [.tmp 4, .tmp 5]) ⟨_, Tryz.func66, rfl, by kernel_rfl, rfl, rfl⟩ rfl ?_
 refine XC.seq fun K1 hK1 => ?_
 refine XC.region ?_
 refine x_v (r_as rfl) rfl ?_
 refine x_v (r_as rfl) rfl ?_
 refine XL.nil ?_
 refine hK1 _ _ ?_
 refine XC.keep [(0, _), (1, _)] ⟨rfl, rfl, trivial⟩ ?_
 refine XC.seq fun K2 hK2 => ?_
 refine XC.region ?_
 refine x_v (r_mv rfl) rfl ?_
 refine x_c (r_call0 (args := [_]) ⟨rfl, rfl⟩ (check_tr b p _ _ hp) gS) rfl ?_
 rintro _ _ ⟨rfl, hRs⟩
 rw [hRs]
 refine XL.nil ?_
 refine hK2 _ _ ?_
 refine XC.keep [(0, _), (1, _)] ⟨rfl, rfl, trivial⟩ ?_
 refine XC.seq fun K3 hK3 => ?_
 refine XC.region ?_
 refine x_v (r_mv rfl) rfl ?_
 refine x_v (r_mv rfl) rfl ?_
 refine x_v (r_nc rfl) rfl ?_
 refine x_v (r_fa fo111_1 rfl) rfl ?_
 refine x_v (r_ld ty80 rfl pK (by rfl)) rfl ?_
 refine x_v (r_mv rfl) rfl ?_
 refine x_a (r_app Tryz.underlying80 ty5 rfl (by decide) rfl rfl pK hr hy (by unfold maxLen; omega) (by omega)) rfl fun ⟨A14, c14⟩ => ?_
 refine x_v (r_nc rfl) rfl ?_
 refine x_v (r_fa fo111_1 rfl) rfl ?_
 refine x_e (r_st ty80 rfl rfl rfl rfl rfl uD oV) ?_
 refine XL.nil ?_
 refine hK3 _ _ ?_
 refine XC.keep [(1, _)] ⟨rfl, trivial⟩ ?_
 refine XC.seq fun K4 hK4 => ?_
 refine XC.region ?_
 refine x_v (r_mv rfl) rfl ?_
 refine x_v (r_lensl Tryz.underlying80 rfl) rfl ?_
 refine x_v (r_as rfl) rfl ?_
 refine x_v (r_as rfl) rfl ?_
 refine XL.nil ?_
 refine hK4 _ _ ?_
 refine XC.keep [(4, _), (5, _)] ⟨rfl, rfl, trivial⟩ ?_
 refine XC.ret ?_
 exact fin2 rfl rfl (⟨rfl, _, _, rfl⟩) gS
theorem string_th : ∃ fn c, Tryz.prog.funcs[67]? = some fn ∧ (fn.name == "runtime.NumGoroutine") = false ∧ fn.body = some c := ⟨_, _, Tryz.func67, by kernel_rfl, rfl⟩
/-- String: what was written; of what the builder had nothing is kept. -/
theorem string_tr {W0 : World} (b : Nat) (p A : Option Addr) (c n : Nat) (l : List UInt8) (hp : p = none ∨ p = some ⟨b, 0, none⟩) (hn : n = l.length) :
  Tr W0 Tryz.prog 67 [.pointer (some ⟨b, 0, none⟩)] (blk b 111 [.pointer p, .slice A n c] :: sl A n c 5 1 (bv l) :: []) (fun u Rs' => u = str l ∧ Rs' = []) := by
 subst hn
 refine ⟨string_th, fun w hw => ?_⟩
 have hb := hw.cells
 have hs := hw.size
 have h1 := hw.tail
 have hown := h1.sl_owns
 have hb0 : W0.heap.size ≤ b := by
  have h := hw; simp only [blk] at h; exact h.head.1
 have hne : (Value.slice A l.length c).ownBlock ≠ some b := by
  rcases h1.sl_open with ⟨rfl, _⟩ | ⟨g, cur, rfl, _, _, _, _, _⟩
  ·simp [Value.ownBlock]
  ·simp only [Value.ownBlock, ne_eq, Option.some.injEq]
   have h2 := (hw.perm (.swap _ _ _))
   rcases h2.sl_open with ⟨h, _⟩ | ⟨g', cur', h, _, _, _, _, h3⟩
   ·cases h
   ·injection h with h; injection h with h; subst h
    simp only [blk] at h3
    exact h3.ne
 have hlen : (Lib.byteCells l).length = l.length := by simp [Lib.byteCells]
 have hB : Lib.BuilderAt 111 5 W0.heap.size b (.pointer p) (Lib.byteCells l) w := ⟨hb0, _, hb, by rw [hlen]; exact hown, hne⟩
 have hI : Lib.IsBuilder 111 5 W0.heap.size b (Lib.byteCells l) w := by
  rcases hp with rfl | rfl
  ·exact .inl hB
  ·exact .inr hB
 refine (Tryz.Builder_String_any W0.heap.size b l w hI hs).mono ?_
 rintro e w' ⟨rfl, hbel⟩
 exact ⟨_, [], ⟨rfl, rfl⟩, rfl, hbel.os.trans hw.os, hbel.tape.trans hw.tape, hbel.output.trans hw.output, Nat.le_trans hs hbel.size, fun k hk => (hbel.block k hk).trans (hw.old k hk), fun _ => none, fun _ => rfl, fun _ _ h => by cases h⟩
end Go.Proofs.YtcmdmhmgffjknaaGreatDoor
/- Packed numbers and texts, written: functions 68, 34, 37. -/
namespace Go.Proofs.YtcmdmhmgffjknaaGreatDoor
open Go.Sx
set_option linter.unusedVariables false

/-- The bytes of a number. -/
def vb (z : Nat) : List UInt8 := if h : z ≤ 127 then [UInt8.ofNat z] else UInt8.ofNat (z % 128 + 128) :: vb (z / 128)
termination_by z
decreasing_by omega
theorem vb_le {z : Nat} (h : z ≤ 127) : vb z = [UInt8.ofNat z] := by rw [vb, dif_pos h]
theorem vb_gt {z : Nat} (h : ¬ z ≤ 127) : vb z = UInt8.ofNat (z % 128 + 128) :: vb (z / 128) := by rw [vb, dif_neg h]
theorem vb_pos (z : Nat) : 0 < (vb z).length := by
 by_cases h : z ≤ 127
 ·rw [vb_le h]; simp
 ·rw [vb_gt h]; simp
theorem vb_len : ∀ (k z : Nat), z < 128 ^ (k + 1) → (vb z).length ≤ k + 1
 | 0, z, h => by rw [vb_le (by omega)]; simp
 | k + 1, z, h => by
  by_cases h0 : z ≤ 127
  ·rw [vb_le h0]; simp
  ·rw [vb_gt h0, List.length_cons]
   have := vb_len k (z / 128) (Nat.div_lt_of_lt_mul (by rw [Nat.pow_succ] at h; omega))
   omega
theorem vb_ten {z : Nat} (h : z < 18446744073709551616) : (vb z).length ≤ 10 := vb_len 9 z (Nat.lt_of_lt_of_le h (by decide))
set_option maxRecDepth 100000 in
theorem or128 : ∀ x : Fin 256, (BitVec.ofNat 8 x.val ||| 128#8).toNat = x.val % 128 + 128 := by decide
theorem or128' (z : BitVec 64) : ((z.setWidth 8) ||| 128#8).toNat = z.toNat % 128 + 128 := by
 have h := or128 ⟨z.toNat % 256, Nat.mod_lt _ (by decide)⟩
 have e : z.setWidth 8 = BitVec.ofNat 8 (z.toNat % 256) := by
  apply BitVec.eq_of_toNat_eq; simp
 rw [e, h]
 show z.toNat % 256 % 128 + 128 = _
 omega
theorem low8 (z : BitVec 64) (h : z.toNat ≤ 127) : (z.setWidth 8).toNat = z.toNat := by simp; omega
theorem bv_snoc (l : List UInt8) (n : Nat) (h : n < 256) : bv l ++ [.int .u8 (n : Int)] = bv (l ++ [UInt8.ofNat n]) := by
 have : (UInt8.ofNat n).toNat = n := by simp; omega
 simp [bv, this, Nat.mod_eq_of_lt h]

theorem put_tr {W0 : World} (b : Nat) (p A : Option Addr) (c m : Nat) (l : List UInt8) (n : Nat) (Fr : List HP) (hp : p = none ∨ p = some ⟨b, 0, none⟩) (hm : m = l.length) (hn : n ≤ maxS) (hl : l.length + (vb (2 * n)).length ≤ maxS) :
  Tr W0 Tryz.prog 68 [.pointer (some ⟨b, 0, none⟩), .int .i64 (n : Int)] (blk b 111 [.pointer p, .slice A m c] :: sl A m c 5 1 (bv l) :: Fr) (fun u Rs' => u = .tuple #[] ∧ ∃ A' c', Rs' = blk b 111 [.pointer (some ⟨b, 0, none⟩), .slice A' (l ++ vb (2 * n)).length c'] :: sl A' (l ++ vb (2 * n)).length c' 5 1 (bv (l ++ vb (2 * n))) :: Fr) := by
 have hmax : maxS = 140737488355328 := rfl
 subst hm
 have hz0 : (BitVec.ofNat 64 n <<< 1 ^^^ 0#64 : BitVec 64).toNat = 2 * n := by
  rw [BitVec.xor_zero, BitVec.toNat_shiftLeft, BitVec.toNat_ofNat, Nat.shiftLeft_eq, Nat.mod_eq_of_lt (show n < 2 ^ 64 by omega), Nat.mod_eq_of_lt (by omega)]; omega
 refine Entry.tr (N := 25) (rs := []) ⟨_, Tryz.func68, rfl, by kernel_rfl, rfl, rfl⟩ rfl ?_
 refine XC.seq fun K1 hK1 => ?_
 refine XC.region ?_
 refine x_v (r_mv rfl) rfl ?_
 refine x_v (r_cvn (i := ((BitVec.ofNat 64 n).toNat : Int)) Tryz.underlying3 Tryz.underlying138 (by rw [BitVec.toNat_ofNat, Nat.mod_eq_of_lt (show n < 2 ^ 64 by omega)]; rfl) (wrap_bv (k := .u64) rfl _)) rfl ?_
 refine x_v (r_bshl (k := .u64) rfl 1 (by decide) (BitVec.ofNat 64 n) rfl rfl) rfl ?_
 refine x_v (r_mv rfl) rfl ?_
 refine x_v (r_shr0 n (by omega) rfl rfl) rfl ?_
 refine x_v (r_cvn Tryz.underlying3 Tryz.underlying138 rfl (by decide)) rfl ?_
 refine x_v (r_bxor (k := .u64) rfl (BitVec.ofNat 64 n <<< 1) 0#64 rfl rfl) rfl ?_
 refine x_v (r_as rfl) rfl ?_
 refine XL.nil ?_
 refine hK1 _ _ ?_
 refine XC.keep [(0, _), (4, _)] ⟨rfl, rfl, trivial⟩ ?_
 refine XC.seq fun K2 hK2 => ?_
 refine XC.block ?_
 refine XC.loop (σ := BitVec 64 × List UInt8 × Option Addr × Option Addr × Nat) (fun s => [(0, .pointer (some ⟨b, 0, none⟩)), (4, .int .u64 (s.1.toNat : Int))]) (fun s => blk b 111 [.pointer s.2.2.1, .slice s.2.2.2.1 (l ++ s.2.1).length s.2.2.2.2] :: sl s.2.2.2.1 (l ++ s.2.1).length s.2.2.2.2 5 1 (bv (l ++ s.2.1)) :: Fr) (fun s => (s.2.2.1 = none ∨ s.2.2.1 = some ⟨b, 0, none⟩) ∧ s.2.1 ++ vb s.1.toNat = vb (2 * n)) (fun s => s.1.toNat) (BitVec.ofNat 64 n <<< 1 ^^^ 0#64, [], p, A, c) ?_ ⟨rfl, rfl, trivial⟩ (by rw [List.append_nil]; exact gS) ?_
 ·exact ⟨hp, by rw [hz0]; rfl⟩
 rintro ⟨z, out, p, A, c⟩ ⟨hp, hv⟩
 dsimp only at hp hv ⊢
 have hpos := vb_pos z.toNat
 have hvl : out.length + (vb z.toNat).length = (vb (2 * n)).length := by rw [← hv, List.length_append]
 have hal : (l ++ out).length = l.length + out.length := List.length_append
 refine XC.seq fun K3 hK3 => ?_
 refine XC.seq fun K4 hK4 => ?_
 refine XC.region ?_
 refine x_v (r_mv rfl) rfl ?_
 refine x_v (r_gt rfl rfl) rfl ?_
 refine XL.nil ?_
 refine hK4 _ _ ?_
 refine XC.keep [(0, _), (4, _), (13, _)] ⟨rfl, rfl, rfl, trivial⟩ ?_
 refine XC.cond_d rfl (fun hc1 => ?_) (fun hc1 => ?_)
 ·refine XC.skip ?_
  refine hK3 _ _ ?_
  refine XC.keep [(0, _), (4, _)] ⟨rfl, rfl, trivial⟩ ?_
  refine XC.seq fun K5 hK5 => ?_
  refine XC.block ?_
  refine XC.region ?_
  refine x_v (r_mv rfl) rfl ?_
  refine x_v (r_mv rfl) rfl ?_
  refine x_v (r_bcv (k := .u64) (k' := .u8) rfl z Tryz.underlying138 Tryz.underlying5 rfl) rfl ?_
  refine x_v (yv (v' := .int .u8 ((z.toNat % 128 + 128 : Nat) : Int)) (r_bor (k := .u8) rfl (z.setWidth 8) 128#8 rfl rfl) (congrArg (fun q : Nat => Value.int .u8 (q : Int)) (or128' z))) rfl ?_
  refine x_c (r_call0 (args := [_, _]) ⟨rfl, rfl, rfl⟩ (wbyte_tr b p A c (l ++ out).length (bv (l ++ out)) _ _ hp (by omega)) gS) rfl ?_
  rintro _ _ ⟨rfl, A20, c20, hRs⟩
  refine XL.nil ?_
  refine hK5 _ _ ?_
  refine XC.keep [(0, _), (4, _)] ⟨rfl, rfl, trivial⟩ ?_
  refine XC.region ?_
  refine x_v (r_mv rfl) rfl ?_
  refine x_v (r_bshr (k := .u64) 7 (by decide) z rfl rfl) rfl ?_
  refine x_v (r_as rfl) rfl ?_
  refine XL.nil ?_
  rw [bv_snoc _ _ (by omega), List.append_assoc] at hRs
  rw [hRs, ← show (l ++ (out ++ [UInt8.ofNat (z.toNat % 128 + 128)])).length = (l ++ out).length + 1 by simp; omega]
  refine ⟨(z >>> 7, out ++ [UInt8.ofNat (z.toNat % 128 + 128)], some ⟨b, 0, none⟩, A20, c20), ?_, ?_, ⟨rfl, rfl, trivial⟩, gS⟩
  ·exact ⟨.inr rfl, by dsimp only; rw [← hv, vb_gt (z := z.toNat) (by omega), List.append_assoc, List.singleton_append, BitVec.toNat_ushiftRight, Nat.shiftRight_eq_div_pow]⟩
  ·dsimp only; rw [BitVec.toNat_ushiftRight, Nat.shiftRight_eq_div_pow]; omega
 ·refine XC.exit rfl ?_
  refine hK2 _ _ ?_
  refine XC.keep [(0, _), (4, _)] ⟨rfl, rfl, trivial⟩ ?_
  refine XC.region ?_
  refine x_v (r_mv rfl) rfl ?_
  refine x_v (r_mv rfl) rfl ?_
  refine x_v (yv (v' := .int .u8 (z.toNat : Int)) (r_bcv (k := .u64) (k' := .u8) rfl z Tryz.underlying138 Tryz.underlying5 rfl) (congrArg (fun q : Nat => Value.int .u8 (q : Int)) (low8 z (by omega)))) rfl ?_
  refine x_c (r_call0 (args := [_, _]) ⟨rfl, rfl, rfl⟩ (wbyte_tr b p A c (l ++ out).length (bv (l ++ out)) _ _ hp (by omega)) gS) rfl ?_
  rintro _ _ ⟨rfl, A24, c24, hRs⟩
  rw [vb_le (z := z.toNat) (by omega)] at hv
  rw [bv_snoc _ _ (by omega), List.append_assoc, hv] at hRs
  rw [hRs, show (l ++ out).length + 1 = (l ++ vb (2 * n)).length by rw [← hv]; simp; omega]
  refine XL.nil ?_
  exact fin0 (⟨rfl, _, _, rfl⟩) gS
end Go.Proofs.YtcmdmhmgffjknaaGreatDoor
/- Packed numbers and texts, written: functions 34, 37. -/
namespace Go.Proofs.YtcmdmhmgffjknaaGreatDoor
open Go.Sx
set_option linter.unusedVariables false

def numsB (ns : List Nat) : List UInt8 := ns.flatMap fun n => vb (2 * n)
def textB (ps : List (List UInt8)) : List UInt8 := ps.flatMap fun p => vb (2 * p.length) ++ p
theorem flat_snoc {α : Type} (f : α → List UInt8) (l : List α) (k : Nat) (x : α) (h : l[k]? = some x) : (l.take (k + 1)).flatMap f = (l.take k).flatMap f ++ f x := by
 rw [List.take_add_one, h]; simp
theorem flat_le {α : Type} (f : α → List UInt8) (l : List α) (k : Nat) : ((l.take k).flatMap f).length ≤ (l.flatMap f).length := by
 have : l.flatMap f = (l.take k).flatMap f ++ (l.drop k).flatMap f := by rw [← List.flatMap_append, List.take_append_drop]
 rw [this, List.length_append]; omega

theorem nums_tr0 {W0 : World} (A0 : Option Addr) (c0 : Nat) (ns : List Nat) (hr : Rdb W0 [] A0 ns.length 1 (iv (ns.map (fun n : Nat => (n : Int))))) (hb : ∀ n ∈ ns, n ≤ maxS) (hl : (numsB ns).length ≤ maxS) (hn : ns.length ≤ maxS) :
  Tr W0 Tryz.prog 34 [.slice A0 ns.length c0] [] (fun u Rs' => u = str (numsB ns) ∧ Rs' = []) := by
 have hmax : maxS = 140737488355328 := rfl
 refine Entry.tr (N := 16) (rs := [.tmp 2]) ⟨_, Tryz.func34, rfl, by kernel_rfl, rfl, rfl⟩ rfl ?_
 refine XC.seq fun K1 hK1 => ?_
 refine XC.region ?_
 refine x_v (r_as rfl) rfl ?_
 refine XL.nil ?_
 refine hK1 _ _ ?_
 refine XC.keep [(0, _)] ⟨rfl, trivial⟩ ?_
 refine XC.seq fun K2 hK2 => ?_
 refine XC.region ?_
 refine x_a (r_al ty111 rfl) rfl fun b3 => ?_
 refine XL.nil_ 5 1 ?_
 refine XL.mem (blk b3 111 [.pointer none, .slice none 0 0] :: sl none 0 0 5 1 [] :: []) gT ?_
 refine XL.nil ?_
 refine hK2 _ _ ?_
 refine XC.keep [(0, _), (3, _)] ⟨rfl, rfl, trivial⟩ ?_
 refine XC.seq fun K3 hK3 => ?_
 refine XC.seq fun K4 hK4 => ?_
 refine XC.region ?_
 refine x_v (r_mv rfl) rfl ?_
 refine x_v (r_lensl Tryz.underlying25 rfl) rfl ?_
 refine x_v (r_mv rfl) rfl ?_
 refine XL.nil ?_
 refine hK4 _ _ ?_
 refine XC.keep [(3, _), (6, _), (7, _), (8, _)] ⟨rfl, rfl, rfl, rfl, trivial⟩ ?_
 refine XC.block ?_
 refine XC.loop (σ := Nat × Option Addr × Option Addr × Nat) (fun s => [(3, .pointer (some ⟨b3, 0, none⟩)), (6, .slice A0 ns.length c0), (7, .int .i64 (ns.length : Int)), (8, .int .i64 (s.1 : Int))]) (fun s => blk b3 111 [.pointer s.2.1, .slice s.2.2.1 (numsB (ns.take s.1)).length s.2.2.2] :: sl s.2.2.1 (numsB (ns.take s.1)).length s.2.2.2 5 1 (bv (numsB (ns.take s.1))) :: []) (fun s => (s.2.1 = none ∨ s.2.1 = some ⟨b3, 0, none⟩) ∧ s.1 ≤ ns.length) (fun s => ns.length - s.1) (0, none, none, 0) ?_ ⟨rfl, rfl, rfl, rfl, trivial⟩ gS ?_
 ·exact ⟨.inl rfl, Nat.zero_le _⟩
 rintro ⟨i, p, A, c⟩ ⟨hp, hi⟩
 dsimp only at hp hi ⊢
 refine XC.seq fun K5 hK5 => ?_
 refine XC.region ?_
 refine x_v (r_lt rfl rfl) rfl ?_
 refine XL.nil ?_
 refine hK5 _ _ ?_
 refine XC.keep [(3, _), (6, _), (7, _), (8, _), (9, _)] ⟨rfl, rfl, rfl, rfl, rfl, trivial⟩ ?_
 refine XC.seq fun K6 hK6 => ?_
 refine XC.cond_d rfl (fun hc1 => ?_) (fun hc1 => ?_)
 ·refine XC.skip ?_
  refine hK6 _ _ ?_
  refine XC.keep [(3, _), (6, _), (7, _), (8, _)] ⟨rfl, rfl, rfl, rfl, trivial⟩ ?_
  refine XC.seq fun K7 hK7 => ?_
  refine XC.block ?_
  refine XC.seq fun K8 hK8 => ?_
  obtain ⟨x, hx⟩ : ∃ x, ns[i]? = some x := ⟨_, List.getElem?_eq_getElem (by omega)⟩
  have hxb := hb x (List.mem_of_getElem? hx)
  obtain ⟨ob, oo, rfl, hat⟩ := hr.at_ (by omega)
  have hsn : numsB (ns.take i) ++ vb (2 * x) = numsB (ns.take (i + 1)) := (flat_snoc _ ns i x hx).symm
  have hln := flat_le (fun n => vb (2 * n)) ns (i + 1)
  have hlx : (numsB (ns.take i)).length + (vb (2 * x)).length = (numsB (ns.take (i + 1))).length := by rw [← hsn, List.length_append]
  refine XC.region ?_
  refine x_v (r_ia (k := i) Tryz.underlying25 ty3 rfl rfl (by omega) (by omega)) rfl ?_
  refine x_v (r_ldr (v := .int .i64 (x : Int)) ty3 rfl (fun w hw => hat w (Gets.own gS hw) (i * 1) _ (by rw [Nat.mul_one]; exact iv_get (by simp [hx])))) rfl ?_
  refine x_v (r_as rfl) rfl ?_
  refine XL.nil ?_
  refine hK8 _ _ ?_
  refine XC.keep [(3, _), (5, _), (6, _), (7, _), (8, _)] ⟨rfl, rfl, rfl, rfl, rfl, trivial⟩ ?_
  refine XC.region ?_
  refine x_v (r_mv rfl) rfl ?_
  refine x_c (r_call0 (args := [_, _]) ⟨rfl, rfl, rfl⟩ (put_tr b3 p A c _ (numsB (ns.take i)) x [] hp rfl hxb (by unfold numsB at *; omega)) gS) rfl ?_
  rintro _ _ ⟨rfl, A13, c13, hRs⟩
  refine XL.nil ?_
  refine hK7 _ _ ?_
  refine XC.keep [(3, _), (6, _), (7, _), (8, _)] ⟨rfl, rfl, rfl, rfl, trivial⟩ ?_
  refine XC.region ?_
  refine x_v (r_add rfl rfl (by omega)) rfl ?_
  refine x_v (r_mv rfl) rfl ?_
  refine XL.nil ?_
  rw [hRs, hsn]
  refine ⟨(i + 1, some ⟨b3, 0, none⟩, A13, c13), ?_, ?_, ⟨rfl, rfl, rfl, rfl, trivial⟩, gS⟩
  ·exact ⟨.inr rfl, by dsimp only; omega⟩
  ·dsimp only; omega
 ·refine XC.exit rfl ?_
  refine hK3 _ _ ?_
  refine XC.keep [(3, _)] ⟨rfl, trivial⟩ ?_
  refine XC.seq fun K9 hK9 => ?_
  obtain rfl : i = ns.length := by omega
  rw [List.take_of_length_le (Nat.le_refl _)]
  refine XC.region ?_
  refine x_c (r_call0 (args := [_]) ⟨rfl, rfl⟩ (string_tr b3 p A c _ (numsB ns) hp rfl) gS) rfl ?_
  rintro _ _ ⟨rfl, hRs⟩
  rw [hRs]
  refine x_v (r_as rfl) rfl ?_
  refine XL.nil ?_
  refine hK9 _ _ ?_
  refine XC.keep [(2, _)] ⟨rfl, trivial⟩ ?_
  refine XC.ret ?_
  exact fin1 rfl (⟨rfl, rfl⟩) gS
theorem nums_th : ∃ fn c, Tryz.prog.funcs[34]? = some fn ∧ (fn.name == "runtime.NumGoroutine") = false ∧ fn.body = some c := ⟨_, _, Tryz.func34, by kernel_rfl, rfl⟩
theorem nums_tr {W0 : World} {Fr : List HP} (A0 : Option Addr) (c0 : Nat) (ns : List Nat) (hr : Rdb W0 Fr A0 ns.length 1 (iv (ns.map (fun n : Nat => (n : Int))))) (hb : ∀ n ∈ ns, n ≤ maxS) (hl : (numsB ns).length ≤ maxS) (hn : ns.length ≤ maxS) :
  Tr W0 Tryz.prog 34 [.slice A0 ns.length c0] Fr (fun u Rs' => u = str (numsB ns) ∧ Rs' = Fr) :=
 (Tr.frame nums_th fun w hw => nums_tr0 A0 c0 ns (hr.later Nat.one_pos hw []) hb hl hn).mono fun v Rs' ⟨R1, ⟨h1, h2⟩, h3⟩ => ⟨h1, by rw [h3, h2]; rfl⟩
theorem text_tr0 {W0 : World} (A0 : Option Addr) (c0 : Nat) (ps : List (List UInt8)) (hr : Rdb W0 [] A0 ps.length 1 (cells sv ps)) (hl : (textB ps).length ≤ maxS) (hn : ps.length ≤ maxS) :
  Tr W0 Tryz.prog 37 [.slice A0 ps.length c0] [] (fun u Rs' => u = str (textB ps) ∧ Rs' = []) := by
 have hmax : maxS = 140737488355328 := rfl
 refine Entry.tr (N := 19) (rs := [.tmp 2]) ⟨_, Tryz.func37, rfl, by kernel_rfl, rfl, rfl⟩ rfl ?_
 refine XC.seq fun K1 hK1 => ?_
 refine XC.region ?_
 refine x_v (r_as rfl) rfl ?_
 refine XL.nil ?_
 refine hK1 _ _ ?_
 refine XC.keep [(0, _)] ⟨rfl, trivial⟩ ?_
 refine XC.seq fun K2 hK2 => ?_
 refine XC.region ?_
 refine x_a (r_al ty111 rfl) rfl fun b3 => ?_
 refine XL.nil_ 5 1 ?_
 refine XL.mem (blk b3 111 [.pointer none, .slice none 0 0] :: sl none 0 0 5 1 [] :: []) gT ?_
 refine XL.nil ?_
 refine hK2 _ _ ?_
 refine XC.keep [(0, _), (3, _)] ⟨rfl, rfl, trivial⟩ ?_
 refine XC.seq fun K3 hK3 => ?_
 refine XC.seq fun K4 hK4 => ?_
 refine XC.region ?_
 refine x_v (r_mv rfl) rfl ?_
 refine x_v (r_lensl Tryz.underlying22 rfl) rfl ?_
 refine x_v (r_mv rfl) rfl ?_
 refine XL.nil ?_
 refine hK4 _ _ ?_
 refine XC.keep [(3, _), (6, _), (7, _), (8, _)] ⟨rfl, rfl, rfl, rfl, trivial⟩ ?_
 refine XC.block ?_
 refine XC.loop (σ := Nat × Option Addr × Option Addr × Nat) (fun s => [(3, .pointer (some ⟨b3, 0, none⟩)), (6, .slice A0 ps.length c0), (7, .int .i64 (ps.length : Int)), (8, .int .i64 (s.1 : Int))]) (fun s => blk b3 111 [.pointer s.2.1, .slice s.2.2.1 (textB (ps.take s.1)).length s.2.2.2] :: sl s.2.2.1 (textB (ps.take s.1)).length s.2.2.2 5 1 (bv (textB (ps.take s.1))) :: []) (fun s => (s.2.1 = none ∨ s.2.1 = some ⟨b3, 0, none⟩) ∧ s.1 ≤ ps.length) (fun s => ps.length - s.1) (0, none, none, 0) ?_ ⟨rfl, rfl, rfl, rfl, trivial⟩ gS ?_
 ·exact ⟨.inl rfl, Nat.zero_le _⟩
 rintro ⟨i, p, A, c⟩ ⟨hp, hi⟩
 dsimp only at hp hi ⊢
 refine XC.seq fun K5 hK5 => ?_
 refine XC.region ?_
 refine x_v (r_lt rfl rfl) rfl ?_
 refine XL.nil ?_
 refine hK5 _ _ ?_
 refine XC.keep [(3, _), (6, _), (7, _), (8, _), (9, _)] ⟨rfl, rfl, rfl, rfl, rfl, trivial⟩ ?_
 refine XC.seq fun K6 hK6 => ?_
 refine XC.cond_d rfl (fun hc1 => ?_) (fun hc1 => ?_)
 ·refine XC.skip ?_
  refine hK6 _ _ ?_
  refine XC.keep [(3, _), (6, _), (7, _), (8, _)] ⟨rfl, rfl, rfl, rfl, trivial⟩ ?_
  refine XC.seq fun K7 hK7 => ?_
  refine XC.block ?_
  refine XC.seq fun K8 hK8 => ?_
  obtain ⟨x, hx⟩ : ∃ x, ps[i]? = some x := ⟨_, List.getElem?_eq_getElem (by omega)⟩
  obtain ⟨ob, oo, rfl, hat⟩ := hr.at_ (by omega)
  have hsn : textB (ps.take i) ++ (vb (2 * x.length) ++ x) = textB (ps.take (i + 1)) := (flat_snoc _ ps i x hx).symm
  have hln := flat_le (fun p : List UInt8 => vb (2 * p.length) ++ p) ps (i + 1)
  have hlx : (textB (ps.take i)).length + ((vb (2 * x.length)).length + x.length) = (textB (ps.take (i + 1))).length := by rw [← hsn, List.length_append, List.length_append]
  have hlx2 : (textB (ps.take i) ++ vb (2 * x.length)).length + x.length = (textB (ps.take (i + 1))).length := by rw [← hlx, List.length_append]; omega
  refine XC.region ?_
  refine x_v (r_ia (k := i) Tryz.underlying22 ty9 rfl rfl (by omega) (by omega)) rfl ?_
  refine x_v (r_ldr (v := str x) ty9 rfl (fun w hw => hat w (Gets.own gS hw) (i * 1) _ (by rw [Nat.mul_one]; exact sv_get hx))) rfl ?_
  refine x_v (r_as rfl) rfl ?_
  refine XL.nil ?_
  refine hK8 _ _ ?_
  refine XC.keep [(3, _), (5, _), (6, _), (7, _), (8, _)] ⟨rfl, rfl, rfl, rfl, rfl, trivial⟩ ?_
  refine XC.seq fun K9 hK9 => ?_
  refine XC.region ?_
  refine x_v (r_mv rfl) rfl ?_
  refine x_v (r_lens Tryz.underlying9 rfl) rfl ?_
  refine x_c (r_call0 (args := [_, _]) ⟨rfl, rfl, rfl⟩ (put_tr b3 p A c _ (textB (ps.take i)) x.length [] hp rfl (by unfold textB at *; omega) (by unfold textB at *; omega)) gS) rfl ?_
  rintro _ _ ⟨rfl, A14, c14, hRs⟩
  rw [hRs]
  refine XL.nil ?_
  refine hK9 _ _ ?_
  refine XC.keep [(3, _), (5, _), (6, _), (7, _), (8, _)] ⟨rfl, rfl, rfl, rfl, rfl, trivial⟩ ?_
  refine XC.region ?_
  refine x_v (r_mv rfl) rfl ?_
  refine x_c (r_call0 (args := [_, _]) ⟨rfl, rfl, rfl⟩ (wstr_tr b3 (some ⟨b3, 0, none⟩) A14 c14 (textB (ps.take i) ++ vb (2 * x.length)).length (bv (textB (ps.take i) ++ vb (2 * x.length))) x [] (.inr rfl) (by unfold textB at *; omega)) gS) rfl ?_
  rintro _ _ ⟨rfl, A16, c16, hRs⟩
  refine XL.nil ?_
  refine hK7 _ _ ?_
  refine XC.keep [(3, _), (6, _), (7, _), (8, _)] ⟨rfl, rfl, rfl, rfl, trivial⟩ ?_
  refine XC.region ?_
  refine x_v (r_add rfl rfl (by omega)) rfl ?_
  refine x_v (r_mv rfl) rfl ?_
  refine XL.nil ?_
  rw [← bv_app, List.append_assoc, hsn, hlx2] at hRs
  rw [hRs]
  refine ⟨(i + 1, some ⟨b3, 0, none⟩, A16, c16), ?_, ?_, ⟨rfl, rfl, rfl, rfl, trivial⟩, gS⟩
  ·exact ⟨.inr rfl, by dsimp only; omega⟩
  ·dsimp only; omega
 ·refine XC.exit rfl ?_
  refine hK3 _ _ ?_
  refine XC.keep [(3, _)] ⟨rfl, trivial⟩ ?_
  refine XC.seq fun K10 hK10 => ?_
  obtain rfl : i = ps.length := by omega
  rw [List.take_of_length_le (Nat.le_refl _)]
  refine XC.region ?_
  refine x_c (r_call0 (args := [_]) ⟨rfl, rfl⟩ (string_tr b3 p A c _ (textB ps) hp rfl) gS) rfl ?_
  rintro _ _ ⟨rfl, hRs⟩
  rw [hRs]
  refine x_v (r_as rfl) rfl ?_
  refine XL.nil ?_
  refine hK10 _ _ ?_
  refine XC.keep [(2, _)] ⟨rfl, trivial⟩ ?_
  refine XC.ret ?_
  exact fin1 rfl (⟨rfl, rfl⟩) gS
theorem text_th : ∃ fn c, Tryz.prog.funcs[37]? = some fn ∧ (fn.name == "runtime.NumGoroutine") = false ∧ fn.body = some c := ⟨_, _, Tryz.func37, by kernel_rfl, rfl⟩
theorem text_tr {W0 : World} {Fr : List HP} (A0 : Option Addr) (c0 : Nat) (ps : List (List UInt8)) (hr : Rdb W0 Fr A0 ps.length 1 (cells sv ps)) (hl : (textB ps).length ≤ maxS) (hn : ps.length ≤ maxS) :
  Tr W0 Tryz.prog 37 [.slice A0 ps.length c0] Fr (fun u Rs' => u = str (textB ps) ∧ Rs' = Fr) :=
 (Tr.frame text_th fun w hw => text_tr0 A0 c0 ps (hr.later Nat.one_pos hw []) hl hn).mono fun v Rs' ⟨R1, ⟨h1, h2⟩, h3⟩ => ⟨h1, by rw [h3, h2]; rfl⟩
end Go.Proofs.YtcmdmhmgffjknaaGreatDoor
/- A reader of packed bytes: functions 58, 59, 100, 99, 97, 98. -/
namespace Go.Proofs.YtcmdmhmgffjknaaGreatDoor
open Go.Sx
set_option linter.unusedVariables false

/-! what a reader reads -/
def zstep (k : Nat) (z : BitVec 64) (c : UInt8) : BitVec 64 := z ||| ((c.toBitVec &&& 127#8).setWidth 64) <<< (7 * k)
def numGo : Nat → BitVec 64 → List UInt8 → Option (BitVec 64 × List UInt8)
 | _, _, [] => none
 | k, z, c :: s => if k = 9 ∧ 1 < c.toNat then none else if ¬ (c.toBitVec &&& 128#8).toNat = 0 then numGo (k + 1) (zstep k z c) s else if c.toNat = 0 ∧ 0 < k then none else some (zstep k z c, s)
def zig (z : BitVec 64) : Int := if (z &&& 1#64).toNat = 0 then ((z >>> 1).toNat : Int) else -1 - ((z >>> 1).toNat : Int)
abbrev Rd := List UInt8 × Bool
def numR (r : Rd) : Int × Rd := if r.2 = true then (0, r) else (((numGo 0 0 r.1).map (fun q => zig q.1)).getD 0, ((numGo 0 0 r.1).map (·.2)).getD r.1, !(numGo 0 0 r.1).isSome)
def rdc (r : Nat) (x : Rd) : HP := blk r 136 [str x.1, .bool x.2]

set_option maxRecDepth 100000 in
theorem cont_iff' : ∀ x : Fin 256, (BitVec.ofNat 8 x.val &&& 128#8).toNat = 0 ↔ x.val < 128 := by decide
theorem cont_iff (c : UInt8) : (c.toBitVec &&& 128#8).toNat = 0 ↔ c.toNat < 128 := by
 have h := cont_iff' ⟨c.toNat, c.toBitVec.isLt⟩
 have e : BitVec.ofNat 8 c.toNat = c.toBitVec := by apply BitVec.eq_of_toNat_eq; simp
 rw [e] at h; exact h

theorem shr1_lt (z : BitVec 64) : (z >>> 1).toNat < 9223372036854775808 := by
 have := z.isLt
 rw [BitVec.toNat_ushiftRight, Nat.shiftRight_eq_div_pow]; omega
theorem and1 (z : BitVec 64) : (z &&& 1#64).toNat = 0 ∨ (z &&& 1#64).toNat = 1 := by
 have : (z &&& 1#64).toNat = z.toNat % 2 := by
  rw [BitVec.toNat_and]; exact Nat.and_one_is_mod _
 omega

theorem r_zig {C : Cx} {e : Env} {Rs : List HP} {x y : Operand} {ty T T2 : TypeId} (z : BitVec 64) (hx : ev e x = some (.int .i64 ((z >>> 1).toNat : Int))) (hy : ev e y = some (.int .i64 (-((z &&& 1#64).toNat : Int)))) : Yld C e Rs (.binOp .xor T x y T2) ty (.int .i64 (zig z)) := by
 rcases and1 z with h | h
 ·rw [zig, if_pos h]; rw [h] at hy; exact r_xor0 _ (shr1_lt z) hx hy
 ·rw [zig, if_neg (by omega)]; rw [h] at hy; exact r_xor1 _ (shr1_lt z) hx hy
theorem num1_tr {W0 : World} (b1 b2 r : Nat) (s : List UInt8) (Fr : List HP) (hs : s.length ≤ maxS) :
  Tr W0 Tryz.prog 100 [.pointer (some ⟨b1, 0, none⟩), .pointer (some ⟨b2, 0, none⟩)] (rdc r (s, false) :: blk b1 104 [.pointer (some ⟨r, 0, none⟩)] :: blk b2 3 [.int .i64 0] :: Fr)
   (fun v Rs' => v = .bool (numGo 0 0 s).isSome ∧ Rs' = rdc r (((numGo 0 0 s).map (·.2)).getD s, false) :: blk b1 104 [.pointer (some ⟨r, 0, none⟩)] :: blk b2 3 [.int .i64 (((numGo 0 0 s).map (fun q => zig q.1)).getD 0)] :: Fr) := by
 have hmax : maxS = 140737488355328 := rfl
 unfold rdc
 refine Entry.tr (N := 64) (rs := [.tmp 2]) ⟨_, Tryz.func100, rfl, by kernel_rfl, rfl, rfl⟩ rfl ?_
 refine XC.seq fun K1 hK1 => ?_
 refine XC.region ?_
 refine x_v (r_as rfl) rfl ?_
 refine XL.nil ?_
 refine hK1 _ _ ?_
 refine XC.keep [(0, _), (1, _)] ⟨rfl, rfl, trivial⟩ ?_
 refine XC.seq fun K2 hK2 => ?_
 refine XC.region ?_
 refine x_v (r_as rfl) rfl ?_
 refine x_v (r_as rfl) rfl ?_
 refine XL.nil ?_
 refine hK2 _ _ ?_
 refine XC.keep [(0, _), (1, _), (3, _), (4, _)] ⟨rfl, rfl, rfl, rfl, trivial⟩ ?_
 refine XC.seq fun K3 hK3 => ?_
 refine XC.seq fun K4 hK4 => ?_
 refine XC.region ?_
 refine x_v (r_as rfl) rfl ?_
 refine XL.nil ?_
 refine hK4 _ _ ?_
 refine XC.keep [(0, _), (1, _), (3, _), (4, _), (5, _)] ⟨rfl, rfl, rfl, rfl, rfl, trivial⟩ ?_
 refine XC.block ?_
 refine XC.loop (σ := Nat × BitVec 64) (fun q => [(0, .pointer (some ⟨b1, 0, none⟩)), (1, .pointer (some ⟨b2, 0, none⟩)), (3, .int .u64 (q.2.toNat : Int)), (4, .int .i64 ((7 * q.1 : Nat) : Int)), (5, .int .i64 (q.1 : Int))]) (fun q => blk b1 104 [.pointer (some ⟨r, 0, none⟩)] :: blk b2 3 [.int .i64 0] :: blk r 136 [str s, .bool false] :: Fr) (fun q => q.1 ≤ 9 + 0 * q.1 ∧ q.1 ≤ s.length ∧ numGo 0 0 s = numGo q.1 q.2 (s.drop q.1)) (fun q => s.length - q.1) (0, 0#64) ?_ ⟨rfl, rfl, rfl, rfl, rfl, trivial⟩ gS ?_
 ·exact ⟨Nat.zero_le _, Nat.zero_le _, rfl⟩
 rintro ⟨i, z⟩ ⟨hi9, hi, hg⟩
 dsimp only at hi9 hi hg ⊢
 refine XC.seq fun K5 hK5 => ?_
 refine XC.seq fun K6 hK6 => ?_
 refine XC.region ?_
 refine x_v (r_mv rfl) rfl ?_
 refine x_v (r_ld ty104 rfl pK (by rfl)) rfl ?_
 refine x_v (r_nc rfl) rfl ?_
 refine x_v (r_fa fo136_0 rfl) rfl ?_
 refine x_v (r_ld ty9 rfl pK (by rfl)) rfl ?_
 refine x_v (r_lens Tryz.underlying9 rfl) rfl ?_
 refine x_v (r_lt rfl rfl) rfl ?_
 refine XL.nil ?_
 refine hK6 _ _ ?_
 refine XC.keep [(0, _), (1, _), (3, _), (4, _), (5, _), (13, _)] ⟨rfl, rfl, rfl, rfl, rfl, rfl, trivial⟩ ?_
 refine XC.cond_d rfl (fun hc1 => ?_) (fun hc1 => ?_)
 ·refine XC.skip ?_
  refine hK5 _ _ ?_
  refine XC.keep [(0, _), (1, _), (3, _), (4, _), (5, _)] ⟨rfl, rfl, rfl, rfl, rfl, trivial⟩ ?_
  refine XC.seq fun K7 hK7 => ?_
  refine XC.block ?_
  refine XC.seq fun K8 hK8 => ?_
  obtain ⟨c, hc⟩ : ∃ c, s[i]? = some c := ⟨_, List.getElem?_eq_getElem (by omega)⟩
  have hd : s.drop i = c :: s.drop (i + 1) := by rw [List.drop_eq_getElem_cons (show i < s.length by omega), (List.getElem?_eq_some_iff.1 hc).2]
  refine XC.region ?_
  refine x_v (r_ld ty104 rfl pK (by rfl)) rfl ?_
  refine x_v (r_nc rfl) rfl ?_
  refine x_v (r_fa fo136_0 rfl) rfl ?_
  refine x_v (r_ld ty9 rfl pK (by rfl)) rfl ?_
  refine x_v (r_mv rfl) rfl ?_
  refine x_v (r_six (k := i) Tryz.underlying9 rfl rfl (by omega) hc) rfl ?_
  refine x_v (r_as rfl) rfl ?_
  refine XL.nil ?_
  refine hK8 _ _ ?_
  refine XC.keep [(0, _), (1, _), (3, _), (4, _), (5, _), (6, _)] ⟨rfl, rfl, rfl, rfl, rfl, rfl, trivial⟩ ?_
  refine XC.seq fun K9 hK9 => ?_
  refine XC.seq fun K10 hK10 => ?_
  refine XC.region ?_
  refine x_v (r_mv rfl) rfl ?_
  refine x_v (r_eq rfl rfl) rfl ?_
  refine x_v (r_mv rfl) rfl ?_
  refine XL.splitd 24 rfl (fun hg24 => ?_) (fun hg24 => ?_)
  ·refine x_want rfl rfl rfl ?_
   refine x_v (r_mv rfl) rfl ?_
   refine x_want rfl rfl rfl ?_
   refine x_v (r_gt rfl rfl) rfl ?_
   refine x_v (r_pk_t rfl rfl) rfl ?_
   refine XL.nil ?_
   refine hK10 _ _ ?_
   refine XC.keep [(0, _), (1, _), (3, _), (4, _), (5, _), (6, _), (27, _)] ⟨rfl, rfl, rfl, rfl, rfl, rfl, rfl, trivial⟩ ?_
   refine XC.cond_d rfl (fun hc2 => ?_) (fun hc2 => ?_)
   ·refine XC.seq fun K11 hK11 => ?_
    refine XC.region ?_
    refine x_v (r_as rfl) rfl ?_
    refine XL.nil ?_
    refine hK11 _ _ ?_
    refine XC.keep [(2, _)] ⟨rfl, trivial⟩ ?_
    refine XC.ret ?_
    exact fin1 rfl ((by first | (have hN : numGo 0 0 s = none := (by rw [hg, List.drop_of_length_le (by omega)]; rfl); rw [hN]; exact ⟨rfl, rfl⟩) | (have hN : numGo 0 0 s = none := (by rw [hg, hd, numGo]; first | rw [if_pos ⟨by omega, by omega⟩] | rw [if_neg (by omega), if_neg (by omega), if_pos ⟨by omega, by omega⟩]); rw [hN]; exact ⟨rfl, rfl⟩) | (have hN : numGo 0 0 s = some (zstep i z c, s.drop (i + 1)) := (by rw [hg, hd, numGo, if_neg (by omega), if_neg (by omega), if_neg (by omega)]); rw [hN]; exact ⟨rfl, rfl⟩))) gS
   ·refine XC.skip ?_
    refine hK9 _ _ ?_
    refine XC.keep [(0, _), (1, _), (3, _), (4, _), (5, _), (6, _)] ⟨rfl, rfl, rfl, rfl, rfl, rfl, trivial⟩ ?_
    refine XC.seq fun K12 hK12 => ?_
    refine XC.region ?_
    refine x_v (r_mv rfl) rfl ?_
    refine x_v (r_mv rfl) rfl ?_
    refine x_v (r_band (k := .u8) rfl c.toBitVec 127#8 rfl rfl) rfl ?_
    refine x_v (r_bcv (k := .u8) (k' := .u64) rfl (c.toBitVec &&& 127#8) Tryz.underlying5 Tryz.underlying138 rfl) rfl ?_
    refine x_v (r_mv rfl) rfl ?_
    refine x_v (r_bshl (k := .u64) rfl (7 * i) (by show 7 * i ≤ 64; omega) ((c.toBitVec &&& 127#8).setWidth 64) rfl rfl) rfl ?_
    refine x_v (yv (v' := .int .u64 ((zstep i z c).toNat : Int)) (r_bor (k := .u64) rfl z (((c.toBitVec &&& 127#8).setWidth 64) <<< (7 * i)) rfl rfl) rfl) rfl ?_
    refine x_v (r_as rfl) rfl ?_
    refine XL.nil ?_
    refine hK12 _ _ ?_
    refine XC.keep [(0, _), (1, _), (3, _), (4, _), (5, _), (6, _)] ⟨rfl, rfl, rfl, rfl, rfl, rfl, trivial⟩ ?_
    refine XC.seq fun K13 hK13 => ?_
    refine XC.seq fun K14 hK14 => ?_
    refine XC.region ?_
    refine x_v (r_mv rfl) rfl ?_
    refine x_v (yv (v' := .int .i64 ((7 * (i + 1) : Nat) : Int)) (r_add rfl rfl (by omega)) (by congr 1)) rfl ?_
    refine x_v (r_as rfl) rfl ?_
    refine XL.nil ?_
    refine hK14 _ _ ?_
    refine XC.keep [(0, _), (1, _), (3, _), (4, _), (5, _), (6, _)] ⟨rfl, rfl, rfl, rfl, rfl, rfl, trivial⟩ ?_
    refine XC.seq fun K15 hK15 => ?_
    refine XC.region ?_
    refine x_v (r_mv rfl) rfl ?_
    refine x_v (yv (v' := .int .u8 (((c.toBitVec &&& 128#8).toNat : Nat) : Int)) (r_band (k := .u8) rfl c.toBitVec 128#8 rfl rfl) rfl) rfl ?_
    refine x_v (r_ne rfl rfl) rfl ?_
    refine XL.nil ?_
    refine hK15 _ _ ?_
    refine XC.keep [(0, _), (1, _), (3, _), (4, _), (5, _), (6, _), (39, _)] ⟨rfl, rfl, rfl, rfl, rfl, rfl, rfl, trivial⟩ ?_
    refine XC.cond_d rfl (fun hc3 => ?_) (fun hc3 => ?_)
    ·refine XC.exit rfl ?_
     refine hK7 _ _ ?_
     refine XC.keep [(0, _), (1, _), (3, _), (4, _), (5, _)] ⟨rfl, rfl, rfl, rfl, rfl, trivial⟩ ?_
     refine XC.region ?_
     refine x_v (r_mv rfl) rfl ?_
     refine x_v (r_add rfl rfl (by omega)) rfl ?_
     refine x_v (r_as rfl) rfl ?_
     refine XL.nil ?_
     have hct := cont_iff c
     refine ⟨(i + 1, zstep i z c), ?_, ?_, ⟨rfl, rfl, rfl, rfl, rfl, trivial⟩, gS⟩
     ·exact ⟨by dsimp only; omega, by dsimp only; omega, by dsimp only; rw [hg, hd, numGo, if_neg (by omega), if_pos (by omega)]⟩
     ·dsimp only; omega
    ·refine XC.skip ?_
     refine hK13 _ _ ?_
     refine XC.keep [(0, _), (1, _), (3, _), (5, _), (6, _)] ⟨rfl, rfl, rfl, rfl, rfl, trivial⟩ ?_
     refine XC.seq fun K16 hK16 => ?_
     refine XC.seq fun K17 hK17 => ?_
     refine XC.region ?_
     refine x_v (r_mv rfl) rfl ?_
     refine x_v (r_eq rfl rfl) rfl ?_
     refine x_v (r_mv rfl) rfl ?_
     refine XL.splitd 42 rfl (fun hg42 => ?_) (fun hg42 => ?_)
     ·refine x_want rfl rfl rfl ?_
      refine x_v (r_mv rfl) rfl ?_
      refine x_want rfl rfl rfl ?_
      refine x_v (r_gt rfl rfl) rfl ?_
      refine x_v (r_pk_t rfl rfl) rfl ?_
      refine XL.nil ?_
      refine hK17 _ _ ?_
      refine XC.keep [(0, _), (1, _), (3, _), (5, _), (45, _)] ⟨rfl, rfl, rfl, rfl, rfl, trivial⟩ ?_
      refine XC.cond_d rfl (fun hc4 => ?_) (fun hc4 => ?_)
      ·refine XC.seq fun K18 hK18 => ?_
       refine XC.region ?_
       refine x_v (r_as rfl) rfl ?_
       refine XL.nil ?_
       refine hK18 _ _ ?_
       refine XC.keep [(2, _)] ⟨rfl, trivial⟩ ?_
       refine XC.ret ?_
       exact fin1 rfl ((by first | (have hN : numGo 0 0 s = none := (by rw [hg, List.drop_of_length_le (by omega)]; rfl); rw [hN]; exact ⟨rfl, rfl⟩) | (have hN : numGo 0 0 s = none := (by rw [hg, hd, numGo]; first | rw [if_pos ⟨by omega, by omega⟩] | rw [if_neg (by omega), if_neg (by omega), if_pos ⟨by omega, by omega⟩]); rw [hN]; exact ⟨rfl, rfl⟩) | (have hN : numGo 0 0 s = some (zstep i z c, s.drop (i + 1)) := (by rw [hg, hd, numGo, if_neg (by omega), if_neg (by omega), if_neg (by omega)]); rw [hN]; exact ⟨rfl, rfl⟩))) gS
      ·refine XC.skip ?_
       refine hK16 _ _ ?_
       refine XC.keep [(0, _), (1, _), (3, _), (5, _)] ⟨rfl, rfl, rfl, rfl, trivial⟩ ?_
       refine XC.seq fun K19 hK19 => ?_
       refine XC.draw [blk b1 104 [.pointer (some ⟨r, 0, none⟩)], blk r 136 [str s, .bool false]] true [(0, false), (1, false), (2, false), (3, false), (4, false), (5, false), (6, false), (7, false), (8, false), (9, false), (10, false), (11, false), (12, false), (13, false), (14, false), (15, false), (16, true), (17, false), (18, false), (19, true)] (by kernel_rfl) (by kernel_rfl) ?_
       refine y_v rfl (r_ld ty104 rfl pK (by rfl)) gT rfl ?_
       refine y_v rfl (r_mv rfl) gT rfl ?_
       refine y_v rfl (yv (v' := .int .u64 ((((zstep i z c) >>> 1 : BitVec 64).toNat : Nat) : Int)) (r_bshr (k := .u64) 1 (by decide) (zstep i z c) rfl rfl) rfl) gT rfl ?_
       refine y_v rfl (r_cvn Tryz.underlying138 Tryz.underlying3 rfl (IntWalk.i64_in _ (by have := shr1_lt (zstep i z c); omega))) gT rfl ?_
       refine y_v rfl (r_mv rfl) gT rfl ?_
       refine y_v rfl (yv (v' := .int .u64 ((((zstep i z c) &&& 1#64 : BitVec 64).toNat : Nat) : Int)) (r_band (k := .u64) rfl (zstep i z c) 1#64 rfl rfl) rfl) gT rfl ?_
       refine y_v rfl (r_cvn Tryz.underlying138 Tryz.underlying3 rfl (IntWalk.i64_in _ (by have := and1 (zstep i z c); omega))) gT rfl ?_
       refine y_v rfl (r_negi rfl (by rw [Int.zero_sub]; exact IntWalk.i64_in _ (by have := and1 (zstep i z c); omega))) gT rfl ?_
       refine y_v rfl (r_zig (zstep i z c) rfl rfl) gT rfl ?_
       refine y_v rfl (r_ld ty104 rfl pK (by rfl)) gT rfl ?_
       refine y_v rfl (r_nc rfl) gT rfl ?_
       refine y_v rfl (r_fa fo136_0 rfl) gT rfl ?_
       refine y_v rfl (r_ld ty9 rfl pK (by rfl)) gT rfl ?_
       refine y_v rfl (r_mv rfl) gT rfl ?_
       refine y_v rfl (r_add rfl rfl (by omega)) gT rfl ?_
       refine y_v rfl (yv (v' := str (s.drop (i + 1))) (r_ssl (i + 1) s.length Tryz.underlying9 rfl ⟨_, by rfl⟩ rfl (by omega) (by omega)) (congrArg str (List.take_of_length_le (by simp)))) gT rfl ?_
       refine y_e rfl (r_st ty3 rfl rfl rfl rfl rfl uD oV) (fun _ _ h => Gets.own gS h) ?_
       refine y_v rfl (r_nc rfl) gT rfl ?_
       refine y_v rfl (r_fa fo136_0 rfl) gT rfl ?_
       refine y_e rfl (r_st ty9 rfl rfl rfl rfl rfl uD oV) (fun h => absurd h (by decide)) ?_
       refine XH.nil ?_
       refine hK19 _ _ ?_
       refine XC.keep [] trivial ?_
       refine XC.seq fun K20 hK20 => ?_
       refine XC.region ?_
       refine x_v (r_as rfl) rfl ?_
       refine XL.nil ?_
       refine hK20 _ _ ?_
       refine XC.keep [(2, _)] ⟨rfl, trivial⟩ ?_
       refine XC.ret ?_
       exact fin1 rfl ((by first | (have hN : numGo 0 0 s = none := (by rw [hg, List.drop_of_length_le (by omega)]; rfl); rw [hN]; exact ⟨rfl, rfl⟩) | (have hN : numGo 0 0 s = none := (by rw [hg, hd, numGo]; first | rw [if_pos ⟨by omega, by omega⟩] | rw [if_neg (by omega), if_neg (by omega), if_pos ⟨by omega, by omega⟩]); rw [hN]; exact ⟨rfl, rfl⟩) | (have hN : numGo 0 0 s = some (zstep i z c, s.drop (i + 1)) := (by rw [hg, hd, numGo, if_neg (by omega), if_neg (by omega), if_neg (by omega)]); rw [hN]; exact ⟨rfl, rfl⟩))) gS
     ·refine x_unwant rfl rfl rfl rfl rfl ?_
      refine x_unwant rfl rfl rfl rfl rfl ?_
      refine x_v (r_pk_f rfl rfl) rfl ?_
      refine XL.nil ?_
      refine hK17 _ _ ?_
      refine XC.keep [(0, _), (1, _), (3, _), (5, _), (45, _)] ⟨rfl, rfl, rfl, rfl, rfl, trivial⟩ ?_
      refine XC.cond_f rfl ?_
      refine XC.skip ?_
      refine hK16 _ _ ?_
      refine XC.keep [(0, _), (1, _), (3, _), (5, _)] ⟨rfl, rfl, rfl, rfl, trivial⟩ ?_
      refine XC.seq fun K21 hK21 => ?_
      refine XC.draw [blk b1 104 [.pointer (some ⟨r, 0, none⟩)], blk r 136 [str s, .bool false]] true [(0, false), (1, false), (2, false), (3, false), (4, false), (5, false), (6, false), (7, false), (8, false), (9, false), (10, false), (11, false), (12, false), (13, false), (14, false), (15, false), (16, true), (17, false), (18, false), (19, true)] (by kernel_rfl) (by kernel_rfl) ?_
      refine y_v rfl (r_ld ty104 rfl pK (by rfl)) gT rfl ?_
      refine y_v rfl (r_mv rfl) gT rfl ?_
      refine y_v rfl (yv (v' := .int .u64 ((((zstep i z c) >>> 1 : BitVec 64).toNat : Nat) : Int)) (r_bshr (k := .u64) 1 (by decide) (zstep i z c) rfl rfl) rfl) gT rfl ?_
      refine y_v rfl (r_cvn Tryz.underlying138 Tryz.underlying3 rfl (IntWalk.i64_in _ (by have := shr1_lt (zstep i z c); omega))) gT rfl ?_
      refine y_v rfl (r_mv rfl) gT rfl ?_
      refine y_v rfl (yv (v' := .int .u64 ((((zstep i z c) &&& 1#64 : BitVec 64).toNat : Nat) : Int)) (r_band (k := .u64) rfl (zstep i z c) 1#64 rfl rfl) rfl) gT rfl ?_
      refine y_v rfl (r_cvn Tryz.underlying138 Tryz.underlying3 rfl (IntWalk.i64_in _ (by have := and1 (zstep i z c); omega))) gT rfl ?_
      refine y_v rfl (r_negi rfl (by rw [Int.zero_sub]; exact IntWalk.i64_in _ (by have := and1 (zstep i z c); omega))) gT rfl ?_
      refine y_v rfl (r_zig (zstep i z c) rfl rfl) gT rfl ?_
      refine y_v rfl (r_ld ty104 rfl pK (by rfl)) gT rfl ?_
      refine y_v rfl (r_nc rfl) gT rfl ?_
      refine y_v rfl (r_fa fo136_0 rfl) gT rfl ?_
      refine y_v rfl (r_ld ty9 rfl pK (by rfl)) gT rfl ?_
      refine y_v rfl (r_mv rfl) gT rfl ?_
      refine y_v rfl (r_add rfl rfl (by omega)) gT rfl ?_
      refine y_v rfl (yv (v' := str (s.drop (i + 1))) (r_ssl (i + 1) s.length Tryz.underlying9 rfl ⟨_, by rfl⟩ rfl (by omega) (by omega)) (congrArg str (List.take_of_length_le (by simp)))) gT rfl ?_
      refine y_e rfl (r_st ty3 rfl rfl rfl rfl rfl uD oV) (fun _ _ h => Gets.own gS h) ?_
      refine y_v rfl (r_nc rfl) gT rfl ?_
      refine y_v rfl (r_fa fo136_0 rfl) gT rfl ?_
      refine y_e rfl (r_st ty9 rfl rfl rfl rfl rfl uD oV) (fun h => absurd h (by decide)) ?_
      refine XH.nil ?_
      refine hK21 _ _ ?_
      refine XC.keep [] trivial ?_
      refine XC.seq fun K22 hK22 => ?_
      refine XC.region ?_
      refine x_v (r_as rfl) rfl ?_
      refine XL.nil ?_
      refine hK22 _ _ ?_
      refine XC.keep [(2, _)] ⟨rfl, trivial⟩ ?_
      refine XC.ret ?_
      exact fin1 rfl ((by first | (have hN : numGo 0 0 s = none := (by rw [hg, List.drop_of_length_le (by omega)]; rfl); rw [hN]; exact ⟨rfl, rfl⟩) | (have hN : numGo 0 0 s = none := (by rw [hg, hd, numGo]; first | rw [if_pos ⟨by omega, by omega⟩] | rw [if_neg (by omega), if_neg (by omega), if_pos ⟨by omega, by omega⟩]); rw [hN]; exact ⟨rfl, rfl⟩) | (have hN : numGo 0 0 s = some (zstep i z c, s.drop (i + 1)) := (by rw [hg, hd, numGo, if_neg (by omega), if_neg (by omega), if_neg (by omega)]); rw [hN]; exact ⟨rfl, rfl⟩))) gS
  ·refine x_unwant rfl rfl rfl rfl rfl ?_
   refine x_unwant rfl rfl rfl rfl rfl ?_
   refine x_v (r_pk_f rfl rfl) rfl ?_
   refine XL.nil ?_
   refine hK10 _ _ ?_
   refine XC.keep [(0, _), (1, _), (3, _), (4, _), (5, _), (6, _), (27, _)] ⟨rfl, rfl, rfl, rfl, rfl, rfl, rfl, trivial⟩ ?_
   refine XC.cond_f rfl ?_
   refine XC.skip ?_
   refine hK9 _ _ ?_
   refine XC.keep [(0, _), (1, _), (3, _), (4, _), (5, _), (6, _)] ⟨rfl, rfl, rfl, rfl, rfl, rfl, trivial⟩ ?_
   refine XC.seq fun K23 hK23 => ?_
   refine XC.region ?_
   refine x_v (r_mv rfl) rfl ?_
   refine x_v (r_mv rfl) rfl ?_
   refine x_v (r_band (k := .u8) rfl c.toBitVec 127#8 rfl rfl) rfl ?_
   refine x_v (r_bcv (k := .u8) (k' := .u64) rfl (c.toBitVec &&& 127#8) Tryz.underlying5 Tryz.underlying138 rfl) rfl ?_
   refine x_v (r_mv rfl) rfl ?_
   refine x_v (r_bshl (k := .u64) rfl (7 * i) (by show 7 * i ≤ 64; omega) ((c.toBitVec &&& 127#8).setWidth 64) rfl rfl) rfl ?_
   refine x_v (yv (v' := .int .u64 ((zstep i z c).toNat : Int)) (r_bor (k := .u64) rfl z (((c.toBitVec &&& 127#8).setWidth 64) <<< (7 * i)) rfl rfl) rfl) rfl ?_
   refine x_v (r_as rfl) rfl ?_
   refine XL.nil ?_
   refine hK23 _ _ ?_
   refine XC.keep [(0, _), (1, _), (3, _), (4, _), (5, _), (6, _)] ⟨rfl, rfl, rfl, rfl, rfl, rfl, trivial⟩ ?_
   refine XC.seq fun K24 hK24 => ?_
   refine XC.seq fun K25 hK25 => ?_
   refine XC.region ?_
   refine x_v (r_mv rfl) rfl ?_
   refine x_v (yv (v' := .int .i64 ((7 * (i + 1) : Nat) : Int)) (r_add rfl rfl (by omega)) (by congr 1)) rfl ?_
   refine x_v (r_as rfl) rfl ?_
   refine XL.nil ?_
   refine hK25 _ _ ?_
   refine XC.keep [(0, _), (1, _), (3, _), (4, _), (5, _), (6, _)] ⟨rfl, rfl, rfl, rfl, rfl, rfl, trivial⟩ ?_
   refine XC.seq fun K26 hK26 => ?_
   refine XC.region ?_
   refine x_v (r_mv rfl) rfl ?_
   refine x_v (yv (v' := .int .u8 (((c.toBitVec &&& 128#8).toNat : Nat) : Int)) (r_band (k := .u8) rfl c.toBitVec 128#8 rfl rfl) rfl) rfl ?_
   refine x_v (r_ne rfl rfl) rfl ?_
   refine XL.nil ?_
   refine hK26 _ _ ?_
   refine XC.keep [(0, _), (1, _), (3, _), (4, _), (5, _), (6, _), (39, _)] ⟨rfl, rfl, rfl, rfl, rfl, rfl, rfl, trivial⟩ ?_
   refine XC.cond_d rfl (fun hc7 => ?_) (fun hc7 => ?_)
   ·refine XC.exit rfl ?_
    refine hK7 _ _ ?_
    refine XC.keep [(0, _), (1, _), (3, _), (4, _), (5, _)] ⟨rfl, rfl, rfl, rfl, rfl, trivial⟩ ?_
    refine XC.region ?_
    refine x_v (r_mv rfl) rfl ?_
    refine x_v (r_add rfl rfl (by omega)) rfl ?_
    refine x_v (r_as rfl) rfl ?_
    refine XL.nil ?_
    have hct := cont_iff c
    refine ⟨(i + 1, zstep i z c), ?_, ?_, ⟨rfl, rfl, rfl, rfl, rfl, trivial⟩, gS⟩
    ·exact ⟨by dsimp only; omega, by dsimp only; omega, by dsimp only; rw [hg, hd, numGo, if_neg (by omega), if_pos (by omega)]⟩
    ·dsimp only; omega
   ·refine XC.skip ?_
    refine hK24 _ _ ?_
    refine XC.keep [(0, _), (1, _), (3, _), (5, _), (6, _)] ⟨rfl, rfl, rfl, rfl, rfl, trivial⟩ ?_
    refine XC.seq fun K27 hK27 => ?_
    refine XC.seq fun K28 hK28 => ?_
    refine XC.region ?_
    refine x_v (r_mv rfl) rfl ?_
    refine x_v (r_eq rfl rfl) rfl ?_
    refine x_v (r_mv rfl) rfl ?_
    refine XL.splitd 42 rfl (fun hg42 => ?_) (fun hg42 => ?_)
    ·refine x_want rfl rfl rfl ?_
     refine x_v (r_mv rfl) rfl ?_
     refine x_want rfl rfl rfl ?_
     refine x_v (r_gt rfl rfl) rfl ?_
     refine x_v (r_pk_t rfl rfl) rfl ?_
     refine XL.nil ?_
     refine hK28 _ _ ?_
     refine XC.keep [(0, _), (1, _), (3, _), (5, _), (45, _)] ⟨rfl, rfl, rfl, rfl, rfl, trivial⟩ ?_
     refine XC.cond_d rfl (fun hc8 => ?_) (fun hc8 => ?_)
     ·refine XC.seq fun K29 hK29 => ?_
      refine XC.region ?_
      refine x_v (r_as rfl) rfl ?_
      refine XL.nil ?_
      refine hK29 _ _ ?_
      refine XC.keep [(2, _)] ⟨rfl, trivial⟩ ?_
      refine XC.ret ?_
      exact fin1 rfl ((by first | (have hN : numGo 0 0 s = none := (by rw [hg, List.drop_of_length_le (by omega)]; rfl); rw [hN]; exact ⟨rfl, rfl⟩) | (have hN : numGo 0 0 s = none := (by rw [hg, hd, numGo]; first | rw [if_pos ⟨by omega, by omega⟩] | rw [if_neg (by omega), if_neg (by omega), if_pos ⟨by omega, by omega⟩]); rw [hN]; exact ⟨rfl, rfl⟩) | (have hN : numGo 0 0 s = some (zstep i z c, s.drop (i + 1)) := (by rw [hg, hd, numGo, if_neg (by omega), if_neg (by omega), if_neg (by omega)]); rw [hN]; exact ⟨rfl, rfl⟩))) gS
     ·refine XC.skip ?_
      refine hK27 _ _ ?_
      refine XC.keep [(0, _), (1, _), (3, _), (5, _)] ⟨rfl, rfl, rfl, rfl, trivial⟩ ?_
      refine XC.seq fun K30 hK30 => ?_
      refine XC.draw [blk b1 104 [.pointer (some ⟨r, 0, none⟩)], blk r 136 [str s, .bool false]] true [(0, false), (1, false), (2, false), (3, false), (4, false), (5, false), (6, false), (7, false), (8, false), (9, false), (10, false), (11, false), (12, false), (13, false), (14, false), (15, false), (16, true), (17, false), (18, false), (19, true)] (by kernel_rfl) (by kernel_rfl) ?_
      refine y_v rfl (r_ld ty104 rfl pK (by rfl)) gT rfl ?_
      refine y_v rfl (r_mv rfl) gT rfl ?_
      refine y_v rfl (yv (v' := .int .u64 ((((zstep i z c) >>> 1 : BitVec 64).toNat : Nat) : Int)) (r_bshr (k := .u64) 1 (by decide) (zstep i z c) rfl rfl) rfl) gT rfl ?_
      refine y_v rfl (r_cvn Tryz.underlying138 Tryz.underlying3 rfl (IntWalk.i64_in _ (by have := shr1_lt (zstep i z c); omega))) gT rfl ?_
      refine y_v rfl (r_mv rfl) gT rfl ?_
      refine y_v rfl (yv (v' := .int .u64 ((((zstep i z c) &&& 1#64 : BitVec 64).toNat : Nat) : Int)) (r_band (k := .u64) rfl (zstep i z c) 1#64 rfl rfl) rfl) gT rfl ?_
      refine y_v rfl (r_cvn Tryz.underlying138 Tryz.underlying3 rfl (IntWalk.i64_in _ (by have := and1 (zstep i z c); omega))) gT rfl ?_
      refine y_v rfl (r_negi rfl (by rw [Int.zero_sub]; exact IntWalk.i64_in _ (by have := and1 (zstep i z c); omega))) gT rfl ?_
      refine y_v rfl (r_zig (zstep i z c) rfl rfl) gT rfl ?_
      refine y_v rfl (r_ld ty104 rfl pK (by rfl)) gT rfl ?_
      refine y_v rfl (r_nc rfl) gT rfl ?_
      refine y_v rfl (r_fa fo136_0 rfl) gT rfl ?_
      refine y_v rfl (r_ld ty9 rfl pK (by rfl)) gT rfl ?_
      refine y_v rfl (r_mv rfl) gT rfl ?_
      refine y_v rfl (r_add rfl rfl (by omega)) gT rfl ?_
      refine y_v rfl (yv (v' := str (s.drop (i + 1))) (r_ssl (i + 1) s.length Tryz.underlying9 rfl ⟨_, by rfl⟩ rfl (by omega) (by omega)) (congrArg str (List.take_of_length_le (by simp)))) gT rfl ?_
      refine y_e rfl (r_st ty3 rfl rfl rfl rfl rfl uD oV) (fun _ _ h => Gets.own gS h) ?_
      refine y_v rfl (r_nc rfl) gT rfl ?_
      refine y_v rfl (r_fa fo136_0 rfl) gT rfl ?_
      refine y_e rfl (r_st ty9 rfl rfl rfl rfl rfl uD oV) (fun h => absurd h (by decide)) ?_
      refine XH.nil ?_
      refine hK30 _ _ ?_
      refine XC.keep [] trivial ?_
      refine XC.seq fun K31 hK31 => ?_
      refine XC.region ?_
      refine x_v (r_as rfl) rfl ?_
      refine XL.nil ?_
      refine hK31 _ _ ?_
      refine XC.keep [(2, _)] ⟨rfl, trivial⟩ ?_
      refine XC.ret ?_
      exact fin1 rfl ((by first | (have hN : numGo 0 0 s = none := (by rw [hg, List.drop_of_length_le (by omega)]; rfl); rw [hN]; exact ⟨rfl, rfl⟩) | (have hN : numGo 0 0 s = none := (by rw [hg, hd, numGo]; first | rw [if_pos ⟨by omega, by omega⟩] | rw [if_neg (by omega), if_neg (by omega), if_pos ⟨by omega, by omega⟩]); rw [hN]; exact ⟨rfl, rfl⟩) | (have hN : numGo 0 0 s = some (zstep i z c, s.drop (i + 1)) := (by rw [hg, hd, numGo, if_neg (by omega), if_neg (by omega), if_neg (by omega)]); rw [hN]; exact ⟨rfl, rfl⟩))) gS
    ·refine x_unwant rfl rfl rfl rfl rfl ?_
     refine x_unwant rfl rfl rfl rfl rfl ?_
     refine x_v (r_pk_f rfl rfl) rfl ?_
     refine XL.nil ?_
     refine hK28 _ _ ?_
     refine XC.keep [(0, _), (1, _), (3, _), (5, _), (45, _)] ⟨rfl, rfl, rfl, rfl, rfl, trivial⟩ ?_
     refine XC.cond_f rfl ?_
     refine XC.skip ?_
     refine hK27 _ _ ?_
     refine XC.keep [(0, _), (1, _), (3, _), (5, _)] ⟨rfl, rfl, rfl, rfl, trivial⟩ ?_
     refine XC.seq fun K32 hK32 => ?_
     refine XC.draw [blk b1 104 [.pointer (some ⟨r, 0, none⟩)], blk r 136 [str s, .bool false]] true [(0, false), (1, false), (2, false), (3, false), (4, false), (5, false), (6, false), (7, false), (8, false), (9, false), (10, false), (11, false), (12, false), (13, false), (14, false), (15, false), (16, true), (17, false), (18, false), (19, true)] (by kernel_rfl) (by kernel_rfl) ?_
     refine y_v rfl (r_ld ty104 rfl pK (by rfl)) gT rfl ?_
     refine y_v rfl (r_mv rfl) gT rfl ?_
     refine y_v rfl (yv (v' := .int .u64 ((((zstep i z c) >>> 1 : BitVec 64).toNat : Nat) : Int)) (r_bshr (k := .u64) 1 (by decide) (zstep i z c) rfl rfl) rfl) gT rfl ?_
     refine y_v rfl (r_cvn Tryz.underlying138 Tryz.underlying3 rfl (IntWalk.i64_in _ (by have := shr1_lt (zstep i z c); omega))) gT rfl ?_
     refine y_v rfl (r_mv rfl) gT rfl ?_
     refine y_v rfl (yv (v' := .int .u64 ((((zstep i z c) &&& 1#64 : BitVec 64).toNat : Nat) : Int)) (r_band (k := .u64) rfl (zstep i z c) 1#64 rfl rfl) rfl) gT rfl ?_
     refine y_v rfl (r_cvn Tryz.underlying138 Tryz.underlying3 rfl (IntWalk.i64_in _ (by have := and1 (zstep i z c); omega))) gT rfl ?_
     refine y_v rfl (r_negi rfl (by rw [Int.zero_sub]; exact IntWalk.i64_in _ (by have := and1 (zstep i z c); omega))) gT rfl ?_
     refine y_v rfl (r_zig (zstep i z c) rfl rfl) gT rfl ?_
     refine y_v rfl (r_ld ty104 rfl pK (by rfl)) gT rfl ?_
     refine y_v rfl (r_nc rfl) gT rfl ?_
     refine y_v rfl (r_fa fo136_0 rfl) gT rfl ?_
     refine y_v rfl (r_ld ty9 rfl pK (by rfl)) gT rfl ?_
     refine y_v rfl (r_mv rfl) gT rfl ?_
     refine y_v rfl (r_add rfl rfl (by omega)) gT rfl ?_
     refine y_v rfl (yv (v' := str (s.drop (i + 1))) (r_ssl (i + 1) s.length Tryz.underlying9 rfl ⟨_, by rfl⟩ rfl (by omega) (by omega)) (congrArg str (List.take_of_length_le (by simp)))) gT rfl ?_
     refine y_e rfl (r_st ty3 rfl rfl rfl rfl rfl uD oV) (fun _ _ h => Gets.own gS h) ?_
     refine y_v rfl (r_nc rfl) gT rfl ?_
     refine y_v rfl (r_fa fo136_0 rfl) gT rfl ?_
     refine y_e rfl (r_st ty9 rfl rfl rfl rfl rfl uD oV) (fun h => absurd h (by decide)) ?_
     refine XH.nil ?_
     refine hK32 _ _ ?_
     refine XC.keep [] trivial ?_
     refine XC.seq fun K33 hK33 => ?_
     refine XC.region ?_
     refine x_v (r_as rfl) rfl ?_
     refine XL.nil ?_
     refine hK33 _ _ ?_
     refine XC.keep [(2, _)] ⟨rfl, trivial⟩ ?_
     refine XC.ret ?_
     exact fin1 rfl ((by first | (have hN : numGo 0 0 s = none := (by rw [hg, List.drop_of_length_le (by omega)]; rfl); rw [hN]; exact ⟨rfl, rfl⟩) | (have hN : numGo 0 0 s = none := (by rw [hg, hd, numGo]; first | rw [if_pos ⟨by omega, by omega⟩] | rw [if_neg (by omega), if_neg (by omega), if_pos ⟨by omega, by omega⟩]); rw [hN]; exact ⟨rfl, rfl⟩) | (have hN : numGo 0 0 s = some (zstep i z c, s.drop (i + 1)) := (by rw [hg, hd, numGo, if_neg (by omega), if_neg (by omega), if_neg (by omega)]); rw [hN]; exact ⟨rfl, rfl⟩))) gS
 ·refine XC.exit rfl ?_
  refine hK3 _ _ ?_
  refine XC.keep [] trivial ?_
  refine XC.seq fun K34 hK34 => ?_
  refine XC.region ?_
  refine x_v (r_as rfl) rfl ?_
  refine XL.nil ?_
  refine hK34 _ _ ?_
  refine XC.keep [(2, _)] ⟨rfl, trivial⟩ ?_
  refine XC.ret ?_
  exact fin1 rfl ((by first | (have hN : numGo 0 0 s = none := (by rw [hg, List.drop_of_length_le (by omega)]; rfl); rw [hN]; exact ⟨rfl, rfl⟩) | (have hN : numGo 0 0 s = none := (by rw [hg, hd, numGo]; first | rw [if_pos ⟨by omega, by omega⟩] | rw [if_neg (by omega), if_neg (by omega), if_pos ⟨by omega, by omega⟩]); rw [hN]; exact ⟨rfl, rfl⟩) | (have hN : numGo 0 0 s = some (zstep i z c, s.drop (i + 1)) := (by rw [hg, hd, numGo, if_neg (by omega), if_neg (by omega), if_neg (by omega)]); rw [hN]; exact ⟨rfl, rfl⟩))) gS
end Go.Proofs.YtcmdmhmgffjknaaGreatDoor
/- A reader of packed bytes: functions 58, 59, 60, 61, 97, 98, 99, 101. -/
namespace Go.Proofs.YtcmdmhmgffjknaaGreatDoor
open Go.Sx
set_option linter.unusedVariables false

/-- A good reader is asked for something; it is spoilt if there is no such thing. -/
theorem some_tr {W0 : World} (r fid : Nat) (cap : List Value) (s : List UInt8) (Fr : List HP) (Q : Bool → List UInt8 → List HP → Prop)
  (hc : Tr W0 Tryz.prog fid cap (rdc r (s, false) :: Fr) (fun v Rs' => ∃ ok s' R2, v = .bool ok ∧ Q ok s' R2 ∧ Rs' = rdc r (s', false) :: R2)) :
  Tr W0 Tryz.prog 99 [.pointer (some ⟨r, 0, none⟩), .func (.func fid) #[] cap.toArray] (rdc r (s, false) :: Fr) (fun v Rs' => v = .tuple #[] ∧ ∃ ok s' R2, Q ok s' R2 ∧ Rs' = rdc r (s', !ok) :: R2) := by
 unfold rdc at *
 refine Entry.tr (N := 18) (rs := []) ⟨_, Tryz.func99, rfl, by kernel_rfl, rfl, rfl⟩ rfl ?_
 refine XC.seq fun K1 hK1 => ?_
 refine XC.seq fun K2 hK2 => ?_
 refine XC.region ?_
 refine x_v (r_mv rfl) rfl ?_
 refine x_v (r_peq_some Tryz.underlying104 rfl rfl) rfl ?_
 refine x_v (r_mv rfl) rfl ?_
 refine x_want rfl rfl rfl ?_
 refine x_v (r_mv rfl) rfl ?_
 refine x_want rfl rfl rfl ?_
 refine x_v (r_nc rfl) rfl ?_
 refine x_want rfl rfl rfl ?_
 refine x_v (r_fa fo136_1 rfl) rfl ?_
 refine x_want rfl rfl rfl ?_
 refine x_v (r_ld ty4 rfl pK (by rfl)) rfl ?_
 refine x_v (r_pk_f rfl rfl) rfl ?_
 refine XL.nil ?_
 refine hK2 _ _ ?_
 refine XC.keep [(0, _), (1, _), (11, _)] ⟨rfl, rfl, rfl, trivial⟩ ?_
 refine XC.cond_f rfl ?_
 refine XC.skip ?_
 refine hK1 _ _ ?_
 refine XC.keep [(0, _), (1, _)] ⟨rfl, rfl, trivial⟩ ?_
 refine XC.seq fun K3 hK3 => ?_
 refine XC.region ?_
 refine x_v (r_mv rfl) rfl ?_
 refine x_c (r_call (fst := []) (cap := cap) (vs := []) rfl rfl rfl hc gS) rfl ?_
 rintro _ _ ⟨ok, s2, R2, rfl, hq, hRs⟩
 rw [hRs]
 refine x_v (r_not rfl) rfl ?_
 refine XL.nil ?_
 refine hK3 _ _ ?_
 refine XC.keep [(0, _), (14, _)] ⟨rfl, rfl, trivial⟩ ?_
 refine XC.cond rfl (fun hc2 => ?_) (fun hc2 => ?_)
 ·refine XC.region ?_
  refine x_v (r_mv rfl) rfl ?_
  refine x_v (r_nc rfl) rfl ?_
  refine x_v (r_fa fo136_1 rfl) rfl ?_
  refine x_e (r_st ty4 rfl rfl rfl rfl rfl uD oV) ?_
  refine XL.nil ?_
  exact fin0 (⟨rfl, false, s2, R2, by rw [show ok = false by simpa using hc2] at hq; exact hq, rfl⟩) gS
 ·refine XC.skip ?_
  exact fin0 (⟨rfl, true, s2, R2, by rw [show ok = true by simpa using hc2] at hq; exact hq, rfl⟩) gS
theorem some_bad {W0 : World} (r : Nat) (f : Value) (s : List UInt8) (Fr : List HP) :
  Tr W0 Tryz.prog 99 [.pointer (some ⟨r, 0, none⟩), f] (rdc r (s, true) :: Fr) (fun v Rs' => v = .tuple #[] ∧ Rs' = rdc r (s, true) :: Fr) := by
 unfold rdc
 refine Entry.tr (N := 18) (rs := []) ⟨_, Tryz.func99, rfl, by kernel_rfl, rfl, rfl⟩ rfl ?_
 refine XC.seq fun K1 hK1 => ?_
 refine XC.seq fun K2 hK2 => ?_
 refine XC.region ?_
 refine x_v (r_mv rfl) rfl ?_
 refine x_v (r_peq_some Tryz.underlying104 rfl rfl) rfl ?_
 refine x_v (r_mv rfl) rfl ?_
 refine x_want rfl rfl rfl ?_
 refine x_v (r_mv rfl) rfl ?_
 refine x_want rfl rfl rfl ?_
 refine x_v (r_nc rfl) rfl ?_
 refine x_want rfl rfl rfl ?_
 refine x_v (r_fa fo136_1 rfl) rfl ?_
 refine x_want rfl rfl rfl ?_
 refine x_v (r_ld ty4 rfl pK (by rfl)) rfl ?_
 refine x_v (r_pk_f rfl rfl) rfl ?_
 refine XL.nil ?_
 refine hK2 _ _ ?_
 refine XC.keep [(0, _), (1, _), (11, _)] ⟨rfl, rfl, rfl, trivial⟩ ?_
 refine XC.cond_t rfl ?_
 refine XC.ret ?_
 exact fin0 (⟨rfl, rfl⟩) gS
theorem some_any {W0 : World} (r fid : Nat) (cap : List Value) (s : List UInt8) (bad : Bool) (F : Value → List HP) (z0 z1 : Value) (ok : Bool) (s' : List UInt8)
  (hc : bad = false → Tr W0 Tryz.prog fid cap (rdc r (s, false) :: F z0) (fun v Rs' => v = .bool ok ∧ Rs' = rdc r (s', false) :: F z1)) :
  Tr W0 Tryz.prog 99 [.pointer (some ⟨r, 0, none⟩), .func (.func fid) #[] cap.toArray] (rdc r (s, bad) :: F z0) (fun v Rs' => v = .tuple #[] ∧ Rs' = rdc r (bif bad then (s, true) else (s', !ok)) :: F (bif bad then z0 else z1)) := by
 cases bad
 ·exact (some_tr r fid cap s (F z0) (fun o s2 R2 => o = ok ∧ s2 = s' ∧ R2 = F z1) ((hc rfl).mono fun v Rs' ⟨h1, h2⟩ => ⟨ok, s', F z1, h1, ⟨rfl, rfl, rfl⟩, h2⟩)).mono fun v Rs' ⟨h1, o, s2, R2, ⟨h2, h3, h4⟩, h5⟩ => ⟨h1, by rw [h5, h2, h3, h4]; rfl⟩
 ·exact some_bad r _ s (F z0)
theorem numR_is (x : Rd) : (bif x.2 then Value.int .i64 0 else .int .i64 (((numGo 0 0 x.1).map (fun q => zig q.1)).getD 0)) = .int .i64 (numR x).1 ∧ (bif x.2 then ((x.1, true) : Rd) else (((numGo 0 0 x.1).map (·.2)).getD x.1, !(numGo 0 0 x.1).isSome)) = (numR x).2 := by
 obtain ⟨s, bad⟩ := x
 cases bad <;> simp [numR]
theorem read_tr {W0 : World} (s : List UInt8) (Fr : List HP) : Tr W0 Tryz.prog 58 [str s] Fr (fun v Rs' => ∃ r, v = .pointer (some ⟨r, 0, none⟩) ∧ Rs' = rdc r (s, false) :: Fr) := by
 unfold rdc
 refine Entry.tr (N := 6) (rs := [.tmp 2]) ⟨_, Tryz.func58, rfl, by kernel_rfl, rfl, rfl⟩ rfl ?_
 refine XC.seq fun K1 hK1 => ?_
 refine XC.region ?_
 refine x_v (r_as rfl) rfl ?_
 refine XL.nil ?_
 refine hK1 _ _ ?_
 refine XC.keep [(0, _)] ⟨rfl, trivial⟩ ?_
 refine XC.seq fun K2 hK2 => ?_
 refine XC.region ?_
 refine x_v (r_mv rfl) rfl ?_
 refine x_v (r_bd (vs := [_]) rfl ⟨rfl, rfl⟩ (bd136_0 _)) rfl ?_
 refine x_a (r_bx rfl rfl) rfl fun b5 => ?_
 refine x_v (r_as rfl) rfl ?_
 refine XL.nil ?_
 refine hK2 _ _ ?_
 refine XC.keep [(2, _)] ⟨rfl, trivial⟩ ?_
 refine XC.ret ?_
 exact fin1 rfl (⟨_, rfl, rfl⟩) gS
theorem num_tr {W0 : World} (r : Nat) (x : Rd) (Fr : List HP) (hs : x.1.length ≤ maxS) : Tr W0 Tryz.prog 59 [.pointer (some ⟨r, 0, none⟩)] (rdc r x :: Fr) (fun v Rs' => v = .int .i64 (numR x).1 ∧ Rs' = rdc r (numR x).2 :: Fr) := by
 refine Entry.tr (N := 7) (rs := [.cell 2 3]) ⟨_, Tryz.func59, rfl, by kernel_rfl, rfl, rfl⟩ rfl ?_
 refine XC.seq fun K1 hK1 => ?_
 refine XC.region ?_
 refine x_a (r_bx rfl rfl) rfl fun b1 => ?_
 refine x_a (r_al ty3 rfl) rfl fun b2 => ?_
 refine XL.nil ?_
 refine hK1 _ _ ?_
 refine XC.keep [(1, _), (2, _)] ⟨rfl, rfl, trivial⟩ ?_
 refine XC.seq fun K2 hK2 => ?_
 refine XC.region ?_
 refine x_v (r_ld ty104 rfl pK (by rfl)) rfl ?_
 refine x_v (r_mfv (cs := [_, _]) ⟨rfl, rfl, rfl⟩) rfl ?_
 refine x_c (r_call0 (args := [_, _]) ⟨rfl, rfl, rfl⟩ (some_any r 100 [.pointer (some ⟨b1, 0, none⟩), .pointer (some ⟨b2, 0, none⟩)] x.1 x.2 (fun v => blk b1 104 [.pointer (some ⟨r, 0, none⟩)] :: blk b2 3 [v] :: Fr) (.int .i64 0) _ _ _ (fun _ => num1_tr b1 b2 r x.1 Fr hs)) gS) rfl ?_
 rintro _ _ ⟨rfl, hRs⟩
 rw [(numR_is x).1, (numR_is x).2] at hRs
 rw [hRs]
 refine XL.nil ?_
 refine hK2 _ _ ?_
 refine XC.keep [(2, _)] ⟨rfl, trivial⟩ ?_
 refine XC.seq fun K3 hK3 => ?_
 refine XC.region ?_
 refine x_v (r_ld ty3 rfl pK (by rfl)) rfl ?_
 refine x_e (r_st ty3 rfl rfl rfl rfl rfl uD oV) ?_
 refine XL.nil ?_
 refine hK3 _ _ ?_
 refine XC.keep [(2, _)] ⟨rfl, trivial⟩ ?_
 refine XC.ret ?_
 exact finv1 ty3 rfl pK (⟨rfl, rfl⟩) gS
theorem left_tr {W0 : World} (r : Nat) (x : Rd) (Fr : List HP) : Tr W0 Tryz.prog 97 [.pointer (some ⟨r, 0, none⟩)] (rdc r x :: Fr) (fun v Rs' => v = .int .i64 (x.1.length : Int) ∧ Rs' = rdc r x :: Fr) := by
 unfold rdc
 refine Entry.tr (N := 10) (rs := [.tmp 2]) ⟨_, Tryz.func97, rfl, by kernel_rfl, rfl, rfl⟩ rfl ?_
 refine XC.seq fun K1 hK1 => ?_
 refine XC.region ?_
 refine x_v (r_as rfl) rfl ?_
 refine XL.nil ?_
 refine hK1 _ _ ?_
 refine XC.keep [(0, _)] ⟨rfl, trivial⟩ ?_
 refine XC.seq fun K2 hK2 => ?_
 refine XC.seq fun K3 hK3 => ?_
 refine XC.region ?_
 refine x_v (r_mv rfl) rfl ?_
 refine x_v (r_peq_some Tryz.underlying104 rfl rfl) rfl ?_
 refine XL.nil ?_
 refine hK3 _ _ ?_
 refine XC.keep [(0, _), (4, _)] ⟨rfl, rfl, trivial⟩ ?_
 refine XC.cond_f rfl ?_
 refine XC.skip ?_
 refine hK2 _ _ ?_
 refine XC.keep [(0, _)] ⟨rfl, trivial⟩ ?_
 refine XC.seq fun K4 hK4 => ?_
 refine XC.region ?_
 refine x_v (r_mv rfl) rfl ?_
 refine x_v (r_nc rfl) rfl ?_
 refine x_v (r_fa fo136_0 rfl) rfl ?_
 refine x_v (r_ld ty9 rfl pK (by rfl)) rfl ?_
 refine x_v (r_lens Tryz.underlying9 rfl) rfl ?_
 refine x_v (r_as rfl) rfl ?_
 refine XL.nil ?_
 refine hK4 _ _ ?_
 refine XC.keep [(2, _)] ⟨rfl, trivial⟩ ?_
 refine XC.ret ?_
 exact fin1 rfl (⟨rfl, rfl⟩) gS
theorem good_tr {W0 : World} (r : Nat) (x : Rd) (Fr : List HP) : Tr W0 Tryz.prog 98 [.pointer (some ⟨r, 0, none⟩)] (rdc r x :: Fr) (fun v Rs' => v = .bool (!x.2) ∧ Rs' = rdc r x :: Fr) := by
 unfold rdc
 refine Entry.tr (N := 12) (rs := [.tmp 2]) ⟨_, Tryz.func98, rfl, by kernel_rfl, rfl, rfl⟩ rfl ?_
 refine XC.seq fun K1 hK1 => ?_
 refine XC.region ?_
 refine x_v (r_as rfl) rfl ?_
 refine XL.nil ?_
 refine hK1 _ _ ?_
 refine XC.keep [(0, _)] ⟨rfl, trivial⟩ ?_
 refine XC.seq fun K2 hK2 => ?_
 refine XC.region ?_
 refine x_v (r_mv rfl) rfl ?_
 refine x_v (r_pne_some Tryz.underlying104 rfl rfl) rfl ?_
 refine x_v (r_mv rfl) rfl ?_
 refine x_want rfl rfl rfl ?_
 refine x_v (r_mv rfl) rfl ?_
 refine x_want rfl rfl rfl ?_
 refine x_v (r_nc rfl) rfl ?_
 refine x_want rfl rfl rfl ?_
 refine x_v (r_fa fo136_1 rfl) rfl ?_
 refine x_want rfl rfl rfl ?_
 refine x_v (r_ld ty4 rfl pK (by rfl)) rfl ?_
 refine x_want rfl rfl rfl ?_
 refine x_v (r_not rfl) rfl ?_
 refine x_v (r_pk_t rfl rfl) rfl ?_
 refine x_v (r_as rfl) rfl ?_
 refine XL.nil ?_
 refine hK2 _ _ ?_
 refine XC.keep [(2, _)] ⟨rfl, trivial⟩ ?_
 refine XC.ret ?_
 exact fin1 rfl (⟨rfl, rfl⟩) gS
theorem done_tr {W0 : World} (r : Nat) (x : Rd) (Fr : List HP) : Tr W0 Tryz.prog 61 [.pointer (some ⟨r, 0, none⟩)] (rdc r x :: Fr) (fun v Rs' => v = .bool (!x.2 && decide (x.1 = [])) ∧ Rs' = rdc r x :: Fr) := by
 refine Entry.tr (N := 12) (rs := [.tmp 2]) ⟨_, Tryz.func61, rfl, by kernel_rfl, rfl, rfl⟩ rfl ?_
 refine XC.seq fun K1 hK1 => ?_
 refine XC.region ?_
 refine x_v (r_as rfl) rfl ?_
 refine XL.nil ?_
 refine hK1 _ _ ?_
 refine XC.keep [(0, _)] ⟨rfl, trivial⟩ ?_
 refine XC.seq fun K2 hK2 => ?_
 refine XC.region ?_
 refine x_v (r_mv rfl) rfl ?_
 refine x_c (r_call0 (args := [_]) ⟨rfl, rfl⟩ (good_tr r x Fr) gS) rfl ?_
 rintro _ _ ⟨rfl, hRs⟩
 rw [hRs]
 unfold rdc
 refine x_v (r_mv rfl) rfl ?_
 refine XL.split 5 rfl (fun hg5 => ?_) (fun hg5 => ?_)
 ·refine x_want rfl rfl rfl ?_
  refine x_v (r_mv rfl) rfl ?_
  refine x_want rfl rfl rfl ?_
  refine x_v (r_nc rfl) rfl ?_
  refine x_want rfl rfl rfl ?_
  refine x_v (r_fa fo136_0 rfl) rfl ?_
  refine x_want rfl rfl rfl ?_
  refine x_v (r_ld ty9 rfl pK (by rfl)) rfl ?_
  refine x_want rfl rfl rfl ?_
  refine x_v (r_seq rfl rfl) rfl ?_
  refine x_v (r_pk_t rfl rfl) rfl ?_
  refine x_v (r_as rfl) rfl ?_
  refine XL.nil ?_
  refine hK2 _ _ ?_
  refine XC.keep [(2, _)] ⟨rfl, trivial⟩ ?_
  refine XC.ret ?_
  exact fin1 rfl (⟨by simp_all, rfl⟩) gS
 ·refine x_unwant rfl rfl rfl rfl rfl ?_
  refine x_unwant rfl rfl rfl rfl rfl ?_
  refine x_unwant rfl rfl rfl rfl rfl ?_
  refine x_unwant rfl rfl rfl rfl rfl ?_
  refine x_unwant rfl rfl rfl rfl rfl ?_
  refine x_v (r_pk_f rfl rfl) rfl ?_
  refine x_v (r_as rfl) rfl ?_
  refine XL.nil ?_
  refine hK2 _ _ ?_
  refine XC.keep [(2, _)] ⟨rfl, trivial⟩ ?_
  refine XC.ret ?_
  exact fin1 rfl (⟨by simp_all, rfl⟩) gS
def textR (x : Rd) : List UInt8 × Rd := if (numR x).2.2 = true then ([], (numR x).2) else if 0 ≤ (numR x).1 ∧ (numR x).1 ≤ ((numR x).2.1.length : Int) then ((numR x).2.1.take (numR x).1.toNat, (numR x).2.1.drop (numR x).1.toNat, false) else ([], (numR x).2.1, true)
theorem text1_tr {W0 : World} (b0 b1 b2 r : Nat) (n : Int) (s : List UInt8) (Fr : List HP) :
  Tr W0 Tryz.prog 101 [.pointer (some ⟨b0, 0, none⟩), .pointer (some ⟨b1, 0, none⟩), .pointer (some ⟨b2, 0, none⟩)] (rdc r (s, false) :: blk b0 3 [.int .i64 n] :: blk b1 104 [.pointer (some ⟨r, 0, none⟩)] :: blk b2 9 [str []] :: Fr)
   (fun v Rs' => v = .bool (decide (0 ≤ n ∧ n ≤ (s.length : Int))) ∧ Rs' = rdc r (if 0 ≤ n ∧ n ≤ (s.length : Int) then s.drop n.toNat else s, false) :: blk b0 3 [.int .i64 n] :: blk b1 104 [.pointer (some ⟨r, 0, none⟩)] :: blk b2 9 [str (if 0 ≤ n ∧ n ≤ (s.length : Int) then s.take n.toNat else [])] :: Fr) := by
 unfold rdc
 by_cases hn : 0 ≤ n ∧ n ≤ (s.length : Int)
 ·simp only [hn, and_self, if_true, decide_true]
  obtain ⟨m, rfl⟩ : ∃ m : Nat, n = (m : Int) := ⟨n.toNat, by omega⟩
  refine Entry.tr (N := 30) (rs := [.tmp 3]) ⟨_, Tryz.func101, rfl, by kernel_rfl, rfl, rfl⟩ rfl ?_
  refine XC.seq fun K1 hK1 => ?_
  refine XC.region ?_
  refine x_v (r_as rfl) rfl ?_
  refine XL.nil ?_
  refine hK1 _ _ ?_
  refine XC.keep [(0, _), (1, _), (2, _)] ⟨rfl, rfl, rfl, trivial⟩ ?_
  refine XC.seq fun K2 hK2 => ?_
  refine XC.seq fun K3 hK3 => ?_
  refine XC.draw (blk r 136 [str s, .bool false] :: blk b0 3 [.int .i64 (m : Int)] :: blk b1 104 [.pointer (some ⟨r, 0, none⟩)] :: blk b2 9 [str []] :: Fr) false [(0, false), (1, false), (2, false), (3, false), (4, false), (5, false), (6, false), (7, false), (8, false), (9, false), (10, false)] (by kernel_rfl) (by kernel_rfl) ?_
  refine y_v rfl (r_ld ty3 rfl pK (by rfl)) gT rfl ?_
  refine y_v rfl (r_lt rfl rfl) gT rfl ?_
  refine y_v rfl (r_mv rfl) gT rfl ?_
  refine XH.splitd 6 rfl (fun hg6 => ?_) (fun hg6 => ?_)
  ·exfalso; omega
  ·refine y_vg rfl rfl rfl (r_ld ty3 rfl pK (by rfl)) gT rfl ?_
   refine y_vg rfl rfl rfl (r_ld ty104 rfl pK (by rfl)) gT rfl ?_
   refine y_vg rfl rfl rfl (r_nc rfl) gT rfl ?_
   refine y_vg rfl rfl rfl (r_fa fo136_0 rfl) gT rfl ?_
   refine y_vg rfl rfl rfl (r_ld ty9 rfl pK (by rfl)) gT rfl ?_
   refine y_vg rfl rfl rfl (r_lens Tryz.underlying9 rfl) gT rfl ?_
   refine y_vg rfl rfl rfl (r_gt rfl rfl) gT rfl ?_
   refine y_v rfl (r_pk_f rfl rfl) gT rfl ?_
   refine XH.nil ?_
   refine hK3 _ _ ?_
   refine XC.keep [(0, _), (1, _), (2, _), (14, _)] ⟨rfl, rfl, rfl, rfl, trivial⟩ ?_
   refine XC.cond_d rfl (fun hc1 => ?_) (fun hc1 => ?_)
   ·exfalso; omega
   ·refine XC.skip ?_
    refine hK2 _ _ ?_
    refine XC.keep [(0, _), (1, _), (2, _)] ⟨rfl, rfl, rfl, trivial⟩ ?_
    refine XC.seq fun K4 hK4 => ?_
    refine XC.draw [blk b0 3 [.int .i64 (m : Int)], blk b1 104 [.pointer (some ⟨r, 0, none⟩)], blk r 136 [str s, .bool false]] true [(0, false), (1, false), (2, false), (3, false), (4, false), (5, false), (6, false), (7, false), (8, false), (9, false), (10, false), (11, false), (12, false), (13, true), (14, false), (15, false), (16, true)] (by kernel_rfl) (by kernel_rfl) ?_
    refine y_v rfl (r_ld ty104 rfl pK (by rfl)) gT rfl ?_
    refine y_v rfl (r_ld ty104 rfl pK (by rfl)) gT rfl ?_
    refine y_v rfl (r_nc rfl) gT rfl ?_
    refine y_v rfl (r_fa fo136_0 rfl) gT rfl ?_
    refine y_v rfl (r_ld ty9 rfl pK (by rfl)) gT rfl ?_
    refine y_v rfl (r_ld ty3 rfl pK (by rfl)) gT rfl ?_
    refine y_v rfl (yv (v' := str (s.take m)) (r_ssl 0 m Tryz.underlying9 rfl rfl ⟨_, by rfl⟩ (by omega) (by omega)) rfl) gT rfl ?_
    refine y_v rfl (r_ld ty104 rfl pK (by rfl)) gT rfl ?_
    refine y_v rfl (r_nc rfl) gT rfl ?_
    refine y_v rfl (r_fa fo136_0 rfl) gT rfl ?_
    refine y_v rfl (r_ld ty9 rfl pK (by rfl)) gT rfl ?_
    refine y_v rfl (r_ld ty3 rfl pK (by rfl)) gT rfl ?_
    refine y_v rfl (yv (v' := str (s.drop m)) (r_ssl m s.length Tryz.underlying9 rfl ⟨_, by rfl⟩ rfl (by omega) (by omega)) (congrArg str (List.take_of_length_le (by simp)))) gT rfl ?_
    refine y_e rfl (r_st ty9 rfl rfl rfl rfl rfl uD oV) (fun _ _ h => Gets.own gS h) ?_
    refine y_v rfl (r_nc rfl) gT rfl ?_
    refine y_v rfl (r_fa fo136_0 rfl) gT rfl ?_
    refine y_e rfl (r_st ty9 rfl rfl rfl rfl rfl uD oV) (fun h => absurd h (by decide)) ?_
    refine XH.nil ?_
    refine hK4 _ _ ?_
    refine XC.keep [] trivial ?_
    refine XC.seq fun K5 hK5 => ?_
    refine XC.region ?_
    refine x_v (r_as rfl) rfl ?_
    refine XL.nil ?_
    refine hK5 _ _ ?_
    refine XC.keep [(3, _)] ⟨rfl, trivial⟩ ?_
    refine XC.ret ?_
    exact fin1 rfl (⟨rfl, rfl⟩) gS
 ·simp only [if_neg hn, decide_eq_false hn]
  refine Entry.tr (N := 30) (rs := [.tmp 3]) ⟨_, Tryz.func101, rfl, by kernel_rfl, rfl, rfl⟩ rfl ?_
  refine XC.seq fun K1 hK1 => ?_
  refine XC.region ?_
  refine x_v (r_as rfl) rfl ?_
  refine XL.nil ?_
  refine hK1 _ _ ?_
  refine XC.keep [(0, _), (1, _), (2, _)] ⟨rfl, rfl, rfl, trivial⟩ ?_
  refine XC.seq fun K2 hK2 => ?_
  refine XC.seq fun K3 hK3 => ?_
  refine XC.draw (blk r 136 [str s, .bool false] :: blk b0 3 [.int .i64 n] :: blk b1 104 [.pointer (some ⟨r, 0, none⟩)] :: blk b2 9 [str []] :: Fr) false [(0, false), (1, false), (2, false), (3, false), (4, false), (5, false), (6, false), (7, false), (8, false), (9, false), (10, false)] (by kernel_rfl) (by kernel_rfl) ?_
  refine y_v rfl (r_ld ty3 rfl pK (by rfl)) gT rfl ?_
  refine y_v rfl (r_lt rfl rfl) gT rfl ?_
  refine y_v rfl (r_mv rfl) gT rfl ?_
  refine XH.splitd 6 rfl (fun hg6 => ?_) (fun hg6 => ?_)
  ·refine y_un rfl rfl rfl (fun _ h => Gets.own gS h) rfl ?_
   refine y_un rfl rfl rfl (fun _ h => Gets.own gS h) rfl ?_
   refine y_un rfl rfl rfl (fun _ h => Gets.own gS h) rfl ?_
   refine y_un rfl rfl rfl (fun _ h => Gets.own gS h) rfl ?_
   refine y_un rfl rfl rfl (fun _ h => Gets.own gS h) rfl ?_
   refine y_un rfl rfl rfl (fun _ h => Gets.own gS h) rfl ?_
   refine y_un rfl rfl rfl (fun _ h => Gets.own gS h) rfl ?_
   refine y_v rfl (r_pk_t rfl rfl) gT rfl ?_
   refine XH.nil ?_
   refine hK3 _ _ ?_
   refine XC.keep [(0, _), (1, _), (2, _), (14, _)] ⟨rfl, rfl, rfl, rfl, trivial⟩ ?_
   refine XC.cond_t rfl ?_
   refine XC.seq fun K4 hK4 => ?_
   refine XC.region ?_
   refine x_v (r_as rfl) rfl ?_
   refine XL.nil ?_
   refine hK4 _ _ ?_
   refine XC.keep [(3, _)] ⟨rfl, trivial⟩ ?_
   refine XC.ret ?_
   exact fin1 rfl (⟨rfl, rfl⟩) gS
  ·refine y_vg rfl rfl rfl (r_ld ty3 rfl pK (by rfl)) gT rfl ?_
   refine y_vg rfl rfl rfl (r_ld ty104 rfl pK (by rfl)) gT rfl ?_
   refine y_vg rfl rfl rfl (r_nc rfl) gT rfl ?_
   refine y_vg rfl rfl rfl (r_fa fo136_0 rfl) gT rfl ?_
   refine y_vg rfl rfl rfl (r_ld ty9 rfl pK (by rfl)) gT rfl ?_
   refine y_vg rfl rfl rfl (r_lens Tryz.underlying9 rfl) gT rfl ?_
   refine y_vg rfl rfl rfl (r_gt rfl rfl) gT rfl ?_
   refine y_v rfl (r_pk_f rfl rfl) gT rfl ?_
   refine XH.nil ?_
   refine hK3 _ _ ?_
   refine XC.keep [(0, _), (1, _), (2, _), (14, _)] ⟨rfl, rfl, rfl, rfl, trivial⟩ ?_
   refine XC.cond_d rfl (fun hc2 => ?_) (fun hc2 => ?_)
   ·refine XC.seq fun K5 hK5 => ?_
    refine XC.region ?_
    refine x_v (r_as rfl) rfl ?_
    refine XL.nil ?_
    refine hK5 _ _ ?_
    refine XC.keep [(3, _)] ⟨rfl, trivial⟩ ?_
    refine XC.ret ?_
    exact fin1 rfl (⟨rfl, rfl⟩) gS
   ·exfalso; omega
theorem textR_is (x : Rd) : (bif (numR x).2.2 then str [] else str (if 0 ≤ (numR x).1 ∧ (numR x).1 ≤ ((numR x).2.1.length : Int) then (numR x).2.1.take (numR x).1.toNat else [])) = str (textR x).1 ∧
  (bif (numR x).2.2 then (((numR x).2.1, true) : Rd) else (if 0 ≤ (numR x).1 ∧ (numR x).1 ≤ ((numR x).2.1.length : Int) then (numR x).2.1.drop (numR x).1.toNat else (numR x).2.1, !decide (0 ≤ (numR x).1 ∧ (numR x).1 ≤ ((numR x).2.1.length : Int)))) = (textR x).2 := by
 unfold textR
 obtain ⟨n, s, bad⟩ := numR x
 cases bad
 ·by_cases h : 0 ≤ n ∧ n ≤ (s.length : Int) <;> simp [h]
 ·simp
theorem numGo_len : ∀ (s : List UInt8) (k : Nat) (z : BitVec 64) (q : BitVec 64 × List UInt8), numGo k z s = some q → ∃ j, 0 < j ∧ j ≤ s.length ∧ q.2 = s.drop j
 | [], _, _, _, h => by simp [numGo] at h
 | c :: s, k, z, q, h => by
  rw [numGo] at h
  split at h
  ·cases h
  ·split at h
   ·obtain ⟨j, h1, h2, h3⟩ := numGo_len s _ _ q h
    exact ⟨j + 1, by omega, by simp; omega, by simpa using h3⟩
   ·split at h
    ·cases h
    ·injection h with h; subst h; exact ⟨1, by omega, by simp, rfl⟩
/-- What a number leaves is the end of what was there. -/
theorem numR_suf (x : Rd) : ∃ j, j ≤ x.1.length ∧ (numR x).2.1 = x.1.drop j := by
 obtain ⟨s, bad⟩ := x
 cases bad
 ·cases h : numGo 0 0 s with
  | none => exact ⟨0, Nat.zero_le _, by unfold numR; rw [if_neg (by simp)]; dsimp only; rw [h]; rfl⟩
  | some q => obtain ⟨j, h1, h2, h3⟩ := numGo_len s _ _ q h; exact ⟨j, h2, by unfold numR; rw [if_neg (by simp)]; dsimp only; rw [h]; exact h3⟩
 ·exact ⟨0, Nat.zero_le _, by simp [numR]⟩
theorem numR_le (x : Rd) : (numR x).2.1.length ≤ x.1.length := by obtain ⟨j, h1, h2⟩ := numR_suf x; rw [h2, List.length_drop]; omega
theorem textt_tr {W0 : World} (r : Nat) (x : Rd) (Fr : List HP) (hs : x.1.length ≤ maxS) : Tr W0 Tryz.prog 60 [.pointer (some ⟨r, 0, none⟩)] (rdc r x :: Fr) (fun v Rs' => v = str (textR x).1 ∧ Rs' = rdc r (textR x).2 :: Fr) := by
 refine Entry.tr (N := 10) (rs := [.cell 2 9]) ⟨_, Tryz.func60, rfl, by kernel_rfl, rfl, rfl⟩ rfl ?_
 refine XC.seq fun K1 hK1 => ?_
 refine XC.region ?_
 refine x_a (r_bx rfl rfl) rfl fun b1 => ?_
 refine x_a (r_al ty9 rfl) rfl fun b2 => ?_
 refine XL.nil ?_
 refine hK1 _ _ ?_
 refine XC.keep [(1, _), (2, _)] ⟨rfl, rfl, trivial⟩ ?_
 refine XC.seq fun K2 hK2 => ?_
 refine XC.region ?_
 refine x_v (r_ld ty104 rfl pK (by rfl)) rfl ?_
 refine x_c (r_call0 (args := [_]) ⟨rfl, rfl⟩ (num_tr r x (blk b1 104 [.pointer (some ⟨r, 0, none⟩)] :: blk b2 9 [str []] :: Fr) hs) gS) rfl ?_
 rintro _ _ ⟨rfl, hRs⟩
 rw [hRs]
 refine x_a (r_al ty3 rfl) rfl fun b3 => ?_
 refine x_e (r_st ty3 rfl rfl rfl rfl rfl uD oV) ?_
 refine XL.nil ?_
 refine hK2 _ _ ?_
 refine XC.keep [(1, _), (2, _), (3, _)] ⟨rfl, rfl, rfl, trivial⟩ ?_
 refine XC.seq fun K3 hK3 => ?_
 refine XC.region ?_
 refine x_v (r_ld ty104 rfl pK (by rfl)) rfl ?_
 refine x_v (r_mfv (cs := [_, _, _]) ⟨rfl, rfl, rfl, rfl⟩) rfl ?_
 refine x_c (r_call0 (args := [_, _]) ⟨rfl, rfl, rfl⟩ (some_any r 101 [.pointer (some ⟨b3, 0, none⟩), .pointer (some ⟨b1, 0, none⟩), .pointer (some ⟨b2, 0, none⟩)] (numR x).2.1 (numR x).2.2 (fun v => blk b3 3 [.int .i64 (numR x).1] :: blk b1 104 [.pointer (some ⟨r, 0, none⟩)] :: blk b2 9 [v] :: Fr) (str []) _ _ _ (fun _ => text1_tr b3 b1 b2 r (numR x).1 (numR x).2.1 Fr)) gS) rfl ?_
 rintro _ _ ⟨rfl, hRs2⟩
 rw [(textR_is x).1, (textR_is x).2] at hRs2
 rw [hRs2]
 refine XL.nil ?_
 refine hK3 _ _ ?_
 refine XC.keep [(2, _)] ⟨rfl, trivial⟩ ?_
 refine XC.seq fun K4 hK4 => ?_
 refine XC.region ?_
 refine x_v (r_ld ty9 rfl pK (by rfl)) rfl ?_
 refine x_e (r_st ty9 rfl rfl rfl rfl rfl uD oV) ?_
 refine XL.nil ?_
 refine hK4 _ _ ?_
 refine XC.keep [(2, _)] ⟨rfl, trivial⟩ ?_
 refine XC.ret ?_
 exact finv1 ty9 rfl pK (⟨rfl, rfl⟩) gS
end Go.Proofs.YtcmdmhmgffjknaaGreatDoor
/- Frames: functions 33, 57, 31. -/
namespace Go.Proofs.YtcmdmhmgffjknaaGreatDoor
open Go.Sx
set_option linter.unusedVariables false

def le4 (r : BitVec 32) : List UInt8 := [⟨r.setWidth 8⟩, ⟨(r >>> 8).setWidth 8⟩, ⟨(r >>> 16).setWidth 8⟩, ⟨(r >>> 24).setWidth 8⟩]
def frameB (p : List UInt8) : List UInt8 := vb (2 * p.length) ++ (le4 (crcS p) ++ p)
def sealB (ps : List (List UInt8)) : List UInt8 := ps.flatMap frameB
theorem numsB_one (n : Nat) : numsB [n] = vb (2 * n) := by simp [numsB]
theorem frameB_len (p : List UInt8) : (frameB p).length = (vb (2 * p.length)).length + 4 + p.length := by simp [frameB, le4]; omega

theorem seal_tr0 {W0 : World} (A0 : Option Addr) (c0 : Nat) (ps : List (List UInt8)) (hr : Rdb W0 [] A0 ps.length 1 (cells sv ps)) (hm : ∀ p ∈ ps, p.length ≤ 1048576) (hl : (sealB ps).length ≤ maxS) (hn : ps.length ≤ maxS) :
  Tr W0 Tryz.prog 33 [.slice A0 ps.length c0] [] (fun u Rs' => u = .tuple #[str (sealB ps), .int .i64 0] ∧ Rs' = []) := by
 have hmax : maxS = 140737488355328 := rfl
 refine Entry.tr (N := 42) (rs := [.tmp 2, .tmp 3]) ⟨_, Tryz.func33, rfl, by kernel_rfl, rfl, rfl⟩ rfl ?_
 refine XC.seq fun K1 hK1 => ?_
 refine XC.region ?_
 refine x_v (r_as rfl) rfl ?_
 refine x_v (r_as rfl) rfl ?_
 refine XL.nil ?_
 refine hK1 _ _ ?_
 refine XC.keep [(0, _)] ⟨rfl, trivial⟩ ?_
 refine XC.seq fun K2 hK2 => ?_
 refine XC.region ?_
 refine x_a (r_al ty111 rfl) rfl fun b4 => ?_
 refine XL.nil_ 5 1 ?_
 refine XL.mem (blk b4 111 [.pointer none, .slice none 0 0] :: sl none 0 0 5 1 [] :: []) gT ?_
 refine XL.nil ?_
 refine hK2 _ _ ?_
 refine XC.keep [(0, _), (4, _)] ⟨rfl, rfl, trivial⟩ ?_
 refine XC.seq fun K3 hK3 => ?_
 refine XC.seq fun K4 hK4 => ?_
 refine XC.region ?_
 refine x_v (r_mv rfl) rfl ?_
 refine x_v (r_lensl Tryz.underlying22 rfl) rfl ?_
 refine x_v (r_mv rfl) rfl ?_
 refine XL.nil ?_
 refine hK4 _ _ ?_
 refine XC.keep [(4, _), (8, _), (9, _), (10, _)] ⟨rfl, rfl, rfl, rfl, trivial⟩ ?_
 refine XC.block ?_
 refine XC.loop (σ := Nat × Option Addr × Option Addr × Nat) (fun s => [(4, .pointer (some ⟨b4, 0, none⟩)), (8, .slice A0 ps.length c0), (9, .int .i64 (ps.length : Int)), (10, .int .i64 (s.1 : Int))]) (fun s => blk b4 111 [.pointer s.2.1, .slice s.2.2.1 (sealB (ps.take s.1)).length s.2.2.2] :: sl s.2.2.1 (sealB (ps.take s.1)).length s.2.2.2 5 1 (bv (sealB (ps.take s.1))) :: []) (fun s => (s.2.1 = none ∨ s.2.1 = some ⟨b4, 0, none⟩) ∧ s.1 ≤ ps.length) (fun s => ps.length - s.1) (0, none, none, 0) ?_ ⟨rfl, rfl, rfl, rfl, trivial⟩ gS ?_
 ·exact ⟨.inl rfl, Nat.zero_le _⟩
 rintro ⟨i, p, A, c⟩ ⟨hp, hi⟩
 dsimp only at hp hi ⊢
 refine XC.seq fun K5 hK5 => ?_
 refine XC.region ?_
 refine x_v (r_lt rfl rfl) rfl ?_
 refine XL.nil ?_
 refine hK5 _ _ ?_
 refine XC.keep [(4, _), (8, _), (9, _), (10, _), (11, _)] ⟨rfl, rfl, rfl, rfl, rfl, trivial⟩ ?_
 refine XC.seq fun K6 hK6 => ?_
 refine XC.cond_d rfl (fun hc1 => ?_) (fun hc1 => ?_)
 ·refine XC.skip ?_
  refine hK6 _ _ ?_
  refine XC.keep [(4, _), (8, _), (9, _), (10, _)] ⟨rfl, rfl, rfl, rfl, trivial⟩ ?_
  refine XC.seq fun K7 hK7 => ?_
  refine XC.block ?_
  refine XC.seq fun K8 hK8 => ?_
  obtain ⟨x, hx⟩ : ∃ x, ps[i]? = some x := ⟨_, List.getElem?_eq_getElem (by omega)⟩
  have hxm := hm x (List.mem_of_getElem? hx)
  obtain ⟨ob, oo, rfl, hat⟩ := hr.at_ (by omega)
  have hsn : sealB (ps.take i) ++ (vb (2 * x.length) ++ (le4 (crcS x) ++ x)) = sealB (ps.take (i + 1)) := (flat_snoc _ ps i x hx).symm
  have hln : (sealB (ps.take (i + 1))).length ≤ (sealB ps).length := flat_le frameB ps (i + 1)
  have hlx : (sealB (ps.take i)).length + (vb (2 * x.length)).length + 4 + x.length = (sealB (ps.take (i + 1))).length := by rw [← hsn]; simp [le4]; omega
  have hvt := vb_ten (z := 2 * x.length) (by omega)
  refine XC.region ?_
  refine x_v (r_ia (k := i) Tryz.underlying22 ty9 rfl rfl (by omega) (by omega)) rfl ?_
  refine x_v (r_ldr (v := str x) ty9 rfl (fun w hw => hat w (Gets.own gS hw) (i * 1) _ (by rw [Nat.mul_one]; exact sv_get hx))) rfl ?_
  refine x_v (r_as rfl) rfl ?_
  refine XL.nil ?_
  refine hK8 _ _ ?_
  refine XC.keep [(4, _), (6, _), (8, _), (9, _), (10, _)] ⟨rfl, rfl, rfl, rfl, rfl, trivial⟩ ?_
  refine XC.seq fun K9 hK9 => ?_
  refine XC.seq fun K10 hK10 => ?_
  refine XC.region ?_
  refine x_v (r_mv rfl) rfl ?_
  refine x_v (r_lens Tryz.underlying9 rfl) rfl ?_
  refine x_v (r_gt rfl rfl) rfl ?_
  refine XL.nil ?_
  refine hK10 _ _ ?_
  refine XC.keep [(4, _), (6, _), (8, _), (9, _), (10, _), (16, _)] ⟨rfl, rfl, rfl, rfl, rfl, rfl, trivial⟩ ?_
  refine XC.cond_d rfl (fun hc2 => ?_) (fun hc2 => ?_)
  ·exfalso; omega
  ·refine XC.skip ?_
   refine hK9 _ _ ?_
   refine XC.keep [(4, _), (6, _), (8, _), (9, _), (10, _)] ⟨rfl, rfl, rfl, rfl, rfl, trivial⟩ ?_
   refine XC.seq fun K11 hK11 => ?_
   refine XC.region ?_
   refine x_v (r_mv rfl) rfl ?_
   refine x_v (r_lens Tryz.underlying9 rfl) rfl ?_
   refine x_a (r_bs (vs := [_]) rfl ⟨rfl, rfl⟩ (bs25_1_0 _)) rfl fun b19 => ?_
   refine x_c (r_call0 (args := [_]) ⟨rfl, rfl⟩ (nums_tr (Fr := [blk b4 111 [.pointer p, .slice A (sealB (ps.take i)).length c], sl A (sealB (ps.take i)).length c 5 1 (bv (sealB (ps.take i))), blk b19 3 [.int .i64 (x.length : Int)]]) (some ⟨b19, 0, none⟩) 1 [x.length] (Rdb.of_blk (cs := [.int .i64 (x.length : Int)]) (xs := [.int .i64 (x.length : Int)]) pK 0 rfl (fun j u hu => by simpa using hu)) (by simp; omega) (by rw [numsB_one]; omega) (by simp; omega)) gS) rfl ?_
   rintro _ _ ⟨hv, hRs⟩
   rw [numsB_one] at hv
   subst hv
   rw [hRs]
   refine x_c (r_call0 (args := [_, _]) ⟨rfl, rfl, rfl⟩ (wstr_tr b4 p A c (sealB (ps.take i)).length (bv (sealB (ps.take i))) (vb (2 * x.length)) [] hp (by omega)) gS) rfl ?_
   rintro _ _ ⟨rfl, A21, c21, hRs⟩
   rw [hRs]
   refine XL.nil ?_
   refine hK11 _ _ ?_
   refine XC.keep [(4, _), (6, _), (8, _), (9, _), (10, _)] ⟨rfl, rfl, rfl, rfl, rfl, trivial⟩ ?_
   refine XC.seq fun K12 hK12 => ?_
   refine XC.region ?_
   refine x_v (r_mv rfl) rfl ?_
   refine x_a (r_bs (vs := [_]) rfl ⟨rfl, rfl⟩ (bs22_1_0 _)) rfl fun b23 => ?_
   refine x_c (r_call0 (args := [_]) ⟨rfl, rfl⟩ (sum_tr (Fr := [blk b4 111 [.pointer (some ⟨b4, 0, none⟩), .slice A21 ((sealB (ps.take i)).length + (vb (2 * x.length)).length) c21], sl A21 ((sealB (ps.take i)).length + (vb (2 * x.length)).length) c21 5 1 (bv (sealB (ps.take i)) ++ bv (vb (2 * x.length))), blk b23 9 [str x]]) (some ⟨b23, 0, none⟩) 1 [x] (Rdb.of_blk (cs := [str x]) (xs := [str x]) pK 0 rfl (fun j u hu => by simpa using hu)) (by simp; omega) (by simp; omega)) gS) rfl ?_
   rintro _ _ ⟨hv, hRs⟩
   rw [show crcM 0#32 [x] = crcS x from rfl] at hv
   subst hv
   rw [hRs]
   refine x_v (r_as rfl) rfl ?_
   refine XL.nil ?_
   refine hK12 _ _ ?_
   refine XC.keep [(4, _), (6, _), (7, _), (8, _), (9, _), (10, _)] ⟨rfl, rfl, rfl, rfl, rfl, rfl, trivial⟩ ?_
   refine XC.seq fun K13 hK13 => ?_
   refine XC.region ?_
   refine x_v (r_mv rfl) rfl ?_
   refine x_v (r_bcv (k := .u32) (k' := .u8) rfl (crcS x) Tryz.underlying112 Tryz.underlying5 rfl) rfl ?_
   refine x_v (r_mv rfl) rfl ?_
   refine x_v (r_bshr (k := .u32) 8 (by decide) (crcS x) rfl rfl) rfl ?_
   refine x_v (r_bcv (k := .u32) (k' := .u8) rfl (crcS x >>> 8) Tryz.underlying112 Tryz.underlying5 rfl) rfl ?_
   refine x_v (r_mv rfl) rfl ?_
   refine x_v (r_bshr (k := .u32) 16 (by decide) (crcS x) rfl rfl) rfl ?_
   refine x_v (r_bcv (k := .u32) (k' := .u8) rfl (crcS x >>> 16) Tryz.underlying112 Tryz.underlying5 rfl) rfl ?_
   refine x_v (r_mv rfl) rfl ?_
   refine x_v (r_bshr (k := .u32) 24 (by decide) (crcS x) rfl rfl) rfl ?_
   refine x_v (r_bcv (k := .u32) (k' := .u8) rfl (crcS x >>> 24) Tryz.underlying112 Tryz.underlying5 rfl) rfl ?_
   refine x_a (r_bs (vs := [_, _, _, _]) rfl ⟨rfl, rfl, rfl, rfl, rfl⟩ (bs80_4_0_1_2_3 _ _ _ _)) rfl fun b36 => ?_
   refine x_c (r_call0 (args := [_, _]) ⟨rfl, rfl, rfl⟩ (write_tr b4 (some ⟨b4, 0, none⟩) A21 (some ⟨b36, 0, none⟩) c21 ((sealB (ps.take i)).length + (vb (2 * x.length)).length) 4 4 (bv (sealB (ps.take i)) ++ bv (vb (2 * x.length))) (bv (le4 (crcS x))) [blk b36 5 (bv (le4 (crcS x)))] (.inr rfl) (by omega) rfl (Rdb.of_blk (cs := bv (le4 (crcS x))) pK 0 rfl (fun j u hu => by simpa using hu))) gS) rfl ?_
   rintro _ _ ⟨rfl, A37, c37, hRs⟩
   rw [hRs]
   refine XL.nil ?_
   refine hK13 _ _ ?_
   refine XC.keep [(4, _), (6, _), (8, _), (9, _), (10, _)] ⟨rfl, rfl, rfl, rfl, rfl, trivial⟩ ?_
   refine XC.region ?_
   refine x_v (r_mv rfl) rfl ?_
   refine x_c (r_call0 (args := [_, _]) ⟨rfl, rfl, rfl⟩ (wstr_tr b4 (some ⟨b4, 0, none⟩) A37 c37 ((sealB (ps.take i)).length + (vb (2 * x.length)).length + 4) (bv (sealB (ps.take i)) ++ bv (vb (2 * x.length)) ++ bv (le4 (crcS x))) x [] (.inr rfl) (by omega)) gS) rfl ?_
   rintro _ _ ⟨rfl, A39, c39, hRs⟩
   refine XL.nil ?_
   refine hK7 _ _ ?_
   refine XC.keep [(4, _), (8, _), (9, _), (10, _)] ⟨rfl, rfl, rfl, rfl, trivial⟩ ?_
   refine XC.region ?_
   refine x_v (r_add rfl rfl (by omega)) rfl ?_
   refine x_v (r_mv rfl) rfl ?_
   refine XL.nil ?_
   rw [← bv_app, ← show bv (le4 (crcS x)) = _ from rfl, ← bv_app, ← bv_app, List.append_assoc, List.append_assoc, hsn, hlx] at hRs
   rw [hRs]
   refine ⟨(i + 1, some ⟨b4, 0, none⟩, A39, c39), ?_, ?_, ⟨rfl, rfl, rfl, rfl, trivial⟩, gS⟩
   ·exact ⟨.inr rfl, by dsimp only; omega⟩
   ·dsimp only; omega
 ·refine XC.exit rfl ?_
  refine hK3 _ _ ?_
  refine XC.keep [(4, _)] ⟨rfl, trivial⟩ ?_
  refine XC.seq fun K14 hK14 => ?_
  obtain rfl : i = ps.length := by omega
  rw [List.take_of_length_le (Nat.le_refl _)]
  refine XC.region ?_
  refine x_c (r_call0 (args := [_]) ⟨rfl, rfl⟩ (string_tr b4 p A c _ (sealB ps) hp rfl) gS) rfl ?_
  rintro _ _ ⟨rfl, hRs⟩
  rw [hRs]
  refine x_v (r_as rfl) rfl ?_
  refine x_v (r_as rfl) rfl ?_
  refine XL.nil ?_
  refine hK14 _ _ ?_
  refine XC.keep [(2, _), (3, _)] ⟨rfl, rfl, trivial⟩ ?_
  refine XC.ret ?_
  exact fin2 rfl rfl (⟨rfl, rfl⟩) gS
theorem seal_th : ∃ fn c, Tryz.prog.funcs[33]? = some fn ∧ (fn.name == "runtime.NumGoroutine") = false ∧ fn.body = some c := ⟨_, _, Tryz.func33, by kernel_rfl, rfl⟩
theorem seal_tr {W0 : World} {Fr : List HP} (A0 : Option Addr) (c0 : Nat) (ps : List (List UInt8)) (hr : Rdb W0 Fr A0 ps.length 1 (cells sv ps)) (hm : ∀ p ∈ ps, p.length ≤ 1048576) (hl : (sealB ps).length ≤ maxS) (hn : ps.length ≤ maxS) :
  Tr W0 Tryz.prog 33 [.slice A0 ps.length c0] Fr (fun u Rs' => u = .tuple #[str (sealB ps), .int .i64 0] ∧ Rs' = Fr) :=
 (Tr.frame seal_th fun w hw => seal_tr0 A0 c0 ps (hr.later Nat.one_pos hw []) hm hl hn).mono fun v Rs' ⟨R1, ⟨h1, h2⟩, h3⟩ => ⟨h1, by rw [h3, h2]; rfl⟩
end Go.Proofs.YtcmdmhmgffjknaaGreatDoor
/- Frames, read: functions 57, 31. -/
namespace Go.Proofs.YtcmdmhmgffjknaaGreatDoor
open Go.Sx
set_option linter.unusedVariables false

def le32 : List UInt8 → BitVec 32
 | a :: b :: c :: d :: _ => ((a.toBitVec.setWidth 32 ||| b.toBitVec.setWidth 32 <<< 8) ||| c.toBitVec.setWidth 32 <<< 16) ||| d.toBitVec.setWidth 32 <<< 24
 | _ => 0#32
def openQ (n : Int) (y : Rd) : Option (List UInt8 × List UInt8) :=
 if y.2 = false ∧ 0 ≤ n ∧ n ≤ 1048576 ∧ 4 ≤ y.1.length ∧ n ≤ (y.1.length : Int) - 4 then (if le32 y.1 = crcS ((y.1.drop 4).take n.toNat) then some ((y.1.drop 4).take n.toNat, y.1.drop (4 + n.toNat)) else none) else none
def openF (s : List UInt8) : Option (List UInt8 × List UInt8) := openQ (numR (s, false)).1 (numR (s, false)).2
def openV : Option (List UInt8 × List UInt8) → Value
 | none => .tuple #[str [], str [], .int .i64 3]
 | some (p, r) => .tuple #[str p, str r, .int .i64 0]
theorem numR_good {s : List UInt8} (h : (numR (s, false)).2.2 = false) : ∃ j, 0 < j ∧ j ≤ s.length ∧ (numR (s, false)).2.1 = s.drop j := by
 unfold numR at *
 rw [if_neg (by simp)] at *
 dsimp only at *
 cases hq : numGo 0 0 s with
 | none => rw [hq] at h; simp at h
 | some q => obtain ⟨j, h1, h2, h3⟩ := numGo_len s _ _ q hq; exact ⟨j, h1, h2, h3⟩
theorem openF_suf {s p r : List UInt8} (h : openF s = some (p, r)) : ∃ j, 4 < j ∧ j ≤ s.length ∧ r = s.drop j ∧ p.length < j := by
 unfold openF openQ at h
 split at h
 ·rename_i hc
  split at h
  ·injection h with h; injection h with h1 h2
   obtain ⟨j, h3, h4, h5⟩ := numR_good hc.1
   have hl : (numR (s, false)).2.1.length = s.length - j := by rw [h5, List.length_drop]
   refine ⟨j + (4 + (numR (s, false)).1.toNat), by omega, by omega, by rw [← h2, h5, List.drop_drop], ?_⟩
   rw [← h1, List.length_take]; omega
  ·cases h
 ·cases h
theorem four_of {l : List UInt8} (h : 4 ≤ l.length) : ∃ a b c d t, l = a :: b :: c :: d :: t := by
 match l, h with
 | a :: b :: c :: d :: t, _ => exact ⟨a, b, c, d, t, rfl⟩
theorem eq_bv {n : Nat} {a b : BitVec n} : (a.toNat : Int) = (b.toNat : Int) ↔ a = b := ⟨fun h => BitVec.eq_of_toNat_eq (by omega), fun h => by rw [h]⟩

theorem open_tr {W0 : World} (s : List UInt8) (Fr : List HP) (hs : s.length ≤ maxS) : Tr W0 Tryz.prog 57 [str s] Fr (fun v Rs' => v = openV (openF s) ∧ Rs' = Fr) := by
 have hmax : maxS = 140737488355328 := rfl
 obtain ⟨j, hj, hy⟩ := numR_suf (s, false)
 have hF : openF s = openQ (numR (s, false)).1 (numR (s, false)).2 := rfl
 generalize hq : numR (s, false) = q at hy hF
 obtain ⟨n, y, bad⟩ := q
 dsimp only at hy hj hF
 subst hy
 have hl : (s.drop j).length = s.length - j := List.length_drop
 refine Entry.tr (N := 84) (rs := [.tmp 2, .tmp 3, .tmp 4]) ⟨_, Tryz.func57, rfl, by kernel_rfl, rfl, rfl⟩ rfl ?_
 refine XC.seq fun K1 hK1 => ?_
 refine XC.region ?_
 refine x_v (r_as rfl) rfl ?_
 refine x_v (r_as rfl) rfl ?_
 refine x_v (r_as rfl) rfl ?_
 refine XL.nil ?_
 refine hK1 _ _ ?_
 refine XC.keep [(0, _)] ⟨rfl, trivial⟩ ?_
 refine XC.seq fun K2 hK2 => ?_
 refine XC.region ?_
 refine x_v (r_mv rfl) rfl ?_
 refine x_c (r_call0 (args := [_]) ⟨rfl, rfl⟩ (read_tr s Fr) gS) rfl ?_
 rintro _ _ ⟨r, rfl, hRs⟩
 rw [hRs]
 refine x_v (r_as rfl) rfl ?_
 refine XL.nil ?_
 refine hK2 _ _ ?_
 refine XC.keep [(0, _), (5, _)] ⟨rfl, rfl, trivial⟩ ?_
 refine XC.seq fun K3 hK3 => ?_
 refine XC.region ?_
 refine x_v (r_mv rfl) rfl ?_
 refine x_c (r_call0 (args := [_]) ⟨rfl, rfl⟩ (num_tr r (s, false) Fr hs) gS) rfl ?_
 rintro _ _ ⟨hv, hRs⟩
 rw [hq] at hv hRs
 subst hv
 rw [hRs]
 refine x_v (r_as rfl) rfl ?_
 refine XL.nil ?_
 refine hK3 _ _ ?_
 refine XC.keep [(0, _), (5, _), (6, _)] ⟨rfl, rfl, rfl, trivial⟩ ?_
 refine XC.seq fun K4 hK4 => ?_
 refine XC.seq fun K5 hK5 => ?_
 refine XC.region ?_
 refine x_v (r_mv rfl) rfl ?_
 refine x_v (r_lens Tryz.underlying9 rfl) rfl ?_
 refine x_v (r_mv rfl) rfl ?_
 refine x_c (r_call0 (args := [_]) ⟨rfl, rfl⟩ (left_tr r (s.drop j, bad) Fr) gS) rfl ?_
 rintro _ _ ⟨rfl, hRs⟩
 rw [hRs]
 refine x_v (yv (v' := .int .i64 (j : Int)) (r_sub rfl rfl (by dsimp only; omega)) (congrArg _ (by dsimp only; omega))) rfl ?_
 refine x_v (r_as rfl) rfl ?_
 refine XL.nil ?_
 refine hK5 _ _ ?_
 refine XC.keep [(0, _), (5, _), (6, _), (7, _)] ⟨rfl, rfl, rfl, rfl, trivial⟩ ?_
 refine XC.seq fun K6 hK6 => ?_
 refine XC.region ?_
 refine x_v (r_mv rfl) rfl ?_
 refine x_c (r_call0 (args := [_]) ⟨rfl, rfl⟩ (good_tr r (s.drop j, bad) Fr) gS) rfl ?_
 rintro _ _ ⟨rfl, hRs⟩
 rw [hRs]
 dsimp only
 refine x_v (r_mv rfl) rfl ?_
 refine XL.split 19 rfl (fun hg19 => ?_) (fun hg19 => ?_)
 ·refine x_want rfl rfl rfl ?_
  refine x_v (r_mv rfl) rfl ?_
  refine x_want rfl rfl rfl ?_
  refine x_v (r_ge rfl rfl) rfl ?_
  refine x_v (r_pk_t rfl rfl) rfl ?_
  refine x_v (r_mv rfl) rfl ?_
  refine XL.splitd 23 rfl (fun hg23 => ?_) (fun hg23 => ?_)
  ·refine x_want rfl rfl rfl ?_
   refine x_v (r_mv rfl) rfl ?_
   refine x_want rfl rfl rfl ?_
   refine x_v (r_le rfl rfl) rfl ?_
   refine x_v (r_pk_t rfl rfl) rfl ?_
   refine x_v (r_mv rfl) rfl ?_
   refine XL.splitd 27 rfl (fun hg27 => ?_) (fun hg27 => ?_)
   ·refine x_want rfl rfl rfl ?_
    refine x_v (r_mv rfl) rfl ?_
    refine x_want rfl rfl rfl ?_
    refine x_c (r_call0 (args := [_]) ⟨rfl, rfl⟩ (left_tr r (s.drop j, bad) Fr) gS) rfl ?_
    rintro _ _ ⟨rfl, hRs⟩
    rw [hRs]
    dsimp only
    refine x_want rfl rfl rfl ?_
    refine x_v (r_ge rfl rfl) rfl ?_
    refine x_v (r_pk_t rfl rfl) rfl ?_
    refine x_v (r_mv rfl) rfl ?_
    refine XL.splitd 32 rfl (fun hg32 => ?_) (fun hg32 => ?_)
    ·refine x_want rfl rfl rfl ?_
     refine x_v (r_mv rfl) rfl ?_
     refine x_want rfl rfl rfl ?_
     refine x_v (r_mv rfl) rfl ?_
     refine x_want rfl rfl rfl ?_
     refine x_c (r_call0 (args := [_]) ⟨rfl, rfl⟩ (left_tr r (s.drop j, bad) Fr) gS) rfl ?_
     rintro _ _ ⟨rfl, hRs⟩
     rw [hRs]
     dsimp only
     refine x_want rfl rfl rfl ?_
     refine x_v (r_sub rfl rfl (by omega)) rfl ?_
     refine x_want rfl rfl rfl ?_
     refine x_v (r_le rfl rfl) rfl ?_
     refine x_v (r_pk_t rfl rfl) rfl ?_
     refine XL.nil ?_
     refine hK6 _ _ ?_
     refine XC.keep [(0, _), (6, _), (7, _), (38, _)] ⟨rfl, rfl, rfl, rfl, trivial⟩ ?_
     refine XC.cond_d rfl (fun hc1 => ?_) (fun hc1 => ?_)
     ·refine XC.seq fun K7 hK7 => ?_
      obtain ⟨m, rfl⟩ : ∃ m : Nat, n = (m : Int) := ⟨n.toNat, by omega⟩
      refine XC.draw [] false [(0, false), (1, false), (2, false), (3, false), (4, false), (5, false), (6, false), (7, false), (8, false), (9, false), (10, false), (11, false), (12, false), (13, false), (14, false), (15, false)] (by kernel_rfl) (by kernel_rfl) ?_
      refine y_v rfl (r_mv rfl) gT rfl ?_
      refine y_v rfl (r_mv rfl) gT rfl ?_
      refine y_v rfl (r_add rfl rfl (by omega)) gT rfl ?_
      refine y_v rfl (r_mv rfl) gT rfl ?_
      refine y_v rfl (r_add rfl rfl (by omega)) gT rfl ?_
      refine y_v rfl (r_mv rfl) gT rfl ?_
      refine y_v rfl (r_add rfl rfl (by omega)) gT rfl ?_
      refine y_v rfl (yv (v' := str (((s.drop j).drop 4).take m)) (r_ssl (j + 4) (j + 4 + m) Tryz.underlying9 rfl ⟨_, by rfl⟩ ⟨_, by rfl⟩ (by omega) (by omega)) (congrArg str (by rw [List.drop_drop]; congr 1; omega))) gT rfl ?_
      refine y_v rfl (r_mv rfl) gT rfl ?_
      refine y_v rfl (r_mv rfl) gT rfl ?_
      refine y_v rfl (r_add rfl rfl (by omega)) gT rfl ?_
      refine y_v rfl (r_mv rfl) gT rfl ?_
      refine y_v rfl (r_add rfl rfl (by omega)) gT rfl ?_
      refine y_v rfl (yv (v' := str ((s.drop j).drop (4 + m))) (r_ssl (j + 4 + m) s.length Tryz.underlying9 rfl ⟨_, by rfl⟩ rfl (by omega) (by omega)) (congrArg str (by rw [List.drop_drop, List.take_of_length_le (by simp)]; congr 1; omega))) gT rfl ?_
      refine y_v rfl (r_as rfl) gT rfl ?_
      refine y_v rfl (r_as rfl) gT rfl ?_
      refine XH.nil ?_
      refine hK7 _ _ ?_
      refine XC.keep [(0, _), (2, _), (3, _), (7, _)] ⟨rfl, rfl, rfl, rfl, trivial⟩ ?_
      refine XC.seq fun K8 hK8 => ?_
      obtain ⟨a, b, c, d, t, he⟩ := four_of (l := s.drop j) (by omega)
      have hat : ∀ k : Nat, s[j + k]? = (s.drop j)[k]? := fun k => List.getElem?_drop.symm
      have ha : s[j]? = some a := by have := hat 0; rw [he] at this; exact this
      have hb : s[j + 1]? = some b := by rw [hat, he]; rfl
      have hc : s[j + 2]? = some c := by rw [hat, he]; rfl
      have hd : s[j + 3]? = some d := by rw [hat, he]; rfl
      refine XC.draw [] false [(0, false), (1, false), (2, false), (3, false), (4, false), (5, false), (6, false), (7, false), (8, false), (9, false), (10, false), (11, false), (12, false), (13, false), (14, false), (15, false), (16, false), (17, false), (18, false), (19, false), (20, false), (21, false), (22, false), (23, false), (24, false), (25, false), (26, true), (27, true), (28, false)] (by kernel_rfl) (by kernel_rfl) ?_
      refine y_v rfl (r_mv rfl) gT rfl ?_
      refine y_v rfl (r_mv rfl) gT rfl ?_
      refine y_v rfl (r_six (k := j) Tryz.underlying9 rfl rfl (by omega) ha) gT rfl ?_
      refine y_v rfl (r_bcv (k := .u8) (k' := .u32) rfl a.toBitVec Tryz.underlying5 Tryz.underlying112 rfl) gT rfl ?_
      refine y_v rfl (r_mv rfl) gT rfl ?_
      refine y_v rfl (r_mv rfl) gT rfl ?_
      refine y_v rfl (r_add rfl rfl (by omega)) gT rfl ?_
      refine y_v rfl (r_six (k := j + 1) Tryz.underlying9 rfl rfl (by omega) hb) gT rfl ?_
      refine y_v rfl (r_bcv (k := .u8) (k' := .u32) rfl b.toBitVec Tryz.underlying5 Tryz.underlying112 rfl) gT rfl ?_
      refine y_v rfl (r_bshl (k := .u32) rfl 8 (by decide) (b.toBitVec.setWidth 32) rfl rfl) gT rfl ?_
      refine y_v rfl (r_bor (k := .u32) rfl (a.toBitVec.setWidth 32) (b.toBitVec.setWidth 32 <<< 8) rfl rfl) gT rfl ?_
      refine y_v rfl (r_mv rfl) gT rfl ?_
      refine y_v rfl (r_mv rfl) gT rfl ?_
      refine y_v rfl (r_add rfl rfl (by omega)) gT rfl ?_
      refine y_v rfl (r_six (k := j + 2) Tryz.underlying9 rfl rfl (by omega) hc) gT rfl ?_
      refine y_v rfl (r_bcv (k := .u8) (k' := .u32) rfl c.toBitVec Tryz.underlying5 Tryz.underlying112 rfl) gT rfl ?_
      refine y_v rfl (r_bshl (k := .u32) rfl 16 (by decide) (c.toBitVec.setWidth 32) rfl rfl) gT rfl ?_
      refine y_v rfl (r_bor (k := .u32) rfl (a.toBitVec.setWidth 32 ||| b.toBitVec.setWidth 32 <<< 8) (c.toBitVec.setWidth 32 <<< 16) rfl rfl) gT rfl ?_
      refine y_v rfl (r_mv rfl) gT rfl ?_
      refine y_v rfl (r_mv rfl) gT rfl ?_
      refine y_v rfl (r_add rfl rfl (by omega)) gT rfl ?_
      refine y_v rfl (r_six (k := j + 3) Tryz.underlying9 rfl rfl (by omega) hd) gT rfl ?_
      refine y_v rfl (r_bcv (k := .u8) (k' := .u32) rfl d.toBitVec Tryz.underlying5 Tryz.underlying112 rfl) gT rfl ?_
      refine y_v rfl (r_bshl (k := .u32) rfl 24 (by decide) (d.toBitVec.setWidth 32) rfl rfl) gT rfl ?_
      refine y_v rfl (yv (v' := .int .u32 ((le32 (s.drop j)).toNat : Int)) (r_bor (k := .u32) rfl ((a.toBitVec.setWidth 32 ||| b.toBitVec.setWidth 32 <<< 8) ||| c.toBitVec.setWidth 32 <<< 16) (d.toBitVec.setWidth 32 <<< 24) rfl rfl) (by rw [he]; rfl)) gT rfl ?_
      refine y_v rfl (r_mv rfl) gT rfl ?_
      refine y_a rfl (r_bs (vs := [_]) rfl ⟨rfl, rfl⟩ (bs22_1_0 _)) (fun _ _ _ h => Gets.own gS h) rfl fun b79 => ?_
      refine y_c rfl (r_call0 (args := [_]) ⟨rfl, rfl⟩ (sum_tr (Fr := blk b79 9 [str (((s.drop j).drop 4).take m)] :: Fr) (some ⟨b79, 0, none⟩) 1 [((s.drop j).drop 4).take m] (Rdb.of_blk (cs := [str (((s.drop j).drop 4).take m)]) (xs := [str (((s.drop j).drop 4).take m)]) pK 0 rfl (fun j u hu => by simpa using hu)) (by simp; omega) (by simp; omega)) gS) (by rintro _ _ _ _ _ h; exact Gets.own (Gets.all _) h) rfl ?_
      rintro _ _ ⟨hv, hRs⟩
      rw [show crcM 0#32 [((s.drop j).drop 4).take m] = crcS (((s.drop j).drop 4).take m) from rfl] at hv
      subst hv
      rw [hRs]
      refine y_v rfl (r_eq rfl rfl) gT rfl ?_
      refine XH.nil ?_
      refine hK8 _ _ ?_
      refine XC.keep [(2, _), (3, _), (81, _)] ⟨rfl, rfl, rfl, trivial⟩ ?_
      refine XC.cond_d rfl (fun hc2 => ?_) (fun hc2 => ?_)
      ·refine XC.seq fun K9 hK9 => ?_
       refine XC.region ?_
       refine x_v (r_mv rfl) rfl ?_
       refine x_v (r_mv rfl) rfl ?_
       refine x_v (r_as rfl) rfl ?_
       refine x_v (r_as rfl) rfl ?_
       refine x_v (r_as rfl) rfl ?_
       refine XL.nil ?_
       refine hK9 _ _ ?_
       refine XC.keep [(2, _), (3, _), (4, _)] ⟨rfl, rfl, rfl, trivial⟩ ?_
       refine XC.ret ?_
       rw [hF, openQ]
       dsimp only
       exact fin3 rfl rfl rfl (⟨by rw [if_pos ⟨by simpa using hg19, by omega, by omega, by omega, by omega⟩, Int.toNat_natCast, if_pos (eq_bv.1 hc2)]; rfl, rfl⟩) gS
      ·refine XC.skip ?_
       refine hK4 _ _ ?_
       refine XC.keep [] trivial ?_
       refine XC.seq fun K10 hK10 => ?_
       refine XC.region ?_
       refine x_v (r_as rfl) rfl ?_
       refine x_v (r_as rfl) rfl ?_
       refine x_v (r_as rfl) rfl ?_
       refine XL.nil ?_
       refine hK10 _ _ ?_
       refine XC.keep [(2, _), (3, _), (4, _)] ⟨rfl, rfl, rfl, trivial⟩ ?_
       refine XC.ret ?_
       rw [hF, openQ]
       dsimp only
       exact fin3 rfl rfl rfl (⟨by rw [if_pos ⟨by simpa using hg19, by omega, by omega, by omega, by omega⟩, Int.toNat_natCast, if_neg (fun h => hc2 (eq_bv.2 h))]; rfl, rfl⟩) gS
     ·refine XC.skip ?_
      refine hK4 _ _ ?_
      refine XC.keep [] trivial ?_
      refine XC.seq fun K11 hK11 => ?_
      refine XC.region ?_
      refine x_v (r_as rfl) rfl ?_
      refine x_v (r_as rfl) rfl ?_
      refine x_v (r_as rfl) rfl ?_
      refine XL.nil ?_
      refine hK11 _ _ ?_
      refine XC.keep [(2, _), (3, _), (4, _)] ⟨rfl, rfl, rfl, trivial⟩ ?_
      refine XC.ret ?_
      rw [hF, openQ]
      dsimp only
      exact fin3 rfl rfl rfl (⟨by rw [if_neg (by rintro ⟨h0, h1, h2, h3, h4⟩; first | omega | simp_all)]; rfl, rfl⟩) gS
    ·refine x_unwant rfl rfl rfl rfl rfl ?_
     refine x_unwant rfl rfl rfl rfl rfl ?_
     refine x_unwant rfl rfl rfl rfl rfl ?_
     refine x_unwant rfl rfl rfl rfl rfl ?_
     refine x_unwant rfl rfl rfl rfl rfl ?_
     refine x_v (r_pk_f rfl rfl) rfl ?_
     refine XL.nil ?_
     refine hK6 _ _ ?_
     refine XC.keep [(0, _), (6, _), (7, _), (38, _)] ⟨rfl, rfl, rfl, rfl, trivial⟩ ?_
     refine XC.cond_f rfl ?_
     refine XC.skip ?_
     refine hK4 _ _ ?_
     refine XC.keep [] trivial ?_
     refine XC.seq fun K12 hK12 => ?_
     refine XC.region ?_
     refine x_v (r_as rfl) rfl ?_
     refine x_v (r_as rfl) rfl ?_
     refine x_v (r_as rfl) rfl ?_
     refine XL.nil ?_
     refine hK12 _ _ ?_
     refine XC.keep [(2, _), (3, _), (4, _)] ⟨rfl, rfl, rfl, trivial⟩ ?_
     refine XC.ret ?_
     rw [hF, openQ]
     dsimp only
     exact fin3 rfl rfl rfl (⟨by rw [if_neg (by rintro ⟨h0, h1, h2, h3, h4⟩; first | omega | simp_all)]; rfl, rfl⟩) gS
   ·refine x_unwant rfl rfl rfl rfl rfl ?_
    refine x_unwant rfl rfl rfl rfl rfl ?_
    refine x_unwant rfl rfl rfl rfl rfl ?_
    refine x_v (r_pk_f rfl rfl) rfl ?_
    refine x_v (r_mv rfl) rfl ?_
    refine x_unwant rfl rfl rfl rfl rfl ?_
    refine x_unwant rfl rfl rfl rfl rfl ?_
    refine x_unwant rfl rfl rfl rfl rfl ?_
    refine x_unwant rfl rfl rfl rfl rfl ?_
    refine x_unwant rfl rfl rfl rfl rfl ?_
    refine x_v (r_pk_f rfl rfl) rfl ?_
    refine XL.nil ?_
    refine hK6 _ _ ?_
    refine XC.keep [(0, _), (6, _), (7, _), (38, _)] ⟨rfl, rfl, rfl, rfl, trivial⟩ ?_
    refine XC.cond_f rfl ?_
    refine XC.skip ?_
    refine hK4 _ _ ?_
    refine XC.keep [] trivial ?_
    refine XC.seq fun K13 hK13 => ?_
    refine XC.region ?_
    refine x_v (r_as rfl) rfl ?_
    refine x_v (r_as rfl) rfl ?_
    refine x_v (r_as rfl) rfl ?_
    refine XL.nil ?_
    refine hK13 _ _ ?_
    refine XC.keep [(2, _), (3, _), (4, _)] ⟨rfl, rfl, rfl, trivial⟩ ?_
    refine XC.ret ?_
    rw [hF, openQ]
    dsimp only
    exact fin3 rfl rfl rfl (⟨by rw [if_neg (by rintro ⟨h0, h1, h2, h3, h4⟩; first | omega | simp_all)]; rfl, rfl⟩) gS
  ·refine x_unwant rfl rfl rfl rfl rfl ?_
   refine x_unwant rfl rfl rfl rfl rfl ?_
   refine x_v (r_pk_f rfl rfl) rfl ?_
   refine x_v (r_mv rfl) rfl ?_
   refine x_unwant rfl rfl rfl rfl rfl ?_
   refine x_unwant rfl rfl rfl rfl rfl ?_
   refine x_unwant rfl rfl rfl rfl rfl ?_
   refine x_v (r_pk_f rfl rfl) rfl ?_
   refine x_v (r_mv rfl) rfl ?_
   refine x_unwant rfl rfl rfl rfl rfl ?_
   refine x_unwant rfl rfl rfl rfl rfl ?_
   refine x_unwant rfl rfl rfl rfl rfl ?_
   refine x_unwant rfl rfl rfl rfl rfl ?_
   refine x_unwant rfl rfl rfl rfl rfl ?_
   refine x_v (r_pk_f rfl rfl) rfl ?_
   refine XL.nil ?_
   refine hK6 _ _ ?_
   refine XC.keep [(0, _), (6, _), (7, _), (38, _)] ⟨rfl, rfl, rfl, rfl, trivial⟩ ?_
   refine XC.cond_f rfl ?_
   refine XC.skip ?_
   refine hK4 _ _ ?_
   refine XC.keep [] trivial ?_
   refine XC.seq fun K14 hK14 => ?_
   refine XC.region ?_
   refine x_v (r_as rfl) rfl ?_
   refine x_v (r_as rfl) rfl ?_
   refine x_v (r_as rfl) rfl ?_
   refine XL.nil ?_
   refine hK14 _ _ ?_
   refine XC.keep [(2, _), (3, _), (4, _)] ⟨rfl, rfl, rfl, trivial⟩ ?_
   refine XC.ret ?_
   rw [hF, openQ]
   dsimp only
   exact fin3 rfl rfl rfl (⟨by rw [if_neg (by rintro ⟨h0, h1, h2, h3, h4⟩; first | omega | simp_all)]; rfl, rfl⟩) gS
 ·refine x_unwant rfl rfl rfl rfl rfl ?_
  refine x_unwant rfl rfl rfl rfl rfl ?_
  refine x_v (r_pk_f rfl rfl) rfl ?_
  refine x_v (r_mv rfl) rfl ?_
  refine x_unwant rfl rfl rfl rfl rfl ?_
  refine x_unwant rfl rfl rfl rfl rfl ?_
  refine x_v (r_pk_f rfl rfl) rfl ?_
  refine x_v (r_mv rfl) rfl ?_
  refine x_unwant rfl rfl rfl rfl rfl ?_
  refine x_unwant rfl rfl rfl rfl rfl ?_
  refine x_unwant rfl rfl rfl rfl rfl ?_
  refine x_v (r_pk_f rfl rfl) rfl ?_
  refine x_v (r_mv rfl) rfl ?_
  refine x_unwant rfl rfl rfl rfl rfl ?_
  refine x_unwant rfl rfl rfl rfl rfl ?_
  refine x_unwant rfl rfl rfl rfl rfl ?_
  refine x_unwant rfl rfl rfl rfl rfl ?_
  refine x_unwant rfl rfl rfl rfl rfl ?_
  refine x_v (r_pk_f rfl rfl) rfl ?_
  refine XL.nil ?_
  refine hK6 _ _ ?_
  refine XC.keep [(0, _), (6, _), (7, _), (38, _)] ⟨rfl, rfl, rfl, rfl, trivial⟩ ?_
  refine XC.cond_f rfl ?_
  refine XC.skip ?_
  refine hK4 _ _ ?_
  refine XC.keep [] trivial ?_
  refine XC.seq fun K15 hK15 => ?_
  refine XC.region ?_
  refine x_v (r_as rfl) rfl ?_
  refine x_v (r_as rfl) rfl ?_
  refine x_v (r_as rfl) rfl ?_
  refine XL.nil ?_
  refine hK15 _ _ ?_
  refine XC.keep [(2, _), (3, _), (4, _)] ⟨rfl, rfl, rfl, trivial⟩ ?_
  refine XC.ret ?_
  rw [hF, openQ]
  dsimp only
  exact fin3 rfl rfl rfl (⟨by rw [if_neg (by rintro ⟨h0, h1, h2, h3, h4⟩; first | omega | simp_all)]; rfl, rfl⟩) gS
/-! all frames -/
theorem openF_lt {s p r : List UInt8} (h : openF s = some (p, r)) : r.length < s.length := by
 obtain ⟨j, h1, h2, h3, _⟩ := openF_suf h
 rw [h3, List.length_drop]; omega
def scanF (s : List UInt8) : List (List UInt8) × Nat :=
 match h : openF s with
 | none => ([], 0)
 | some (p, r) => (p :: (scanF r).1, s.length - r.length + (scanF r).2)
termination_by s.length
decreasing_by all_goals exact openF_lt h
theorem scanF_none {s : List UInt8} (h : openF s = none) : scanF s = ([], 0) := by
 rw [scanF]; split
 ·rfl
 ·rename_i h2; rw [h] at h2; cases h2
theorem scanF_some {s p r : List UInt8} (h : openF s = some (p, r)) : scanF s = (p :: (scanF r).1, s.length - r.length + (scanF r).2) := by
 rw [scanF]; split
 ·rename_i h2; rw [h] at h2; cases h2
 ·rename_i p2 r2 h2; rw [h] at h2; injection h2 with h2; injection h2 with h3 h4; subst h3; subst h4; rfl
theorem scan_tr {W0 : World} (s : List UInt8) (Fr : List HP) (hs : s.length ≤ 4194304) : Tr W0 Tryz.prog 31 [str s] Fr (fun v Rs' => ∃ A c, v = .tuple #[.slice A (scanF s).1.length c, .int .i64 ((scanF s).2 : Int)] ∧ Rs' = sl A (scanF s).1.length c 9 1 (cells sv (scanF s).1) :: Fr) := by
 have hmax : maxS = 140737488355328 := rfl
 refine Tr.nil_ 9 1 ?_
 refine Entry.tr (N := 26) (rs := [.tmp 2, .tmp 3]) ⟨_, Tryz.func31, rfl, by kernel_rfl, rfl, rfl⟩ rfl ?_
 refine XC.seq fun K1 hK1 => ?_
 refine XC.region ?_
 refine x_v (r_as rfl) rfl ?_
 refine x_v (r_as rfl) rfl ?_
 refine XL.nil ?_
 refine hK1 _ _ ?_
 refine XC.keep [(0, _), (2, _), (3, _)] ⟨rfl, rfl, rfl, trivial⟩ ?_
 refine XC.block ?_
 refine XC.loop (σ := Nat × List (List UInt8) × Option Addr × Nat) (fun q => [(0, str s), (2, .slice q.2.2.1 q.2.1.length q.2.2.2), (3, .int .i64 (q.1 : Int))]) (fun q => sl q.2.2.1 q.2.1.length q.2.2.2 9 1 (cells sv q.2.1) :: Fr) (fun q => q.1 ≤ s.length ∧ q.2.1.length ≤ q.1 ∧ scanF s = (q.2.1 ++ (scanF (s.drop q.1)).1, q.1 + (scanF (s.drop q.1)).2)) (fun q => s.length - q.1) (0, [], none, 0) ?_ ⟨rfl, rfl, rfl, trivial⟩ gS ?_
 ·exact ⟨Nat.zero_le _, Nat.le_refl _, by simp⟩
 rintro ⟨e, L, A, c⟩ ⟨he, hL, hg⟩
 dsimp only at he hL hg ⊢
 refine XC.block ?_
 refine XC.seq fun K2 hK2 => ?_
 refine XC.region ?_
 refine x_v (r_mv rfl) rfl ?_
 refine x_v (r_mv rfl) rfl ?_
 refine x_v (yv (v' := str (s.drop e)) (r_ssl e s.length Tryz.underlying9 rfl ⟨_, by rfl⟩ rfl (by omega) (by omega)) (congrArg str (List.take_of_length_le (by simp)))) rfl ?_
 refine x_c (r_call0 (args := [_]) ⟨rfl, rfl⟩ (open_tr (s.drop e) (sl A L.length c 9 1 (cells sv L) :: Fr) (by rw [List.length_drop]; omega)) gS) rfl ?_
 rintro _ _ ⟨hv, hRs⟩
 rw [hRs]
 rcases hO : openF (s.drop e) with _ | ⟨p, r⟩ <;> rw [hO] at hv <;> subst hv <;> simp only [openV]
 ·refine x_v (r_mv rfl) rfl ?_
  refine x_v (r_ex rfl rfl) rfl ?_
  refine x_v (r_ex rfl rfl) rfl ?_
  refine x_v (r_ex rfl rfl) rfl ?_
  refine x_v (r_as rfl) rfl ?_
  refine x_v (r_as rfl) rfl ?_
  refine x_v (r_as rfl) rfl ?_
  refine XL.nil ?_
  refine hK2 _ _ ?_
  refine XC.keep [(0, _), (2, _), (3, _), (4, _), (5, _), (6, _)] ⟨rfl, rfl, rfl, rfl, rfl, rfl, trivial⟩ ?_
  refine XC.seq fun K3 hK3 => ?_
  refine XC.seq fun K4 hK4 => ?_
  refine XC.region ?_
  refine x_v (r_mv rfl) rfl ?_
  refine x_v (r_ne rfl rfl) rfl ?_
  refine XL.nil ?_
  refine hK4 _ _ ?_
  refine XC.keep [(0, _), (2, _), (3, _), (4, _), (5, _), (16, _)] ⟨rfl, rfl, rfl, rfl, rfl, rfl, trivial⟩ ?_
  refine XC.cond_d rfl (fun hc1 => ?_) (fun hc1 => ?_)
  ·refine XC.ret ?_
   have hS : scanF s = (L, e) := by rw [hg, scanF_none hO]; simp
   exact fin2 rfl rfl (⟨A, c, by rw [hS], by rw [hS]⟩) gS
  ·exfalso; omega
 ·obtain ⟨k, hk1, hk2, rfl, hk3⟩ := openF_suf hO
  rw [List.length_drop] at hk2
  have hkl : ((s.drop e).drop k).length = s.length - e - k := by simp; omega
  refine x_v (r_mv rfl) rfl ?_
  refine x_v (r_ex rfl rfl) rfl ?_
  refine x_v (r_ex rfl rfl) rfl ?_
  refine x_v (r_ex rfl rfl) rfl ?_
  refine x_v (r_as rfl) rfl ?_
  refine x_v (r_as rfl) rfl ?_
  refine x_v (r_as rfl) rfl ?_
  refine XL.nil ?_
  refine hK2 _ _ ?_
  refine XC.keep [(0, _), (2, _), (3, _), (4, _), (5, _), (6, _)] ⟨rfl, rfl, rfl, rfl, rfl, rfl, trivial⟩ ?_
  refine XC.seq fun K5 hK5 => ?_
  refine XC.seq fun K6 hK6 => ?_
  refine XC.region ?_
  refine x_v (r_mv rfl) rfl ?_
  refine x_v (r_ne rfl rfl) rfl ?_
  refine XL.nil ?_
  refine hK6 _ _ ?_
  refine XC.keep [(0, _), (2, _), (3, _), (4, _), (5, _), (16, _)] ⟨rfl, rfl, rfl, rfl, rfl, rfl, trivial⟩ ?_
  refine XC.cond_d rfl (fun hc2 => ?_) (fun hc2 => ?_)
  ·exfalso; omega
  ·refine XC.skip ?_
   refine hK5 _ _ ?_
   refine XC.keep [(0, _), (2, _), (4, _), (5, _)] ⟨rfl, rfl, rfl, rfl, trivial⟩ ?_
   refine XC.seq fun K7 hK7 => ?_
   refine XC.region ?_
   refine x_v (r_mv rfl) rfl ?_
   refine x_v (r_mv rfl) rfl ?_
   refine x_a (r_bs (vs := [_]) rfl ⟨rfl, rfl⟩ (bs22_1_0 _)) rfl fun b19 => ?_
   refine x_a (r_app Tryz.underlying22 ty9 rfl (by decide) rfl rfl pK (Rdb.of_blk (cs := [str p]) (xs := [str p]) pK 0 (by rfl) (fun j u hu => by simpa using hu)) rfl (by unfold maxLen; omega) (by omega)) rfl fun ⟨A20, c20⟩ => ?_
   refine x_v (r_as rfl) rfl ?_
   refine XL.nil ?_
   refine hK7 _ _ ?_
   refine XC.keep [(0, _), (2, _), (5, _)] ⟨rfl, rfl, rfl, trivial⟩ ?_
   refine XC.region ?_
   refine x_v (r_mv rfl) rfl ?_
   refine x_v (r_lens Tryz.underlying9 rfl) rfl ?_
   refine x_v (r_mv rfl) rfl ?_
   refine x_v (r_lens Tryz.underlying9 rfl) rfl ?_
   refine x_v (yv (v' := .int .i64 ((e + k : Nat) : Int)) (r_sub rfl rfl (by omega)) (congrArg _ (by omega))) rfl ?_
   refine x_v (r_as rfl) rfl ?_
   refine XL.nil ?_
   rw [show L.length + 1 = (L ++ [p]).length by simp, show cells sv L ++ [str p] = cells sv (L ++ [p]) by rw [cells_app]; rfl]
   refine ⟨(e + k, L ++ [p], A20, c20), ?_, ?_, ⟨rfl, rfl, rfl, trivial⟩, gS⟩
   ·exact ⟨by dsimp only; omega, by simp; omega, by dsimp only; rw [hg, scanF_some hO, ← List.drop_drop, List.append_assoc, List.singleton_append, List.length_drop]; congr 1; omega⟩
   ·dsimp only; omega
end Go.Proofs.YtcmdmhmgffjknaaGreatDoor
/- A map's keys, sorted: functions 39, 38. -/
namespace Go.Sx
open Go.RowKit
set_option linter.unusedVariables false
/-- A row of a call's own, all else as it was. -/
theorem Own.of_row {w w' : World} {E sz n : Nat} {v : Value} {xs : List Value} (hb : Below w.heap.size w w') (ho : w'.ownsRow w.heap.size E sz v n xs) : ∃ A c, v = .slice A n c ∧ Own w w' [sl A n c E sz xs] := by
 obtain ⟨hl, ⟨rfl, rfl⟩ | ⟨g, cap, cur, rfl, h1, h2, h3, h4, h5, h6⟩⟩ := ho
 ·have hx : xs = [] := List.eq_nil_of_length_eq_zero (by simpa using hl)
  subst hx
  exact ⟨none, 0, rfl, ((Own.start w).of_below hb).nil E sz⟩
 ·refine ⟨some ⟨g, 0, none⟩, cap, rfl, Own.sl_shut (cur := cur.toList) ?_ h3 h4 (by simpa using h5) h6⟩
  refine ⟨hb.os, hb.tape, hb.output, hb.size, fun k hk => hb.block k hk, fun k => if k = g then some (.cells cur E (0, 0)) else none, ⟨fun k => if k = g then some (.cells cur E (0, 0)) else none, fun _ => none, ?_, fun _ => rfl, fun k => .inr rfl, fun k => by simp⟩, fun k o e => ?_⟩
  ·unfold blk ob; intro k; simp
  ·by_cases hk : k = g
   ·subst hk; simp at e; subst e; exact ⟨h1, h2⟩
   ·simp [hk] at e
end Go.Sx
namespace Go.Proofs.YtcmdmhmgffjknaaGreatDoor
open Go.Sx Go.RowKit Go.Maps Go.Sort
set_option linter.unusedVariables false

theorem sortsA (m : Nat) : AnyZ.SortsIn Tryz.prog Tryz.sortedA_ren Fence.wide m :=
 ⟨fun blk off cap ss W hH hblk hsz => callsIn_wide.2 (AnyM.slices_Sort_string Tryz.laysSlM6_f70 blk off cap ss W hH hblk hsz),
 fun p cap W => callsIn_wide.2 (AnyM.slices_Sort_string_none Tryz.laysSlM6_f70 p cap W)⟩
theorem keys_tr {W0 : World} (mb : Nat) (Fr : List HP) : Tr W0 Tryz.prog 39 [.map (some mb)] Fr (fun v Rs' => ∃ bx, v = .func (.func 71) #[] #[.pointer (some ⟨bx, 0, none⟩)] ∧ Rs' = blk bx 72 [.map (some mb)] :: Fr) := by
 refine Entry.tr (N := 4) (rs := [.tmp 2]) ⟨_, Tryz.func39, rfl, by kernel_rfl, rfl, rfl⟩ rfl ?_
 refine XC.seq fun K1 hK1 => ?_
 refine XC.region ?_
 refine x_a (r_bx rfl rfl) rfl fun b1 => ?_
 refine x_v (r_as rfl) rfl ?_
 refine XL.nil ?_
 refine hK1 _ _ ?_
 refine XC.keep [(1, _)] ⟨rfl, trivial⟩ ?_
 refine XC.seq fun K2 hK2 => ?_
 refine XC.region ?_
 refine x_v (r_mfv (cs := [_]) ⟨rfl, rfl⟩) rfl ?_
 refine x_v (r_as rfl) rfl ?_
 refine XL.nil ?_
 refine hK2 _ _ ?_
 refine XC.keep [(2, _)] ⟨rfl, trivial⟩ ?_
 refine XC.ret ?_
 exact fin1 rfl (⟨_, rfl, rfl⟩) gS
theorem enc_cells : ∀ N : List (List UInt8), N.map encStr = cells sv N
 | [] => rfl
 | a :: N => by rw [List.map_cons, cells_cons, enc_cells N]; rfl
theorem sorted_th : ∃ fn c, Tryz.prog.funcs[38]? = some fn ∧ (fn.name == "runtime.NumGoroutine") = false ∧ fn.body = some c := ⟨_, _, Tryz.func38, by kernel_rfl, rfl⟩
def constR : Value → Option (DataW Nat × List MemPlace) := fun _ => some (.nil, [])
theorem sorted_tr {W0 : World} (bx mb : Nat) (f : Value → Option Value) (N : List (List UInt8)) (Fr : List HP) (hf : ∀ k, (f k).isSome = true ↔ ∃ n ∈ N, k = str n) (hs : N.Pairwise (· < ·)) (hl : ∀ n ∈ N, n.length ≤ maxLen) (hn : N.length ≤ 1000000000) :
  Tr W0 Tryz.prog 38 [.func (.func 71) #[] #[.pointer (some ⟨bx, 0, none⟩)]] (blk bx 72 [.map (some mb)] :: mpf mb .string f :: Fr) (fun v Rs' => ∃ A c, v = .slice A N.length c ∧ Rs' = sl A N.length c 9 1 (cells sv N) :: blk bx 72 [.map (some mb)] :: mpf mb .string f :: Fr) := by
 refine ⟨sorted_th, fun w hw => ?_⟩
 have hbx := hw.cells
 obtain ⟨es, clock, m, hmo⟩ := (hw.perm (.swap _ _ _)).mpf_open
 have hmb := hmo.head.2
 have hnd : N.Nodup := hs.imp (fun h e => by subst e; exact absurd h (List.lt_irrefl _))
 have hkeys : ∀ x ∈ es.toList, ∃ n ∈ N, x.key = str n := fun x hx => (hf x.key).1 (by rw [(m.is x.key x.val).2 ⟨x, hx, rfl, rfl⟩]; rfl)
 have hperm : (es.toList.map (·.key)).Perm (N.map str) := by
  refine (List.perm_ext_iff_of_nodup m.stamped.2.2 (List.pairwise_map.2 (hnd.imp fun h e => h (by simpa [str] using e)))).2 fun k => ?_
  rw [List.mem_map, List.mem_map]
  constructor
  ·rintro ⟨x, hx, rfl⟩; obtain ⟨n, h1, h2⟩ := hkeys x hx; exact ⟨n, h1, h2.symm⟩
  ·rintro ⟨n, h1, rfl⟩
   have h2 := (hf (str n)).2 ⟨n, h1, rfl⟩
   obtain ⟨v, hv⟩ := Option.isSome_iff_exists.1 h2
   obtain ⟨x, hx, h3, _⟩ := (m.is _ _).1 hv
   exact ⟨x, hx, h3⟩
 have hsz : es.size = N.length := by have := hperm.length_eq; simpa using this
 have hmax : maxLen = 9223372036854775807 := rfl
 have hrd : ∀ x ∈ es.toList, ∀ n, x.key = str n → n ∈ N → WideElems.rd Tryz.prog 9 constR x = some (.string n, .nil) := fun x hx n hk hnN => by
  unfold WideElems.rd
  have h1 : keyOf Tryz.prog 9 (str n) = some (.string n) := WideMaps.keyOf_string_mk Tryz.underlying9 (s := ⟨n.toArray⟩) (by rw [str_size]; exact hl n hnN)
  rw [hk, h1]
  rfl
 have F : WideElems.Fit Tryz.prog 9 constR es clock := ⟨by omega, m.stamped, fun x hx => by obtain ⟨n, h1, h2⟩ := hkeys x hx; exact ⟨_, hrd x hx n h2 h1⟩⟩
 have hown : w.ownsMap Tryz.prog 9 constR mb es.size (.map ((es.toList.map (WideElems.rg Tryz.prog 9 constR)).foldr DataW.insert [])) := ⟨es, clock, hmb, F, Nat.le_refl _, rfl⟩
 have hsize : Maps.size (.map ((es.toList.map (WideElems.rg Tryz.prog 9 constR)).foldr DataW.insert []) : DataW Nat) = N.length := by
  rw [Maps.size_eq, length_sorted, List.length_map, Array.length_toList, hsz]
 have hks : (strKeys (.map ((es.toList.map (WideElems.rg Tryz.prog 9 constR)).foldr DataW.insert []) : DataW Nat)).Perm N := by
  show (((es.toList.map (WideElems.rg Tryz.prog 9 constR)).foldr DataW.insert []).map fun p => strOf p.1).Perm N
  refine ((WideShapes.sorted_perm _).map _).trans ?_
  have h2 : ((es.toList.map (WideElems.rg Tryz.prog 9 constR)).map fun p => strOf p.1).map str = es.toList.map (·.key) := by
   rw [List.map_map, List.map_map]
   refine List.map_congr_left fun x hx => ?_
   obtain ⟨n, h1, h2⟩ := hkeys x hx
   have := hrd x hx n h2 h1
   have h4 : WideElems.rg Tryz.prog 9 constR x = (.string n, .nil) := WideElems.rg_of this
   show str (strOf (WideElems.rg Tryz.prog 9 constR x).1) = x.key
   rw [h4, h2]; rfl
  have h3 : (((es.toList.map (WideElems.rg Tryz.prog 9 constR)).map fun p => strOf p.1).map str).Perm (N.map str) := by rw [h2]; exact hperm
  refine (List.perm_ext_iff_of_nodup ?_ hnd).2 fun a => ?_
  ·have h4 : (((es.toList.map (WideElems.rg Tryz.prog 9 constR)).map fun p => strOf p.1).map str).Nodup := by rw [h2]; exact m.stamped.2.2
   exact List.Pairwise.imp (fun h e => h (by rw [e])) (List.pairwise_map.1 h4)
  ·have h5 := h3.mem_iff (a := str a)
   rw [List.mem_map, List.mem_map] at h5
   constructor
   ·intro h; obtain ⟨b, hb, he⟩ := h5.1 ⟨a, h, rfl⟩; have : b = a := by simpa [str] using he
    subst this; exact hb
   ·intro h; obtain ⟨b, hb, he⟩ := h5.2 ⟨a, h, rfl⟩; have : b = a := by simpa [str] using he
    subst this; exact hb
 have hbl : bx < w.heap.size := heap_set_lt hbx
 have hseq : SeqGives Fence.wide 2 Tryz.prog 71 #[.pointer (some ⟨bx, 0, none⟩)] encStr (fun ss => ss.Perm (strKeys (.map ((es.toList.map (WideElems.rg Tryz.prog 9 constR)).foldr DataW.insert []) : DataW Nat))) (Maps.size (.map ((es.toList.map (WideElems.rg Tryz.prog 9 constR)).foldr DataW.insert []) : DataW Nat)) w :=
  AnyZ.keys_gives (ρ := Tryz.keysA_ren) { Tryz.keysA with } Fence.wide _ trivial rfl (by omega) bx mb es.size _ _ hbl (by simp [World.cell?, hbx]) hown
 have cS := AnyZ.sorted_in Tryz.sortedA Fence.wide 5 trivial trivial trivial trivial rfl (by omega) (sortsA _) (enters_of Tryz.func70 (by kernel_rfl) rfl) 71 #[.pointer (some ⟨bx, 0, none⟩)] trivial (enters_of Tryz.func71 (by kernel_rfl) rfl) _ _ (by rw [hsize]; omega) (by rw [hsize]; omega) _ hseq
 change CallsIn _ _ Tryz.prog 38 _ _ _ at cS
 refine (callsIn_wide.1 cS).mono ?_
 rintro e w' ⟨v, ss, rfl, hS, hrow, hnil, hb⟩
 have hsN : ss.Perm N := hS.trans hks
 have hss : ss.mergeSort (fun x y => decide (x ≤ y)) = N := by
  have h1 := mergeSort_of_perm hsN
  rw [show ss.mergeSort (fun x y => decide (x ≤ y)) = ss.mergeSort leB from rfl, h1]
  exact List.mergeSort_of_pairwise (hs.imp fun h => by simp only [leB, decide_eq_true_eq]; exact List.le_of_lt h)
 rw [hss, hsN.length_eq] at hrow
 have hc : N.map encStr = cells sv N := by
  exact enc_cells N
 rw [hc] at hrow
 obtain ⟨A, c, rfl, ho⟩ := Own.of_row hb hrow
 exact ⟨_, _, ⟨A, c, rfl, rfl⟩, rfl, hw.frame ho⟩
end Go.Proofs.YtcmdmhmgffjknaaGreatDoor
/- Names that may be: functions 135, 134, 114. -/
namespace Go.Proofs.YtcmdmhmgffjknaaGreatDoor
open Go.Sx Go.RowKit
set_option linter.unusedVariables false

def oddN (c : Nat) : Bool := decide ((c < 97 ∨ 122 < c) ∧ (c < 48 ∨ 57 < c) ∧ c ≠ 46)
theorem odd_tr {W0 : World} (c : Nat) : Tr W0 Tryz.prog 135 [.int .i32 (c : Int)] [] (fun v Rs' => v = .bool (oddN c) ∧ Rs' = []) := by
 refine Entry.tr (N := 21) (rs := [.tmp 2]) ⟨_, Tryz.func135, rfl, by kernel_rfl, rfl, rfl⟩ rfl ?_
 refine XC.seq fun K1 hK1 => ?_
 refine XC.region ?_
 refine x_v (r_as rfl) rfl ?_
 refine XL.nil ?_
 refine hK1 _ _ ?_
 refine XC.keep [(0, _)] ⟨rfl, trivial⟩ ?_
 refine XC.seq fun K2 hK2 => ?_
 refine XC.region ?_
 refine x_v (r_mv rfl) rfl ?_
 refine x_v (r_lt rfl rfl) rfl ?_
 refine x_v (r_mv rfl) rfl ?_
 refine XL.splitd 5 rfl (fun hg5 => ?_) (fun hg5 => ?_)
 ·refine x_unwant rfl rfl rfl rfl rfl ?_
  refine x_unwant rfl rfl rfl rfl rfl ?_
  refine x_v (r_pk_t rfl rfl) rfl ?_
  refine x_v (r_mv rfl) rfl ?_
  refine x_want rfl rfl rfl ?_
  refine x_v (r_mv rfl) rfl ?_
  refine x_want rfl rfl rfl ?_
  refine x_v (r_lt rfl rfl) rfl ?_
  refine x_want rfl rfl rfl ?_
  refine x_v (r_mv rfl) rfl ?_
  refine XL.splitd 12 rfl (fun hg12 => ?_) (fun hg12 => ?_)
  ·refine x_unwant rfl rfl rfl rfl rfl ?_
   refine x_unwant rfl rfl rfl rfl rfl ?_
   refine x_want rfl rfl rfl ?_
   refine x_v (r_pk_t rfl rfl) rfl ?_
   refine x_v (r_pk_t rfl rfl) rfl ?_
   refine x_v (r_mv rfl) rfl ?_
   refine x_want rfl rfl rfl ?_
   refine x_v (r_mv rfl) rfl ?_
   refine x_want rfl rfl rfl ?_
   refine x_v (r_ne rfl rfl) rfl ?_
   refine x_v (r_pk_t rfl rfl) rfl ?_
   refine x_v (r_as rfl) rfl ?_
   refine XL.nil ?_
   refine hK2 _ _ ?_
   refine XC.keep [(2, _)] ⟨rfl, trivial⟩ ?_
   refine XC.ret ?_
   exact fin1 rfl (⟨congrArg Value.bool (by unfold oddN; first | (rw [decide_eq_decide]; omega) | (symm; rw [decide_eq_false_iff_not]; omega) | (symm; rw [decide_eq_true_iff]; omega)), rfl⟩) gS
  ·refine x_want rfl rfl rfl ?_
   refine x_v (r_mv rfl) rfl ?_
   refine x_want rfl rfl rfl ?_
   refine x_v (r_gt rfl rfl) rfl ?_
   refine x_want rfl rfl rfl ?_
   refine x_v (r_pk_f rfl rfl) rfl ?_
   refine x_v (r_pk_t rfl rfl) rfl ?_
   refine x_v (r_mv rfl) rfl ?_
   refine XL.splitd 17 rfl (fun hg17 => ?_) (fun hg17 => ?_)
   ·refine x_want rfl rfl rfl ?_
    refine x_v (r_mv rfl) rfl ?_
    refine x_want rfl rfl rfl ?_
    refine x_v (r_ne rfl rfl) rfl ?_
    refine x_v (r_pk_t rfl rfl) rfl ?_
    refine x_v (r_as rfl) rfl ?_
    refine XL.nil ?_
    refine hK2 _ _ ?_
    refine XC.keep [(2, _)] ⟨rfl, trivial⟩ ?_
    refine XC.ret ?_
    exact fin1 rfl (⟨congrArg Value.bool (by unfold oddN; first | (rw [decide_eq_decide]; omega) | (symm; rw [decide_eq_false_iff_not]; omega) | (symm; rw [decide_eq_true_iff]; omega)), rfl⟩) gS
   ·refine x_unwant rfl rfl rfl rfl rfl ?_
    refine x_unwant rfl rfl rfl rfl rfl ?_
    refine x_v (r_pk_f rfl rfl) rfl ?_
    refine x_v (r_as rfl) rfl ?_
    refine XL.nil ?_
    refine hK2 _ _ ?_
    refine XC.keep [(2, _)] ⟨rfl, trivial⟩ ?_
    refine XC.ret ?_
    exact fin1 rfl (⟨congrArg Value.bool (by unfold oddN; first | (rw [decide_eq_decide]; omega) | (symm; rw [decide_eq_false_iff_not]; omega) | (symm; rw [decide_eq_true_iff]; omega)), rfl⟩) gS
 ·refine x_want rfl rfl rfl ?_
  refine x_v (r_mv rfl) rfl ?_
  refine x_want rfl rfl rfl ?_
  refine x_v (r_gt rfl rfl) rfl ?_
  refine x_v (r_pk_f rfl rfl) rfl ?_
  refine x_v (r_mv rfl) rfl ?_
  refine XL.splitd 9 rfl (fun hg9 => ?_) (fun hg9 => ?_)
  ·refine x_want rfl rfl rfl ?_
   refine x_v (r_mv rfl) rfl ?_
   refine x_want rfl rfl rfl ?_
   refine x_v (r_lt rfl rfl) rfl ?_
   refine x_want rfl rfl rfl ?_
   refine x_v (r_mv rfl) rfl ?_
   refine XL.splitd 12 rfl (fun hg12 => ?_) (fun hg12 => ?_)
   ·refine x_unwant rfl rfl rfl rfl rfl ?_
    refine x_unwant rfl rfl rfl rfl rfl ?_
    refine x_want rfl rfl rfl ?_
    refine x_v (r_pk_t rfl rfl) rfl ?_
    refine x_v (r_pk_t rfl rfl) rfl ?_
    refine x_v (r_mv rfl) rfl ?_
    refine x_want rfl rfl rfl ?_
    refine x_v (r_mv rfl) rfl ?_
    refine x_want rfl rfl rfl ?_
    refine x_v (r_ne rfl rfl) rfl ?_
    refine x_v (r_pk_t rfl rfl) rfl ?_
    refine x_v (r_as rfl) rfl ?_
    refine XL.nil ?_
    refine hK2 _ _ ?_
    refine XC.keep [(2, _)] ⟨rfl, trivial⟩ ?_
    refine XC.ret ?_
    exact fin1 rfl (⟨congrArg Value.bool (by unfold oddN; first | (rw [decide_eq_decide]; omega) | (symm; rw [decide_eq_false_iff_not]; omega) | (symm; rw [decide_eq_true_iff]; omega)), rfl⟩) gS
   ·refine x_want rfl rfl rfl ?_
    refine x_v (r_mv rfl) rfl ?_
    refine x_want rfl rfl rfl ?_
    refine x_v (r_gt rfl rfl) rfl ?_
    refine x_want rfl rfl rfl ?_
    refine x_v (r_pk_f rfl rfl) rfl ?_
    refine x_v (r_pk_t rfl rfl) rfl ?_
    refine x_v (r_mv rfl) rfl ?_
    refine XL.splitd 17 rfl (fun hg17 => ?_) (fun hg17 => ?_)
    ·refine x_want rfl rfl rfl ?_
     refine x_v (r_mv rfl) rfl ?_
     refine x_want rfl rfl rfl ?_
     refine x_v (r_ne rfl rfl) rfl ?_
     refine x_v (r_pk_t rfl rfl) rfl ?_
     refine x_v (r_as rfl) rfl ?_
     refine XL.nil ?_
     refine hK2 _ _ ?_
     refine XC.keep [(2, _)] ⟨rfl, trivial⟩ ?_
     refine XC.ret ?_
     exact fin1 rfl (⟨congrArg Value.bool (by unfold oddN; first | (rw [decide_eq_decide]; omega) | (symm; rw [decide_eq_false_iff_not]; omega) | (symm; rw [decide_eq_true_iff]; omega)), rfl⟩) gS
    ·refine x_unwant rfl rfl rfl rfl rfl ?_
     refine x_unwant rfl rfl rfl rfl rfl ?_
     refine x_v (r_pk_f rfl rfl) rfl ?_
     refine x_v (r_as rfl) rfl ?_
     refine XL.nil ?_
     refine hK2 _ _ ?_
     refine XC.keep [(2, _)] ⟨rfl, trivial⟩ ?_
     refine XC.ret ?_
     exact fin1 rfl (⟨congrArg Value.bool (by unfold oddN; first | (rw [decide_eq_decide]; omega) | (symm; rw [decide_eq_false_iff_not]; omega) | (symm; rw [decide_eq_true_iff]; omega)), rfl⟩) gS
  ·refine x_unwant rfl rfl rfl rfl rfl ?_
   refine x_unwant rfl rfl rfl rfl rfl ?_
   refine x_unwant rfl rfl rfl rfl rfl ?_
   refine x_unwantu rfl rfl rfl rfl rfl ?_
   refine x_unwantu rfl rfl rfl rfl rfl ?_
   refine x_unwant rfl rfl rfl rfl rfl ?_
   refine x_v (r_pk_f rfl rfl) rfl ?_
   refine x_v (r_mv rfl) rfl ?_
   refine x_unwant rfl rfl rfl rfl rfl ?_
   refine x_unwant rfl rfl rfl rfl rfl ?_
   refine x_v (r_pk_f rfl rfl) rfl ?_
   refine x_v (r_as rfl) rfl ?_
   refine XL.nil ?_
   refine hK2 _ _ ?_
   refine XC.keep [(2, _)] ⟨rfl, trivial⟩ ?_
   refine XC.ret ?_
   exact fin1 rfl (⟨congrArg Value.bool (by unfold oddN; first | (rw [decide_eq_decide]; omega) | (symm; rw [decide_eq_false_iff_not]; omega) | (symm; rw [decide_eq_true_iff]; omega)), rfl⟩) gS
def fineB (s : List UInt8) : Bool := decide (s ≠ [] ∧ s.length ≤ 80 ∧ ∀ c ∈ s, oddN c.toNat = false)
theorem idx_fine (s : List UInt8) : ∀ (f pos : Nat), s.length ≤ pos + f → (Lib.idxFuncFrom oddN true ⟨s.toArray⟩ f pos < 0 ↔ ∀ c ∈ s.drop pos, oddN c.toNat = false)
 | 0, pos, h => by simp [Lib.idxFuncFrom, List.drop_of_length_le (show s.length ≤ pos by omega)]
 | f + 1, pos, h => by
  unfold Lib.idxFuncFrom
  have hsz : (⟨s.toArray⟩ : ByteArray).size = s.length := rfl
  by_cases hp : pos < s.length
  ·rw [if_pos (by rw [hsz]; exact hp), List.drop_eq_getElem_cons hp, List.forall_mem_cons]
   have hp0 : ¬ ((pos : Int) < 0) := by omega
   have hg : ((⟨s.toArray⟩ : ByteArray)[pos]'(by rw [hsz]; exact hp)) = s[pos] := rfl
   by_cases ha : s[pos].toNat < 128
   ·rw [decode_ascii _ pos (by rw [hsz]; exact hp) (by rw [hg]; exact ha), hg]
    dsimp only
    cases ho : oddN s[pos].toNat with
    | true => rw [if_pos rfl]; exact ⟨fun h => absurd h hp0, fun h => absurd h.1 (by decide)⟩
    | false => rw [if_neg (by decide), idx_fine s f (pos + 1) (by omega)]; exact ⟨fun h => ⟨rfl, h⟩, fun h => h.2⟩
   ·have hd := decode_high (⟨s.toArray⟩ : ByteArray) pos (by rw [hsz]; exact hp) (by rw [hg]; omega)
    have ho : oddN (Utf8.decode ⟨s.toArray⟩ pos).1 = true := by unfold oddN; rw [decide_eq_true_iff]; omega
    have ho2 : oddN s[pos].toNat = true := by unfold oddN; rw [decide_eq_true_iff]; omega
    rw [ho, if_pos rfl, ho2]
    exact ⟨fun h => absurd h hp0, fun h => absurd h.1 (by decide)⟩
  ·rw [if_neg (by rw [hsz]; exact hp), List.drop_of_length_le (by omega)]; simp
theorem idx_th : ∃ fn c, Tryz.prog.funcs[134]? = some fn ∧ (fn.name == "runtime.NumGoroutine") = false ∧ fn.body = some c := ⟨_, _, Tryz.func134, by kernel_rfl, rfl⟩
theorem idx_tr {W0 : World} (s : List UInt8) (Fr : List HP) : Tr W0 Tryz.prog 134 [str s, .func (.func 135) #[] #[]] Fr (fun v Rs' => (v = .int .i64 (Lib.idxFunc oddN true ⟨s.toArray⟩)) ∧ Rs' = Fr) := by
 refine (Tr.of_below (Q := fun v => v = .int .i64 (Lib.idxFunc oddN true ⟨s.toArray⟩)) idx_th fun w hw => ?_)
 refine (Tryz.strings_IndexFunc_grows 135 #[] (enters_of Tryz.func135 (by kernel_rfl) rfl) oddN ⟨s.toArray⟩ w ?_).mono fun e w' ⟨h1, h2⟩ => ⟨_, rfl, h1, h2⟩
 intro W x hx hb
 refine ((odd_tr x).calls W (Own.start W)).mono ?_
 rintro e w' ⟨v, Rs', ⟨rfl, rfl⟩, rfl, o⟩
 exact ⟨rfl, o.os, o.tape, o.output, o.size, o.old⟩
theorem fine_tr {W0 : World} (s : List UInt8) (Fr : List HP) : Tr W0 Tryz.prog 114 [str s] Fr (fun v Rs' => v = .bool (fineB s) ∧ Rs' = Fr) := by
 have hi : Lib.idxFunc oddN true ⟨s.toArray⟩ < 0 ↔ ∀ c ∈ s, oddN c.toNat = false := idx_fine s _ 0 (by rw [str_size]; omega)
 refine Entry.tr (N := 15) (rs := [.tmp 2]) ⟨_, Tryz.func114, rfl, by kernel_rfl, rfl, rfl⟩ rfl ?_
 refine XC.seq fun K1 hK1 => ?_
 refine XC.region ?_
 refine x_v (r_as rfl) rfl ?_
 refine XL.nil ?_
 refine hK1 _ _ ?_
 refine XC.keep [(0, _)] ⟨rfl, trivial⟩ ?_
 refine XC.seq fun K2 hK2 => ?_
 refine XC.region ?_
 refine x_v (r_mv rfl) rfl ?_
 refine x_v (r_sne rfl rfl) rfl ?_
 refine x_v (r_mv rfl) rfl ?_
 refine XL.splitd 5 rfl (fun hg5 => ?_) (fun hg5 => ?_)
 ·refine x_want rfl rfl rfl ?_
  refine x_v (r_mv rfl) rfl ?_
  refine x_want rfl rfl rfl ?_
  refine x_v (r_lens Tryz.underlying9 rfl) rfl ?_
  refine x_want rfl rfl rfl ?_
  refine x_v (r_le rfl rfl) rfl ?_
  refine x_v (r_pk_t rfl rfl) rfl ?_
  refine x_v (r_mv rfl) rfl ?_
  refine XL.splitd 10 rfl (fun hg10 => ?_) (fun hg10 => ?_)
  ·refine x_want rfl rfl rfl ?_
   refine x_v (r_mv rfl) rfl ?_
   refine x_want rfl rfl rfl ?_
   refine x_c (r_call0 (args := [_, _]) ⟨rfl, rfl, rfl⟩ (idx_tr s Fr) gS) rfl ?_
   rintro _ _ ⟨rfl, hRs⟩
   rw [hRs]
   refine x_want rfl rfl rfl ?_
   refine x_v (r_lt rfl rfl) rfl ?_
   refine x_v (r_pk_t rfl rfl) rfl ?_
   refine x_v (r_as rfl) rfl ?_
   refine XL.nil ?_
   refine hK2 _ _ ?_
   refine XC.keep [(2, _)] ⟨rfl, trivial⟩ ?_
   refine XC.ret ?_
   exact fin1 rfl (⟨congrArg Value.bool (by unfold fineB; first | (rw [decide_eq_decide, hi]; constructor; (intro h; exact ⟨by assumption, by omega, h⟩); (intro h; exact h.2.2)) | (symm; rw [decide_eq_false_iff_not]; rintro ⟨h1, h2, h3⟩; first | omega | exact absurd h1 (by assumption))), rfl⟩) gS
  ·refine x_unwant rfl rfl rfl rfl rfl ?_
   refine x_unwant rfl rfl rfl rfl rfl ?_
   refine x_unwant rfl rfl rfl rfl rfl ?_
   refine x_v (r_pk_f rfl rfl) rfl ?_
   refine x_v (r_as rfl) rfl ?_
   refine XL.nil ?_
   refine hK2 _ _ ?_
   refine XC.keep [(2, _)] ⟨rfl, trivial⟩ ?_
   refine XC.ret ?_
   exact fin1 rfl (⟨congrArg Value.bool (by unfold fineB; first | (rw [decide_eq_decide, hi]; constructor; (intro h; exact ⟨by assumption, by omega, h⟩); (intro h; exact h.2.2)) | (symm; rw [decide_eq_false_iff_not]; rintro ⟨h1, h2, h3⟩; first | omega | exact absurd h1 (by assumption))), rfl⟩) gS
 ·refine x_unwant rfl rfl rfl rfl rfl ?_
  refine x_unwant rfl rfl rfl rfl rfl ?_
  refine x_unwant rfl rfl rfl rfl rfl ?_
  refine x_v (r_pk_f rfl rfl) rfl ?_
  refine x_v (r_mv rfl) rfl ?_
  refine x_unwant rfl rfl rfl rfl rfl ?_
  refine x_unwant rfl rfl rfl rfl rfl ?_
  refine x_unwant rfl rfl rfl rfl rfl ?_
  refine x_v (r_pk_f rfl rfl) rfl ?_
  refine x_v (r_as rfl) rfl ?_
  refine XL.nil ?_
  refine hK2 _ _ ?_
  refine XC.keep [(2, _)] ⟨rfl, trivial⟩ ?_
  refine XC.ret ?_
  exact fin1 rfl (⟨congrArg Value.bool (by unfold fineB; first | (rw [decide_eq_decide, hi]; constructor; (intro h; exact ⟨by assumption, by omega, h⟩); (intro h; exact h.2.2)) | (symm; rw [decide_eq_false_iff_not]; rintro ⟨h1, h2, h3⟩; first | omega | exact absurd h1 (by assumption))), rfl⟩) gS
end Go.Proofs.YtcmdmhmgffjknaaGreatDoor
/- A drive in memory; what is done with it, as plain functions. -/
namespace Go.Sx
set_option linter.unusedVariables false
theorem Own.exp {W0 w : World} {Rs : List HP} {α : Type} {p : α → Prop} {R : α → HP} (H : Own W0 w ((fun h => ∃ a, p a ∧ R a h) :: Rs)) : ∃ a, p a ∧ Own W0 w (R a :: Rs) := by
 obtain ⟨h, ⟨h1, h2, ⟨a, q, r⟩, s, d, u⟩, k⟩ := H.own
 exact ⟨a, q, H.os, H.tape, H.output, H.size, H.old, h, ⟨h1, h2, r, s, d, u⟩, k⟩
/-- Memory opened ahead of a call. -/
theorem Tr.opn {W0 : World} {P : Program} {f : FuncId} {args : List Value} {Rs : List HP} {Post : Value → List HP → Prop} {ι : Type} {p : ι → Prop} (R1 : ι → List HP) (hth : ∃ fn c, P.funcs[f]? = some fn ∧ (fn.name == "runtime.NumGoroutine") = false ∧ fn.body = some c)
  (h : ∀ w, Own W0 w Rs → ∃ i, p i ∧ Own W0 w (R1 i)) (k : ∀ i, p i → Tr W0 P f args (R1 i) Post) : Tr W0 P f args Rs Post :=
 ⟨hth, fun w hw => let ⟨i, hp, ho⟩ := h w hw; (k i hp).calls w ho⟩
/-- .. and shut behind it. -/
theorem Tr.out {W0 : World} {P : Program} {f : FuncId} {args : List Value} {Rs : List HP} {Post Post' : Value → List HP → Prop} (h : Tr W0 P f args Rs Post)
  (k : ∀ v Rs' w, Post v Rs' → Own W0 w Rs' → ∃ R2, Post' v R2 ∧ Own W0 w R2) : Tr W0 P f args Rs Post' :=
 ⟨h.there, fun w hw => (h.calls w hw).mono fun e w' ⟨v, Rs', p, he, o⟩ => let ⟨R2, p2, o2⟩ := k v Rs' w' p o; ⟨v, R2, p2, he, o2⟩⟩
end Go.Sx
namespace Go.Proofs.YtcmdmhmgffjknaaGreatDoor
open Go.Sx
set_option linter.unusedVariables false

structure Fi where
 bytes : List UInt8
 sure : Nat
 old : Bool
structure Dk where
 files : List (List UInt8 × Fi)
 fuse : Int
 off : Bool
 steps : Nat
abbrev En := List UInt8 × Nat × Fi
def fcells (A : Option Addr) (c : Nat) (x : Fi) : List Value := [.slice A x.bytes.length c, .int .i64 (x.sure : Int), .bool x.old]
def fil (b : Nat) (x : Fi) : HP := fun h => ∃ q : Option Addr × Nat, sep (blk b 84 (fcells q.1 q.2 x)) (sl q.1 x.bytes.length q.2 5 1 (bv x.bytes)) h
def filesM : List En → HP
 | [] => emp
 | t :: T => sep (fil t.2.1 t.2.2) (filesM T)
def FiOk (t : List UInt8 × Fi) : Prop := t.2.sure ≤ t.2.bytes.length ∧ t.2.bytes.length ≤ 1048576 ∧ fineB t.1 = true
structure DkOk (D : Dk) : Prop where
 srt : D.files.Pairwise (fun a b => a.1 < b.1)
 fi : ∀ t ∈ D.files, FiOk t
 fuse : -1 ≤ D.fuse ∧ D.fuse < 9223372036854775808
structure DIs (D : Dk) (f : Value → Option Value) (T : List En) : Prop where
 files : T.map (fun t => (t.1, t.2.2)) = D.files
 tab : ∀ k v, f k = some v ↔ ∃ t ∈ T, k = str t.1 ∧ v = .pointer (some ⟨t.2.1, 0, none⟩)
 ok : DkOk D
def dcells (mb : Nat) (D : Dk) : List Value := [.map (some mb), .int .i64 D.fuse, .bool D.off, .int .i64 (D.steps : Int)]
def dsk (d : Nat) (D : Dk) : HP := fun h => ∃ q : Nat × (Value → Option Value) × List En, DIs D q.2.1 q.2.2 ∧ sep (blk d 74 (dcells q.1 D)) (sep (mpf q.1 .string q.2.1) (filesM q.2.2)) h

theorem dsk_open {W0 w : World} {d : Nat} {D : Dk} {Rs : List HP} (H : Own W0 w (dsk d D :: Rs)) : ∃ q : Nat × (Value → Option Value) × List En, DIs D q.2.1 q.2.2 ∧ Own W0 w (blk d 74 (dcells q.1 D) :: mpf q.1 .string q.2.1 :: filesM q.2.2 :: Rs) := by
 obtain ⟨q, h1, h2⟩ := H.exp
 exact ⟨q, h1, (h2.unstash.perm (.swap _ _ _)).unstash.perm ((List.perm_append_comm (l₁ := [_, _]) (l₂ := [_])).append_right Rs)⟩
theorem dsk_shut {W0 w : World} {d mb : Nat} {f : Value → Option Value} {T : List En} {D : Dk} {Rs : List HP} (h : DIs D f T) (H : Own W0 w (blk d 74 (dcells mb D) :: mpf mb .string f :: filesM T :: Rs)) : Own W0 w (dsk d D :: Rs) := by
 have h1 := (H.perm ((List.perm_append_comm (l₁ := [_]) (l₂ := [_, _])).append_right Rs)).stash
 have h2 := (h1.perm (.swap _ _ _)).stash
 exact h2.imp fun g r => ⟨(mb, f, T), h, r⟩
theorem files_out {t : En} {T2 : List En} : ∀ (T1 : List En) (h : Heap), filesM (T1 ++ t :: T2) h → sep (fil t.2.1 t.2.2) (filesM (T1 ++ T2)) h
 | [], h, x => x
 | s :: T1, h, x => sep_swap (sep_mono (fun _ y => y) (files_out T1) x)
theorem files_in {t : En} {T2 : List En} : ∀ (T1 : List En) (h : Heap), sep (fil t.2.1 t.2.2) (filesM (T1 ++ T2)) h → filesM (T1 ++ t :: T2) h
 | [], h, x => x
 | s :: T1, h, x => sep_mono (fun _ y => y) (files_in T1) (sep_swap x)
theorem file_open {W0 w : World} {t : En} {T1 T2 : List En} {Rs : List HP} (H : Own W0 w (filesM (T1 ++ t :: T2) :: Rs)) : ∃ q : Option Addr × Nat, True ∧ Own W0 w (blk t.2.1 84 (fcells q.1 q.2 t.2.2) :: sl q.1 t.2.2.bytes.length q.2 5 1 (bv t.2.2.bytes) :: filesM (T1 ++ T2) :: Rs) := by
 have h1 := (H.imp (files_out T1)).unstash
 obtain ⟨q, h2⟩ := h1.exi
 exact ⟨q, trivial, h2.unstash⟩
theorem file_shut {W0 w : World} {n : List UInt8} {b : Nat} {x : Fi} {A : Option Addr} {c : Nat} {T1 T2 : List En} {Rs : List HP} (H : Own W0 w (blk b 84 (fcells A c x) :: sl A x.bytes.length c 5 1 (bv x.bytes) :: filesM (T1 ++ T2) :: Rs)) : Own W0 w (filesM (T1 ++ (n, b, x) :: T2) :: Rs) := by
 have h1 : Own W0 w (fil b x :: filesM (T1 ++ T2) :: Rs) := H.stash.imp fun g r => ⟨(A, c), r⟩
 exact h1.stash.imp (files_in (t := (n, b, x)) T1)

/-! what is done with a drive -/
def getF : List (List UInt8 × Fi) → List UInt8 → Option Fi
 | [], _ => none
 | (m, y) :: r, n => if m = n then some y else getF r n
def setF : List (List UInt8 × Fi) → List UInt8 → Fi → List (List UInt8 × Fi)
 | [], n, x => [(n, x)]
 | (m, y) :: r, n, x => if m = n then (n, x) :: r else if n < m then (n, x) :: (m, y) :: r else (m, y) :: setF r n x
def delF (L : List (List UInt8 × Fi)) (n : List UInt8) : List (List UInt8 × Fi) := L.filter (fun t => decide (t.1 ≠ n))
theorem getF_split : ∀ (L : List (List UInt8 × Fi)) (n : List UInt8), (getF L n = none ∧ ∀ t ∈ L, t.1 ≠ n) ∨ ∃ L1 x L2, L = L1 ++ (n, x) :: L2 ∧ getF L n = some x ∧ ∀ t ∈ L1, t.1 ≠ n
 | [], n => .inl ⟨rfl, by simp⟩
 | (m, y) :: r, n => by
  by_cases h : m = n
  ·subst h; exact .inr ⟨[], y, r, rfl, by simp [getF], by simp⟩
  ·rcases getF_split r n with ⟨h1, h2⟩ | ⟨L1, x, L2, rfl, h1, h2⟩
   ·exact .inl ⟨by simp [getF, h, h1], by simpa [h] using h2⟩
   ·exact .inr ⟨(m, y) :: L1, x, L2, rfl, by simp [getF, h, h1], by simpa [h] using h2⟩
theorem setF_at {L1 L2 : List (List UInt8 × Fi)} {n : List UInt8} {x x' : Fi} : (L1 ++ (n, x) :: L2).Pairwise (fun a b => a.1 < b.1) → setF (L1 ++ (n, x) :: L2) n x' = L1 ++ (n, x') :: L2 := by
 induction L1 with
 | nil => intro _; simp [setF]
 | cons t L1 ih =>
  intro hs
  obtain ⟨m, y⟩ := t
  rw [List.cons_append, List.pairwise_cons] at hs
  have hmn : m < n := hs.1 (n, x) (by simp)
  have h1 : ¬ m = n := fun h => by subst h; exact List.lt_irrefl _ hmn
  have h2 : ¬ n < m := fun h => List.lt_irrefl _ (List.lt_trans h hmn)
  simp only [List.cons_append, setF, h1, h2, if_false, ih hs.2]
theorem setF_new : ∀ (L : List (List UInt8 × Fi)) (n : List UInt8) (x : Fi), (∀ t ∈ L, t.1 ≠ n) → L.Pairwise (fun a b => a.1 < b.1) → ∃ L1 L2, L = L1 ++ L2 ∧ setF L n x = L1 ++ (n, x) :: L2 ∧ (∀ t ∈ L1, t.1 < n) ∧ ∀ t ∈ L2, n < t.1
 | [], n, x, _, _ => ⟨[], [], rfl, rfl, by simp, by simp⟩
 | (m, y) :: r, n, x, h, hs => by
  have h1 : ¬ m = n := h (m, y) (by simp)
  rw [List.pairwise_cons] at hs
  by_cases h2 : n < m
  ·refine ⟨[], (m, y) :: r, rfl, by simp [setF, h1, h2], by simp, fun t ht => ?_⟩
   rcases List.mem_cons.1 ht with rfl | ht
   ·exact h2
   ·exact List.lt_trans h2 (hs.1 t ht)
  ·obtain ⟨L1, L2, rfl, e, h3, h4⟩ := setF_new r n x (fun t ht => h t (by simp [ht])) hs.2
   refine ⟨(m, y) :: L1, L2, rfl, by simp [setF, h1, h2, e], fun t ht => ?_, h4⟩
   rcases List.mem_cons.1 ht with rfl | ht
   ·rcases List.le_iff_lt_or_eq.1 (List.not_lt.1 h2) with h5 | h5
    ·exact h5
    ·exact absurd h5 h1
   ·exact h3 t ht
theorem delF_at {L1 L2 : List (List UInt8 × Fi)} {n : List UInt8} {x : Fi} (hs : (L1 ++ (n, x) :: L2).Pairwise (fun a b => a.1 < b.1)) : delF (L1 ++ (n, x) :: L2) n = L1 ++ L2 := by
 rw [List.pairwise_append, List.pairwise_cons] at hs
 obtain ⟨h1, ⟨h2, h3⟩, h4⟩ := hs
 unfold delF
 rw [List.filter_append, List.filter_cons]
 simp only [ne_eq, not_true_eq_false, decide_false, Bool.false_eq_true, if_false]
 rw [List.filter_eq_self.2 fun t ht => ?_, List.filter_eq_self.2 fun t ht => ?_]
 ·have := h2 t ht
  simp only [decide_eq_true_eq]
  intro e; rw [e] at this; exact List.lt_irrefl _ this
 ·have := h4 t ht (n, x) (by simp)
  simp only [decide_eq_true_eq]
  intro e; rw [e] at this; exact List.lt_irrefl _ this
def readyE (D : Dk) (n : List UInt8) : Int := if fineB n = false then 1 else if D.off = true then 50 else 0
def readD (D : Dk) (n : List UInt8) : List UInt8 × Bool := if D.off = true then ([], false) else match getF D.files n with | none => ([], false) | some x => (x.bytes, true)
def stepD (D : Dk) : Dk := { D with fuse := max (D.fuse - 1) (-1), steps := D.steps + 1 }
def knownD (D : Dk) (n : List UInt8) (k : Fi → Dk → Dk) : Int × Dk :=
 if readyE D n ≠ 0 then (readyE D n, D) else match getF D.files n with
  | none => (51, D)
  | some x => if D.fuse = 0 then (50, { D with off := true }) else (0, k x (stepD D))
def syncD (D : Dk) (n : List UInt8) : Int × Dk := knownD D n fun x D => { D with files := setF D.files n ⟨x.bytes, x.bytes.length, true⟩ }
def removeD (D : Dk) (n : List UInt8) : Int × Dk := knownD D n fun x D => { D with files := delF D.files n }
def appendD (D : Dk) (n s : List UInt8) : Int × Dk :=
 if readyE D n ≠ 0 then (readyE D n, D) else
  let x := (getF D.files n).getD ⟨[], 0, false⟩
  if 1048576 < s.length + x.bytes.length then (52, D) else if D.fuse = 0 then (50, { D with off := true }) else (0, { stepD D with files := setF D.files n { x with bytes := x.bytes ++ s } })
def namesD (D : Dk) (p : List UInt8) : List (List UInt8) := if D.off = true then [] else (D.files.map (·.1)).filter (fun n => Lib.hasPrefix n p)
def fuseD (D : Dk) (n : Int) : Dk := { D with fuse := max n (-1) }
def emptyD : Dk := ⟨[], -1, false, 0⟩
def cutF (x : Fi) (keep : Int) : Fi := ⟨x.bytes.take (x.sure + (min (max keep 0) ((x.bytes.length - x.sure : Nat) : Int)).toNat), x.sure + (min (max keep 0) ((x.bytes.length - x.sure : Nat) : Int)).toNat, x.old || decide (0 < min (max keep 0) ((x.bytes.length - x.sure : Nat) : Int))⟩
def crashL : List (List UInt8 × Fi) → List Int → List (List UInt8 × Fi)
 | [], _ => []
 | (n, x) :: r, ks => if x.sure < x.bytes.length then (if (cutF x (ks.headD 0)).old = true then (n, cutF x (ks.headD 0)) :: crashL r ks.tail else crashL r ks.tail) else (if x.old = true then (n, x) :: crashL r ks else crashL r ks)
def crashD (D : Dk) (ks : List Int) : Dk := ⟨crashL D.files ks, -1, false, D.steps⟩
/-- A file that is there, or is none. -/
theorem DIs.at {D : Dk} {f : Value → Option Value} {T : List En} (h : DIs D f T) (n : List UInt8) : (getF D.files n = none ∧ f (str n) = none ∧ ∀ t ∈ T, t.1 ≠ n) ∨ ∃ T1 b x T2, T = T1 ++ (n, b, x) :: T2 ∧ getF D.files n = some x ∧ f (str n) = some (.pointer (some ⟨b, 0, none⟩)) := by
 rcases getF_split D.files n with ⟨h1, h2⟩ | ⟨L1, x, L2, h1, h2, h3⟩
 ·have h4 : ∀ t ∈ T, t.1 ≠ n := fun t ht => h2 (t.1, t.2.2) (by rw [← h.files]; exact List.mem_map.2 ⟨t, ht, rfl⟩)
  refine .inl ⟨h1, ?_, h4⟩
  cases hf : f (str n) with
  | none => rfl
  | some v =>
   obtain ⟨t, ht, h5, _⟩ := (h.tab _ _).1 hf
   exact absurd (by simpa [str] using h5.symm) (h4 t ht)
 ·have h4 := h.files
  rw [h1] at h4
  obtain ⟨T1, T2', rfl, h5, h6⟩ := List.map_eq_append_iff.1 h4
  obtain ⟨t, T2, rfl, h7, h8⟩ := List.map_eq_cons_iff.1 h6
  obtain ⟨m, b, y⟩ := t
  injection h7 with h7 h9
  dsimp only at h7 h9
  subst h7; subst h9
  exact .inr ⟨T1, b, y, T2, rfl, h2, (h.tab _ _).2 ⟨(m, b, y), by simp, rfl, rfl⟩⟩
end Go.Proofs.YtcmdmhmgffjknaaGreatDoor
/- The drive's functions: 14, 15, 22, 25, 24, 84, 85. -/
namespace Go.Proofs.YtcmdmhmgffjknaaGreatDoor
open Go.Sx
set_option linter.unusedVariables false

theorem isKey_str (n : List UInt8) : MapKept.IsKey .string (str n) := trivial
theorem new_tr {W0 : World} (Fr : List HP) : Tr W0 Tryz.prog 14 [] Fr (fun v Rs' => ∃ d, v = .pointer (some ⟨d, 0, none⟩) ∧ Rs' = dsk d emptyD :: Fr) := by
 have h : Tr W0 Tryz.prog 14 [] Fr (fun v Rs' => ∃ d mb, v = .pointer (some ⟨d, 0, none⟩) ∧ Rs' = blk d 74 (dcells mb emptyD) :: mpf mb .string (fun _ => none) :: Fr) := by
  refine Entry.tr (N := 4) (rs := [.tmp 0]) ⟨_, Tryz.func14, rfl, by kernel_rfl, rfl, rfl⟩ rfl ?_
  refine XC.seq fun K1 hK1 => ?_
  refine XC.region ?_
  refine x_v (r_as rfl) rfl ?_
  refine XL.nil ?_
  refine hK1 _ _ ?_
  refine XC.keep [] trivial ?_
  refine XC.seq fun K2 hK2 => ?_
  refine XC.region ?_
  refine x_a (r_mm (.string)) rfl fun b1 => ?_
  refine x_v (r_bd (vs := [_, _]) rfl ⟨rfl, rfl, rfl⟩ (bd74_0_1 _ _)) rfl ?_
  refine x_a (r_bx rfl rfl) rfl fun b3 => ?_
  refine x_v (r_as rfl) rfl ?_
  refine XL.nil ?_
  refine hK2 _ _ ?_
  refine XC.keep [(0, _)] ⟨rfl, trivial⟩ ?_
  refine XC.ret ?_
  exact fin1 rfl (⟨_, _, rfl, rfl⟩) gS
 refine h.out ?_
 rintro v Rs' w ⟨d, mb, rfl, rfl⟩ ho
 refine ⟨_, ⟨d, rfl, rfl⟩, dsk_shut (mb := mb) (f := fun _ => none) (T := []) ⟨rfl, by simp, ⟨.nil, by simp [emptyD], by simp [emptyD]⟩⟩ ?_⟩
 have h1 : Own W0 w (emp :: blk d 74 (dcells mb emptyD) :: mpf mb .string (fun _ => none) :: Fr) := ⟨ho.os, ho.tape, ho.output, ho.size, ho.old, let ⟨g, a, b⟩ := ho.own; ⟨g, ⟨fun _ => none, g, fun _ => rfl, a, fun _ => .inl rfl, fun k => by simp⟩, b⟩⟩
 exact h1.perm ((List.perm_append_comm (l₁ := [_]) (l₂ := [_, _])).append_right Fr)
theorem fuse_th : ∃ fn c, Tryz.prog.funcs[15]? = some fn ∧ (fn.name == "runtime.NumGoroutine") = false ∧ fn.body = some c := ⟨_, _, Tryz.func15, by kernel_rfl, rfl⟩
theorem fuse_tr {W0 : World} (d : Nat) (D : Dk) (n : Int) (Fr : List HP) (hn : n < 9223372036854775808) : Tr W0 Tryz.prog 15 [.pointer (some ⟨d, 0, none⟩), .int .i64 n] (dsk d D :: Fr) (fun v Rs' => v = .tuple #[] ∧ Rs' = dsk d (fuseD D n) :: Fr) := by
 refine Tr.opn _ fuse_th (fun w => dsk_open) fun ⟨mb, f, T⟩ hD => ?_
 dsimp only at hD ⊢
 have h : Tr W0 Tryz.prog 15 [.pointer (some ⟨d, 0, none⟩), .int .i64 n] (blk d 74 (dcells mb D) :: mpf mb .string f :: filesM T :: Fr) (fun v Rs' => v = .tuple #[] ∧ Rs' = blk d 74 (dcells mb (fuseD D n)) :: mpf mb .string f :: filesM T :: Fr) := by
  unfold dcells fuseD
  refine Entry.tr (N := 11) (rs := []) ⟨_, Tryz.func15, rfl, by kernel_rfl, rfl, rfl⟩ rfl ?_
  refine XC.seq fun K1 hK1 => ?_
  refine XC.region ?_
  refine x_v (r_mv rfl) rfl ?_
  refine x_v (r_pne_some Tryz.underlying38 rfl rfl) rfl ?_
  refine XL.nil ?_
  refine hK1 _ _ ?_
  refine XC.keep [(0, _), (1, _), (5, _)] ⟨rfl, rfl, rfl, trivial⟩ ?_
  refine XC.cond_t rfl ?_
  refine XC.region ?_
  refine x_v (r_mv rfl) rfl ?_
  refine x_v (r_mv rfl) rfl ?_
  refine x_v (r_max rfl rfl) rfl ?_
  refine x_v (r_nc rfl) rfl ?_
  refine x_v (r_fa fo74_1 rfl) rfl ?_
  refine x_e (r_st ty3 rfl rfl rfl rfl rfl uD oV) ?_
  refine XL.nil ?_
  exact fin0 (⟨rfl, rfl⟩) gS
 refine h.out ?_
 rintro v Rs' w ⟨rfl, rfl⟩ ho
 exact ⟨_, ⟨rfl, rfl⟩, dsk_shut ⟨hD.files, hD.tab, ⟨hD.ok.srt, hD.ok.fi, by simp only [fuseD]; omega⟩⟩ ho⟩
theorem steps_th : ∃ fn c, Tryz.prog.funcs[22]? = some fn ∧ (fn.name == "runtime.NumGoroutine") = false ∧ fn.body = some c := ⟨_, _, Tryz.func22, by kernel_rfl, rfl⟩
theorem steps_tr {W0 : World} (d : Nat) (D : Dk) (Fr : List HP) : Tr W0 Tryz.prog 22 [.pointer (some ⟨d, 0, none⟩)] (dsk d D :: Fr) (fun v Rs' => v = .int .i64 (D.steps : Int) ∧ Rs' = dsk d D :: Fr) := by
 refine Tr.opn _ steps_th (fun w => dsk_open) fun ⟨mb, f, T⟩ hD => ?_
 dsimp only at hD ⊢
 have h : Tr W0 Tryz.prog 22 [.pointer (some ⟨d, 0, none⟩)] (blk d 74 (dcells mb D) :: mpf mb .string f :: filesM T :: Fr) (fun v Rs' => v = .int .i64 (D.steps : Int) ∧ Rs' = blk d 74 (dcells mb D) :: mpf mb .string f :: filesM T :: Fr) := by
  unfold dcells
  refine Entry.tr (N := 9) (rs := [.tmp 2]) ⟨_, Tryz.func22, rfl, by kernel_rfl, rfl, rfl⟩ rfl ?_
  refine XC.seq fun K1 hK1 => ?_
  refine XC.region ?_
  refine x_v (r_as rfl) rfl ?_
  refine XL.nil ?_
  refine hK1 _ _ ?_
  refine XC.keep [(0, _)] ⟨rfl, trivial⟩ ?_
  refine XC.seq fun K2 hK2 => ?_
  refine XC.seq fun K3 hK3 => ?_
  refine XC.region ?_
  refine x_v (r_mv rfl) rfl ?_
  refine x_v (r_peq_some Tryz.underlying38 rfl rfl) rfl ?_
  refine XL.nil ?_
  refine hK3 _ _ ?_
  refine XC.keep [(0, _), (4, _)] ⟨rfl, rfl, trivial⟩ ?_
  refine XC.cond_f rfl ?_
  refine XC.skip ?_
  refine hK2 _ _ ?_
  refine XC.keep [(0, _)] ⟨rfl, trivial⟩ ?_
  refine XC.seq fun K4 hK4 => ?_
  refine XC.region ?_
  refine x_v (r_mv rfl) rfl ?_
  refine x_v (r_nc rfl) rfl ?_
  refine x_v (r_fa fo74_3 rfl) rfl ?_
  refine x_v (r_ld ty3 rfl pK (by rfl)) rfl ?_
  refine x_v (r_as rfl) rfl ?_
  refine XL.nil ?_
  refine hK4 _ _ ?_
  refine XC.keep [(2, _)] ⟨rfl, trivial⟩ ?_
  refine XC.ret ?_
  exact fin1 rfl (⟨rfl, rfl⟩) gS
 refine h.out ?_
 rintro v Rs' w ⟨rfl, rfl⟩ ho
 exact ⟨_, ⟨rfl, rfl⟩, dsk_shut hD ho⟩
theorem down_th : ∃ fn c, Tryz.prog.funcs[25]? = some fn ∧ (fn.name == "runtime.NumGoroutine") = false ∧ fn.body = some c := ⟨_, _, Tryz.func25, by kernel_rfl, rfl⟩
theorem down_tr {W0 : World} (d : Nat) (D : Dk) (Fr : List HP) : Tr W0 Tryz.prog 25 [.pointer (some ⟨d, 0, none⟩)] (dsk d D :: Fr) (fun v Rs' => v = .bool D.off ∧ Rs' = dsk d D :: Fr) := by
 refine Tr.opn _ down_th (fun w => dsk_open) fun ⟨mb, f, T⟩ hD => ?_
 dsimp only at hD ⊢
 have h : Tr W0 Tryz.prog 25 [.pointer (some ⟨d, 0, none⟩)] (blk d 74 (dcells mb D) :: mpf mb .string f :: filesM T :: Fr) (fun v Rs' => v = .bool D.off ∧ Rs' = blk d 74 (dcells mb D) :: mpf mb .string f :: filesM T :: Fr) := by
  unfold dcells
  refine Entry.tr (N := 11) (rs := [.tmp 2]) ⟨_, Tryz.func25, rfl, by kernel_rfl, rfl, rfl⟩ rfl ?_
  refine XC.seq fun K1 hK1 => ?_
  refine XC.region ?_
  refine x_v (r_as rfl) rfl ?_
  refine XL.nil ?_
  refine hK1 _ _ ?_
  refine XC.keep [(0, _)] ⟨rfl, trivial⟩ ?_
  refine XC.seq fun K2 hK2 => ?_
  refine XC.region ?_
  refine x_v (r_mv rfl) rfl ?_
  refine x_v (r_pne_some Tryz.underlying38 rfl rfl) rfl ?_
  refine x_v (r_mv rfl) rfl ?_
  refine x_want rfl rfl rfl ?_
  refine x_v (r_mv rfl) rfl ?_
  refine x_want rfl rfl rfl ?_
  refine x_v (r_nc rfl) rfl ?_
  refine x_want rfl rfl rfl ?_
  refine x_v (r_fa fo74_2 rfl) rfl ?_
  refine x_want rfl rfl rfl ?_
  refine x_v (r_ld ty4 rfl pK (by rfl)) rfl ?_
  refine x_v (r_pk_t rfl rfl) rfl ?_
  refine x_v (r_as rfl) rfl ?_
  refine XL.nil ?_
  refine hK2 _ _ ?_
  refine XC.keep [(2, _)] ⟨rfl, trivial⟩ ?_
  refine XC.ret ?_
  exact fin1 rfl (⟨rfl, rfl⟩) gS
 refine h.out ?_
 rintro v Rs' w ⟨rfl, rfl⟩ ho
 exact ⟨_, ⟨rfl, rfl⟩, dsk_shut hD ho⟩
theorem read_th : ∃ fn c, Tryz.prog.funcs[24]? = some fn ∧ (fn.name == "runtime.NumGoroutine") = false ∧ fn.body = some c := ⟨_, _, Tryz.func24, by kernel_rfl, rfl⟩
theorem dread_tr {W0 : World} (d : Nat) (D : Dk) (n : List UInt8) (Fr : List HP) : Tr W0 Tryz.prog 24 [.pointer (some ⟨d, 0, none⟩), str n] (dsk d D :: Fr) (fun v Rs' => v = .tuple #[str (readD D n).1, .bool (readD D n).2] ∧ Rs' = dsk d D :: Fr) := by
 refine Tr.opn _ read_th (fun w => dsk_open) fun ⟨mb, f, T⟩ hD => ?_
 dsimp only at hD ⊢
 have h : Tr W0 Tryz.prog 24 [.pointer (some ⟨d, 0, none⟩), str n] (blk d 74 (dcells mb D) :: mpf mb .string f :: filesM T :: Fr) (fun v Rs' => v = .tuple #[str (readD D n).1, .bool (readD D n).2] ∧ Rs' = blk d 74 (dcells mb D) :: mpf mb .string f :: filesM T :: Fr) := by
  rcases hD.at n with ⟨h1, h2, _⟩ | ⟨T1, b, x, T2, rfl, h1, h2⟩
  ·unfold dcells
   refine Entry.tr (N := 33) (rs := [.tmp 4, .tmp 5]) ⟨_, Tryz.func24, rfl, by kernel_rfl, rfl, rfl⟩ rfl ?_
   refine XC.seq fun K1 hK1 => ?_
   refine XC.region ?_
   refine x_v (r_as rfl) rfl ?_
   refine x_v (r_as rfl) rfl ?_
   refine XL.nil ?_
   refine hK1 _ _ ?_
   refine XC.keep [(0, _), (1, _)] ⟨rfl, rfl, trivial⟩ ?_
   refine XC.seq fun K2 hK2 => ?_
   refine XC.seq fun K3 hK3 => ?_
   refine XC.region ?_
   refine x_v (r_mv rfl) rfl ?_
   refine x_v (r_peq_some Tryz.underlying38 rfl rfl) rfl ?_
   refine x_v (r_mv rfl) rfl ?_
   refine x_want rfl rfl rfl ?_
   refine x_v (r_mv rfl) rfl ?_
   refine x_want rfl rfl rfl ?_
   refine x_v (r_nc rfl) rfl ?_
   refine x_want rfl rfl rfl ?_
   refine x_v (r_fa fo74_2 rfl) rfl ?_
   refine x_want rfl rfl rfl ?_
   refine x_v (r_ld ty4 rfl pK (by rfl)) rfl ?_
   refine x_v (r_pk_f rfl rfl) rfl ?_
   refine XL.nil ?_
   refine hK3 _ _ ?_
   refine XC.keep [(0, _), (1, _), (15, _)] ⟨rfl, rfl, rfl, trivial⟩ ?_
   refine XC.cond rfl (fun hc1 => ?_) (fun hc1 => ?_)
   ·refine XC.seq fun K4 hK4 => ?_
    refine XC.region ?_
    refine x_v (r_as rfl) rfl ?_
    refine x_v (r_as rfl) rfl ?_
    refine XL.nil ?_
    refine hK4 _ _ ?_
    refine XC.keep [(4, _), (5, _)] ⟨rfl, rfl, trivial⟩ ?_
    refine XC.ret ?_
    exact fin2 rfl rfl (⟨by unfold readD; simp_all, rfl⟩) gS
   ·refine XC.skip ?_
    refine hK2 _ _ ?_
    refine XC.keep [(0, _), (1, _)] ⟨rfl, rfl, trivial⟩ ?_
    refine XC.seq fun K5 hK5 => ?_
    refine XC.region ?_
    refine x_v (r_mv rfl) rfl ?_
    refine x_v (r_nc rfl) rfl ?_
    refine x_v (r_fa fo74_0 rfl) rfl ?_
    refine x_v (r_ld ty72 rfl pK (by rfl)) rfl ?_
    refine x_v (r_mv rfl) rfl ?_
    refine x_v (r_lk Tryz.underlying72 Tryz.underlying9 ty79 rfl rfl (isKey_str n) pK) rfl ?_
    rw [h2]
    refine x_v (r_mv rfl) rfl ?_
    refine x_v (r_ex rfl rfl) rfl ?_
    refine x_v (r_ex rfl rfl) rfl ?_
    refine x_v (r_as rfl) rfl ?_
    refine x_v (r_as rfl) rfl ?_
    refine XL.nil ?_
    refine hK5 _ _ ?_
    refine XC.keep [(6, _), (7, _)] ⟨rfl, rfl, trivial⟩ ?_
    refine XC.seq fun K6 hK6 => ?_
    refine XC.seq fun K7 hK7 => ?_
    refine XC.region ?_
    refine x_v (r_mv rfl) rfl ?_
    refine x_v (r_not rfl) rfl ?_
    refine XL.nil ?_
    refine hK7 _ _ ?_
    refine XC.keep [(6, _), (26, _)] ⟨rfl, rfl, trivial⟩ ?_
    refine XC.cond_t rfl ?_
    refine XC.seq fun K8 hK8 => ?_
    refine XC.region ?_
    refine x_v (r_as rfl) rfl ?_
    refine x_v (r_as rfl) rfl ?_
    refine XL.nil ?_
    refine hK8 _ _ ?_
    refine XC.keep [(4, _), (5, _)] ⟨rfl, rfl, trivial⟩ ?_
    refine XC.ret ?_
    exact fin2 rfl rfl (⟨by unfold readD; simp_all, rfl⟩) gS
  ·refine (Tr.pre (Gets.step (.tail _ (.tail _ (.head _ _))) (.done _)) (Tr.opn (p := fun _ => True) (fun q : Option Addr × Nat => blk b 84 (fcells q.1 q.2 x) :: sl q.1 x.bytes.length q.2 5 1 (bv x.bytes) :: filesM (T1 ++ T2) :: blk d 74 (dcells mb D) :: mpf mb .string f :: Fr) read_th (fun w => file_open) fun ⟨A, c⟩ _ => ?_))
   dsimp only
   have h3 : Tr W0 Tryz.prog 24 [.pointer (some ⟨d, 0, none⟩), str n] (blk b 84 (fcells A c x) :: sl A x.bytes.length c 5 1 (bv x.bytes) :: filesM (T1 ++ T2) :: blk d 74 (dcells mb D) :: mpf mb .string f :: Fr) (fun v Rs' => v = .tuple #[str (readD D n).1, .bool (readD D n).2] ∧ Rs' = blk b 84 (fcells A c x) :: sl A x.bytes.length c 5 1 (bv x.bytes) :: filesM (T1 ++ T2) :: blk d 74 (dcells mb D) :: mpf mb .string f :: Fr) := by
    unfold dcells fcells
    refine Entry.tr (N := 33) (rs := [.tmp 4, .tmp 5]) ⟨_, Tryz.func24, rfl, by kernel_rfl, rfl, rfl⟩ rfl ?_
    refine XC.seq fun K1 hK1 => ?_
    refine XC.region ?_
    refine x_v (r_as rfl) rfl ?_
    refine x_v (r_as rfl) rfl ?_
    refine XL.nil ?_
    refine hK1 _ _ ?_
    refine XC.keep [(0, _), (1, _)] ⟨rfl, rfl, trivial⟩ ?_
    refine XC.seq fun K2 hK2 => ?_
    refine XC.seq fun K3 hK3 => ?_
    refine XC.region ?_
    refine x_v (r_mv rfl) rfl ?_
    refine x_v (r_peq_some Tryz.underlying38 rfl rfl) rfl ?_
    refine x_v (r_mv rfl) rfl ?_
    refine x_want rfl rfl rfl ?_
    refine x_v (r_mv rfl) rfl ?_
    refine x_want rfl rfl rfl ?_
    refine x_v (r_nc rfl) rfl ?_
    refine x_want rfl rfl rfl ?_
    refine x_v (r_fa fo74_2 rfl) rfl ?_
    refine x_want rfl rfl rfl ?_
    refine x_v (r_ld ty4 rfl pK (by rfl)) rfl ?_
    refine x_v (r_pk_f rfl rfl) rfl ?_
    refine XL.nil ?_
    refine hK3 _ _ ?_
    refine XC.keep [(0, _), (1, _), (15, _)] ⟨rfl, rfl, rfl, trivial⟩ ?_
    refine XC.cond rfl (fun hc1 => ?_) (fun hc1 => ?_)
    ·refine XC.seq fun K4 hK4 => ?_
     refine XC.region ?_
     refine x_v (r_as rfl) rfl ?_
     refine x_v (r_as rfl) rfl ?_
     refine XL.nil ?_
     refine hK4 _ _ ?_
     refine XC.keep [(4, _), (5, _)] ⟨rfl, rfl, trivial⟩ ?_
     refine XC.ret ?_
     exact fin2 rfl rfl (⟨by unfold readD; simp_all, rfl⟩) gS
    ·refine XC.skip ?_
     refine hK2 _ _ ?_
     refine XC.keep [(0, _), (1, _)] ⟨rfl, rfl, trivial⟩ ?_
     refine XC.seq fun K5 hK5 => ?_
     refine XC.region ?_
     refine x_v (r_mv rfl) rfl ?_
     refine x_v (r_nc rfl) rfl ?_
     refine x_v (r_fa fo74_0 rfl) rfl ?_
     refine x_v (r_ld ty72 rfl pK (by rfl)) rfl ?_
     refine x_v (r_mv rfl) rfl ?_
     refine x_v (r_lk Tryz.underlying72 Tryz.underlying9 ty79 rfl rfl (isKey_str n) pK) rfl ?_
     rw [h2]
     refine x_v (r_mv rfl) rfl ?_
     refine x_v (r_ex rfl rfl) rfl ?_
     refine x_v (r_ex rfl rfl) rfl ?_
     refine x_v (r_as rfl) rfl ?_
     refine x_v (r_as rfl) rfl ?_
     refine XL.nil ?_
     refine hK5 _ _ ?_
     refine XC.keep [(6, _), (7, _)] ⟨rfl, rfl, trivial⟩ ?_
     refine XC.seq fun K6 hK6 => ?_
     refine XC.seq fun K7 hK7 => ?_
     refine XC.region ?_
     refine x_v (r_mv rfl) rfl ?_
     refine x_v (r_not rfl) rfl ?_
     refine XL.nil ?_
     refine hK7 _ _ ?_
     refine XC.keep [(6, _), (26, _)] ⟨rfl, rfl, trivial⟩ ?_
     refine XC.cond_f rfl ?_
     refine XC.skip ?_
     refine hK6 _ _ ?_
     refine XC.keep [(6, _)] ⟨rfl, trivial⟩ ?_
     refine XC.seq fun K8 hK8 => ?_
     refine XC.slnn pK fun hl hA => ?_
     refine XC.region ?_
     refine x_v (r_mv rfl) rfl ?_
     refine x_v (r_nc rfl) rfl ?_
     refine x_v (r_fa fo84_0 rfl) rfl ?_
     refine x_v (r_fa fo82_0 rfl) rfl ?_
     refine x_v (r_ld ty80 rfl pK (by rfl)) rfl ?_
     refine x_v (r_text Tryz.underlying80 Tryz.underlying5 Tryz.underlying9 rfl (Rdb.of_sl pK hl hA)) rfl ?_
     refine x_v (r_as rfl) rfl ?_
     refine x_v (r_as rfl) rfl ?_
     refine XL.nil ?_
     refine hK8 _ _ ?_
     refine XC.keep [(4, _), (5, _)] ⟨rfl, rfl, trivial⟩ ?_
     refine XC.ret ?_
     exact fin2 rfl rfl (⟨by unfold readD; simp_all, rfl⟩) gS
   refine h3.out ?_
   rintro v Rs' w ⟨rfl, rfl⟩ ho
   refine ⟨_, ⟨rfl, rfl⟩, ?_⟩
   have h4 := file_shut (n := n) ho
   exact h4.perm ((List.perm_append_comm (l₁ := [_]) (l₂ := [_, _])).append_right Fr)
 refine h.out ?_
 rintro v Rs' w ⟨rfl, rfl⟩ ho
 exact ⟨_, ⟨rfl, rfl⟩, dsk_shut hD ho⟩
end Go.Proofs.YtcmdmhmgffjknaaGreatDoor
/- The drive's functions: 84, 85, 72, 87, 40, 41. -/
namespace Go.Proofs.YtcmdmhmgffjknaaGreatDoor
open Go.Sx
set_option linter.unusedVariables false

/-- What stands ahead of a step. -/
theorem ready_tr {W0 : World} (d mb : Nat) (D : Dk) (n : List UInt8) (Fr : List HP) : Tr W0 Tryz.prog 84 [.pointer (some ⟨d, 0, none⟩), str n] (blk d 74 (dcells mb D) :: Fr) (fun v Rs' => v = .int .i64 (readyE D n) ∧ Rs' = blk d 74 (dcells mb D) :: Fr) := by
 unfold dcells
 refine Entry.tr (N := 17) (rs := [.tmp 4]) ⟨_, Tryz.func84, rfl, by kernel_rfl, rfl, rfl⟩ rfl ?_
 refine XC.seq fun K1 hK1 => ?_
 refine XC.region ?_
 refine x_v (r_as rfl) rfl ?_
 refine XL.nil ?_
 refine hK1 _ _ ?_
 refine XC.keep [(0, _), (1, _)] ⟨rfl, rfl, trivial⟩ ?_
 refine XC.seq fun K2 hK2 => ?_
 refine XC.block ?_
 refine XC.seq fun K3 hK3 => ?_
 refine XC.region ?_
 refine x_v (r_mv rfl) rfl ?_
 refine x_v (r_peq_some Tryz.underlying38 rfl rfl) rfl ?_
 refine x_v (r_as rfl) rfl ?_
 refine XL.nil ?_
 refine hK3 _ _ ?_
 refine XC.keep [(0, _), (1, _), (5, _)] ⟨rfl, rfl, rfl, trivial⟩ ?_
 refine XC.cond_f rfl ?_
 refine XC.seq fun K4 hK4 => ?_
 refine XC.region ?_
 refine x_v (r_mv rfl) rfl ?_
 refine x_c (r_call0 (args := [_]) ⟨rfl, rfl⟩ (fine_tr n (blk d 74 [.map (some mb), .int .i64 D.fuse, .bool D.off, .int .i64 (D.steps : Int)] :: Fr)) gS) rfl ?_
 rintro _ _ ⟨rfl, hRs⟩
 rw [hRs]
 refine x_v (r_not rfl) rfl ?_
 refine x_v (r_as rfl) rfl ?_
 refine XL.nil ?_
 refine hK4 _ _ ?_
 refine XC.keep [(0, _), (8, _)] ⟨rfl, rfl, trivial⟩ ?_
 refine XC.cond rfl (fun hc2 => ?_) (fun hc2 => ?_)
 ·refine XC.seq fun K5 hK5 => ?_
  refine XC.region ?_
  refine x_v (r_as rfl) rfl ?_
  refine XL.nil ?_
  refine hK5 _ _ ?_
  refine XC.keep [(4, _)] ⟨rfl, trivial⟩ ?_
  refine XC.ret ?_
  exact fin1 rfl (⟨by unfold readyE; simp_all, rfl⟩) gS
 ·refine XC.seq fun K6 hK6 => ?_
  refine XC.region ?_
  refine x_v (r_mv rfl) rfl ?_
  refine x_v (r_nc rfl) rfl ?_
  refine x_v (r_fa fo74_2 rfl) rfl ?_
  refine x_v (r_ld ty4 rfl pK (by rfl)) rfl ?_
  refine x_v (r_as rfl) rfl ?_
  refine XL.nil ?_
  refine hK6 _ _ ?_
  refine XC.keep [(12, _)] ⟨rfl, trivial⟩ ?_
  refine XC.cond rfl (fun hc3 => ?_) (fun hc3 => ?_)
  ·refine XC.seq fun K7 hK7 => ?_
   refine XC.region ?_
   refine x_v (r_as rfl) rfl ?_
   refine XL.nil ?_
   refine hK7 _ _ ?_
   refine XC.keep [(4, _)] ⟨rfl, trivial⟩ ?_
   refine XC.ret ?_
   exact fin1 rfl (⟨by unfold readyE; simp_all, rfl⟩) gS
  ·refine XC.skip ?_
   refine hK2 _ _ ?_
   refine XC.keep [] trivial ?_
   refine XC.seq fun K8 hK8 => ?_
   refine XC.region ?_
   refine x_v (r_as rfl) rfl ?_
   refine XL.nil ?_
   refine hK8 _ _ ?_
   refine XC.keep [(4, _)] ⟨rfl, trivial⟩ ?_
   refine XC.ret ?_
   exact fin1 rfl (⟨by unfold readyE; simp_all, rfl⟩) gS
/-- A step for which there is no power. -/
theorem step0_tr {W0 : World} (d mb : Nat) (D : Dk) (f : Value) (Fr : List HP) (h0 : D.fuse = 0) : Tr W0 Tryz.prog 85 [.pointer (some ⟨d, 0, none⟩), f] (blk d 74 (dcells mb D) :: Fr) (fun v Rs' => v = .int .i64 50 ∧ Rs' = blk d 74 (dcells mb { D with off := true }) :: Fr) := by
 unfold dcells
 refine Entry.tr (N := 31) (rs := [.tmp 4]) ⟨_, Tryz.func85, rfl, by kernel_rfl, rfl, rfl⟩ rfl ?_
 refine XC.seq fun K1 hK1 => ?_
 refine XC.region ?_
 refine x_v (r_as rfl) rfl ?_
 refine XL.nil ?_
 refine hK1 _ _ ?_
 refine XC.keep [(0, _), (1, _)] ⟨rfl, rfl, trivial⟩ ?_
 refine XC.seq fun K2 hK2 => ?_
 refine XC.seq fun K3 hK3 => ?_
 refine XC.region ?_
 refine x_v (r_mv rfl) rfl ?_
 refine x_v (r_nc rfl) rfl ?_
 refine x_v (r_fa fo74_1 rfl) rfl ?_
 refine x_v (r_ld ty3 rfl pK (by rfl)) rfl ?_
 refine x_v (r_eq rfl rfl) rfl ?_
 refine XL.nil ?_
 refine hK3 _ _ ?_
 refine XC.keep [(0, _), (1, _), (9, _)] ⟨rfl, rfl, rfl, trivial⟩ ?_
 refine XC.cond_d rfl (fun hc1 => ?_) (fun hc1 => ?_)
 ·refine XC.seq fun K4 hK4 => ?_
  refine XC.region ?_
  refine x_v (r_mv rfl) rfl ?_
  refine x_v (r_nc rfl) rfl ?_
  refine x_v (r_fa fo74_2 rfl) rfl ?_
  refine x_e (r_st ty4 rfl rfl rfl rfl rfl uD oV) ?_
  refine XL.nil ?_
  refine hK4 _ _ ?_
  refine XC.keep [] trivial ?_
  refine XC.seq fun K5 hK5 => ?_
  refine XC.region ?_
  refine x_v (r_as rfl) rfl ?_
  refine XL.nil ?_
  refine hK5 _ _ ?_
  refine XC.keep [(4, _)] ⟨rfl, trivial⟩ ?_
  refine XC.ret ?_
  exact fin1 rfl (⟨rfl, rfl⟩) gS
 ·exfalso; omega
theorem step1_tr {W0 : World} (d mb : Nat) (D : Dk) (fid : Nat) (cap : List Value) (Fr : List HP) (Q : List HP → Prop) (h0 : D.fuse ≠ 0) (hf : -1 ≤ D.fuse ∧ D.fuse < 9223372036854775808) (hs : D.steps ≤ 1000000000)
  (hc : Tr W0 Tryz.prog fid cap (blk d 74 (dcells mb (stepD D)) :: Fr) (fun v Rs' => Q Rs')) : Tr W0 Tryz.prog 85 [.pointer (some ⟨d, 0, none⟩), .func (.func fid) #[] cap.toArray] (blk d 74 (dcells mb D) :: Fr) (fun v Rs' => v = .int .i64 0 ∧ Q Rs') := by
 unfold dcells stepD at *
 refine Entry.tr (N := 31) (rs := [.tmp 4]) ⟨_, Tryz.func85, rfl, by kernel_rfl, rfl, rfl⟩ rfl ?_
 refine XC.seq fun K1 hK1 => ?_
 refine XC.region ?_
 refine x_v (r_as rfl) rfl ?_
 refine XL.nil ?_
 refine hK1 _ _ ?_
 refine XC.keep [(0, _), (1, _)] ⟨rfl, rfl, trivial⟩ ?_
 refine XC.seq fun K2 hK2 => ?_
 refine XC.seq fun K3 hK3 => ?_
 refine XC.region ?_
 refine x_v (r_mv rfl) rfl ?_
 refine x_v (r_nc rfl) rfl ?_
 refine x_v (r_fa fo74_1 rfl) rfl ?_
 refine x_v (r_ld ty3 rfl pK (by rfl)) rfl ?_
 refine x_v (r_eq rfl rfl) rfl ?_
 refine XL.nil ?_
 refine hK3 _ _ ?_
 refine XC.keep [(0, _), (1, _), (9, _)] ⟨rfl, rfl, rfl, trivial⟩ ?_
 refine XC.cond_d rfl (fun hc1 => ?_) (fun hc1 => ?_)
 ·exfalso; omega
 ·refine XC.skip ?_
  refine hK2 _ _ ?_
  refine XC.keep [(0, _), (1, _)] ⟨rfl, rfl, trivial⟩ ?_
  refine XC.seq fun K4 hK4 => ?_
  refine XC.region ?_
  refine x_v (r_mv rfl) rfl ?_
  refine x_v (r_mv rfl) rfl ?_
  refine x_v (r_nc rfl) rfl ?_
  refine x_v (r_fa fo74_1 rfl) rfl ?_
  refine x_v (r_ld ty3 rfl pK (by rfl)) rfl ?_
  refine x_v (r_sub rfl rfl (by omega)) rfl ?_
  refine x_v (r_max rfl rfl) rfl ?_
  refine x_v (r_nc rfl) rfl ?_
  refine x_v (r_fa fo74_1 rfl) rfl ?_
  refine x_e (r_st ty3 rfl rfl rfl rfl rfl uD oV) ?_
  refine XL.nil ?_
  refine hK4 _ _ ?_
  refine XC.keep [(0, _), (1, _)] ⟨rfl, rfl, trivial⟩ ?_
  refine XC.seq fun K5 hK5 => ?_
  refine XC.region ?_
  refine x_v (r_mv rfl) rfl ?_
  refine x_v (r_nc rfl) rfl ?_
  refine x_v (r_fa fo74_3 rfl) rfl ?_
  refine x_v (r_ld ty3 rfl pK (by rfl)) rfl ?_
  refine x_v (yv (v' := .int .i64 ((D.steps + 1 : Nat) : Int)) (r_add rfl rfl (by omega)) (by congr 1)) rfl ?_
  refine x_v (r_nc rfl) rfl ?_
  refine x_v (r_fa fo74_3 rfl) rfl ?_
  refine x_e (r_st ty3 rfl rfl rfl rfl rfl uD oV) ?_
  refine XL.nil ?_
  refine hK5 _ _ ?_
  refine XC.keep [(1, _)] ⟨rfl, trivial⟩ ?_
  refine XC.seq fun K6 hK6 => ?_
  refine XC.region ?_
  refine x_v (r_mv rfl) rfl ?_
  refine x_c (r_call (fst := []) (cap := cap) (vs := []) rfl rfl rfl hc gS) rfl ?_
  rintro _ Rs2 hq
  refine XL.nil ?_
  refine hK6 _ _ ?_
  refine XC.keep [] trivial ?_
  refine XC.seq fun K7 hK7 => ?_
  refine XC.region ?_
  refine x_v (r_as rfl) rfl ?_
  refine XL.nil ?_
  refine hK7 _ _ ?_
  refine XC.keep [(4, _)] ⟨rfl, trivial⟩ ?_
  refine XC.ret ?_
  exact fin1 rfl (⟨rfl, hq⟩) gS
/-- All that there is lasts. -/
theorem settle_tr {W0 : World} (b : Nat) (A : Option Addr) (n c : Nat) (s : Int) (o : Bool) (Fr : List HP) : Tr W0 Tryz.prog 72 [.pointer (some ⟨b, 0, none⟩)] (blk b 84 [.slice A n c, .int .i64 s, .bool o] :: Fr) (fun v Rs' => v = .tuple #[] ∧ Rs' = blk b 84 [.slice A n c, .int .i64 (n : Int), .bool o] :: Fr) := by
 refine Entry.tr (N := 10) (rs := []) ⟨_, Tryz.func72, rfl, by kernel_rfl, rfl, rfl⟩ rfl ?_
 refine XC.region ?_
 refine x_v (r_mv rfl) rfl ?_
 refine x_v (r_mv rfl) rfl ?_
 refine x_v (r_nc rfl) rfl ?_
 refine x_v (r_fa fo82_0 rfl) rfl ?_
 refine x_v (r_ld ty80 rfl pK (by rfl)) rfl ?_
 refine x_v (r_lensl Tryz.underlying80 rfl) rfl ?_
 refine x_v (r_nc rfl) rfl ?_
 refine x_v (r_fa fo82_1 rfl) rfl ?_
 refine x_e (r_st ty3 rfl rfl rfl rfl rfl uD oV) ?_
 refine XL.nil ?_
 exact fin0 (⟨rfl, rfl⟩) gS
/-- Bytes are put behind. -/
theorem fput_tr {W0 : World} (b : Nat) (A : Option Addr) (n c : Nat) (s : Int) (o : Bool) (l p : List UInt8) (Fr : List HP) (hn : n = l.length) (hl : n + p.length ≤ maxS) : Tr W0 Tryz.prog 87 [.pointer (some ⟨b, 0, none⟩), str p] (blk b 84 [.slice A n c, .int .i64 s, .bool o] :: sl A n c 5 1 (bv l) :: Fr) (fun v Rs' => v = .tuple #[] ∧ ∃ A' c', Rs' = blk b 84 [.slice A' (l ++ p).length c', .int .i64 s, .bool o] :: sl A' (l ++ p).length c' 5 1 (bv (l ++ p)) :: Fr) := by
 subst hn
 rw [List.length_append, bv_app]
 refine Entry.tr (N := 13) (rs := []) ⟨_, Tryz.func87, rfl, by kernel_rfl, rfl, rfl⟩ rfl ?_
 refine XC.region ?_
 refine x_v (r_mv rfl) rfl ?_
 refine x_v (r_mv rfl) rfl ?_
 refine x_v (r_nc rfl) rfl ?_
 refine x_v (r_fa fo82_0 rfl) rfl ?_
 refine x_v (r_ld ty80 rfl pK (by rfl)) rfl ?_
 refine x_v (r_mv rfl) rfl ?_
 refine x_a (r_apps Tryz.underlying80 Tryz.underlying9 ty5 rfl rfl pK hl) rfl fun ⟨A10, c10⟩ => ?_
 refine x_v (r_nc rfl) rfl ?_
 refine x_v (r_fa fo82_0 rfl) rfl ?_
 refine x_e (r_st ty80 rfl rfl rfl rfl rfl uD oV) ?_
 refine XL.nil ?_
 exact fin0 (⟨rfl, _, _, rfl⟩) gS
theorem waits_tr {W0 : World} (b : Nat) (A : Option Addr) (n c : Nat) (s : Nat) (o : Bool) (Fr : List HP) (hs : s ≤ n) (hn : n ≤ maxS) : Tr W0 Tryz.prog 40 [.pointer (some ⟨b, 0, none⟩)] (blk b 84 [.slice A n c, .int .i64 (s : Int), .bool o] :: Fr) (fun v Rs' => v = .int .i64 ((n - s : Nat) : Int) ∧ Rs' = blk b 84 [.slice A n c, .int .i64 (s : Int), .bool o] :: Fr) := by
 have hmax : maxS = 140737488355328 := rfl
 refine Entry.tr (N := 13) (rs := [.tmp 2]) ⟨_, Tryz.func40, rfl, by kernel_rfl, rfl, rfl⟩ rfl ?_
 refine XC.seq fun K1 hK1 => ?_
 refine XC.region ?_
 refine x_v (r_as rfl) rfl ?_
 refine XL.nil ?_
 refine hK1 _ _ ?_
 refine XC.keep [(0, _)] ⟨rfl, trivial⟩ ?_
 refine XC.seq fun K2 hK2 => ?_
 refine XC.draw (blk b 84 [.slice A n c, .int .i64 (s : Int), .bool o] :: Fr) false [(0, false), (1, false), (2, false), (3, false), (4, false), (5, false), (6, false), (7, false), (8, false), (9, false), (10, false)] (by kernel_rfl) (by kernel_rfl) ?_
 refine y_v rfl (r_mv rfl) gT rfl ?_
 refine y_v rfl (r_nc rfl) gT rfl ?_
 refine y_v rfl (r_fa fo82_0 rfl) gT rfl ?_
 refine y_v rfl (r_ld ty80 rfl pK (by rfl)) gT rfl ?_
 refine y_v rfl (r_lensl Tryz.underlying80 rfl) gT rfl ?_
 refine y_v rfl (r_mv rfl) gT rfl ?_
 refine y_v rfl (r_nc rfl) gT rfl ?_
 refine y_v rfl (r_fa fo82_1 rfl) gT rfl ?_
 refine y_v rfl (r_ld ty3 rfl pK (by rfl)) gT rfl ?_
 refine y_v rfl (yv (v' := .int .i64 ((n - s : Nat) : Int)) (r_sub rfl rfl (by omega)) (congrArg _ (by omega))) gT rfl ?_
 refine y_v rfl (r_as rfl) gT rfl ?_
 refine XH.nil ?_
 refine hK2 _ _ ?_
 refine XC.keep [(2, _)] ⟨rfl, trivial⟩ ?_
 refine XC.ret ?_
 exact fin1 rfl (⟨rfl, rfl⟩) gS
end Go.Proofs.YtcmdmhmgffjknaaGreatDoor
/- The drive's functions: 102, 62, 88, 48, 63, 32. -/
namespace Go.Proofs.YtcmdmhmgffjknaaGreatDoor
open Go.Sx
set_option linter.unusedVariables false

theorem known1_tr {W0 : World} (b5 b8 b g : Nat) (gcap : List Value) (R : List HP) (Q : List HP → Prop) (hg : Tr W0 Tryz.prog g (.pointer (some ⟨b, 0, none⟩) :: gcap) R (fun v Rs' => Q Rs')) :
  Tr W0 Tryz.prog 102 [.pointer (some ⟨b5, 0, none⟩), .pointer (some ⟨b8, 0, none⟩)] (blk b5 108 [.func (.func g) #[] gcap.toArray] :: blk b8 79 [.pointer (some ⟨b, 0, none⟩)] :: R) (fun v Rs' => Q Rs') := by
 refine Entry.tr (N := 5) (rs := []) ⟨_, Tryz.func102, rfl, by kernel_rfl, rfl, rfl⟩ rfl ?_
 refine XC.region ?_
 refine x_v (r_ld ty108 rfl pK (by rfl)) rfl ?_
 refine x_v (r_ld ty79 rfl pK (by rfl)) rfl ?_
 refine x_c (r_call (fst := []) (cap := gcap) (vs := [.pointer (some ⟨b, 0, none⟩)]) rfl ⟨rfl, rfl⟩ rfl hg gS) rfl ?_
 rintro _ Rs2 hq
 refine XL.nil ?_
 exact fin0 (hq) gS
theorem known_bad {W0 : World} (d mb : Nat) (D : Dk) (n : List UInt8) (g : Value) (Fr : List HP) (hg : g.cells = [g].toArray) (h : readyE D n ≠ 0) : Tr W0 Tryz.prog 62 [.pointer (some ⟨d, 0, none⟩), str n, g] (blk d 74 (dcells mb D) :: Fr) (fun v Rs' => v = .int .i64 (readyE D n) ∧ Rs' = blk d 74 (dcells mb D) :: Fr) := by
 refine Entry.tr (N := 30) (rs := [.tmp 6]) ⟨_, Tryz.func62, rfl, by kernel_rfl, rfl, rfl⟩ rfl ?_
 refine XC.seq fun K1 hK1 => ?_
 refine XC.region ?_
 refine x_a (r_bx rfl hg) rfl fun b5 => ?_
 refine x_v (r_as rfl) rfl ?_
 refine XL.nil ?_
 refine hK1 _ _ ?_
 refine XC.keep [(0, _), (1, _), (5, _)] ⟨rfl, rfl, rfl, trivial⟩ ?_
 refine XC.seq fun K2 hK2 => ?_
 refine XC.seq fun K3 hK3 => ?_
 refine XC.region ?_
 refine x_v (r_mv rfl) rfl ?_
 refine x_v (r_mv rfl) rfl ?_
 refine x_c (r_call0 (args := [_, _]) ⟨rfl, rfl, rfl⟩ (ready_tr d mb D n Fr) gS) rfl ?_
 rintro _ _ ⟨rfl, hRs⟩
 rw [hRs]
 refine x_v (r_as rfl) rfl ?_
 refine XL.nil ?_
 refine hK3 _ _ ?_
 refine XC.keep [(0, _), (1, _), (5, _), (7, _)] ⟨rfl, rfl, rfl, rfl, trivial⟩ ?_
 refine XC.seq fun K4 hK4 => ?_
 refine XC.region ?_
 refine x_v (r_mv rfl) rfl ?_
 refine x_v (r_ne rfl rfl) rfl ?_
 refine XL.nil ?_
 refine hK4 _ _ ?_
 refine XC.keep [(0, _), (1, _), (5, _), (7, _), (14, _)] ⟨rfl, rfl, rfl, rfl, rfl, trivial⟩ ?_
 refine XC.cond_d rfl (fun hc1 => ?_) (fun hc1 => ?_)
 ·refine XC.seq fun K5 hK5 => ?_
  refine XC.region ?_
  refine x_v (r_mv rfl) rfl ?_
  refine x_v (r_as rfl) rfl ?_
  refine XL.nil ?_
  refine hK5 _ _ ?_
  refine XC.keep [(6, _)] ⟨rfl, trivial⟩ ?_
  refine XC.ret ?_
  exact fin1 rfl (⟨rfl, rfl⟩) gS
 ·exfalso; omega
theorem known_none {W0 : World} (d mb : Nat) (D : Dk) (f : Value → Option Value) (n : List UInt8) (g : Value) (Fr : List HP) (hg : g.cells = [g].toArray) (h : readyE D n = 0) (hf : f (str n) = none) : Tr W0 Tryz.prog 62 [.pointer (some ⟨d, 0, none⟩), str n, g] (blk d 74 (dcells mb D) :: mpf mb .string f :: Fr) (fun v Rs' => v = .int .i64 51 ∧ Rs' = blk d 74 (dcells mb D) :: mpf mb .string f :: Fr) := by
 refine Entry.tr (N := 30) (rs := [.tmp 6]) ⟨_, Tryz.func62, rfl, by kernel_rfl, rfl, rfl⟩ rfl ?_
 refine XC.seq fun K1 hK1 => ?_
 refine XC.region ?_
 refine x_a (r_bx rfl hg) rfl fun b5 => ?_
 refine x_v (r_as rfl) rfl ?_
 refine XL.nil ?_
 refine hK1 _ _ ?_
 refine XC.keep [(0, _), (1, _), (5, _)] ⟨rfl, rfl, rfl, trivial⟩ ?_
 refine XC.seq fun K2 hK2 => ?_
 refine XC.seq fun K3 hK3 => ?_
 refine XC.region ?_
 refine x_v (r_mv rfl) rfl ?_
 refine x_v (r_mv rfl) rfl ?_
 refine x_c (r_call0 (args := [_, _]) ⟨rfl, rfl, rfl⟩ (ready_tr d mb D n (mpf mb .string f :: Fr)) gS) rfl ?_
 rintro _ _ ⟨rfl, hRs⟩
 rw [hRs]
 refine x_v (r_as rfl) rfl ?_
 refine XL.nil ?_
 refine hK3 _ _ ?_
 refine XC.keep [(0, _), (1, _), (5, _), (7, _)] ⟨rfl, rfl, rfl, rfl, trivial⟩ ?_
 refine XC.seq fun K4 hK4 => ?_
 refine XC.region ?_
 refine x_v (r_mv rfl) rfl ?_
 refine x_v (r_ne rfl rfl) rfl ?_
 refine XL.nil ?_
 refine hK4 _ _ ?_
 refine XC.keep [(0, _), (1, _), (5, _), (7, _), (14, _)] ⟨rfl, rfl, rfl, rfl, rfl, trivial⟩ ?_
 refine XC.cond_d rfl (fun hc1 => ?_) (fun hc1 => ?_)
 ·exfalso; omega
 ·refine XC.skip ?_
  refine hK2 _ _ ?_
  refine XC.keep [(0, _), (1, _), (5, _)] ⟨rfl, rfl, rfl, trivial⟩ ?_
  refine XC.seq fun K5 hK5 => ?_
  unfold dcells
  refine XC.region ?_
  refine x_v (r_mv rfl) rfl ?_
  refine x_v (r_nc rfl) rfl ?_
  refine x_v (r_fa fo74_0 rfl) rfl ?_
  refine x_v (r_ld ty72 rfl pK (by rfl)) rfl ?_
  refine x_v (r_mv rfl) rfl ?_
  refine x_v (r_lk Tryz.underlying72 Tryz.underlying9 ty79 rfl rfl (isKey_str n) pK) rfl ?_
  rw [hf]
  refine x_v (r_mv rfl) rfl ?_
  refine x_v (r_ex rfl rfl) rfl ?_
  refine x_v (r_ex rfl rfl) rfl ?_
  refine x_a (r_al ty79 rfl) rfl fun b8 => ?_
  refine x_e (r_st ty79 rfl rfl rfl rfl rfl uD oV) ?_
  refine x_v (r_as rfl) rfl ?_
  refine XL.nil ?_
  refine hK5 _ _ ?_
  refine XC.keep [(0, _), (5, _), (8, _), (9, _)] ⟨rfl, rfl, rfl, rfl, trivial⟩ ?_
  refine XC.seq fun K6 hK6 => ?_
  refine XC.seq fun K7 hK7 => ?_
  refine XC.region ?_
  refine x_v (r_mv rfl) rfl ?_
  refine x_v (r_not rfl) rfl ?_
  refine XL.nil ?_
  refine hK7 _ _ ?_
  refine XC.keep [(0, _), (5, _), (8, _), (26, _)] ⟨rfl, rfl, rfl, rfl, trivial⟩ ?_
  refine XC.cond_t rfl ?_
  refine XC.seq fun K8 hK8 => ?_
  refine XC.region ?_
  refine x_v (r_as rfl) rfl ?_
  refine XL.nil ?_
  refine hK8 _ _ ?_
  refine XC.keep [(6, _)] ⟨rfl, trivial⟩ ?_
  refine XC.ret ?_
  exact fin1 rfl (⟨rfl, rfl⟩) gS
theorem known_0 {W0 : World} (d mb b : Nat) (D : Dk) (f : Value → Option Value) (n : List UInt8) (g : Value) (Fr : List HP) (hg : g.cells = [g].toArray) (h : readyE D n = 0) (hf : f (str n) = some (.pointer (some ⟨b, 0, none⟩))) (h0 : D.fuse = 0) : Tr W0 Tryz.prog 62 [.pointer (some ⟨d, 0, none⟩), str n, g] (blk d 74 (dcells mb D) :: mpf mb .string f :: Fr) (fun v Rs' => v = .int .i64 50 ∧ Rs' = blk d 74 (dcells mb { D with off := true }) :: mpf mb .string f :: Fr) := by
 refine Entry.tr (N := 30) (rs := [.tmp 6]) ⟨_, Tryz.func62, rfl, by kernel_rfl, rfl, rfl⟩ rfl ?_
 refine XC.seq fun K1 hK1 => ?_
 refine XC.region ?_
 refine x_a (r_bx rfl hg) rfl fun b5 => ?_
 refine x_v (r_as rfl) rfl ?_
 refine XL.nil ?_
 refine hK1 _ _ ?_
 refine XC.keep [(0, _), (1, _), (5, _)] ⟨rfl, rfl, rfl, trivial⟩ ?_
 refine XC.seq fun K2 hK2 => ?_
 refine XC.seq fun K3 hK3 => ?_
 refine XC.region ?_
 refine x_v (r_mv rfl) rfl ?_
 refine x_v (r_mv rfl) rfl ?_
 refine x_c (r_call0 (args := [_, _]) ⟨rfl, rfl, rfl⟩ (ready_tr d mb D n (blk b5 108 [g] :: mpf mb .string f :: Fr)) gS) rfl ?_
 rintro _ _ ⟨rfl, hRs⟩
 rw [hRs]
 refine x_v (r_as rfl) rfl ?_
 refine XL.nil ?_
 refine hK3 _ _ ?_
 refine XC.keep [(0, _), (1, _), (5, _), (7, _)] ⟨rfl, rfl, rfl, rfl, trivial⟩ ?_
 refine XC.seq fun K4 hK4 => ?_
 refine XC.region ?_
 refine x_v (r_mv rfl) rfl ?_
 refine x_v (r_ne rfl rfl) rfl ?_
 refine XL.nil ?_
 refine hK4 _ _ ?_
 refine XC.keep [(0, _), (1, _), (5, _), (7, _), (14, _)] ⟨rfl, rfl, rfl, rfl, rfl, trivial⟩ ?_
 refine XC.cond_d rfl (fun hc1 => ?_) (fun hc1 => ?_)
 ·exfalso; omega
 ·refine XC.skip ?_
  refine hK2 _ _ ?_
  refine XC.keep [(0, _), (1, _), (5, _)] ⟨rfl, rfl, rfl, trivial⟩ ?_
  refine XC.seq fun K5 hK5 => ?_
  unfold dcells
  refine XC.region ?_
  refine x_v (r_mv rfl) rfl ?_
  refine x_v (r_nc rfl) rfl ?_
  refine x_v (r_fa fo74_0 rfl) rfl ?_
  refine x_v (r_ld ty72 rfl pK (by rfl)) rfl ?_
  refine x_v (r_mv rfl) rfl ?_
  refine x_v (r_lk Tryz.underlying72 Tryz.underlying9 ty79 rfl rfl (isKey_str n) pK) rfl ?_
  rw [hf]
  refine x_v (r_mv rfl) rfl ?_
  refine x_v (r_ex rfl rfl) rfl ?_
  refine x_v (r_ex rfl rfl) rfl ?_
  refine x_a (r_al ty79 rfl) rfl fun b8 => ?_
  refine x_e (r_st ty79 rfl rfl rfl rfl rfl uD oV) ?_
  refine x_v (r_as rfl) rfl ?_
  refine XL.nil ?_
  refine hK5 _ _ ?_
  refine XC.keep [(0, _), (5, _), (8, _), (9, _)] ⟨rfl, rfl, rfl, rfl, trivial⟩ ?_
  refine XC.seq fun K6 hK6 => ?_
  refine XC.seq fun K7 hK7 => ?_
  refine XC.region ?_
  refine x_v (r_mv rfl) rfl ?_
  refine x_v (r_not rfl) rfl ?_
  refine XL.nil ?_
  refine hK7 _ _ ?_
  refine XC.keep [(0, _), (5, _), (8, _), (26, _)] ⟨rfl, rfl, rfl, rfl, trivial⟩ ?_
  refine XC.cond_f rfl ?_
  refine XC.skip ?_
  refine hK6 _ _ ?_
  refine XC.keep [(0, _), (5, _), (8, _)] ⟨rfl, rfl, rfl, trivial⟩ ?_
  refine XC.seq fun K8 hK8 => ?_
  change XC _ _ _ _ (blk b8 79 [.pointer (some ⟨b, 0, none⟩)] :: blk d 74 (dcells mb D) :: blk b5 108 [g] :: mpf mb .string f :: Fr)
  refine XC.region ?_
  refine x_v (r_mv rfl) rfl ?_
  refine x_v (r_mfv (cs := [_, _]) ⟨rfl, rfl, rfl⟩) rfl ?_
  refine x_c (r_call0 (args := [_, _]) ⟨rfl, rfl, rfl⟩ (step0_tr d mb D _ (mpf mb .string f :: Fr) h0) gS) rfl ?_
  rintro _ _ ⟨rfl, hRs⟩
  rw [hRs]
  refine x_v (r_as rfl) rfl ?_
  refine XL.nil ?_
  refine hK8 _ _ ?_
  refine XC.keep [(6, _)] ⟨rfl, trivial⟩ ?_
  refine XC.ret ?_
  exact fin1 rfl (⟨rfl, rfl⟩) gS
theorem known_1 {W0 : World} (d mb b gid : Nat) (gcap : List Value) (D : Dk) (f : Value → Option Value) (n : List UInt8) (Fr : List HP) (Q : List HP → Prop) (h : readyE D n = 0) (hf : f (str n) = some (.pointer (some ⟨b, 0, none⟩))) (h0 : D.fuse ≠ 0) (hfu : -1 ≤ D.fuse ∧ D.fuse < 9223372036854775808) (hs : D.steps ≤ 1000000000)
  (hg : Tr W0 Tryz.prog gid (.pointer (some ⟨b, 0, none⟩) :: gcap) (blk d 74 (dcells mb (stepD D)) :: mpf mb .string f :: Fr) (fun v Rs' => Q Rs')) :
  Tr W0 Tryz.prog 62 [.pointer (some ⟨d, 0, none⟩), str n, .func (.func gid) #[] gcap.toArray] (blk d 74 (dcells mb D) :: mpf mb .string f :: Fr) (fun v Rs' => v = .int .i64 0 ∧ Q Rs') := by
 refine Entry.tr (N := 30) (rs := [.tmp 6]) ⟨_, Tryz.func62, rfl, by kernel_rfl, rfl, rfl⟩ rfl ?_
 refine XC.seq fun K1 hK1 => ?_
 refine XC.region ?_
 refine x_a (r_bx rfl rfl) rfl fun b5 => ?_
 refine x_v (r_as rfl) rfl ?_
 refine XL.nil ?_
 refine hK1 _ _ ?_
 refine XC.keep [(0, _), (1, _), (5, _)] ⟨rfl, rfl, rfl, trivial⟩ ?_
 refine XC.seq fun K2 hK2 => ?_
 refine XC.seq fun K3 hK3 => ?_
 refine XC.region ?_
 refine x_v (r_mv rfl) rfl ?_
 refine x_v (r_mv rfl) rfl ?_
 refine x_c (r_call0 (args := [_, _]) ⟨rfl, rfl, rfl⟩ (ready_tr d mb D n (blk b5 108 [.func (.func gid) #[] gcap.toArray] :: mpf mb .string f :: Fr)) gS) rfl ?_
 rintro _ _ ⟨rfl, hRs⟩
 rw [hRs]
 refine x_v (r_as rfl) rfl ?_
 refine XL.nil ?_
 refine hK3 _ _ ?_
 refine XC.keep [(0, _), (1, _), (5, _), (7, _)] ⟨rfl, rfl, rfl, rfl, trivial⟩ ?_
 refine XC.seq fun K4 hK4 => ?_
 refine XC.region ?_
 refine x_v (r_mv rfl) rfl ?_
 refine x_v (r_ne rfl rfl) rfl ?_
 refine XL.nil ?_
 refine hK4 _ _ ?_
 refine XC.keep [(0, _), (1, _), (5, _), (7, _), (14, _)] ⟨rfl, rfl, rfl, rfl, rfl, trivial⟩ ?_
 refine XC.cond_d rfl (fun hc1 => ?_) (fun hc1 => ?_)
 ·exfalso; omega
 ·refine XC.skip ?_
  refine hK2 _ _ ?_
  refine XC.keep [(0, _), (1, _), (5, _)] ⟨rfl, rfl, rfl, trivial⟩ ?_
  refine XC.seq fun K5 hK5 => ?_
  unfold dcells
  refine XC.region ?_
  refine x_v (r_mv rfl) rfl ?_
  refine x_v (r_nc rfl) rfl ?_
  refine x_v (r_fa fo74_0 rfl) rfl ?_
  refine x_v (r_ld ty72 rfl pK (by rfl)) rfl ?_
  refine x_v (r_mv rfl) rfl ?_
  refine x_v (r_lk Tryz.underlying72 Tryz.underlying9 ty79 rfl rfl (isKey_str n) pK) rfl ?_
  rw [hf]
  refine x_v (r_mv rfl) rfl ?_
  refine x_v (r_ex rfl rfl) rfl ?_
  refine x_v (r_ex rfl rfl) rfl ?_
  refine x_a (r_al ty79 rfl) rfl fun b8 => ?_
  refine x_e (r_st ty79 rfl rfl rfl rfl rfl uD oV) ?_
  refine x_v (r_as rfl) rfl ?_
  refine XL.nil ?_
  refine hK5 _ _ ?_
  refine XC.keep [(0, _), (5, _), (8, _), (9, _)] ⟨rfl, rfl, rfl, rfl, trivial⟩ ?_
  refine XC.seq fun K6 hK6 => ?_
  refine XC.seq fun K7 hK7 => ?_
  refine XC.region ?_
  refine x_v (r_mv rfl) rfl ?_
  refine x_v (r_not rfl) rfl ?_
  refine XL.nil ?_
  refine hK7 _ _ ?_
  refine XC.keep [(0, _), (5, _), (8, _), (26, _)] ⟨rfl, rfl, rfl, rfl, trivial⟩ ?_
  refine XC.cond_f rfl ?_
  refine XC.skip ?_
  refine hK6 _ _ ?_
  refine XC.keep [(0, _), (5, _), (8, _)] ⟨rfl, rfl, rfl, trivial⟩ ?_
  refine XC.seq fun K8 hK8 => ?_
  change XC _ _ _ _ (blk b8 79 [.pointer (some ⟨b, 0, none⟩)] :: blk d 74 (dcells mb D) :: blk b5 108 [.func (.func gid) #[] gcap.toArray] :: mpf mb .string f :: Fr)
  refine XC.region ?_
  refine x_v (r_mv rfl) rfl ?_
  refine x_v (r_mfv (cs := [_, _]) ⟨rfl, rfl, rfl⟩) rfl ?_
  refine x_c (r_call0 (args := [_, _]) ⟨rfl, rfl, rfl⟩ (step1_tr d mb D 102 [.pointer (some ⟨b5, 0, none⟩), .pointer (some ⟨b8, 0, none⟩)] (blk b5 108 [.func (.func gid) #[] gcap.toArray] :: blk b8 79 [.pointer (some ⟨b, 0, none⟩)] :: mpf mb .string f :: Fr) Q h0 hfu hs (Tr.pre gS (known1_tr b5 b8 b gid gcap (blk d 74 (dcells mb (stepD D)) :: mpf mb .string f :: Fr) Q hg))) gS) rfl ?_
  rintro _ _ ⟨rfl, hq⟩
  refine x_v (r_as rfl) rfl ?_
  refine XL.nil ?_
  refine hK8 _ _ ?_
  refine XC.keep [(6, _)] ⟨rfl, trivial⟩ ?_
  refine XC.ret ?_
  exact fin1 rfl (⟨rfl, hq⟩) gS
theorem sync1_tr {W0 : World} (b : Nat) (A : Option Addr) (c : Nat) (x : Fi) (Fr : List HP) : Tr W0 Tryz.prog 88 [.pointer (some ⟨b, 0, none⟩)] (blk b 84 (fcells A c x) :: Fr) (fun v Rs' => v = .tuple #[] ∧ Rs' = blk b 84 (fcells A c ⟨x.bytes, x.bytes.length, true⟩) :: Fr) := by
 unfold fcells
 refine Entry.tr (N := 9) (rs := []) ⟨_, Tryz.func88, rfl, by kernel_rfl, rfl, rfl⟩ rfl ?_
 refine XC.seq fun K1 hK1 => ?_
 refine XC.region ?_
 refine x_v (r_mv rfl) rfl ?_
 refine x_v (r_nc rfl) rfl ?_
 refine x_v (r_fa fo84_0 rfl) rfl ?_
 refine x_c (r_call0 (args := [_]) ⟨rfl, rfl⟩ (settle_tr b A x.bytes.length c x.sure x.old Fr) gS) rfl ?_
 rintro _ _ ⟨rfl, hRs⟩
 rw [hRs]
 refine XL.nil ?_
 refine hK1 _ _ ?_
 refine XC.keep [(0, _)] ⟨rfl, trivial⟩ ?_
 refine XC.region ?_
 refine x_v (r_mv rfl) rfl ?_
 refine x_v (r_nc rfl) rfl ?_
 refine x_v (r_fa fo84_1 rfl) rfl ?_
 refine x_e (r_st ty4 rfl rfl rfl rfl rfl uD oV) ?_
 refine XL.nil ?_
 exact fin0 (⟨rfl, rfl⟩) gS
theorem remove1_tr {W0 : World} (d mb b b2 b3 : Nat) (D : Dk) (f : Value → Option Value) (n : List UInt8) (Fr : List HP) : Tr W0 Tryz.prog 63 [.pointer (some ⟨b, 0, none⟩), .pointer (some ⟨b2, 0, none⟩), .pointer (some ⟨b3, 0, none⟩)] (blk d 74 (dcells mb D) :: mpf mb .string f :: blk b2 38 [.pointer (some ⟨d, 0, none⟩)] :: blk b3 9 [str n] :: Fr) (fun v Rs' => Rs' = blk d 74 (dcells mb D) :: mpf mb .string (updV f (str n) none) :: Fr) := by
 unfold dcells
 refine Entry.tr (N := 9) (rs := []) ⟨_, Tryz.func63, rfl, by kernel_rfl, rfl, rfl⟩ rfl ?_
 refine XC.draw (blk d 74 [.map (some mb), .int .i64 D.fuse, .bool D.off, .int .i64 (D.steps : Int)] :: blk b2 38 [.pointer (some ⟨d, 0, none⟩)] :: blk b3 9 [str n] :: []) true [(0, false), (1, false), (2, false), (3, false), (4, false), (5, true)] (by kernel_rfl) (by kernel_rfl) ?_
 refine y_v rfl (r_ld ty38 rfl pK (by rfl)) gT rfl ?_
 refine y_v rfl (r_nc rfl) gT rfl ?_
 refine y_v rfl (r_fa fo74_0 rfl) gT rfl ?_
 refine y_v rfl (r_ld ty72 rfl pK (by rfl)) gT rfl ?_
 refine y_v rfl (r_ld ty9 rfl pK (by rfl)) gT rfl ?_
 refine y_e rfl (r_del (updV f (str n) none) Tryz.underlying72 Tryz.underlying9 rfl rfl (isKey_str n) (updV_at _ _ _) (updV_else _ _ _) uD) (fun h => absurd h (by decide)) ?_
 refine XH.nil ?_
 exact fin0 (rfl) gS
end Go.Proofs.YtcmdmhmgffjknaaGreatDoor
/- The drive's functions: 62, 48, 32. -/
namespace Go.Proofs.YtcmdmhmgffjknaaGreatDoor
open Go.Sx
set_option linter.unusedVariables false

theorem str_inj {a b : List UInt8} (h : str a = str b) : a = b := by simpa [str] using h
theorem DIs.names {D : Dk} {f : Value → Option Value} {T : List En} (h : DIs D f T) : T.Pairwise (fun a b => a.1 < b.1) := by
 have := h.ok.srt
 rw [← h.files, List.pairwise_map] at this
 exact this
theorem DIs.fiok {D : Dk} {f : Value → Option Value} {T : List En} (h : DIs D f T) {t : En} (ht : t ∈ T) : FiOk (t.1, t.2.2) := h.ok.fi _ (by rw [← h.files]; exact List.mem_map.2 ⟨t, ht, rfl⟩)
theorem DIs.stp {D : Dk} {f : Value → Option Value} {T : List En} (h : DIs D f T) : DIs (stepD D) f T := ⟨h.files, h.tab, ⟨h.ok.srt, h.ok.fi, by have := h.ok.fuse; simp only [stepD]; omega⟩⟩
theorem DIs.offd {D : Dk} {f : Value → Option Value} {T : List En} (h : DIs D f T) : DIs { D with off := true } f T := ⟨h.files, h.tab, ⟨h.ok.srt, h.ok.fi, h.ok.fuse⟩⟩
theorem DIs.repl {D : Dk} {f : Value → Option Value} {T1 T2 : List En} {n : List UInt8} {b : Nat} {x : Fi} (h : DIs D f (T1 ++ (n, b, x) :: T2)) (x' : Fi) (hx : FiOk (n, x')) : DIs { D with files := setF D.files n x' } f (T1 ++ (n, b, x') :: T2) := by
 have hf : (T1 ++ (n, b, x') :: T2).map (fun t => (t.1, t.2.2)) = setF D.files n x' := by
  have h1 := h.ok.srt
  have h2 := h.files
  rw [List.map_append, List.map_cons] at h2 ⊢
  rw [← h2] at h1 ⊢
  exact (setF_at h1).symm
 refine ⟨hf, fun k v => ?_, ⟨?_, fun t ht => ?_, h.ok.fuse⟩⟩
 ·rw [h.tab]
  simp only [List.mem_append, List.mem_cons]
  constructor
  ·rintro ⟨t, h1 | rfl | h1, h2, h3⟩
   ·exact ⟨t, .inl h1, h2, h3⟩
   ·exact ⟨(n, b, x'), .inr (.inl rfl), h2, h3⟩
   ·exact ⟨t, .inr (.inr h1), h2, h3⟩
  ·rintro ⟨t, h1 | rfl | h1, h2, h3⟩
   ·exact ⟨t, .inl h1, h2, h3⟩
   ·exact ⟨(n, b, x), .inr (.inl rfl), h2, h3⟩
   ·exact ⟨t, .inr (.inr h1), h2, h3⟩
 ·show (setF D.files n x').Pairwise _
  rw [← hf, List.pairwise_map]
  have h1 := h.names
  rw [List.pairwise_append, List.pairwise_cons] at h1 ⊢
  refine ⟨h1.1, h1.2.1, fun a ha c hc => ?_⟩
  rcases List.mem_cons.1 hc with rfl | hc
  ·exact h1.2.2 a ha (n, b, x) (by simp)
  ·exact h1.2.2 a ha c (by simp [hc])
 ·have ht' : t ∈ (T1 ++ (n, b, x') :: T2).map (fun t => (t.1, t.2.2)) := by rw [hf]; exact ht
  obtain ⟨u, hu, rfl⟩ := List.mem_map.1 ht'
  rcases List.mem_append.1 hu with hu | hu
  ·exact h.fiok (List.mem_append.2 (.inl hu))
  ·rcases List.mem_cons.1 hu with rfl | hu
   ·exact hx
   ·exact h.fiok (List.mem_append.2 (.inr (List.mem_cons_of_mem _ hu)))
theorem DIs.del {D : Dk} {f : Value → Option Value} {T1 T2 : List En} {n : List UInt8} {b : Nat} {x : Fi} (h : DIs D f (T1 ++ (n, b, x) :: T2)) : DIs { D with files := delF D.files n } (updV f (str n) none) (T1 ++ T2) := by
 have hf : (T1 ++ T2).map (fun t => (t.1, t.2.2)) = delF D.files n := by
  have h1 := h.ok.srt
  have h2 := h.files
  rw [List.map_append, List.map_cons] at h2
  rw [List.map_append]
  rw [← h2] at h1 ⊢
  exact (delF_at h1).symm
 have h1 := h.names
 rw [List.pairwise_append, List.pairwise_cons] at h1
 have hne : ∀ t ∈ T1 ++ T2, t.1 ≠ n := fun t ht e => by
  rcases List.mem_append.1 ht with ht | ht
  ·have := h1.2.2 t ht (n, b, x) (by simp); rw [e] at this; exact List.lt_irrefl _ this
  ·have := h1.2.1.1 t ht; rw [e] at this; exact List.lt_irrefl _ this
 refine ⟨hf, fun k v => ?_, ⟨?_, fun t ht => ?_, h.ok.fuse⟩⟩
 ·by_cases hk : k = str n
  ·subst hk
   rw [updV_at]
   constructor
   ·intro h; cases h
   ·rintro ⟨t, ht, h2, _⟩; exact absurd (str_inj h2).symm (hne t ht)
  ·rw [updV_else _ _ _ _ hk, h.tab]
   simp only [List.mem_append, List.mem_cons]
   constructor
   ·rintro ⟨t, h1 | rfl | h1, h2, h3⟩
    ·exact ⟨t, .inl h1, h2, h3⟩
    ·exact absurd h2 hk
    ·exact ⟨t, .inr h1, h2, h3⟩
   ·rintro ⟨t, h1 | h1, h2, h3⟩
    ·exact ⟨t, .inl h1, h2, h3⟩
    ·exact ⟨t, .inr (.inr h1), h2, h3⟩
 ·show (delF D.files n).Pairwise _
  exact h.ok.srt.filter _
 ·exact h.ok.fi t (List.mem_filter.1 ht).1
theorem DIs.ins {D : Dk} {f : Value → Option Value} {T : List En} {n : List UInt8} (h : DIs D f T) (hn : ∀ t ∈ T, t.1 ≠ n) (b : Nat) (x : Fi) (hx : FiOk (n, x)) : ∃ T1 T2, T = T1 ++ T2 ∧ DIs { D with files := setF D.files n x } (updV f (str n) (some (.pointer (some ⟨b, 0, none⟩)))) (T1 ++ (n, b, x) :: T2) := by
 have hn' : ∀ t ∈ D.files, t.1 ≠ n := fun t ht => by
  rw [← h.files] at ht
  obtain ⟨u, hu, rfl⟩ := List.mem_map.1 ht
  exact hn u hu
 obtain ⟨L1, L2, h1, h2, h3, h4⟩ := setF_new D.files n x hn' h.ok.srt
 have h5 := h.files
 rw [h1] at h5
 obtain ⟨T1, T2, rfl, rfl, rfl⟩ := List.map_eq_append_iff.1 h5
 have hf : (T1 ++ (n, b, x) :: T2).map (fun t => (t.1, t.2.2)) = setF D.files n x := by rw [h2, List.map_append, List.map_cons]
 refine ⟨T1, T2, rfl, hf, fun k v => ?_, ⟨?_, fun t ht => ?_, h.ok.fuse⟩⟩
 ·by_cases hk : k = str n
  ·subst hk
   rw [updV_at]
   constructor
   ·intro h; injection h with h; exact ⟨(n, b, x), by simp, rfl, h.symm⟩
   ·rintro ⟨t, ht, h2, h3⟩
    rcases List.mem_append.1 ht with ht | ht
    ·exact absurd (str_inj h2).symm (hn t (List.mem_append.2 (.inl ht)))
    ·rcases List.mem_cons.1 ht with rfl | ht
     ·rw [h3]
     ·exact absurd (str_inj h2).symm (hn t (List.mem_append.2 (.inr ht)))
  ·rw [updV_else _ _ _ _ hk, h.tab]
   simp only [List.mem_append, List.mem_cons]
   constructor
   ·rintro ⟨t, h1 | h1, h2, h3⟩
    ·exact ⟨t, .inl h1, h2, h3⟩
    ·exact ⟨t, .inr (.inr h1), h2, h3⟩
   ·rintro ⟨t, h1 | rfl | h1, h2, h3⟩
    ·exact ⟨t, .inl h1, h2, h3⟩
    ·exact absurd h2 hk
    ·exact ⟨t, .inr h1, h2, h3⟩
 ·show (setF D.files n x).Pairwise _
  rw [h2, List.pairwise_append, List.pairwise_cons]
  have h6 := h.ok.srt
  rw [h1, List.pairwise_append] at h6
  refine ⟨h6.1, ⟨fun t ht => h4 t ht, h6.2.1⟩, fun a ha c hc => ?_⟩
  rcases List.mem_cons.1 hc with rfl | hc
  ·exact h3 a ha
  ·exact h6.2.2 a ha c hc
 ·have ht' : t ∈ (T1 ++ (n, b, x) :: T2).map (fun t => (t.1, t.2.2)) := by rw [hf]; exact ht
  obtain ⟨u, hu, rfl⟩ := List.mem_map.1 ht'
  rcases List.mem_append.1 hu with hu | hu
  ·exact h.fiok (List.mem_append.2 (.inl hu))
  ·rcases List.mem_cons.1 hu with rfl | hu
   ·exact hx
   ·exact h.fiok (List.mem_append.2 (.inr hu))

theorem known_th : ∃ fn c, Tryz.prog.funcs[62]? = some fn ∧ (fn.name == "runtime.NumGoroutine") = false ∧ fn.body = some c := ⟨_, _, Tryz.func62, by kernel_rfl, rfl⟩
theorem sync1_th : ∃ fn c, Tryz.prog.funcs[88]? = some fn ∧ (fn.name == "runtime.NumGoroutine") = false ∧ fn.body = some c := ⟨_, _, Tryz.func88, by kernel_rfl, rfl⟩
/-- Blocks in their places. -/
theorem own_rot {W0 w : World} {a b c : HP} {Rs : List HP} (H : Own W0 w (a :: b :: c :: Rs)) : Own W0 w (b :: c :: a :: Rs) := H.perm ((List.perm_append_comm (l₁ := [_]) (l₂ := [_, _])).append_right Rs)
theorem ksync_tr {W0 : World} (d : Nat) (D : Dk) (n : List UInt8) (Fr : List HP) (hs : D.steps ≤ 1000000000) : Tr W0 Tryz.prog 62 [.pointer (some ⟨d, 0, none⟩), str n, .func (.func 88) #[] #[]] (dsk d D :: Fr) (fun v Rs' => v = .int .i64 (syncD D n).1 ∧ Rs' = dsk d (syncD D n).2 :: Fr) := by
 refine Tr.opn _ known_th (fun w => dsk_open) fun ⟨mb, f, T⟩ hD => ?_
 dsimp only at hD ⊢
 by_cases h : readyE D n = 0
 ·rcases hD.at n with ⟨h1, h2, _⟩ | ⟨T1, b, x, T2, rfl, h1, h2⟩
  ·have e : syncD D n = (51, D) := by simp [syncD, knownD, h, h1]
   rw [e]
   exact (known_none d mb D f n _ (filesM T :: Fr) rfl h h2).out fun v Rs' w ⟨h3, h4⟩ ho => ⟨_, ⟨h3, rfl⟩, dsk_shut hD (h4 ▸ ho)⟩
  ·by_cases h0 : D.fuse = 0
   ·have e : syncD D n = (50, { D with off := true }) := by simp [syncD, knownD, h, h1, h0]
    rw [e]
    exact (known_0 d mb b D f n _ (filesM (T1 ++ (n, b, x) :: T2) :: Fr) rfl h h2 h0).out fun v Rs' w ⟨h3, h4⟩ ho => ⟨_, ⟨h3, rfl⟩, dsk_shut hD.offd (h4 ▸ ho)⟩
   ·have e : syncD D n = (0, { stepD D with files := setF (stepD D).files n ⟨x.bytes, x.bytes.length, true⟩ }) := by simp [syncD, knownD, h, h1, h0]
    rw [e]
    have hx := hD.fiok (t := (n, b, x)) (by simp)
    have hg : Tr W0 Tryz.prog 88 [.pointer (some ⟨b, 0, none⟩)] (blk d 74 (dcells mb (stepD D)) :: mpf mb .string f :: filesM (T1 ++ (n, b, x) :: T2) :: Fr) (fun v Rs' => Rs' = blk d 74 (dcells mb (stepD D)) :: mpf mb .string f :: filesM (T1 ++ (n, b, ⟨x.bytes, x.bytes.length, true⟩) :: T2) :: Fr) := by
     refine Tr.pre (Rs1 := filesM (T1 ++ (n, b, x) :: T2) :: blk d 74 (dcells mb (stepD D)) :: mpf mb .string f :: Fr) gS (Tr.opn (fun q : Option Addr × Nat => _) sync1_th (fun w => file_open) fun ⟨A, c⟩ _ => ?_)
     exact (sync1_tr b A c x _).out fun v Rs' w ⟨_, h4⟩ ho => ⟨_, rfl, own_rot (file_shut (x := ⟨x.bytes, x.bytes.length, true⟩) (h4 ▸ ho))⟩
    exact (known_1 d mb b 88 [] D f n (filesM (T1 ++ (n, b, x) :: T2) :: Fr) _ h h2 h0 hD.ok.fuse hs hg).out fun v Rs' w ⟨h3, h4⟩ ho => ⟨_, ⟨h3, rfl⟩, dsk_shut (hD.stp.repl _ ⟨Nat.le_refl _, hx.2⟩) (h4 ▸ ho)⟩
 ·have e : syncD D n = (readyE D n, D) := by simp [syncD, knownD, h]
  rw [e]
  exact (known_bad d mb D n _ (mpf mb .string f :: filesM T :: Fr) rfl h).out fun v Rs' w ⟨h3, h4⟩ ho => ⟨_, ⟨h3, rfl⟩, dsk_shut hD (h4 ▸ ho)⟩
theorem sync_tr {W0 : World} (d : Nat) (D : Dk) (n : List UInt8) (Fr : List HP) (hs : D.steps ≤ 1000000000) : Tr W0 Tryz.prog 48 [.pointer (some ⟨d, 0, none⟩), str n] (dsk d D :: Fr) (fun v Rs' => v = .int .i64 (syncD D n).1 ∧ Rs' = dsk d (syncD D n).2 :: Fr) := by
 refine Entry.tr (N := 8) (rs := [.tmp 4]) ⟨_, Tryz.func48, rfl, by kernel_rfl, rfl, rfl⟩ rfl ?_
 refine XC.seq fun K1 hK1 => ?_
 refine XC.region ?_
 refine x_v (r_as rfl) rfl ?_
 refine XL.nil ?_
 refine hK1 _ _ ?_
 refine XC.keep [(0, _), (1, _)] ⟨rfl, rfl, trivial⟩ ?_
 refine XC.seq fun K2 hK2 => ?_
 refine XC.region ?_
 refine x_v (r_mv rfl) rfl ?_
 refine x_v (r_mv rfl) rfl ?_
 refine x_c (r_call0 (args := [_, _, _]) ⟨rfl, rfl, rfl, rfl⟩ (ksync_tr d D n Fr hs) gS) rfl ?_
 rintro _ _ ⟨rfl, hRs⟩
 rw [hRs]
 refine x_v (r_as rfl) rfl ?_
 refine XL.nil ?_
 refine hK2 _ _ ?_
 refine XC.keep [(4, _)] ⟨rfl, trivial⟩ ?_
 refine XC.ret ?_
 exact fin1 rfl (⟨rfl, rfl⟩) gS
theorem kremove_tr {W0 : World} (d b2 b3 : Nat) (D : Dk) (n : List UInt8) (Fr : List HP) (hs : D.steps ≤ 1000000000) : Tr W0 Tryz.prog 62 [.pointer (some ⟨d, 0, none⟩), str n, .func (.func 63) #[] [.pointer (some ⟨b2, 0, none⟩), .pointer (some ⟨b3, 0, none⟩)].toArray] (dsk d D :: blk b2 38 [.pointer (some ⟨d, 0, none⟩)] :: blk b3 9 [str n] :: Fr) (fun v Rs' => v = .int .i64 (removeD D n).1 ∧ Rs' = dsk d (removeD D n).2 :: Fr) := by
 refine Tr.opn _ known_th (fun w => dsk_open) fun ⟨mb, f, T⟩ hD => ?_
 dsimp only at hD ⊢
 by_cases h : readyE D n = 0
 ·rcases hD.at n with ⟨h1, h2, _⟩ | ⟨T1, b, x, T2, rfl, h1, h2⟩
  ·have e : removeD D n = (51, D) := by simp [removeD, knownD, h, h1]
   rw [e]
   exact (known_none d mb D f n _ (filesM T :: _ :: _ :: Fr) rfl h h2).out fun v Rs' w ⟨h3, h4⟩ ho => ⟨_, ⟨h3, rfl⟩, dsk_shut hD (Gets.own gS (h4 ▸ ho))⟩
  ·by_cases h0 : D.fuse = 0
   ·have e : removeD D n = (50, { D with off := true }) := by simp [removeD, knownD, h, h1, h0]
    rw [e]
    exact (known_0 d mb b D f n _ (filesM (T1 ++ (n, b, x) :: T2) :: _ :: _ :: Fr) rfl h h2 h0).out fun v Rs' w ⟨h3, h4⟩ ho => ⟨_, ⟨h3, rfl⟩, dsk_shut hD.offd (Gets.own gS (h4 ▸ ho))⟩
   ·have e : removeD D n = (0, { stepD D with files := delF (stepD D).files n }) := by simp [removeD, knownD, h, h1, h0]
    rw [e]
    have hg := remove1_tr (W0 := W0) d mb b b2 b3 (stepD D) f n (filesM (T1 ++ (n, b, x) :: T2) :: Fr)
    refine (known_1 d mb b 63 [.pointer (some ⟨b2, 0, none⟩), .pointer (some ⟨b3, 0, none⟩)] D f n (filesM (T1 ++ (n, b, x) :: T2) :: blk b2 38 [.pointer (some ⟨d, 0, none⟩)] :: blk b3 9 [str n] :: Fr) _ h h2 h0 hD.ok.fuse hs (Tr.pre gS hg)).out fun v Rs' w ⟨h3, h4⟩ ho => ⟨_, ⟨h3, rfl⟩, dsk_shut (mb := mb) hD.stp.del ?_⟩
    rw [h4] at ho
    have ho2 : Own W0 w (filesM (T1 ++ (n, b, x) :: T2) :: blk d 74 (dcells mb (stepD D)) :: mpf mb .string (updV f (str n) none) :: Fr) := Gets.own gS ho
    obtain ⟨q, _, ho3⟩ := file_open ho2
    exact Gets.own gS ho3
 ·have e : removeD D n = (readyE D n, D) := by simp [removeD, knownD, h]
  rw [e]
  exact (known_bad d mb D n _ (mpf mb .string f :: filesM T :: _ :: _ :: Fr) rfl h).out fun v Rs' w ⟨h3, h4⟩ ho => ⟨_, ⟨h3, rfl⟩, dsk_shut hD (Gets.own gS (h4 ▸ ho))⟩
theorem remove_tr {W0 : World} (d : Nat) (D : Dk) (n : List UInt8) (Fr : List HP) (hs : D.steps ≤ 1000000000) : Tr W0 Tryz.prog 32 [.pointer (some ⟨d, 0, none⟩), str n] (dsk d D :: Fr) (fun v Rs' => v = .int .i64 (removeD D n).1 ∧ Rs' = dsk d (removeD D n).2 :: Fr) := by
 refine Entry.tr (N := 9) (rs := [.tmp 4]) ⟨_, Tryz.func32, rfl, by kernel_rfl, rfl, rfl⟩ rfl ?_
 refine XC.seq fun K1 hK1 => ?_
 refine XC.region ?_
 refine x_a (r_bx rfl rfl) rfl fun b2 => ?_
 refine x_a (r_bx rfl rfl) rfl fun b3 => ?_
 refine x_v (r_as rfl) rfl ?_
 refine XL.nil ?_
 refine hK1 _ _ ?_
 refine XC.keep [(2, _), (3, _)] ⟨rfl, rfl, trivial⟩ ?_
 refine XC.seq fun K2 hK2 => ?_
 refine XC.region ?_
 refine x_v (r_ld ty38 rfl pK (by rfl)) rfl ?_
 refine x_v (r_ld ty9 rfl pK (by rfl)) rfl ?_
 refine x_v (r_mfv (cs := [_, _]) ⟨rfl, rfl, rfl⟩) rfl ?_
 refine x_c (r_call0 (args := [_, _, _]) ⟨rfl, rfl, rfl, rfl⟩ (kremove_tr d b2 b3 D n Fr hs) gS) rfl ?_
 rintro _ _ ⟨rfl, hRs⟩
 rw [hRs]
 refine x_v (r_as rfl) rfl ?_
 refine XL.nil ?_
 refine hK2 _ _ ?_
 refine XC.keep [(4, _)] ⟨rfl, trivial⟩ ?_
 refine XC.ret ?_
 exact fin1 rfl (⟨rfl, rfl⟩) gS
end Go.Proofs.YtcmdmhmgffjknaaGreatDoor

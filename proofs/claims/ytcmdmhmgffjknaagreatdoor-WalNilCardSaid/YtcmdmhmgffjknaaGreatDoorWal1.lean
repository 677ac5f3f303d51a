/- Checksums (crc): functions 65, 104. -/
import Derived.Test.YtcmdmhmgffjknaaGreatDoorFacts
import Derived.Test.YtcmdmhmgffjknaaGreatDoorYOps10
namespace Go.Proofs.YtcmdmhmgffjknaaGreatDoor
open Go.Sx
set_option linter.unusedVariables false

def sv (p : List UInt8) : List Value := [str p]
theorem sv_len (p : List UInt8) : (sv p).length = 1 := rfl
theorem sv_one (p : List UInt8) : (sv p).all (·.oneCell') = true := rfl
theorem sv_get {L : List (List UInt8)} {k : Nat} {p : List UInt8} (h : L[k]? = some p) : (cells sv L)[k]? = some (str p) := by
  have := cells_get sv_len L k p h 0 (str p) rfl
  simpa using this
def maxS : Nat := 140737488355328

/-! what a checksum is -/
def cstep (r : BitVec 32) : BitVec 32 := (r >>> 1) ^^^ (3988292384#32 &&& -(r &&& 1#32))
def csteps : Nat → BitVec 32 → BitVec 32
  | 0, r => r
  | k + 1, r => csteps k (cstep r)
def cbyte (r : BitVec 32) (c : UInt8) : BitVec 32 := csteps 8 (r ^^^ c.toBitVec.setWidth 32)
def crcM (sum : BitVec 32) (parts : List (List UInt8)) : BitVec 32 := ~~~(parts.foldl (fun r s => s.foldl cbyte r) (~~~sum))
def crcS (p : List UInt8) : BitVec 32 := crcM 0#32 [p]
theorem csteps_end (k : Nat) (r : BitVec 32) : csteps (k + 1) r = cstep (csteps k r) := by
  induction k generalizing r with
  | zero => rfl
  | succ k ih => rw [csteps, ih]; rfl
theorem foldl_snoc {α β : Type} (f : β → α → β) (b : β) (l : List α) (k : Nat) (x : α) (h : l[k]? = some x) : (l.take (k + 1)).foldl f b = f ((l.take k).foldl f b) x := by
  rw [List.take_add_one, h, List.foldl_append]; rfl

theorem more_tr {W0 : World} {Fr : List HP} (sum : BitVec 32) (A : Option Addr) (c : Nat) (parts : List (List UInt8)) (hr : Rdb W0 Fr A parts.length 1 (cells sv parts)) (hl : ∀ p ∈ parts, p.length ≤ maxS) (hn : parts.length ≤ maxS) :
    Tr W0 Tryz.prog 104 [.int .u32 (sum.toNat : Int), .slice A parts.length c] Fr (fun v Rs' => v = .int .u32 ((crcM sum parts).toNat : Int) ∧ Rs' = Fr) := by
  have hmax : maxS = 140737488355328 := rfl
  refine Entry.tr (N := 42) (rs := [.tmp 4]) ⟨_, Tryz.func104, rfl, by kernel_rfl, rfl, rfl⟩ rfl ?_
  refine XC.seq fun K1 hK1 => ?_
  refine XC.region ?_
  refine x_v (r_as rfl) rfl ?_
  refine XL.nil ?_
  refine hK1 _ _ ?_
  refine XC.keep [(0, _), (1, _)] ⟨rfl, rfl, trivial⟩ ?_
  refine XC.seq fun K2 hK2 => ?_
  refine XC.region ?_
  refine x_v (r_mv rfl) rfl ?_
  refine x_v (r_bnot32 sum rfl) rfl ?_
  refine x_v (r_as rfl) rfl ?_
  refine XL.nil ?_
  refine hK2 _ _ ?_
  refine XC.keep [(1, _), (5, _)] ⟨rfl, rfl, trivial⟩ ?_
  refine XC.seq fun K3 hK3 => ?_
  refine XC.seq fun K4 hK4 => ?_
  refine XC.region ?_
  refine x_v (r_mv rfl) rfl ?_
  refine x_v (r_lensl Tryz.underlying22 rfl) rfl ?_
  refine x_v (r_mv rfl) rfl ?_
  refine XL.nil ?_
  refine hK4 _ _ ?_
  refine XC.keep [(5, _), (11, _), (12, _), (13, _)] ⟨rfl, rfl, rfl, rfl, trivial⟩ ?_
  refine XC.block ?_
  refine XC.loop (σ := Nat × BitVec 32) (fun s => [(5, .int .u32 (s.2.toNat : Int)), (11, .slice A parts.length c), (12, .int .i64 (parts.length : Int)), (13, .int .i64 (s.1 : Int))]) (fun s => Fr) (fun s => s.1 ≤ parts.length ∧ s.2 = (parts.take s.1).foldl (fun r s => s.foldl cbyte r) (~~~sum)) (fun s => parts.length - s.1) (0, ~~~sum) ?_ ⟨rfl, rfl, rfl, rfl, trivial⟩ gS ?_
  · exact ⟨Nat.zero_le _, rfl⟩
  rintro ⟨i, r⟩ ⟨hi, hr1⟩
  dsimp only at hi hr1 ⊢
  refine XC.seq fun K5 hK5 => ?_
  refine XC.region ?_
  refine x_v (r_lt rfl rfl) rfl ?_
  refine XL.nil ?_
  refine hK5 _ _ ?_
  refine XC.keep [(5, _), (11, _), (12, _), (13, _), (14, _)] ⟨rfl, rfl, rfl, rfl, rfl, trivial⟩ ?_
  refine XC.seq fun K6 hK6 => ?_
  refine XC.cond_d rfl (fun hc1 => ?_) (fun hc1 => ?_)
  · refine XC.skip ?_
    refine hK6 _ _ ?_
    refine XC.keep [(5, _), (11, _), (12, _), (13, _)] ⟨rfl, rfl, rfl, rfl, trivial⟩ ?_
    refine XC.seq fun K7 hK7 => ?_
    refine XC.block ?_
    refine XC.seq fun K8 hK8 => ?_
    obtain ⟨p, hp⟩ : ∃ p, parts[i]? = some p := ⟨_, List.getElem?_eq_getElem (by omega)⟩
    have hpl := hl p (List.mem_of_getElem? hp)
    obtain ⟨ob, oo, rfl, hat⟩ := hr.at_ (by omega)
    refine XC.region ?_
    refine x_v (r_ia (k := i) Tryz.underlying22 ty9 rfl rfl (by omega) (by omega)) rfl ?_
    refine x_v (r_ldr ty9 rfl (fun w hw => hat w (Gets.own gS hw) (i * 1) _ (by rw [Nat.mul_one]; exact sv_get hp))) rfl ?_
    refine x_v (r_as rfl) rfl ?_
    refine XL.nil ?_
    refine hK8 _ _ ?_
    refine XC.keep [(5, _), (7, _), (11, _), (12, _), (13, _)] ⟨rfl, rfl, rfl, rfl, rfl, trivial⟩ ?_
    refine XC.seq fun K9 hK9 => ?_
    refine XC.region ?_
    refine x_v (r_mv rfl) rfl ?_
    refine x_v (r_lens Tryz.underlying9 rfl) rfl ?_
    refine x_v (r_mv rfl) rfl ?_
    refine XL.nil ?_
    refine hK9 _ _ ?_
    refine XC.keep [(5, _), (7, _), (11, _), (12, _), (13, _), (18, _), (19, _)] ⟨rfl, rfl, rfl, rfl, rfl, rfl, rfl, trivial⟩ ?_
    refine XC.block ?_
    refine XC.loop (σ := Nat × BitVec 32) (fun s => [(5, .int .u32 (s.2.toNat : Int)), (7, str p), (11, .slice (some ⟨ob, oo, none⟩) parts.length c), (12, .int .i64 (parts.length : Int)), (13, .int .i64 (i : Int)), (18, .int .i64 (p.length : Int)), (19, .int .i64 (s.1 : Int))]) (fun s => Fr) (fun s => s.1 ≤ p.length ∧ s.2 = (p.take s.1).foldl cbyte r) (fun s => p.length - s.1) (0, r) ?_ ⟨rfl, rfl, rfl, rfl, rfl, rfl, rfl, trivial⟩ gS ?_
    · exact ⟨Nat.zero_le _, rfl⟩
    rintro ⟨j, r2⟩ ⟨hj, hr2⟩
    dsimp only at hj hr2 ⊢
    refine XC.seq fun K10 hK10 => ?_
    refine XC.region ?_
    refine x_v (r_lt rfl rfl) rfl ?_
    refine XL.nil ?_
    refine hK10 _ _ ?_
    refine XC.keep [(5, _), (7, _), (11, _), (12, _), (13, _), (18, _), (19, _), (20, _)] ⟨rfl, rfl, rfl, rfl, rfl, rfl, rfl, rfl, trivial⟩ ?_
    refine XC.seq fun K11 hK11 => ?_
    refine XC.cond_d rfl (fun hc2 => ?_) (fun hc2 => ?_)
    · refine XC.skip ?_
      refine hK11 _ _ ?_
      refine XC.keep [(5, _), (7, _), (11, _), (12, _), (13, _), (18, _), (19, _)] ⟨rfl, rfl, rfl, rfl, rfl, rfl, rfl, trivial⟩ ?_
      refine XC.seq fun K12 hK12 => ?_
      refine XC.block ?_
      refine XC.seq fun K13 hK13 => ?_
      obtain ⟨x, hx⟩ : ∃ x, p[j]? = some x := ⟨_, List.getElem?_eq_getElem (by omega)⟩
      refine XC.region ?_
      refine x_v (r_mv rfl) rfl ?_
      refine x_v (r_as rfl) rfl ?_
      refine XL.nil ?_
      refine hK13 _ _ ?_
      refine XC.keep [(5, _), (7, _), (8, _), (11, _), (12, _), (13, _), (18, _), (19, _)] ⟨rfl, rfl, rfl, rfl, rfl, rfl, rfl, rfl, trivial⟩ ?_
      refine XC.seq fun K14 hK14 => ?_
      refine XC.region ?_
      refine x_v (r_mv rfl) rfl ?_
      refine x_v (r_mv rfl) rfl ?_
      refine x_v (r_mv rfl) rfl ?_
      refine x_v (r_six (k := j) Tryz.underlying9 rfl rfl (by omega) hx) rfl ?_
      refine x_v (r_bcv (k := .u8) (k' := .u32) rfl x.toBitVec Tryz.underlying5 Tryz.underlying112 rfl) rfl ?_
      refine x_v (r_bxor (k := .u32) rfl r2 (x.toBitVec.setWidth 32) rfl rfl) rfl ?_
      refine x_v (r_as rfl) rfl ?_
      refine XL.nil ?_
      refine hK14 _ _ ?_
      refine XC.keep [(5, _), (7, _), (11, _), (12, _), (13, _), (18, _), (19, _)] ⟨rfl, rfl, rfl, rfl, rfl, rfl, rfl, trivial⟩ ?_
      refine XC.seq fun K15 hK15 => ?_
      refine XC.region ?_
      refine x_v (r_mv rfl) rfl ?_
      refine XL.nil ?_
      refine hK15 _ _ ?_
      refine XC.keep [(5, _), (7, _), (11, _), (12, _), (13, _), (18, _), (19, _), (28, _)] ⟨rfl, rfl, rfl, rfl, rfl, rfl, rfl, rfl, trivial⟩ ?_
      refine XC.block ?_
      refine XC.loop (σ := Nat × BitVec 32) (fun s => [(5, .int .u32 (s.2.toNat : Int)), (7, str p), (11, .slice (some ⟨ob, oo, none⟩) parts.length c), (12, .int .i64 (parts.length : Int)), (13, .int .i64 (i : Int)), (18, .int .i64 (p.length : Int)), (19, .int .i64 (j : Int)), (28, .int .i64 (s.1 : Int))]) (fun s => Fr) (fun s => s.1 ≤ 8 ∧ s.2 = csteps s.1 (r2 ^^^ x.toBitVec.setWidth 32)) (fun s => 8 - s.1) (0, r2 ^^^ x.toBitVec.setWidth 32) ?_ ⟨rfl, rfl, rfl, rfl, rfl, rfl, rfl, rfl, trivial⟩ gS ?_
      · exact ⟨Nat.zero_le _, rfl⟩
      rintro ⟨m, r3⟩ ⟨hm, hr3⟩
      dsimp only at hm hr3 ⊢
      refine XC.seq fun K16 hK16 => ?_
      refine XC.region ?_
      refine x_v (r_lt rfl rfl) rfl ?_
      refine XL.nil ?_
      refine hK16 _ _ ?_
      refine XC.keep [(5, _), (7, _), (11, _), (12, _), (13, _), (18, _), (19, _), (28, _), (29, _)] ⟨rfl, rfl, rfl, rfl, rfl, rfl, rfl, rfl, rfl, trivial⟩ ?_
      refine XC.seq fun K17 hK17 => ?_
      refine XC.cond_d rfl (fun hc3 => ?_) (fun hc3 => ?_)
      · refine XC.skip ?_
        refine hK17 _ _ ?_
        refine XC.keep [(5, _), (7, _), (11, _), (12, _), (13, _), (18, _), (19, _), (28, _)] ⟨rfl, rfl, rfl, rfl, rfl, rfl, rfl, rfl, trivial⟩ ?_
        refine XC.seq fun K18 hK18 => ?_
        refine XC.block ?_
        refine XC.region ?_
        refine x_v (r_mv rfl) rfl ?_
        refine x_v (r_bshr (k := .u32) 1 (by decide) r3 rfl rfl) rfl ?_
        refine x_v (r_mv rfl) rfl ?_
        refine x_v (r_band (k := .u32) rfl r3 1#32 rfl rfl) rfl ?_
        refine x_v (r_bneg (k := .u32) rfl (r3 &&& 1#32) rfl) rfl ?_
        refine x_v (r_band (k := .u32) rfl 3988292384#32 (-(r3 &&& 1#32)) rfl rfl) rfl ?_
        refine x_v (r_bxor (k := .u32) rfl (r3 >>> 1) (3988292384#32 &&& -(r3 &&& 1#32)) rfl rfl) rfl ?_
        refine x_v (r_as rfl) rfl ?_
        refine XL.nil ?_
        refine hK18 _ _ ?_
        refine XC.keep [(5, _), (7, _), (11, _), (12, _), (13, _), (18, _), (19, _), (28, _)] ⟨rfl, rfl, rfl, rfl, rfl, rfl, rfl, rfl, trivial⟩ ?_
        refine XC.region ?_
        refine x_v (r_add rfl rfl (by omega)) rfl ?_
        refine x_v (r_mv rfl) rfl ?_
        refine XL.nil ?_
        refine ⟨(m + 1, cstep r3), ?_, ?_, ⟨rfl, rfl, rfl, rfl, rfl, rfl, rfl, rfl, trivial⟩, gS⟩
        · exact ⟨by dsimp only; omega, by dsimp only; rw [csteps_end, ← hr3]⟩
        · dsimp only; omega
      · refine XC.exit rfl ?_
        refine hK12 _ _ ?_
        refine XC.keep [(5, _), (7, _), (11, _), (12, _), (13, _), (18, _), (19, _)] ⟨rfl, rfl, rfl, rfl, rfl, rfl, rfl, trivial⟩ ?_
        refine XC.region ?_
        refine x_v (r_add rfl rfl (by omega)) rfl ?_
        refine x_v (r_mv rfl) rfl ?_
        refine XL.nil ?_
        refine ⟨(j + 1, r3), ?_, ?_, ⟨rfl, rfl, rfl, rfl, rfl, rfl, rfl, trivial⟩, gS⟩
        · exact ⟨by dsimp only; omega, by dsimp only; rw [foldl_snoc _ _ _ _ _ hx, ← hr2, hr3, show m = 8 by omega]; rfl⟩
        · dsimp only; omega
    · refine XC.exit rfl ?_
      refine hK7 _ _ ?_
      refine XC.keep [(5, _), (11, _), (12, _), (13, _)] ⟨rfl, rfl, rfl, rfl, trivial⟩ ?_
      refine XC.region ?_
      refine x_v (r_add rfl rfl (by omega)) rfl ?_
      refine x_v (r_mv rfl) rfl ?_
      refine XL.nil ?_
      refine ⟨(i + 1, r2), ?_, ?_, ⟨rfl, rfl, rfl, rfl, trivial⟩, gS⟩
      · exact ⟨by dsimp only; omega, by dsimp only; rw [hr2, List.take_of_length_le (by omega), hr1, foldl_snoc _ _ _ _ _ hp]⟩
      · dsimp only; omega
  · refine XC.exit rfl ?_
    refine hK3 _ _ ?_
    refine XC.keep [(5, _)] ⟨rfl, trivial⟩ ?_
    refine XC.seq fun K19 hK19 => ?_
    refine XC.region ?_
    refine x_v (r_mv rfl) rfl ?_
    refine x_v (r_bnot32 r rfl) rfl ?_
    refine x_v (r_as rfl) rfl ?_
    refine XL.nil ?_
    refine hK19 _ _ ?_
    refine XC.keep [(4, _)] ⟨rfl, trivial⟩ ?_
    refine XC.ret ?_
    exact fin1 rfl (⟨by rw [hr1, List.take_of_length_le (by omega)]; rfl, rfl⟩) gS
theorem sum_tr {W0 : World} {Fr : List HP} (A : Option Addr) (c : Nat) (parts : List (List UInt8)) (hr : Rdb W0 Fr A parts.length 1 (cells sv parts)) (hl : ∀ p ∈ parts, p.length ≤ maxS) (hn : parts.length ≤ maxS) :
    Tr W0 Tryz.prog 65 [.slice A parts.length c] Fr (fun v Rs' => v = .int .u32 ((crcM 0#32 parts).toNat : Int) ∧ Rs' = Fr) := by
  refine Entry.tr (N := 5) (rs := [.tmp 2]) ⟨_, Tryz.func65, rfl, by kernel_rfl, rfl, rfl⟩ rfl ?_
  refine XC.seq fun K1 hK1 => ?_
  refine XC.region ?_
  refine x_v (r_as rfl) rfl ?_
  refine XL.nil ?_
  refine hK1 _ _ ?_
  refine XC.keep [(0, _)] ⟨rfl, trivial⟩ ?_
  refine XC.seq fun K2 hK2 => ?_
  refine XC.region ?_
  refine x_v (r_mv rfl) rfl ?_
  refine x_c (r_call0 (args := [_, _]) ⟨rfl, rfl, rfl⟩ (more_tr 0#32 A c parts hr hl hn) gS) rfl ?_
  rintro _ _ ⟨rfl, hRs⟩
  rw [hRs]
  refine x_v (r_as rfl) rfl ?_
  refine XL.nil ?_
  refine hK2 _ _ ?_
  refine XC.keep [(2, _)] ⟨rfl, trivial⟩ ?_
  refine XC.ret ?_
  exact fin1 rfl (⟨rfl, rfl⟩) gS
end Go.Proofs.YtcmdmhmgffjknaaGreatDoor

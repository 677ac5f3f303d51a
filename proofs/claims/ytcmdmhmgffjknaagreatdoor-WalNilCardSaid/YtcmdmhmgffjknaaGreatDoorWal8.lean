/- Frames, read: functions 57, 31. -/
import Derived.Test.YtcmdmhmgffjknaaGreatDoorFacts
import Derived.Test.YtcmdmhmgffjknaaGreatDoorWal7
namespace Go.Proofs.YtcmdmhmgffjknaaGreatDoor
open Go.Sx
set_option linter.unusedVariables false

def le32 : List UInt8 → BitVec 32
  | a :: b :: c :: d :: _ => ((a.toBitVec.setWidth 32 ||| b.toBitVec.setWidth 32 <<< 8) ||| c.toBitVec.setWidth 32 <<< 16) ||| d.toBitVec.setWidth 32 <<< 24
  | _ => 0#32
def openQ (n : Int) (y : Rd) : Option (List UInt8 × List UInt8) :=
  if y.2 = false ∧ 0 ≤ n ∧ n ≤ 1048576 ∧ 4 ≤ y.1.length ∧ n ≤ (y.1.length : Int) - 4 then (if le32 y.1 = crcS ((y.1.drop 4).take n.toNat) then some ((y.1.drop 4).take n.toNat, y.1.drop (4 + n.toNat)) else none) else none
def openF (s : List UInt8) : Option (List UInt8 × List UInt8) := openQ (numR (s, false)).1 (numR (s, false)).2
def openV : Option (List UInt8 × List UInt8) → Value
  | none => .tuple #[str [], str [], .int .i64 3]
  | some (p, r) => .tuple #[str p, str r, .int .i64 0]
theorem numR_good {s : List UInt8} (h : (numR (s, false)).2.2 = false) : ∃ j, 0 < j ∧ j ≤ s.length ∧ (numR (s, false)).2.1 = s.drop j := by
  unfold numR at *
  rw [if_neg (by simp)] at *
  dsimp only at *
  cases hq : numGo 0 0 s with
  | none => rw [hq] at h; simp at h
  | some q => obtain ⟨j, h1, h2, h3⟩ := numGo_len s _ _ q hq; exact ⟨j, h1, h2, h3⟩
theorem openF_suf {s p r : List UInt8} (h : openF s = some (p, r)) : ∃ j, 4 < j ∧ j ≤ s.length ∧ r = s.drop j ∧ p.length < j := by
  unfold openF openQ at h
  split at h
  · rename_i hc
    split at h
    · injection h with h; injection h with h1 h2
      obtain ⟨j, h3, h4, h5⟩ := numR_good hc.1
      have hl : (numR (s, false)).2.1.length = s.length - j := by rw [h5, List.length_drop]
      refine ⟨j + (4 + (numR (s, false)).1.toNat), by omega, by omega, by rw [← h2, h5, List.drop_drop], ?_⟩
      rw [← h1, List.length_take]; omega
    · cases h
  · cases h
theorem four_of {l : List UInt8} (h : 4 ≤ l.length) : ∃ a b c d t, l = a :: b :: c :: d :: t := by
  match l, h with
  | a :: b :: c :: d :: t, _ => exact ⟨a, b, c, d, t, rfl⟩
theorem eq_bv {n : Nat} {a b : BitVec n} : (a.toNat : Int) = (b.toNat : Int) ↔ a = b := ⟨fun h => BitVec.eq_of_toNat_eq (by omega), fun h => by rw [h]⟩

theorem open_tr {W0 : World} (s : List UInt8) (Fr : List HP) (hs : s.length ≤ maxS) : Tr W0 Tryz.prog 57 [str s] Fr (fun v Rs' => v = openV (openF s) ∧ Rs' = Fr) := by
  have hmax : maxS = 140737488355328 := rfl
  obtain ⟨j, hj, hy⟩ := numR_suf (s, false)
  have hF : openF s = openQ (numR (s, false)).1 (numR (s, false)).2 := rfl
  generalize hq : numR (s, false) = q at hy hF
  obtain ⟨n, y, bad⟩ := q
  dsimp only at hy hj hF
  subst hy
  have hl : (s.drop j).length = s.length - j := List.length_drop
  refine Entry.tr (N := 84) (rs := [.tmp 2, .tmp 3, .tmp 4]) ⟨_, Tryz.func57, rfl, by kernel_rfl, rfl, rfl⟩ rfl ?_
  refine XC.seq fun K1 hK1 => ?_
  refine XC.region ?_
  refine x_v (r_as rfl) rfl ?_
  refine x_v (r_as rfl) rfl ?_
  refine x_v (r_as rfl) rfl ?_
  refine XL.nil ?_
  refine hK1 _ _ ?_
  refine XC.keep [(0, _)] ⟨rfl, trivial⟩ ?_
  refine XC.seq fun K2 hK2 => ?_
  refine XC.region ?_
  refine x_v (r_mv rfl) rfl ?_
  refine x_c (r_call0 (args := [_]) ⟨rfl, rfl⟩ (read_tr s Fr) gS) rfl ?_
  rintro _ _ ⟨r, rfl, hRs⟩
  rw [hRs]
  refine x_v (r_as rfl) rfl ?_
  refine XL.nil ?_
  refine hK2 _ _ ?_
  refine XC.keep [(0, _), (5, _)] ⟨rfl, rfl, trivial⟩ ?_
  refine XC.seq fun K3 hK3 => ?_
  refine XC.region ?_
  refine x_v (r_mv rfl) rfl ?_
  refine x_c (r_call0 (args := [_]) ⟨rfl, rfl⟩ (num_tr r (s, false) Fr hs) gS) rfl ?_
  rintro _ _ ⟨hv, hRs⟩
  rw [hq] at hv hRs
  subst hv
  rw [hRs]
  refine x_v (r_as rfl) rfl ?_
  refine XL.nil ?_
  refine hK3 _ _ ?_
  refine XC.keep [(0, _), (5, _), (6, _)] ⟨rfl, rfl, rfl, trivial⟩ ?_
  refine XC.seq fun K4 hK4 => ?_
  refine XC.seq fun K5 hK5 => ?_
  refine XC.region ?_
  refine x_v (r_mv rfl) rfl ?_
  refine x_v (r_lens Tryz.underlying9 rfl) rfl ?_
  refine x_v (r_mv rfl) rfl ?_
  refine x_c (r_call0 (args := [_]) ⟨rfl, rfl⟩ (left_tr r (s.drop j, bad) Fr) gS) rfl ?_
  rintro _ _ ⟨rfl, hRs⟩
  rw [hRs]
  refine x_v (yv (v' := .int .i64 (j : Int)) (r_sub rfl rfl (by dsimp only; omega)) (congrArg _ (by dsimp only; omega))) rfl ?_
  refine x_v (r_as rfl) rfl ?_
  refine XL.nil ?_
  refine hK5 _ _ ?_
  refine XC.keep [(0, _), (5, _), (6, _), (7, _)] ⟨rfl, rfl, rfl, rfl, trivial⟩ ?_
  refine XC.seq fun K6 hK6 => ?_
  refine XC.region ?_
  refine x_v (r_mv rfl) rfl ?_
  refine x_c (r_call0 (args := [_]) ⟨rfl, rfl⟩ (good_tr r (s.drop j, bad) Fr) gS) rfl ?_
  rintro _ _ ⟨rfl, hRs⟩
  rw [hRs]
  dsimp only
  refine x_v (r_mv rfl) rfl ?_
  refine XL.split 19 rfl (fun hg19 => ?_) (fun hg19 => ?_)
  · refine x_want rfl rfl rfl ?_
    refine x_v (r_mv rfl) rfl ?_
    refine x_want rfl rfl rfl ?_
    refine x_v (r_ge rfl rfl) rfl ?_
    refine x_v (r_pk_t rfl rfl) rfl ?_
    refine x_v (r_mv rfl) rfl ?_
    refine XL.splitd 23 rfl (fun hg23 => ?_) (fun hg23 => ?_)
    · refine x_want rfl rfl rfl ?_
      refine x_v (r_mv rfl) rfl ?_
      refine x_want rfl rfl rfl ?_
      refine x_v (r_le rfl rfl) rfl ?_
      refine x_v (r_pk_t rfl rfl) rfl ?_
      refine x_v (r_mv rfl) rfl ?_
      refine XL.splitd 27 rfl (fun hg27 => ?_) (fun hg27 => ?_)
      · refine x_want rfl rfl rfl ?_
        refine x_v (r_mv rfl) rfl ?_
        refine x_want rfl rfl rfl ?_
        refine x_c (r_call0 (args := [_]) ⟨rfl, rfl⟩ (left_tr r (s.drop j, bad) Fr) gS) rfl ?_
        rintro _ _ ⟨rfl, hRs⟩
        rw [hRs]
        dsimp only
        refine x_want rfl rfl rfl ?_
        refine x_v (r_ge rfl rfl) rfl ?_
        refine x_v (r_pk_t rfl rfl) rfl ?_
        refine x_v (r_mv rfl) rfl ?_
        refine XL.splitd 32 rfl (fun hg32 => ?_) (fun hg32 => ?_)
        · refine x_want rfl rfl rfl ?_
          refine x_v (r_mv rfl) rfl ?_
          refine x_want rfl rfl rfl ?_
          refine x_v (r_mv rfl) rfl ?_
          refine x_want rfl rfl rfl ?_
          refine x_c (r_call0 (args := [_]) ⟨rfl, rfl⟩ (left_tr r (s.drop j, bad) Fr) gS) rfl ?_
          rintro _ _ ⟨rfl, hRs⟩
          rw [hRs]
          dsimp only
          refine x_want rfl rfl rfl ?_
          refine x_v (r_sub rfl rfl (by omega)) rfl ?_
          refine x_want rfl rfl rfl ?_
          refine x_v (r_le rfl rfl) rfl ?_
          refine x_v (r_pk_t rfl rfl) rfl ?_
          refine XL.nil ?_
          refine hK6 _ _ ?_
          refine XC.keep [(0, _), (6, _), (7, _), (38, _)] ⟨rfl, rfl, rfl, rfl, trivial⟩ ?_
          refine XC.cond_d rfl (fun hc1 => ?_) (fun hc1 => ?_)
          · refine XC.seq fun K7 hK7 => ?_
            obtain ⟨m, rfl⟩ : ∃ m : Nat, n = (m : Int) := ⟨n.toNat, by omega⟩
            refine XC.draw [] false [(0, false), (1, false), (2, false), (3, false), (4, false), (5, false), (6, false), (7, false), (8, false), (9, false), (10, false), (11, false), (12, false), (13, false), (14, false), (15, false)] (by kernel_rfl) (by kernel_rfl) ?_
            refine y_v rfl (r_mv rfl) gT rfl ?_
            refine y_v rfl (r_mv rfl) gT rfl ?_
            refine y_v rfl (r_add rfl rfl (by omega)) gT rfl ?_
            refine y_v rfl (r_mv rfl) gT rfl ?_
            refine y_v rfl (r_add rfl rfl (by omega)) gT rfl ?_
            refine y_v rfl (r_mv rfl) gT rfl ?_
            refine y_v rfl (r_add rfl rfl (by omega)) gT rfl ?_
            refine y_v rfl (yv (v' := str (((s.drop j).drop 4).take m)) (r_ssl (j + 4) (j + 4 + m) Tryz.underlying9 rfl ⟨_, by rfl⟩ ⟨_, by rfl⟩ (by omega) (by omega)) (congrArg str (by rw [List.drop_drop]; congr 1; omega))) gT rfl ?_
            refine y_v rfl (r_mv rfl) gT rfl ?_
            refine y_v rfl (r_mv rfl) gT rfl ?_
            refine y_v rfl (r_add rfl rfl (by omega)) gT rfl ?_
            refine y_v rfl (r_mv rfl) gT rfl ?_
            refine y_v rfl (r_add rfl rfl (by omega)) gT rfl ?_
            refine y_v rfl (yv (v' := str ((s.drop j).drop (4 + m))) (r_ssl (j + 4 + m) s.length Tryz.underlying9 rfl ⟨_, by rfl⟩ rfl (by omega) (by omega)) (congrArg str (by rw [List.drop_drop, List.take_of_length_le (by simp)]; congr 1; omega))) gT rfl ?_
            refine y_v rfl (r_as rfl) gT rfl ?_
            refine y_v rfl (r_as rfl) gT rfl ?_
            refine XH.nil ?_
            refine hK7 _ _ ?_
            refine XC.keep [(0, _), (2, _), (3, _), (7, _)] ⟨rfl, rfl, rfl, rfl, trivial⟩ ?_
            refine XC.seq fun K8 hK8 => ?_
            obtain ⟨a, b, c, d, t, he⟩ := four_of (l := s.drop j) (by omega)
            have hat : ∀ k : Nat, s[j + k]? = (s.drop j)[k]? := fun k => List.getElem?_drop.symm
            have ha : s[j]? = some a := by have := hat 0; rw [he] at this; exact this
            have hb : s[j + 1]? = some b := by rw [hat, he]; rfl
            have hc : s[j + 2]? = some c := by rw [hat, he]; rfl
            have hd : s[j + 3]? = some d := by rw [hat, he]; rfl
            refine XC.draw [] false [(0, false), (1, false), (2, false), (3, false), (4, false), (5, false), (6, false), (7, false), (8, false), (9, false), (10, false), (11, false), (12, false), (13, false), (14, false), (15, false), (16, false), (17, false), (18, false), (19, false), (20, false), (21, false), (22, false), (23, false), (24, false), (25, false), (26, true), (27, true), (28, false)] (by kernel_rfl) (by kernel_rfl) ?_
            refine y_v rfl (r_mv rfl) gT rfl ?_
            refine y_v rfl (r_mv rfl) gT rfl ?_
            refine y_v rfl (r_six (k := j) Tryz.underlying9 rfl rfl (by omega) ha) gT rfl ?_
            refine y_v rfl (r_bcv (k := .u8) (k' := .u32) rfl a.toBitVec Tryz.underlying5 Tryz.underlying112 rfl) gT rfl ?_
            refine y_v rfl (r_mv rfl) gT rfl ?_
            refine y_v rfl (r_mv rfl) gT rfl ?_
            refine y_v rfl (r_add rfl rfl (by omega)) gT rfl ?_
            refine y_v rfl (r_six (k := j + 1) Tryz.underlying9 rfl rfl (by omega) hb) gT rfl ?_
            refine y_v rfl (r_bcv (k := .u8) (k' := .u32) rfl b.toBitVec Tryz.underlying5 Tryz.underlying112 rfl) gT rfl ?_
            refine y_v rfl (r_bshl (k := .u32) rfl 8 (by decide) (b.toBitVec.setWidth 32) rfl rfl) gT rfl ?_
            refine y_v rfl (r_bor (k := .u32) rfl (a.toBitVec.setWidth 32) (b.toBitVec.setWidth 32 <<< 8) rfl rfl) gT rfl ?_
            refine y_v rfl (r_mv rfl) gT rfl ?_
            refine y_v rfl (r_mv rfl) gT rfl ?_
            refine y_v rfl (r_add rfl rfl (by omega)) gT rfl ?_
            refine y_v rfl (r_six (k := j + 2) Tryz.underlying9 rfl rfl (by omega) hc) gT rfl ?_
            refine y_v rfl (r_bcv (k := .u8) (k' := .u32) rfl c.toBitVec Tryz.underlying5 Tryz.underlying112 rfl) gT rfl ?_
            refine y_v rfl (r_bshl (k := .u32) rfl 16 (by decide) (c.toBitVec.setWidth 32) rfl rfl) gT rfl ?_
            refine y_v rfl (r_bor (k := .u32) rfl (a.toBitVec.setWidth 32 ||| b.toBitVec.setWidth 32 <<< 8) (c.toBitVec.setWidth 32 <<< 16) rfl rfl) gT rfl ?_
            refine y_v rfl (r_mv rfl) gT rfl ?_
            refine y_v rfl (r_mv rfl) gT rfl ?_
            refine y_v rfl (r_add rfl rfl (by omega)) gT rfl ?_
            refine y_v rfl (r_six (k := j + 3) Tryz.underlying9 rfl rfl (by omega) hd) gT rfl ?_
            refine y_v rfl (r_bcv (k := .u8) (k' := .u32) rfl d.toBitVec Tryz.underlying5 Tryz.underlying112 rfl) gT rfl ?_
            refine y_v rfl (r_bshl (k := .u32) rfl 24 (by decide) (d.toBitVec.setWidth 32) rfl rfl) gT rfl ?_
            refine y_v rfl (yv (v' := .int .u32 ((le32 (s.drop j)).toNat : Int)) (r_bor (k := .u32) rfl ((a.toBitVec.setWidth 32 ||| b.toBitVec.setWidth 32 <<< 8) ||| c.toBitVec.setWidth 32 <<< 16) (d.toBitVec.setWidth 32 <<< 24) rfl rfl) (by rw [he]; rfl)) gT rfl ?_
            refine y_v rfl (r_mv rfl) gT rfl ?_
            refine y_a rfl (r_bs (vs := [_]) rfl ⟨rfl, rfl⟩ (bs22_1_0 _)) (fun _ _ _ h => Gets.own gS h) rfl fun b79 => ?_
            refine y_c rfl (r_call0 (args := [_]) ⟨rfl, rfl⟩ (sum_tr (Fr := blk b79 9 [str (((s.drop j).drop 4).take m)] :: Fr) (some ⟨b79, 0, none⟩) 1 [((s.drop j).drop 4).take m] (Rdb.of_blk (cs := [str (((s.drop j).drop 4).take m)]) (xs := [str (((s.drop j).drop 4).take m)]) pK 0 rfl (fun j u hu => by simpa using hu)) (by simp; omega) (by simp; omega)) gS) (by rintro _ _ _ _ _ h; exact Gets.own (Gets.all _) h) rfl ?_
            rintro _ _ ⟨hv, hRs⟩
            rw [show crcM 0#32 [((s.drop j).drop 4).take m] = crcS (((s.drop j).drop 4).take m) from rfl] at hv
            subst hv
            rw [hRs]
            refine y_v rfl (r_eq rfl rfl) gT rfl ?_
            refine XH.nil ?_
            refine hK8 _ _ ?_
            refine XC.keep [(2, _), (3, _), (81, _)] ⟨rfl, rfl, rfl, trivial⟩ ?_
            refine XC.cond_d rfl (fun hc2 => ?_) (fun hc2 => ?_)
            · refine XC.seq fun K9 hK9 => ?_
              refine XC.region ?_
              refine x_v (r_mv rfl) rfl ?_
              refine x_v (r_mv rfl) rfl ?_
              refine x_v (r_as rfl) rfl ?_
              refine x_v (r_as rfl) rfl ?_
              refine x_v (r_as rfl) rfl ?_
              refine XL.nil ?_
              refine hK9 _ _ ?_
              refine XC.keep [(2, _), (3, _), (4, _)] ⟨rfl, rfl, rfl, trivial⟩ ?_
              refine XC.ret ?_
              rw [hF, openQ]
              dsimp only
              exact fin3 rfl rfl rfl (⟨by rw [if_pos ⟨by simpa using hg19, by omega, by omega, by omega, by omega⟩, Int.toNat_natCast, if_pos (eq_bv.1 hc2)]; rfl, rfl⟩) gS
            · refine XC.skip ?_
              refine hK4 _ _ ?_
              refine XC.keep [] trivial ?_
              refine XC.seq fun K10 hK10 => ?_
              refine XC.region ?_
              refine x_v (r_as rfl) rfl ?_
              refine x_v (r_as rfl) rfl ?_
              refine x_v (r_as rfl) rfl ?_
              refine XL.nil ?_
              refine hK10 _ _ ?_
              refine XC.keep [(2, _), (3, _), (4, _)] ⟨rfl, rfl, rfl, trivial⟩ ?_
              refine XC.ret ?_
              rw [hF, openQ]
              dsimp only
              exact fin3 rfl rfl rfl (⟨by rw [if_pos ⟨by simpa using hg19, by omega, by omega, by omega, by omega⟩, Int.toNat_natCast, if_neg (fun h => hc2 (eq_bv.2 h))]; rfl, rfl⟩) gS
          · refine XC.skip ?_
            refine hK4 _ _ ?_
            refine XC.keep [] trivial ?_
            refine XC.seq fun K11 hK11 => ?_
            refine XC.region ?_
            refine x_v (r_as rfl) rfl ?_
            refine x_v (r_as rfl) rfl ?_
            refine x_v (r_as rfl) rfl ?_
            refine XL.nil ?_
            refine hK11 _ _ ?_
            refine XC.keep [(2, _), (3, _), (4, _)] ⟨rfl, rfl, rfl, trivial⟩ ?_
            refine XC.ret ?_
            rw [hF, openQ]
            dsimp only
            exact fin3 rfl rfl rfl (⟨by rw [if_neg (by rintro ⟨h0, h1, h2, h3, h4⟩; first | omega | simp_all)]; rfl, rfl⟩) gS
        · refine x_unwant rfl rfl rfl rfl rfl ?_
          refine x_unwant rfl rfl rfl rfl rfl ?_
          refine x_unwant rfl rfl rfl rfl rfl ?_
          refine x_unwant rfl rfl rfl rfl rfl ?_
          refine x_unwant rfl rfl rfl rfl rfl ?_
          refine x_v (r_pk_f rfl rfl) rfl ?_
          refine XL.nil ?_
          refine hK6 _ _ ?_
          refine XC.keep [(0, _), (6, _), (7, _), (38, _)] ⟨rfl, rfl, rfl, rfl, trivial⟩ ?_
          refine XC.cond_f rfl ?_
          refine XC.skip ?_
          refine hK4 _ _ ?_
          refine XC.keep [] trivial ?_
          refine XC.seq fun K12 hK12 => ?_
          refine XC.region ?_
          refine x_v (r_as rfl) rfl ?_
          refine x_v (r_as rfl) rfl ?_
          refine x_v (r_as rfl) rfl ?_
          refine XL.nil ?_
          refine hK12 _ _ ?_
          refine XC.keep [(2, _), (3, _), (4, _)] ⟨rfl, rfl, rfl, trivial⟩ ?_
          refine XC.ret ?_
          rw [hF, openQ]
          dsimp only
          exact fin3 rfl rfl rfl (⟨by rw [if_neg (by rintro ⟨h0, h1, h2, h3, h4⟩; first | omega | simp_all)]; rfl, rfl⟩) gS
      · refine x_unwant rfl rfl rfl rfl rfl ?_
        refine x_unwant rfl rfl rfl rfl rfl ?_
        refine x_unwant rfl rfl rfl rfl rfl ?_
        refine x_v (r_pk_f rfl rfl) rfl ?_
        refine x_v (r_mv rfl) rfl ?_
        refine x_unwant rfl rfl rfl rfl rfl ?_
        refine x_unwant rfl rfl rfl rfl rfl ?_
        refine x_unwant rfl rfl rfl rfl rfl ?_
        refine x_unwant rfl rfl rfl rfl rfl ?_
        refine x_unwant rfl rfl rfl rfl rfl ?_
        refine x_v (r_pk_f rfl rfl) rfl ?_
        refine XL.nil ?_
        refine hK6 _ _ ?_
        refine XC.keep [(0, _), (6, _), (7, _), (38, _)] ⟨rfl, rfl, rfl, rfl, trivial⟩ ?_
        refine XC.cond_f rfl ?_
        refine XC.skip ?_
        refine hK4 _ _ ?_
        refine XC.keep [] trivial ?_
        refine XC.seq fun K13 hK13 => ?_
        refine XC.region ?_
        refine x_v (r_as rfl) rfl ?_
        refine x_v (r_as rfl) rfl ?_
        refine x_v (r_as rfl) rfl ?_
        refine XL.nil ?_
        refine hK13 _ _ ?_
        refine XC.keep [(2, _), (3, _), (4, _)] ⟨rfl, rfl, rfl, trivial⟩ ?_
        refine XC.ret ?_
        rw [hF, openQ]
        dsimp only
        exact fin3 rfl rfl rfl (⟨by rw [if_neg (by rintro ⟨h0, h1, h2, h3, h4⟩; first | omega | simp_all)]; rfl, rfl⟩) gS
    · refine x_unwant rfl rfl rfl rfl rfl ?_
      refine x_unwant rfl rfl rfl rfl rfl ?_
      refine x_v (r_pk_f rfl rfl) rfl ?_
      refine x_v (r_mv rfl) rfl ?_
      refine x_unwant rfl rfl rfl rfl rfl ?_
      refine x_unwant rfl rfl rfl rfl rfl ?_
      refine x_unwant rfl rfl rfl rfl rfl ?_
      refine x_v (r_pk_f rfl rfl) rfl ?_
      refine x_v (r_mv rfl) rfl ?_
      refine x_unwant rfl rfl rfl rfl rfl ?_
      refine x_unwant rfl rfl rfl rfl rfl ?_
      refine x_unwant rfl rfl rfl rfl rfl ?_
      refine x_unwant rfl rfl rfl rfl rfl ?_
      refine x_unwant rfl rfl rfl rfl rfl ?_
      refine x_v (r_pk_f rfl rfl) rfl ?_
      refine XL.nil ?_
      refine hK6 _ _ ?_
      refine XC.keep [(0, _), (6, _), (7, _), (38, _)] ⟨rfl, rfl, rfl, rfl, trivial⟩ ?_
      refine XC.cond_f rfl ?_
      refine XC.skip ?_
      refine hK4 _ _ ?_
      refine XC.keep [] trivial ?_
      refine XC.seq fun K14 hK14 => ?_
      refine XC.region ?_
      refine x_v (r_as rfl) rfl ?_
      refine x_v (r_as rfl) rfl ?_
      refine x_v (r_as rfl) rfl ?_
      refine XL.nil ?_
      refine hK14 _ _ ?_
      refine XC.keep [(2, _), (3, _), (4, _)] ⟨rfl, rfl, rfl, trivial⟩ ?_
      refine XC.ret ?_
      rw [hF, openQ]
      dsimp only
      exact fin3 rfl rfl rfl (⟨by rw [if_neg (by rintro ⟨h0, h1, h2, h3, h4⟩; first | omega | simp_all)]; rfl, rfl⟩) gS
  · refine x_unwant rfl rfl rfl rfl rfl ?_
    refine x_unwant rfl rfl rfl rfl rfl ?_
    refine x_v (r_pk_f rfl rfl) rfl ?_
    refine x_v (r_mv rfl) rfl ?_
    refine x_unwant rfl rfl rfl rfl rfl ?_
    refine x_unwant rfl rfl rfl rfl rfl ?_
    refine x_v (r_pk_f rfl rfl) rfl ?_
    refine x_v (r_mv rfl) rfl ?_
    refine x_unwant rfl rfl rfl rfl rfl ?_
    refine x_unwant rfl rfl rfl rfl rfl ?_
    refine x_unwant rfl rfl rfl rfl rfl ?_
    refine x_v (r_pk_f rfl rfl) rfl ?_
    refine x_v (r_mv rfl) rfl ?_
    refine x_unwant rfl rfl rfl rfl rfl ?_
    refine x_unwant rfl rfl rfl rfl rfl ?_
    refine x_unwant rfl rfl rfl rfl rfl ?_
    refine x_unwant rfl rfl rfl rfl rfl ?_
    refine x_unwant rfl rfl rfl rfl rfl ?_
    refine x_v (r_pk_f rfl rfl) rfl ?_
    refine XL.nil ?_
    refine hK6 _ _ ?_
    refine XC.keep [(0, _), (6, _), (7, _), (38, _)] ⟨rfl, rfl, rfl, rfl, trivial⟩ ?_
    refine XC.cond_f rfl ?_
    refine XC.skip ?_
    refine hK4 _ _ ?_
    refine XC.keep [] trivial ?_
    refine XC.seq fun K15 hK15 => ?_
    refine XC.region ?_
    refine x_v (r_as rfl) rfl ?_
    refine x_v (r_as rfl) rfl ?_
    refine x_v (r_as rfl) rfl ?_
    refine XL.nil ?_
    refine hK15 _ _ ?_
    refine XC.keep [(2, _), (3, _), (4, _)] ⟨rfl, rfl, rfl, trivial⟩ ?_
    refine XC.ret ?_
    rw [hF, openQ]
    dsimp only
    exact fin3 rfl rfl rfl (⟨by rw [if_neg (by rintro ⟨h0, h1, h2, h3, h4⟩; first | omega | simp_all)]; rfl, rfl⟩) gS
/-! all frames -/
theorem openF_lt {s p r : List UInt8} (h : openF s = some (p, r)) : r.length < s.length := by
  obtain ⟨j, h1, h2, h3, _⟩ := openF_suf h
  rw [h3, List.length_drop]; omega
def scanF (s : List UInt8) : List (List UInt8) × Nat :=
  match h : openF s with
  | none => ([], 0)
  | some (p, r) => (p :: (scanF r).1, s.length - r.length + (scanF r).2)
termination_by s.length
decreasing_by all_goals exact openF_lt h
theorem scanF_none {s : List UInt8} (h : openF s = none) : scanF s = ([], 0) := by
  rw [scanF]; split
  · rfl
  · rename_i h2; rw [h] at h2; cases h2
theorem scanF_some {s p r : List UInt8} (h : openF s = some (p, r)) : scanF s = (p :: (scanF r).1, s.length - r.length + (scanF r).2) := by
  rw [scanF]; split
  · rename_i h2; rw [h] at h2; cases h2
  · rename_i p2 r2 h2; rw [h] at h2; injection h2 with h2; injection h2 with h3 h4; subst h3; subst h4; rfl
theorem scan_tr {W0 : World} (s : List UInt8) (Fr : List HP) (hs : s.length ≤ 4194304) : Tr W0 Tryz.prog 31 [str s] Fr (fun v Rs' => ∃ A c, v = .tuple #[.slice A (scanF s).1.length c, .int .i64 ((scanF s).2 : Int)] ∧ Rs' = sl A (scanF s).1.length c 9 1 (cells sv (scanF s).1) :: Fr) := by
  have hmax : maxS = 140737488355328 := rfl
  refine Tr.nil_ 9 1 ?_
  refine Entry.tr (N := 26) (rs := [.tmp 2, .tmp 3]) ⟨_, Tryz.func31, rfl, by kernel_rfl, rfl, rfl⟩ rfl ?_
  refine XC.seq fun K1 hK1 => ?_
  refine XC.region ?_
  refine x_v (r_as rfl) rfl ?_
  refine x_v (r_as rfl) rfl ?_
  refine XL.nil ?_
  refine hK1 _ _ ?_
  refine XC.keep [(0, _), (2, _), (3, _)] ⟨rfl, rfl, rfl, trivial⟩ ?_
  refine XC.block ?_
  refine XC.loop (σ := Nat × List (List UInt8) × Option Addr × Nat) (fun q => [(0, str s), (2, .slice q.2.2.1 q.2.1.length q.2.2.2), (3, .int .i64 (q.1 : Int))]) (fun q => sl q.2.2.1 q.2.1.length q.2.2.2 9 1 (cells sv q.2.1) :: Fr) (fun q => q.1 ≤ s.length ∧ q.2.1.length ≤ q.1 ∧ scanF s = (q.2.1 ++ (scanF (s.drop q.1)).1, q.1 + (scanF (s.drop q.1)).2)) (fun q => s.length - q.1) (0, [], none, 0) ?_ ⟨rfl, rfl, rfl, trivial⟩ gS ?_
  · exact ⟨Nat.zero_le _, Nat.le_refl _, by simp⟩
  rintro ⟨e, L, A, c⟩ ⟨he, hL, hg⟩
  dsimp only at he hL hg ⊢
  refine XC.block ?_
  refine XC.seq fun K2 hK2 => ?_
  refine XC.region ?_
  refine x_v (r_mv rfl) rfl ?_
  refine x_v (r_mv rfl) rfl ?_
  refine x_v (yv (v' := str (s.drop e)) (r_ssl e s.length Tryz.underlying9 rfl ⟨_, by rfl⟩ rfl (by omega) (by omega)) (congrArg str (List.take_of_length_le (by simp)))) rfl ?_
  refine x_c (r_call0 (args := [_]) ⟨rfl, rfl⟩ (open_tr (s.drop e) (sl A L.length c 9 1 (cells sv L) :: Fr) (by rw [List.length_drop]; omega)) gS) rfl ?_
  rintro _ _ ⟨hv, hRs⟩
  rw [hRs]
  rcases hO : openF (s.drop e) with _ | ⟨p, r⟩ <;> rw [hO] at hv <;> subst hv <;> simp only [openV]
  · refine x_v (r_mv rfl) rfl ?_
    refine x_v (r_ex rfl rfl) rfl ?_
    refine x_v (r_ex rfl rfl) rfl ?_
    refine x_v (r_ex rfl rfl) rfl ?_
    refine x_v (r_as rfl) rfl ?_
    refine x_v (r_as rfl) rfl ?_
    refine x_v (r_as rfl) rfl ?_
    refine XL.nil ?_
    refine hK2 _ _ ?_
    refine XC.keep [(0, _), (2, _), (3, _), (4, _), (5, _), (6, _)] ⟨rfl, rfl, rfl, rfl, rfl, rfl, trivial⟩ ?_
    refine XC.seq fun K3 hK3 => ?_
    refine XC.seq fun K4 hK4 => ?_
    refine XC.region ?_
    refine x_v (r_mv rfl) rfl ?_
    refine x_v (r_ne rfl rfl) rfl ?_
    refine XL.nil ?_
    refine hK4 _ _ ?_
    refine XC.keep [(0, _), (2, _), (3, _), (4, _), (5, _), (16, _)] ⟨rfl, rfl, rfl, rfl, rfl, rfl, trivial⟩ ?_
    refine XC.cond_d rfl (fun hc1 => ?_) (fun hc1 => ?_)
    · refine XC.ret ?_
      have hS : scanF s = (L, e) := by rw [hg, scanF_none hO]; simp
      exact fin2 rfl rfl (⟨A, c, by rw [hS], by rw [hS]⟩) gS
    · exfalso; omega
  · obtain ⟨k, hk1, hk2, rfl, hk3⟩ := openF_suf hO
    rw [List.length_drop] at hk2
    have hkl : ((s.drop e).drop k).length = s.length - e - k := by simp; omega
    refine x_v (r_mv rfl) rfl ?_
    refine x_v (r_ex rfl rfl) rfl ?_
    refine x_v (r_ex rfl rfl) rfl ?_
    refine x_v (r_ex rfl rfl) rfl ?_
    refine x_v (r_as rfl) rfl ?_
    refine x_v (r_as rfl) rfl ?_
    refine x_v (r_as rfl) rfl ?_
    refine XL.nil ?_
    refine hK2 _ _ ?_
    refine XC.keep [(0, _), (2, _), (3, _), (4, _), (5, _), (6, _)] ⟨rfl, rfl, rfl, rfl, rfl, rfl, trivial⟩ ?_
    refine XC.seq fun K5 hK5 => ?_
    refine XC.seq fun K6 hK6 => ?_
    refine XC.region ?_
    refine x_v (r_mv rfl) rfl ?_
    refine x_v (r_ne rfl rfl) rfl ?_
    refine XL.nil ?_
    refine hK6 _ _ ?_
    refine XC.keep [(0, _), (2, _), (3, _), (4, _), (5, _), (16, _)] ⟨rfl, rfl, rfl, rfl, rfl, rfl, trivial⟩ ?_
    refine XC.cond_d rfl (fun hc2 => ?_) (fun hc2 => ?_)
    · exfalso; omega
    · refine XC.skip ?_
      refine hK5 _ _ ?_
      refine XC.keep [(0, _), (2, _), (4, _), (5, _)] ⟨rfl, rfl, rfl, rfl, trivial⟩ ?_
      refine XC.seq fun K7 hK7 => ?_
      refine XC.region ?_
      refine x_v (r_mv rfl) rfl ?_
      refine x_v (r_mv rfl) rfl ?_
      refine x_a (r_bs (vs := [_]) rfl ⟨rfl, rfl⟩ (bs22_1_0 _)) rfl fun b19 => ?_
      refine x_a (r_app Tryz.underlying22 ty9 rfl (by decide) rfl rfl pK (Rdb.of_blk (cs := [str p]) (xs := [str p]) pK 0 (by rfl) (fun j u hu => by simpa using hu)) rfl (by unfold maxLen; omega) (by omega)) rfl fun ⟨A20, c20⟩ => ?_
      refine x_v (r_as rfl) rfl ?_
      refine XL.nil ?_
      refine hK7 _ _ ?_
      refine XC.keep [(0, _), (2, _), (5, _)] ⟨rfl, rfl, rfl, trivial⟩ ?_
      refine XC.region ?_
      refine x_v (r_mv rfl) rfl ?_
      refine x_v (r_lens Tryz.underlying9 rfl) rfl ?_
      refine x_v (r_mv rfl) rfl ?_
      refine x_v (r_lens Tryz.underlying9 rfl) rfl ?_
      refine x_v (yv (v' := .int .i64 ((e + k : Nat) : Int)) (r_sub rfl rfl (by omega)) (congrArg _ (by omega))) rfl ?_
      refine x_v (r_as rfl) rfl ?_
      refine XL.nil ?_
      rw [show L.length + 1 = (L ++ [p]).length by simp, show cells sv L ++ [str p] = cells sv (L ++ [p]) by rw [cells_app]; rfl]
      refine ⟨(e + k, L ++ [p], A20, c20), ?_, ?_, ⟨rfl, rfl, rfl, trivial⟩, gS⟩
      · exact ⟨by dsimp only; omega, by simp; omega, by dsimp only; rw [hg, scanF_some hO, ← List.drop_drop, List.append_assoc, List.singleton_append, List.length_drop]; congr 1; omega⟩
      · dsimp only; omega
end Go.Proofs.YtcmdmhmgffjknaaGreatDoor

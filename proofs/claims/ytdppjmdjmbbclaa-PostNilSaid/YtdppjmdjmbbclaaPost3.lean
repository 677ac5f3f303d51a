/- Letters: what the functions of package post do to memory (3). -/
import Derived.Test.YtdppjmdjmbbclaaPost2
namespace Go.Proofs.Ytdppjmdjmbbclaa
open Go.Sx
set_option linter.unusedVariables false

abbrev Lt := Int × Int × List UInt8
def lc (l : Lt) : List Value := [.int .i64 l.1, .int .i64 l.2.1, str l.2.2]
theorem lc_len (l : Lt) : (lc l).length = 3 := rfl
theorem lc_one (l : Lt) : (lc l).all (·.oneCell') = true := rfl
def kth (L : List Lt) (k : Int) : Option Lt := if k < 0 then none else L[k.toNat]?
def zl : Lt := (0, 0, [])
def atV : Option Lt → Value
  | some l => .tuple #[.agg (lc l).toArray, .bool true]
  | none => .tuple #[.agg (lc zl).toArray, .bool false]
theorem kth_some {L : List Lt} {k : Int} (h : 0 ≤ k ∧ k < L.length) : ∃ l, kth L k = some l ∧ L[k.toNat]? = some l := by
  unfold kth
  rw [if_neg (by omega)]
  exact ⟨_, List.getElem?_eq_getElem (by omega), List.getElem?_eq_getElem (by omega)⟩
theorem kth_none {L : List Lt} {k : Int} (h : ¬ (0 ≤ k ∧ k < L.length)) : kth L k = none := by
  unfold kth
  split
  · rfl
  · exact List.getElem?_eq_none (by omega)

theorem new_tr {W0 : World} {Fr : List HP} (m : Int) :
    Tr W0 Try.prog 11 [.int .i64 m] Fr (fun v Rs' => (¬ (1 ≤ m ∧ m ≤ 512) ∧ v = .tuple #[.pointer none, .int .i64 1] ∧ Rs' = Fr) ∨ ((1 ≤ m ∧ m ≤ 512) ∧ ∃ b, v = .tuple #[.pointer (some ⟨b, 0, none⟩), .int .i64 0] ∧ Rs' = PR b 71 none 0 0 m [] Fr)) := by
  refine Entry.tr (N := 13) (rs := [.tmp 2, .tmp 3]) ⟨_, Try.func11, rfl, by kernel_rfl, rfl, rfl⟩ rfl ?_
  refine XC.seq fun K1 hK1 => ?_
  refine XC.region ?_
  refine x_v (r_as rfl) rfl ?_
  refine x_v (r_as rfl) rfl ?_
  refine XL.nil ?_
  refine hK1 _ _ ?_
  refine XC.keep [(0, _)] ⟨rfl, trivial⟩ ?_
  refine XC.seq fun K2 hK2 => ?_
  refine XC.seq fun K3 hK3 => ?_
  refine XC.region ?_
  refine x_v (r_mv rfl) rfl ?_
  refine x_v (r_lt rfl rfl) rfl ?_
  refine x_v (r_mv rfl) rfl ?_
  refine XL.splitd 6 rfl (fun hg6 => ?_) (fun hg6 => ?_)
  · refine x_unwant rfl rfl rfl rfl rfl ?_
    refine x_unwant rfl rfl rfl rfl rfl ?_
    refine x_v (r_pk_t rfl rfl) rfl ?_
    refine XL.nil ?_
    refine hK3 _ _ ?_
    refine XC.keep [(0, _), (9, _)] ⟨rfl, rfl, trivial⟩ ?_
    refine XC.cond_t rfl ?_
    refine XC.seq fun K4 hK4 => ?_
    refine XC.region ?_
    refine x_v (r_as rfl) rfl ?_
    refine x_v (r_as rfl) rfl ?_
    refine XL.nil ?_
    refine hK4 _ _ ?_
    refine XC.keep [(2, _), (3, _)] ⟨rfl, rfl, trivial⟩ ?_
    refine XC.ret ?_
    exact fin2 rfl rfl (Or.inl ⟨by omega, rfl, rfl⟩) (by repeat (first | exact Gets.done _ | exact Gets.all _ | (apply Gets.step; focus ((repeat (first | exact Pick.head _ _ | apply Pick.tail)); done)) | apply Gets.drop))
  · refine x_want rfl rfl rfl ?_
    refine x_v (r_mv rfl) rfl ?_
    refine x_want rfl rfl rfl ?_
    refine x_v (r_gt rfl rfl) rfl ?_
    refine x_v (r_pk_f rfl rfl) rfl ?_
    refine XL.nil ?_
    refine hK3 _ _ ?_
    refine XC.keep [(0, _), (9, _)] ⟨rfl, rfl, trivial⟩ ?_
    refine XC.cond_d rfl (fun hc2 => ?_) (fun hc2 => ?_)
    · refine XC.seq fun K5 hK5 => ?_
      refine XC.region ?_
      refine x_v (r_as rfl) rfl ?_
      refine x_v (r_as rfl) rfl ?_
      refine XL.nil ?_
      refine hK5 _ _ ?_
      refine XC.keep [(2, _), (3, _)] ⟨rfl, rfl, trivial⟩ ?_
      refine XC.ret ?_
      exact fin2 rfl rfl (Or.inl ⟨by omega, rfl, rfl⟩) (by repeat (first | exact Gets.done _ | exact Gets.all _ | (apply Gets.step; focus ((repeat (first | exact Pick.head _ _ | apply Pick.tail)); done)) | apply Gets.drop))
    · refine XC.skip ?_
      refine hK2 _ _ ?_
      refine XC.keep [(0, _)] ⟨rfl, trivial⟩ ?_
      refine XC.seq fun K6 hK6 => ?_
      refine XC.nil_ 29 3 ?_
      refine XC.region ?_
      refine x_v (r_mv rfl) rfl ?_
      refine x_v (r_bd (vs := [_]) rfl ⟨rfl, rfl⟩ (bd71_1 _)) rfl ?_
      refine x_a (r_bx rfl rfl) rfl fun b12 => ?_
      refine x_v (r_as rfl) rfl ?_
      refine x_v (r_as rfl) rfl ?_
      refine XL.nil ?_
      refine hK6 _ _ ?_
      refine XC.keep [(2, _), (3, _)] ⟨rfl, rfl, trivial⟩ ?_
      refine XC.ret ?_
      exact fin2 rfl rfl (Or.inr ⟨by omega, _, rfl, rfl⟩) (by repeat (first | exact Gets.done _ | exact Gets.all _ | (apply Gets.step; focus ((repeat (first | exact Pick.head _ _ | apply Pick.tail)); done)) | apply Gets.drop))

theorem rnew_tr {W0 : World} {Fr : List HP} (m : Int) :
    Tr W0 Try.prog 16 [.int .i64 m] Fr (fun v Rs' => (¬ (1 ≤ m ∧ m ≤ 512) ∧ v = .tuple #[.pointer none, .int .i64 1] ∧ Rs' = Fr) ∨ ((1 ≤ m ∧ m ≤ 512) ∧ ∃ b, v = .tuple #[.pointer (some ⟨b, 0, none⟩), .int .i64 0] ∧ Rs' = PR b 48 none 0 0 m [] Fr)) := by
  refine Entry.tr (N := 13) (rs := [.tmp 2, .tmp 3]) ⟨_, Try.func16, rfl, by kernel_rfl, rfl, rfl⟩ rfl ?_
  refine XC.seq fun K1 hK1 => ?_
  refine XC.region ?_
  refine x_v (r_as rfl) rfl ?_
  refine x_v (r_as rfl) rfl ?_
  refine XL.nil ?_
  refine hK1 _ _ ?_
  refine XC.keep [(0, _)] ⟨rfl, trivial⟩ ?_
  refine XC.seq fun K2 hK2 => ?_
  refine XC.seq fun K3 hK3 => ?_
  refine XC.region ?_
  refine x_v (r_mv rfl) rfl ?_
  refine x_v (r_lt rfl rfl) rfl ?_
  refine x_v (r_mv rfl) rfl ?_
  refine XL.splitd 6 rfl (fun hg6 => ?_) (fun hg6 => ?_)
  · refine x_unwant rfl rfl rfl rfl rfl ?_
    refine x_unwant rfl rfl rfl rfl rfl ?_
    refine x_v (r_pk_t rfl rfl) rfl ?_
    refine XL.nil ?_
    refine hK3 _ _ ?_
    refine XC.keep [(0, _), (9, _)] ⟨rfl, rfl, trivial⟩ ?_
    refine XC.cond_t rfl ?_
    refine XC.seq fun K4 hK4 => ?_
    refine XC.region ?_
    refine x_v (r_as rfl) rfl ?_
    refine x_v (r_as rfl) rfl ?_
    refine XL.nil ?_
    refine hK4 _ _ ?_
    refine XC.keep [(2, _), (3, _)] ⟨rfl, rfl, trivial⟩ ?_
    refine XC.ret ?_
    exact fin2 rfl rfl (Or.inl ⟨by omega, rfl, rfl⟩) (by repeat (first | exact Gets.done _ | exact Gets.all _ | (apply Gets.step; focus ((repeat (first | exact Pick.head _ _ | apply Pick.tail)); done)) | apply Gets.drop))
  · refine x_want rfl rfl rfl ?_
    refine x_v (r_mv rfl) rfl ?_
    refine x_want rfl rfl rfl ?_
    refine x_v (r_gt rfl rfl) rfl ?_
    refine x_v (r_pk_f rfl rfl) rfl ?_
    refine XL.nil ?_
    refine hK3 _ _ ?_
    refine XC.keep [(0, _), (9, _)] ⟨rfl, rfl, trivial⟩ ?_
    refine XC.cond_d rfl (fun hc2 => ?_) (fun hc2 => ?_)
    · refine XC.seq fun K5 hK5 => ?_
      refine XC.region ?_
      refine x_v (r_as rfl) rfl ?_
      refine x_v (r_as rfl) rfl ?_
      refine XL.nil ?_
      refine hK5 _ _ ?_
      refine XC.keep [(2, _), (3, _)] ⟨rfl, rfl, trivial⟩ ?_
      refine XC.ret ?_
      exact fin2 rfl rfl (Or.inl ⟨by omega, rfl, rfl⟩) (by repeat (first | exact Gets.done _ | exact Gets.all _ | (apply Gets.step; focus ((repeat (first | exact Pick.head _ _ | apply Pick.tail)); done)) | apply Gets.drop))
    · refine XC.skip ?_
      refine hK2 _ _ ?_
      refine XC.keep [(0, _)] ⟨rfl, trivial⟩ ?_
      refine XC.seq fun K6 hK6 => ?_
      refine XC.nil_ 29 3 ?_
      refine XC.region ?_
      refine x_v (r_mv rfl) rfl ?_
      refine x_v (r_bd (vs := [_]) rfl ⟨rfl, rfl⟩ (bd48_1 _)) rfl ?_
      refine x_a (r_bx rfl rfl) rfl fun b12 => ?_
      refine x_v (r_as rfl) rfl ?_
      refine x_v (r_as rfl) rfl ?_
      refine XL.nil ?_
      refine hK6 _ _ ?_
      refine XC.keep [(2, _), (3, _)] ⟨rfl, rfl, trivial⟩ ?_
      refine XC.ret ?_
      exact fin2 rfl rfl (Or.inr ⟨by omega, _, rfl, rfl⟩) (by repeat (first | exact Gets.done _ | exact Gets.all _ | (apply Gets.step; focus ((repeat (first | exact Pick.head _ _ | apply Pick.tail)); done)) | apply Gets.drop))

theorem len_tr {W0 : World} {Fr : List HP} (b : Nat) (A : Option Addr) (n c : Nat) (m : Int) (xs : List Value) :
    Tr W0 Try.prog 15 [.pointer (some ⟨b, 0, none⟩)] (PR b 71 A n c m xs Fr) (fun v Rs' => v = .int .i64 n ∧ Rs' = PR b 71 A n c m xs Fr) := by
  unfold PR
  refine Entry.tr (N := 11) (rs := [.tmp 2]) ⟨_, Try.func15, rfl, by kernel_rfl, rfl, rfl⟩ rfl ?_
  refine XC.seq fun K1 hK1 => ?_
  refine XC.region ?_
  refine x_v (r_as rfl) rfl ?_
  refine XL.nil ?_
  refine hK1 _ _ ?_
  refine XC.keep [(0, _)] ⟨rfl, trivial⟩ ?_
  refine XC.seq fun K2 hK2 => ?_
  refine XC.seq fun K3 hK3 => ?_
  refine XC.region ?_
  refine x_v (r_mv rfl) rfl ?_
  refine x_v (r_peq_some Try.underlying23 rfl rfl) rfl ?_
  refine XL.nil ?_
  refine hK3 _ _ ?_
  refine XC.keep [(0, _), (4, _)] ⟨rfl, rfl, trivial⟩ ?_
  refine XC.cond_f rfl ?_
  refine XC.skip ?_
  refine hK2 _ _ ?_
  refine XC.keep [(0, _)] ⟨rfl, trivial⟩ ?_
  refine XC.seq fun K4 hK4 => ?_
  refine XC.region ?_
  refine x_v (r_mv rfl) rfl ?_
  refine x_v (r_nc rfl) rfl ?_
  refine x_v (r_fa fo71_0 rfl) rfl ?_
  refine x_v (r_fa fo69_0 rfl) rfl ?_
  refine x_v (r_ld ty22 rfl (by repeat (first | exact Pick.head _ _ | apply Pick.tail)) (by rfl)) rfl ?_
  refine x_v (r_lensl Try.underlying22 rfl) rfl ?_
  refine x_v (r_as rfl) rfl ?_
  refine XL.nil ?_
  refine hK4 _ _ ?_
  refine XC.keep [(2, _)] ⟨rfl, trivial⟩ ?_
  refine XC.ret ?_
  exact fin1 rfl (⟨rfl, rfl⟩) (by repeat (first | exact Gets.done _ | exact Gets.all _ | (apply Gets.step; focus ((repeat (first | exact Pick.head _ _ | apply Pick.tail)); done)) | apply Gets.drop))

theorem at_tr {W0 : World} {Fr : List HP} (b : Nat) (k : Int) (A : Option Addr) (n c : Nat) (m : Int) (L : List Lt) (hL : L.length = n) :
    Tr W0 Try.prog 21 [.pointer (some ⟨b, 0, none⟩), .int .i64 k] (PR b 71 A n c m (cells lc L) Fr) (fun v Rs' => v = atV (kth L k) ∧ Rs' = PR b 71 A n c m (cells lc L) Fr) := by
  unfold PR
  refine Entry.tr (N := 25) (rs := [.cell 4 29, .tmp 5]) ⟨_, Try.func21, rfl, by kernel_rfl, rfl, rfl⟩ rfl ?_
  refine XC.seq fun K1 hK1 => ?_
  refine XC.region ?_
  refine x_a (r_al ty29 rfl) rfl fun b4 => ?_
  refine x_v (r_as rfl) rfl ?_
  refine XL.nil ?_
  refine hK1 _ _ ?_
  refine XC.keep [(0, _), (1, _), (4, _)] ⟨rfl, rfl, rfl, trivial⟩ ?_
  refine XC.seq fun K2 hK2 => ?_
  refine XC.seq fun K3 hK3 => ?_
  refine XC.region ?_
  refine x_v (r_mv rfl) rfl ?_
  refine x_v (r_peq_some Try.underlying23 rfl rfl) rfl ?_
  refine x_v (r_mv rfl) rfl ?_
  refine x_want rfl rfl rfl ?_
  refine x_v (r_mv rfl) rfl ?_
  refine x_want rfl rfl rfl ?_
  refine x_v (r_nc rfl) rfl ?_
  refine x_want rfl rfl rfl ?_
  refine x_v (r_fa fo71_0 rfl) rfl ?_
  refine x_want rfl rfl rfl ?_
  refine x_v (r_mv rfl) rfl ?_
  refine x_want rfl rfl rfl ?_
  refine x_c (r_call0 (args := [_, _]) ⟨rfl, rfl, rfl⟩ (has_tr b k A n c 71 [.int .i64 m]) (by repeat (first | exact Gets.done _ | exact Gets.all _ | (apply Gets.step; focus ((repeat (first | exact Pick.head _ _ | apply Pick.tail)); done)) | apply Gets.drop))) rfl ?_
  rintro _ _ ⟨rfl, rfl⟩
  refine x_want rfl rfl rfl ?_
  refine x_v (r_not_d rfl) rfl ?_
  refine x_v (r_pk_f rfl rfl) rfl ?_
  refine XL.nil ?_
  refine hK3 _ _ ?_
  refine XC.keep [(0, _), (1, _), (4, _), (15, _)] ⟨rfl, rfl, rfl, rfl, trivial⟩ ?_
  refine XC.cond_d rfl (fun hc1 => ?_) (fun hc1 => ?_)
  · refine XC.seq fun K4 hK4 => ?_
    refine XC.region ?_
    refine x_v (r_bd (vs := []) rfl rfl bd29_z) rfl ?_
    refine x_e (r_st ty29 rfl rfl rfl rfl rfl (by repeat (first | exact Upd.head _ _ _ | apply Upd.tail)) (by repeat (first | exact Over.nil _ | apply Over.put | apply Over.skip))) ?_
    refine x_v (r_as rfl) rfl ?_
    refine XL.nil ?_
    refine hK4 _ _ ?_
    refine XC.keep [(4, _), (5, _)] ⟨rfl, rfl, trivial⟩ ?_
    refine XC.ret ?_
    have hk := kth_none (L := L) (k := k) (by omega)
    exact finc2 ty29 rfl rfl (by repeat (first | exact Pick.head _ _ | apply Pick.tail)) (by rfl) (⟨by rw [hk]; rfl, rfl⟩) (by repeat (first | exact Gets.done _ | exact Gets.all _ | (apply Gets.step; focus ((repeat (first | exact Pick.head _ _ | apply Pick.tail)); done)) | apply Gets.drop))
  · refine XC.skip ?_
    refine hK2 _ _ ?_
    refine XC.keep [(0, _), (1, _), (4, _)] ⟨rfl, rfl, rfl, trivial⟩ ?_
    refine XC.seq fun K5 hK5 => ?_
    refine XC.region ?_
    obtain ⟨l, hk, hl⟩ := kth_some (L := L) (k := k) (by omega)
    refine XL.open_ (by repeat (first | exact Pick.head _ _ | apply Pick.tail)) (by omega) fun g cur hA h1 h2 h3 h4 => ?_
    subst hA
    refine x_v (r_mv rfl) rfl ?_
    refine x_v (r_nc rfl) rfl ?_
    refine x_v (r_fa fo71_0 rfl) rfl ?_
    refine x_v (r_fa fo69_0 rfl) rfl ?_
    refine x_v (r_ld ty22 rfl (by repeat (first | exact Pick.head _ _ | apply Pick.tail)) (by rfl)) rfl ?_
    refine x_v (r_mv rfl) rfl ?_
    refine x_v (r_ia (k := k.toNat) Try.underlying22 ty29 rfl rfl (by omega) (by omega)) rfl ?_
    refine x_v (r_lda (l' := lc l) ty29 rfl (by repeat (first | exact Pick.head _ _ | apply Pick.tail)) rfl (elem_at lc_len h4 hl)) rfl ?_
    refine XL.shut_ (by repeat (first | exact Pick.head _ _ | apply Pick.tail)) h1 h2 h3 h4 ?_
    refine x_e (r_st ty29 rfl rfl rfl rfl rfl (by repeat (first | exact Upd.head _ _ _ | apply Upd.tail)) (by repeat (first | exact Over.nil _ | apply Over.put | apply Over.skip))) ?_
    refine x_v (r_as rfl) rfl ?_
    refine XL.nil ?_
    refine hK5 _ _ ?_
    refine XC.keep [(4, _), (5, _)] ⟨rfl, rfl, trivial⟩ ?_
    refine XC.ret ?_
    exact finc2 ty29 rfl rfl (by repeat (first | exact Pick.head _ _ | apply Pick.tail)) (by rfl) (⟨by rw [hk]; rfl, rfl⟩) (by repeat (first | exact Gets.done _ | exact Gets.all _ | (apply Gets.step; focus ((repeat (first | exact Pick.head _ _ | apply Pick.tail)); done)) | apply Gets.drop))
end Go.Proofs.Ytdppjmdjmbbclaa

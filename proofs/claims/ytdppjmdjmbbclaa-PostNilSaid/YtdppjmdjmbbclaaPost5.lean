/- Letters: what the functions of package post and of the document's answer do to memory (5). -/
import Derived.Test.YtdppjmdjmbbclaaPost4
namespace Go.Proofs.Ytdppjmdjmbbclaa
open Go.Sx
set_option linter.unusedVariables false

/-- A post that has these letters. -/
def PL (b T : Nat) (A : Option Addr) (c : Nat) (m : Int) (L : List Lt) (Fr : List HP) : List HP := blk b T [.slice A L.length c, .int .i64 m] :: sl A L.length c 29 3 (cells lc L) :: Fr

theorem erase_eq (L : List Lt) (k : Nat) : L.take k ++ L.drop (k + 1) = L.eraseIdx k := (List.eraseIdx_eq_take_drop_succ L k).symm
theorem erase_len {L : List Lt} {k : Nat} (h : k < L.length) : k + (L.length - (k + 1)) = (L.eraseIdx k).length := by rw [List.length_eraseIdx, if_pos h]; omega

theorem pull_tr {W0 : World} {Fr : List HP} (b T : Nat) (A : Option Addr) (c : Nat) (m : Int) (L : List Lt) (k : Nat) (l : Lt) (hl : L[k]? = some l) (hn : L.length ≤ 100000) :
    Tr W0 Try.prog 34 [.pointer (some ⟨b, 0, none⟩), .int .i64 k] (PL b T A c m L Fr) (fun v Rs' => v = .agg (lc l).toArray ∧ Rs' = PL b T A c m (L.eraseIdx k) Fr) := by
  unfold PL
  have hk : k < L.length := (List.getElem?_eq_some_iff.1 hl).1
  refine Entry.tr (N := 25) (rs := [.cell 4 29]) ⟨_, Try.func34, rfl, by kernel_rfl, rfl, rfl⟩ rfl ?_
  refine XC.seq fun K1 hK1 => ?_
  refine XC.region ?_
  refine x_a (r_al ty29 rfl) rfl fun b4 => ?_
  refine XL.nil ?_
  refine hK1 _ _ ?_
  refine XC.keep [(0, _), (1, _), (4, _)] ⟨rfl, rfl, rfl, trivial⟩ ?_
  refine XC.seq fun K2 hK2 => ?_
  refine XC.region ?_
  refine x_v (r_mv rfl) rfl ?_
  refine x_v (r_nc rfl) rfl ?_
  refine x_v (r_fa fo69_0 rfl) rfl ?_
  refine XL.open_ (by repeat (first | exact Pick.head _ _ | apply Pick.tail)) (by omega) fun g cur hA h1 h2 h3 h4 => ?_
  subst hA
  refine x_v (r_ld ty22 rfl (by repeat (first | exact Pick.head _ _ | apply Pick.tail)) (by rfl)) rfl ?_
  refine x_v (r_mv rfl) rfl ?_
  refine x_v (r_ia (k := k) Try.underlying22 ty29 rfl rfl (by omega) (by omega)) rfl ?_
  refine x_v (r_lda (l' := lc l) ty29 rfl (by repeat (first | exact Pick.head _ _ | apply Pick.tail)) rfl (elem_at lc_len h4 hl)) rfl ?_
  refine XL.shut_ (by repeat (first | exact Pick.head _ _ | apply Pick.tail)) h1 h2 h3 h4 ?_
  refine x_a (r_al ty29 rfl) rfl fun b5 => ?_
  refine x_e (r_st ty29 rfl rfl rfl rfl rfl (by repeat (first | exact Upd.head _ _ _ | apply Upd.tail)) (by repeat (first | exact Over.nil _ | apply Over.put | apply Over.skip))) ?_
  refine XL.nil ?_
  refine hK2 _ _ ?_
  refine XC.keep [(0, _), (1, _), (4, _), (5, _)] ⟨rfl, rfl, rfl, rfl, trivial⟩ ?_
  refine XC.seq fun K3 hK3 => ?_
  refine XC.region ?_
  refine x_v (r_mv rfl) rfl ?_
  refine x_v (r_mv rfl) rfl ?_
  refine x_v (r_nc rfl) rfl ?_
  refine x_v (r_fa fo69_0 rfl) rfl ?_
  refine x_v (r_ld ty22 rfl (by repeat (first | exact Pick.head _ _ | apply Pick.tail)) (by rfl)) rfl ?_
  refine x_v (r_mv rfl) rfl ?_
  refine x_v (r_mv rfl) rfl ?_
  refine x_v (r_add rfl rfl (by omega)) rfl ?_
  refine x_c (r_call0 (args := [_, _, _]) ⟨rfl, rfl, rfl, rfl⟩ (delete_tr _ L.length c L rfl k (k + 1) (by omega) (by omega)) (by repeat (first | exact Gets.done _ | exact Gets.all _ | (apply Gets.step; focus ((repeat (first | exact Pick.head _ _ | apply Pick.tail)); done)) | apply Gets.drop))) rfl ?_
  rintro _ _ ⟨rfl, rfl⟩
  rw [erase_len hk, erase_eq]
  refine x_v (r_nc rfl) rfl ?_
  refine x_v (r_fa fo69_0 rfl) rfl ?_
  refine x_e (r_st ty22 rfl rfl rfl rfl rfl (by repeat (first | exact Upd.head _ _ _ | apply Upd.tail)) (by repeat (first | exact Over.nil _ | apply Over.put | apply Over.skip))) ?_
  refine XL.nil ?_
  refine hK3 _ _ ?_
  refine XC.keep [(4, _), (5, _)] ⟨rfl, rfl, trivial⟩ ?_
  refine XC.seq fun K4 hK4 => ?_
  refine XC.region ?_
  refine x_v (r_lda (l' := [_, _, _]) ty29 rfl (by repeat (first | exact Pick.head _ _ | apply Pick.tail)) rfl (Sub.get (by repeat (first | exact Sub.nil _ | apply Sub.take | apply Sub.skip)))) rfl ?_
  refine x_e (r_st ty29 rfl rfl rfl rfl rfl (by repeat (first | exact Upd.head _ _ _ | apply Upd.tail)) (by repeat (first | exact Over.nil _ | apply Over.put | apply Over.skip))) ?_
  refine XL.nil ?_
  refine hK4 _ _ ?_
  refine XC.keep [(4, _)] ⟨rfl, trivial⟩ ?_
  refine XC.ret ?_
  exact finc1 ty29 rfl (by repeat (first | exact Pick.head _ _ | apply Pick.tail)) (by rfl) (⟨rfl, rfl⟩) (by repeat (first | exact Gets.done _ | exact Gets.all _ | (apply Gets.step; focus ((repeat (first | exact Pick.head _ _ | apply Pick.tail)); done)) | apply Gets.drop))

def TakeP (b T : Nat) (m : Int) (L : List Lt) (Fr : List HP) (k : Int) (v : Value) (Rs' : List HP) : Prop :=
  (kth L k = none ∧ v = .tuple #[.agg (lc zl).toArray, .int .i64 51] ∧ ∃ A c, Rs' = PL b T A c m L Fr) ∨
  (∃ l, kth L k = some l ∧ v = .tuple #[.agg (lc l).toArray, .int .i64 0] ∧ ∃ A c, Rs' = PL b T A c m (L.eraseIdx k.toNat) Fr)

theorem take_tr {W0 : World} {Fr : List HP} (b : Nat) (A : Option Addr) (c : Nat) (m : Int) (L : List Lt) (k : Int) (hn : L.length ≤ 100000) :
    Tr W0 Try.prog 14 [.pointer (some ⟨b, 0, none⟩), .int .i64 k] (PL b 71 A c m L Fr) (TakeP b 71 m L Fr k) := by
  unfold PL
  refine Entry.tr (N := 23) (rs := [.cell 4 29, .tmp 5]) ⟨_, Try.func14, rfl, by kernel_rfl, rfl, rfl⟩ rfl ?_
  refine XC.seq fun K1 hK1 => ?_
  refine XC.region ?_
  refine x_a (r_al ty29 rfl) rfl fun b4 => ?_
  refine x_v (r_as rfl) rfl ?_
  refine XL.nil ?_
  refine hK1 _ _ ?_
  refine XC.keep [(0, _), (1, _), (4, _)] ⟨rfl, rfl, rfl, trivial⟩ ?_
  refine XC.seq fun K2 hK2 => ?_
  refine XC.block ?_
  refine XC.seq fun K3 hK3 => ?_
  refine XC.region ?_
  refine x_v (r_mv rfl) rfl ?_
  refine x_v (r_peq_some Try.underlying23 rfl rfl) rfl ?_
  refine x_v (r_as rfl) rfl ?_
  refine XL.nil ?_
  refine hK3 _ _ ?_
  refine XC.keep [(0, _), (1, _), (4, _), (6, _)] ⟨rfl, rfl, rfl, rfl, trivial⟩ ?_
  refine XC.cond_f rfl ?_
  refine XC.seq fun K4 hK4 => ?_
  refine XC.region ?_
  refine x_v (r_mv rfl) rfl ?_
  refine x_v (r_nc rfl) rfl ?_
  refine x_v (r_fa fo71_0 rfl) rfl ?_
  refine x_v (r_mv rfl) rfl ?_
  refine x_c (r_call0 (args := [_, _]) ⟨rfl, rfl, rfl⟩ (has_tr b k A L.length c 71 [.int .i64 m]) (by repeat (first | exact Gets.done _ | exact Gets.all _ | (apply Gets.step; focus ((repeat (first | exact Pick.head _ _ | apply Pick.tail)); done)) | apply Gets.drop))) rfl ?_
  rintro _ _ ⟨rfl, rfl⟩
  refine x_v (r_not_d rfl) rfl ?_
  refine x_v (r_as rfl) rfl ?_
  refine XL.nil ?_
  refine hK4 _ _ ?_
  refine XC.keep [(0, _), (1, _), (4, _), (10, _)] ⟨rfl, rfl, rfl, rfl, trivial⟩ ?_
  refine XC.cond_d rfl (fun hc2 => ?_) (fun hc2 => ?_)
  · refine XC.seq fun K5 hK5 => ?_
    refine XC.region ?_
    refine x_v (r_bd (vs := []) rfl rfl bd29_z) rfl ?_
    refine x_e (r_st ty29 rfl rfl rfl rfl rfl (by repeat (first | exact Upd.head _ _ _ | apply Upd.tail)) (by repeat (first | exact Over.nil _ | apply Over.put | apply Over.skip))) ?_
    refine x_v (r_as rfl) rfl ?_
    refine XL.nil ?_
    refine hK5 _ _ ?_
    refine XC.keep [(4, _), (5, _)] ⟨rfl, rfl, trivial⟩ ?_
    refine XC.ret ?_
    have hk := kth_none (L := L) (k := k) (by omega)
    exact finc2 ty29 rfl rfl (by repeat (first | exact Pick.head _ _ | apply Pick.tail)) (by rfl) (Or.inl ⟨hk, rfl, _, _, rfl⟩) (by repeat (first | exact Gets.done _ | exact Gets.all _ | (apply Gets.step; focus ((repeat (first | exact Pick.head _ _ | apply Pick.tail)); done)) | apply Gets.drop))
  · refine XC.skip ?_
    refine hK2 _ _ ?_
    refine XC.keep [(0, _), (1, _), (4, _)] ⟨rfl, rfl, rfl, trivial⟩ ?_
    refine XC.seq fun K6 hK6 => ?_
    refine XC.region ?_
    obtain ⟨l, hk, hl⟩ := kth_some (L := L) (k := k) (by omega)
    obtain ⟨q, rfl⟩ : ∃ q : Nat, k = q := ⟨k.toNat, by omega⟩
    rw [Int.toNat_natCast] at hl
    refine x_v (r_mv rfl) rfl ?_
    refine x_v (r_nc rfl) rfl ?_
    refine x_v (r_fa fo71_0 rfl) rfl ?_
    refine x_v (r_mv rfl) rfl ?_
    refine x_c (r_call0 (args := [_, _]) ⟨rfl, rfl, rfl⟩ (pull_tr b 71 A c m L q l hl hn) (by repeat (first | exact Gets.done _ | exact Gets.all _ | (apply Gets.step; focus ((repeat (first | exact Pick.head _ _ | apply Pick.tail)); done)) | apply Gets.drop))) rfl ?_
    rintro _ _ ⟨rfl, rfl⟩
    refine x_e (r_st ty29 rfl rfl rfl rfl rfl (by repeat (first | exact Upd.head _ _ _ | apply Upd.tail)) (by repeat (first | exact Over.nil _ | apply Over.put | apply Over.skip))) ?_
    refine x_v (r_as rfl) rfl ?_
    refine XL.nil ?_
    refine hK6 _ _ ?_
    refine XC.keep [(4, _), (5, _)] ⟨rfl, rfl, trivial⟩ ?_
    refine XC.ret ?_
    exact finc2 ty29 rfl rfl (by repeat (first | exact Pick.head _ _ | apply Pick.tail)) (by rfl) (Or.inr ⟨l, hk, rfl, _, _, rfl⟩) (by repeat (first | exact Gets.done _ | exact Gets.all _ | (apply Gets.step; focus ((repeat (first | exact Pick.head _ _ | apply Pick.tail)); done)) | apply Gets.drop))

theorem rat_tr {W0 : World} {Fr : List HP} (b : Nat) (k : Int) (A : Option Addr) (c : Nat) (m : Int) (L : List Lt) (hn : L.length ≤ 100000) :
    Tr W0 Try.prog 39 [.pointer (some ⟨b, 0, none⟩), .int .i64 k] (PL b 48 A c m L Fr) (fun v Rs' => v = atV (kth L k) ∧ Rs' = PL b 48 A c m L Fr) := by
  unfold PL
  refine Entry.tr (N := 27) (rs := [.cell 4 29, .tmp 5]) ⟨_, Try.func39, rfl, by kernel_rfl, rfl, rfl⟩ rfl ?_
  refine XC.seq fun K1 hK1 => ?_
  refine XC.region ?_
  refine x_a (r_al ty29 rfl) rfl fun b4 => ?_
  refine x_v (r_as rfl) rfl ?_
  refine XL.nil ?_
  refine hK1 _ _ ?_
  refine XC.keep [(0, _), (1, _), (4, _)] ⟨rfl, rfl, rfl, trivial⟩ ?_
  refine XC.seq fun K2 hK2 => ?_
  refine XC.seq fun K3 hK3 => ?_
  refine XC.region ?_
  refine x_v (r_as rfl) rfl ?_
  refine XL.nil ?_
  refine hK3 _ _ ?_
  refine XC.keep [(0, _), (1, _), (4, _), (6, _)] ⟨rfl, rfl, rfl, rfl, trivial⟩ ?_
  refine XC.block ?_
  refine XC.loop (σ := Nat) (fun i => [(0, .pointer (some ⟨b, 0, none⟩)), (1, .int .i64 k), (4, .pointer (some ⟨b4, 0, none⟩)), (6, .int .i64 i)]) (fun i => blk b4 29 [.int .i64 0, .int .i64 0, .string ⟨#[]⟩] :: blk b 48 [.slice A L.length c, .int .i64 m] :: sl A L.length c 29 3 (cells lc L) :: Fr) (fun i => i ≤ L.length ∧ ∀ q : Nat, q < i → ¬ (q : Int) = k) (fun i => L.length - i) 0 ?_ ⟨rfl, rfl, rfl, rfl, trivial⟩ (by repeat (first | exact Gets.done _ | exact Gets.all _ | (apply Gets.step; focus ((repeat (first | exact Pick.head _ _ | apply Pick.tail)); done)) | apply Gets.drop)) ?_
  · exact ⟨by omega, fun q h => absurd h (by omega)⟩
  rintro i hI
  refine XC.seq fun K4 hK4 => ?_
  refine XC.seq fun K5 hK5 => ?_
  refine XC.region ?_
  refine x_v (r_mv rfl) rfl ?_
  refine x_v (r_mv rfl) rfl ?_
  refine x_v (r_nc rfl) rfl ?_
  refine x_v (r_fa fo48_0 rfl) rfl ?_
  refine x_v (r_ld ty22 rfl (by repeat (first | exact Pick.head _ _ | apply Pick.tail)) (by rfl)) rfl ?_
  refine x_v (r_lensl Try.underlying22 rfl) rfl ?_
  refine x_v (r_lt rfl rfl) rfl ?_
  refine XL.nil ?_
  refine hK5 _ _ ?_
  refine XC.keep [(0, _), (1, _), (4, _), (6, _), (13, _)] ⟨rfl, rfl, rfl, rfl, rfl, trivial⟩ ?_
  refine XC.cond_d rfl (fun hc1 => ?_) (fun hc1 => ?_)
  · refine XC.skip ?_
    refine hK4 _ _ ?_
    refine XC.keep [(0, _), (1, _), (4, _), (6, _)] ⟨rfl, rfl, rfl, rfl, trivial⟩ ?_
    refine XC.seq fun K6 hK6 => ?_
    refine XC.block ?_
    refine XC.seq fun K7 hK7 => ?_
    refine XC.region ?_
    refine x_v (r_mv rfl) rfl ?_
    refine x_v (r_mv rfl) rfl ?_
    refine x_v (r_eq rfl rfl) rfl ?_
    refine XL.nil ?_
    refine hK7 _ _ ?_
    refine XC.keep [(0, _), (1, _), (4, _), (6, _), (18, _)] ⟨rfl, rfl, rfl, rfl, rfl, trivial⟩ ?_
    refine XC.cond_d rfl (fun hc2 => ?_) (fun hc2 => ?_)
    · refine XC.seq fun K8 hK8 => ?_
      refine XC.region ?_
      obtain ⟨l, hk, hl⟩ := kth_some (L := L) (k := k) (by omega)
      rw [show k.toNat = i by omega] at hl
      refine XL.open_ (by repeat (first | exact Pick.head _ _ | apply Pick.tail)) (by omega) fun g cur hA h1 h2 h3 h4 => ?_
      subst hA
      refine x_v (r_mv rfl) rfl ?_
      refine x_v (r_nc rfl) rfl ?_
      refine x_v (r_fa fo48_0 rfl) rfl ?_
      refine x_v (r_ld ty22 rfl (by repeat (first | exact Pick.head _ _ | apply Pick.tail)) (by rfl)) rfl ?_
      refine x_v (r_mv rfl) rfl ?_
      refine x_v (r_ia (k := i) Try.underlying22 ty29 rfl rfl (by omega) (by omega)) rfl ?_
      refine x_v (r_lda (l' := lc l) ty29 rfl (by repeat (first | exact Pick.head _ _ | apply Pick.tail)) rfl (elem_at lc_len h4 hl)) rfl ?_
      refine XL.shut_ (by repeat (first | exact Pick.head _ _ | apply Pick.tail)) h1 h2 h3 h4 ?_
      refine x_e (r_st ty29 rfl rfl rfl rfl rfl (by repeat (first | exact Upd.head _ _ _ | apply Upd.tail)) (by repeat (first | exact Over.nil _ | apply Over.put | apply Over.skip))) ?_
      refine x_v (r_as rfl) rfl ?_
      refine XL.nil ?_
      refine hK8 _ _ ?_
      refine XC.keep [(4, _), (5, _)] ⟨rfl, rfl, trivial⟩ ?_
      refine XC.ret ?_
      exact finc2 ty29 rfl rfl (by repeat (first | exact Pick.head _ _ | apply Pick.tail)) (by rfl) (⟨by rw [hk]; rfl, rfl⟩) (by repeat (first | exact Gets.done _ | exact Gets.all _ | (apply Gets.step; focus ((repeat (first | exact Pick.head _ _ | apply Pick.tail)); done)) | apply Gets.drop))
    · refine XC.skip ?_
      refine hK6 _ _ ?_
      refine XC.keep [(0, _), (1, _), (4, _), (6, _)] ⟨rfl, rfl, rfl, rfl, trivial⟩ ?_
      refine XC.region ?_
      refine x_v (r_mv rfl) rfl ?_
      refine x_v (r_add rfl rfl (by omega)) rfl ?_
      refine x_v (r_as rfl) rfl ?_
      refine XL.nil ?_
      refine ⟨i + 1, ?_, ?_, ⟨rfl, rfl, rfl, rfl, trivial⟩, (by repeat (first | exact Gets.done _ | exact Gets.all _ | (apply Gets.step; focus ((repeat (first | exact Pick.head _ _ | apply Pick.tail)); done)) | apply Gets.drop))⟩
      · refine ⟨by omega, fun q hq => ?_⟩; rcases Nat.lt_or_ge q i with h | h; exact hI.2 q h; omega
      · omega
  · refine XC.exit rfl ?_
    refine hK2 _ _ ?_
    refine XC.keep [(4, _)] ⟨rfl, trivial⟩ ?_
    refine XC.seq fun K9 hK9 => ?_
    refine XC.region ?_
    refine x_v (r_bd (vs := []) rfl rfl bd29_z) rfl ?_
    refine x_e (r_st ty29 rfl rfl rfl rfl rfl (by repeat (first | exact Upd.head _ _ _ | apply Upd.tail)) (by repeat (first | exact Over.nil _ | apply Over.put | apply Over.skip))) ?_
    refine x_v (r_as rfl) rfl ?_
    refine XL.nil ?_
    refine hK9 _ _ ?_
    refine XC.keep [(4, _), (5, _)] ⟨rfl, rfl, trivial⟩ ?_
    refine XC.ret ?_
    have hk := kth_none (L := L) (k := k) (by rintro ⟨h1, h2⟩; exact hI.2 k.toNat (by omega) (by omega))
    exact finc2 ty29 rfl rfl (by repeat (first | exact Pick.head _ _ | apply Pick.tail)) (by rfl) (⟨by rw [hk]; rfl, rfl⟩) (by repeat (first | exact Gets.done _ | exact Gets.all _ | (apply Gets.step; focus ((repeat (first | exact Pick.head _ _ | apply Pick.tail)); done)) | apply Gets.drop))
end Go.Proofs.Ytdppjmdjmbbclaa

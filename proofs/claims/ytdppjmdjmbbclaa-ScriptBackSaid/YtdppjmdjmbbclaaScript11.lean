/- Scripts: the pen's small functions (55, 56). -/
import Derived.Test.YtdppjmdjmbbclaaScript10
namespace Go.Proofs.Ytdppjmdjmbbclaa
open Go.Sx
set_option linter.unusedVariables false

def byteOf (i : Int) : UInt8 := UInt8.ofNat (i % 256).toNat
theorem byteOf_nat (i : Int) : ((byteOf i).toNat : Int) = i % 256 := by
  unfold byteOf
  have h1 := Int.emod_nonneg i (show (256 : Int) ≠ 0 by decide)
  have h2 := Int.emod_lt_of_pos i (show (0 : Int) < 256 by decide)
  rw [UInt8.toNat_ofNat']
  omega
theorem wrap_u8 (i : Int) : IntKind.u8.wrap i = i % 256 := by
  simp [IntKind.wrap, IntKind.bits, IntKind.signed]
def nb (i : Int) : Bool := decide (i < 0 ∨ 255 < i)
/-- The pen in memory. -/
def pn (b : Nat) (A : Option Addr) (c : Nat) (out : List UInt8) (bad : Bool) (Fr : List HP) : List HP := blk b 94 [.slice A out.length c, .bool bad] :: sl A out.length c 5 1 (bv out) :: Fr

theorem put_tr {W0 : World} {Fr : List HP} (b : Nat) (A : Option Addr) (c : Nat) (out : List UInt8) (bad : Bool) (XA : Option Addr) (n xc : Nat) (xs : List Int) (hr : Rdb W0 Fr XA n 1 (iv xs)) (hn : n ≤ 100000) (ho : out.length ≤ 70000000000000) :
    Tr W0 Try.prog 55 [.pointer (some ⟨b, 0, none⟩), .slice XA n xc] (pn b A c out bad Fr) (fun v Rs' => v = .tuple #[] ∧ ∃ A c, Rs' = pn b A c (out ++ xs.map byteOf) (bad || xs.any nb) Fr) := by
  have hxl : xs.length = n := by have := hr.len; simpa [iv] using this
  refine Entry.tr (N := 39) (rs := []) ⟨_, Try.func55, rfl, by kernel_rfl, rfl, rfl⟩ rfl ?_
  refine XC.seq fun K1 hK1 => ?_
  refine XC.region ?_
  refine x_v (r_mv rfl) rfl ?_
  refine x_v (r_lensl Try.underlying40 rfl) rfl ?_
  refine x_v (r_mv rfl) rfl ?_
  refine XL.nil ?_
  refine hK1 _ _ ?_
  refine XC.keep [(0, _), (6, _), (7, _), (8, _)] ⟨rfl, rfl, rfl, rfl, trivial⟩ ?_
  refine XC.block ?_
  refine XC.loop (σ := Nat × List UInt8 × Bool × Option Addr × Nat) (fun s => [(0, .pointer (some ⟨b, 0, none⟩)), (6, .slice XA n xc), (7, .int .i64 (n : Int)), (8, .int .i64 (s.1 : Int))]) (fun s => pn b s.2.2.2.1 s.2.2.2.2 s.2.1 s.2.2.1 Fr) (fun s => s.1 ≤ n ∧ s.2.2.1 = (bad || (xs.take s.1).any nb) ∧ s.2.1 = out ++ (xs.take s.1).map byteOf) (fun s => n - s.1) (0, out, bad, A, c) ?_ ⟨rfl, rfl, rfl, rfl, trivial⟩ (by repeat (first | exact Gets.done _ | exact Gets.all _ | (apply Gets.step; focus ((repeat (first | exact Pick.head _ _ | apply Pick.tail)); done)) | apply Gets.drop)) ?_
  · exact ⟨Nat.zero_le _, by simp, by simp⟩
  rintro ⟨i, o, bd, A1, c1⟩ ⟨hi, hb, hoo⟩
  dsimp only at hi hb hoo ⊢
  have htl : o.length ≤ 70000000100000 := by (rw [hoo]; simp; omega)
  unfold pn
  refine XC.seq fun K2 hK2 => ?_
  refine XC.region ?_
  refine x_v (r_lt rfl rfl) rfl ?_
  refine XL.nil ?_
  refine hK2 _ _ ?_
  refine XC.keep [(0, _), (6, _), (7, _), (8, _), (9, _)] ⟨rfl, rfl, rfl, rfl, rfl, trivial⟩ ?_
  refine XC.seq fun K3 hK3 => ?_
  refine XC.cond_d rfl (fun hc1 => ?_) (fun hc1 => ?_)
  · refine XC.skip ?_
    refine hK3 _ _ ?_
    refine XC.keep [(0, _), (6, _), (7, _), (8, _)] ⟨rfl, rfl, rfl, rfl, trivial⟩ ?_
    refine XC.seq fun K4 hK4 => ?_
    refine XC.block ?_
    refine XC.seq fun K5 hK5 => ?_
    refine XC.region ?_
    obtain ⟨sb, so, rfl, hat⟩ := hr.at_ (by omega)
    obtain ⟨u, hu⟩ : ∃ u, xs[i]? = some u := ⟨_, List.getElem?_eq_getElem (by omega)⟩
    refine x_v (r_ia (k := i) Try.underlying40 ty3 rfl rfl (by omega) (by omega)) rfl ?_
    refine x_v (r_ldr ty3 rfl (fun w hw => hat w (Gets.own (by repeat (first | exact Gets.done _ | exact Gets.all _ | (apply Gets.step; focus ((repeat (first | exact Pick.head _ _ | apply Pick.tail)); done)) | apply Gets.drop)) hw) (i * 1) _ (by rw [Nat.mul_one]; exact iv_get hu))) rfl ?_
    refine x_v (r_as rfl) rfl ?_
    refine XL.nil ?_
    refine hK5 _ _ ?_
    refine XC.keep [(0, _), (5, _), (6, _), (7, _), (8, _)] ⟨rfl, rfl, rfl, rfl, rfl, trivial⟩ ?_
    refine XC.seq fun K6 hK6 => ?_
    refine XC.region ?_
    refine x_v (r_mv rfl) rfl ?_
    refine x_v (r_mv rfl) rfl ?_
    refine x_v (r_nc rfl) rfl ?_
    refine x_v (r_fa fo94_1 rfl) rfl ?_
    refine x_v (r_ld ty4 rfl (by repeat (first | exact Pick.head _ _ | apply Pick.tail)) (by rfl)) rfl ?_
    refine x_v (r_mv rfl) rfl ?_
    refine XL.split 17 rfl (fun hg17 => ?_) (fun hg17 => ?_)
    · refine x_unwant rfl rfl rfl rfl rfl ?_
      refine x_unwant rfl rfl rfl rfl rfl ?_
      refine x_v (r_pk_t rfl rfl) rfl ?_
      refine x_v (r_mv rfl) rfl ?_
      refine x_unwant rfl rfl rfl rfl rfl ?_
      refine x_unwant rfl rfl rfl rfl rfl ?_
      refine x_v (r_pk_t rfl rfl) rfl ?_
      refine x_v (r_nc rfl) rfl ?_
      refine x_v (r_fa fo94_1 rfl) rfl ?_
      refine x_e (r_st ty4 rfl rfl rfl rfl rfl (by repeat (first | exact Upd.head _ _ _ | apply Upd.tail)) (by repeat (first | exact Over.nil _ | apply Over.put | apply Over.skip))) ?_
      refine XL.nil ?_
      refine hK6 _ _ ?_
      refine XC.keep [(0, _), (5, _), (6, _), (7, _), (8, _)] ⟨rfl, rfl, rfl, rfl, rfl, trivial⟩ ?_
      refine XC.region ?_
      refine x_v (r_mv rfl) rfl ?_
      refine x_v (r_mv rfl) rfl ?_
      refine x_v (r_nc rfl) rfl ?_
      refine x_v (r_fa fo94_0 rfl) rfl ?_
      refine x_v (r_ld ty92 rfl (by repeat (first | exact Pick.head _ _ | apply Pick.tail)) (by rfl)) rfl ?_
      refine x_v (r_mv rfl) rfl ?_
      refine x_v (r_cvi Try.underlying3 Try.underlying5 rfl) rfl ?_
      refine x_a (r_bs (vs := [_]) rfl ⟨rfl, rfl⟩ (bs92_1_0 _)) rfl fun b34 => ?_
      refine x_a (r_app Try.underlying92 ty5 rfl (by decide) rfl rfl (by repeat (first | exact Pick.head _ _ | apply Pick.tail)) (Rdb.of_blk (b := b34) (n := 1) (sz := 1) (xs := [.int .u8 (IntKind.u8.wrap u)]) (by repeat (first | exact Pick.head _ _ | apply Pick.tail)) 0 rfl (fun _ _ h => by rw [Nat.zero_add]; exact h)) rfl (by unfold maxLen; omega) (by omega)) rfl fun ⟨A35, c35⟩ => ?_
      dsimp only
      rw [show o.length + 1 = (o ++ [byteOf u]).length by simp, show bv o ++ [.int .u8 (IntKind.u8.wrap u)] = bv (o ++ [byteOf u]) by rw [wrap_u8, ← byteOf_nat]; simp [bv]]
      refine x_v (r_nc rfl) rfl ?_
      refine x_v (r_fa fo94_0 rfl) rfl ?_
      refine x_e (r_st ty92 rfl rfl rfl rfl rfl (by repeat (first | exact Upd.head _ _ _ | apply Upd.tail)) (by repeat (first | exact Over.nil _ | apply Over.put | apply Over.skip))) ?_
      refine XL.nil ?_
      refine hK4 _ _ ?_
      refine XC.keep [(0, _), (6, _), (7, _), (8, _)] ⟨rfl, rfl, rfl, rfl, trivial⟩ ?_
      refine XC.region ?_
      refine x_v (r_add rfl rfl (by omega)) rfl ?_
      refine x_v (r_mv rfl) rfl ?_
      refine XL.nil ?_
      refine ⟨(i + 1, o ++ [byteOf u], true, A35, c35), ?_, ?_, ⟨rfl, rfl, rfl, rfl, trivial⟩, (by repeat (first | exact Gets.done _ | exact Gets.all _ | (apply Gets.step; focus ((repeat (first | exact Pick.head _ _ | apply Pick.tail)); done)) | apply Gets.drop))⟩
      · exact ⟨by dsimp only; omega, by dsimp only; rw [tk_snoc hu, List.any_append, ← Bool.or_assoc, ← hb]; simp [hg17], by dsimp only; rw [tk_snoc hu, hoo]; simp⟩
      · dsimp only; omega
    · refine x_want rfl rfl rfl ?_
      refine x_v (r_mv rfl) rfl ?_
      refine x_want rfl rfl rfl ?_
      refine x_v (r_lt rfl rfl) rfl ?_
      refine x_v (r_pk_f rfl rfl) rfl ?_
      refine x_v (r_mv rfl) rfl ?_
      refine XL.splitd 21 rfl (fun hg21 => ?_) (fun hg21 => ?_)
      · refine x_unwant rfl rfl rfl rfl rfl ?_
        refine x_unwant rfl rfl rfl rfl rfl ?_
        refine x_v (r_pk_t rfl rfl) rfl ?_
        refine x_v (r_nc rfl) rfl ?_
        refine x_v (r_fa fo94_1 rfl) rfl ?_
        refine x_e (r_st ty4 rfl rfl rfl rfl rfl (by repeat (first | exact Upd.head _ _ _ | apply Upd.tail)) (by repeat (first | exact Over.nil _ | apply Over.put | apply Over.skip))) ?_
        refine XL.nil ?_
        refine hK6 _ _ ?_
        refine XC.keep [(0, _), (5, _), (6, _), (7, _), (8, _)] ⟨rfl, rfl, rfl, rfl, rfl, trivial⟩ ?_
        refine XC.region ?_
        refine x_v (r_mv rfl) rfl ?_
        refine x_v (r_mv rfl) rfl ?_
        refine x_v (r_nc rfl) rfl ?_
        refine x_v (r_fa fo94_0 rfl) rfl ?_
        refine x_v (r_ld ty92 rfl (by repeat (first | exact Pick.head _ _ | apply Pick.tail)) (by rfl)) rfl ?_
        refine x_v (r_mv rfl) rfl ?_
        refine x_v (r_cvi Try.underlying3 Try.underlying5 rfl) rfl ?_
        refine x_a (r_bs (vs := [_]) rfl ⟨rfl, rfl⟩ (bs92_1_0 _)) rfl fun b34 => ?_
        refine x_a (r_app Try.underlying92 ty5 rfl (by decide) rfl rfl (by repeat (first | exact Pick.head _ _ | apply Pick.tail)) (Rdb.of_blk (b := b34) (n := 1) (sz := 1) (xs := [.int .u8 (IntKind.u8.wrap u)]) (by repeat (first | exact Pick.head _ _ | apply Pick.tail)) 0 rfl (fun _ _ h => by rw [Nat.zero_add]; exact h)) rfl (by unfold maxLen; omega) (by omega)) rfl fun ⟨A35, c35⟩ => ?_
        dsimp only
        rw [show o.length + 1 = (o ++ [byteOf u]).length by simp, show bv o ++ [.int .u8 (IntKind.u8.wrap u)] = bv (o ++ [byteOf u]) by rw [wrap_u8, ← byteOf_nat]; simp [bv]]
        refine x_v (r_nc rfl) rfl ?_
        refine x_v (r_fa fo94_0 rfl) rfl ?_
        refine x_e (r_st ty92 rfl rfl rfl rfl rfl (by repeat (first | exact Upd.head _ _ _ | apply Upd.tail)) (by repeat (first | exact Over.nil _ | apply Over.put | apply Over.skip))) ?_
        refine XL.nil ?_
        refine hK4 _ _ ?_
        refine XC.keep [(0, _), (6, _), (7, _), (8, _)] ⟨rfl, rfl, rfl, rfl, trivial⟩ ?_
        refine XC.region ?_
        refine x_v (r_add rfl rfl (by omega)) rfl ?_
        refine x_v (r_mv rfl) rfl ?_
        refine XL.nil ?_
        refine ⟨(i + 1, o ++ [byteOf u], true, A35, c35), ?_, ?_, ⟨rfl, rfl, rfl, rfl, trivial⟩, (by repeat (first | exact Gets.done _ | exact Gets.all _ | (apply Gets.step; focus ((repeat (first | exact Pick.head _ _ | apply Pick.tail)); done)) | apply Gets.drop))⟩
        · exact ⟨by dsimp only; omega, by dsimp only; rw [tk_snoc hu, List.any_append]; (have h9 : nb u = true := by (unfold nb; rw [decide_eq_true_eq]; omega)); simp [h9], by dsimp only; rw [tk_snoc hu, hoo]; simp⟩
        · dsimp only; omega
      · refine x_want rfl rfl rfl ?_
        refine x_v (r_mv rfl) rfl ?_
        refine x_want rfl rfl rfl ?_
        refine x_v (r_gt rfl rfl) rfl ?_
        refine x_v (r_pk_f rfl rfl) rfl ?_
        refine x_v (r_nc rfl) rfl ?_
        refine x_v (r_fa fo94_1 rfl) rfl ?_
        refine x_e (r_st ty4 rfl rfl rfl rfl rfl (by repeat (first | exact Upd.head _ _ _ | apply Upd.tail)) (by repeat (first | exact Over.nil _ | apply Over.put | apply Over.skip))) ?_
        refine XL.nil ?_
        refine hK6 _ _ ?_
        refine XC.keep [(0, _), (5, _), (6, _), (7, _), (8, _)] ⟨rfl, rfl, rfl, rfl, rfl, trivial⟩ ?_
        refine XC.region ?_
        refine x_v (r_mv rfl) rfl ?_
        refine x_v (r_mv rfl) rfl ?_
        refine x_v (r_nc rfl) rfl ?_
        refine x_v (r_fa fo94_0 rfl) rfl ?_
        refine x_v (r_ld ty92 rfl (by repeat (first | exact Pick.head _ _ | apply Pick.tail)) (by rfl)) rfl ?_
        refine x_v (r_mv rfl) rfl ?_
        refine x_v (r_cvi Try.underlying3 Try.underlying5 rfl) rfl ?_
        refine x_a (r_bs (vs := [_]) rfl ⟨rfl, rfl⟩ (bs92_1_0 _)) rfl fun b34 => ?_
        refine x_a (r_app Try.underlying92 ty5 rfl (by decide) rfl rfl (by repeat (first | exact Pick.head _ _ | apply Pick.tail)) (Rdb.of_blk (b := b34) (n := 1) (sz := 1) (xs := [.int .u8 (IntKind.u8.wrap u)]) (by repeat (first | exact Pick.head _ _ | apply Pick.tail)) 0 rfl (fun _ _ h => by rw [Nat.zero_add]; exact h)) rfl (by unfold maxLen; omega) (by omega)) rfl fun ⟨A35, c35⟩ => ?_
        dsimp only
        rw [show o.length + 1 = (o ++ [byteOf u]).length by simp, show bv o ++ [.int .u8 (IntKind.u8.wrap u)] = bv (o ++ [byteOf u]) by rw [wrap_u8, ← byteOf_nat]; simp [bv]]
        refine x_v (r_nc rfl) rfl ?_
        refine x_v (r_fa fo94_0 rfl) rfl ?_
        refine x_e (r_st ty92 rfl rfl rfl rfl rfl (by repeat (first | exact Upd.head _ _ _ | apply Upd.tail)) (by repeat (first | exact Over.nil _ | apply Over.put | apply Over.skip))) ?_
        refine XL.nil ?_
        refine hK4 _ _ ?_
        refine XC.keep [(0, _), (6, _), (7, _), (8, _)] ⟨rfl, rfl, rfl, rfl, trivial⟩ ?_
        refine XC.region ?_
        refine x_v (r_add rfl rfl (by omega)) rfl ?_
        refine x_v (r_mv rfl) rfl ?_
        refine XL.nil ?_
        refine ⟨(i + 1, o ++ [byteOf u], decide (255 < u), A35, c35), ?_, ?_, ⟨rfl, rfl, rfl, rfl, trivial⟩, (by repeat (first | exact Gets.done _ | exact Gets.all _ | (apply Gets.step; focus ((repeat (first | exact Pick.head _ _ | apply Pick.tail)); done)) | apply Gets.drop))⟩
        · exact ⟨by dsimp only; omega, by dsimp only; rw [tk_snoc hu, List.any_append, ← Bool.or_assoc, ← hb, hg17]; (have h21 : ¬ u < 0 := by omega); simp [nb, h21], by dsimp only; rw [tk_snoc hu, hoo]; simp⟩
        · dsimp only; omega
  · refine XC.exit rfl ?_
    obtain rfl : i = xs.length := by omega
    rw [List.take_length] at hb hoo
    subst hb hoo
    exact fin0 (⟨rfl, _, _, rfl⟩) (by repeat (first | exact Gets.done _ | exact Gets.all _ | (apply Gets.step; focus ((repeat (first | exact Pick.head _ _ | apply Pick.tail)); done)) | apply Gets.drop))
end Go.Proofs.Ytdppjmdjmbbclaa

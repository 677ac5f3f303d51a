/- Polls: entries whose terms rise. -/
import Derived.Test.YtlogcldbflemfaaPoll7
namespace Go.Proofs.Ytlogcldbflemfaa
open Go.Sx Go.Rf
set_option linter.unusedVariables false

theorem rcl_tr {W0 : World} {Fr : List HP} (b3 b4 : Nat) (f t : Int) (x : En) :
    Tr W0 Try.prog 56 [.agg (ec x).toArray, .pointer (some ⟨b3, 0, none⟩), .pointer (some ⟨b4, 0, none⟩)] (blk b3 3 [.int .i64 f] :: blk b4 3 [.int .i64 t] :: Fr) (fun v Rs' => v = .bool (!(decide (max f 1 ≤ x.term) && decide (x.term ≤ t) && decide ((x.data.length : Int) ≤ 8000))) ∧ Rs' = blk b3 3 [.int .i64 x.term] :: blk b4 3 [.int .i64 t] :: Fr) := by
  refine Entry.tr (N := 26) (rs := [.tmp 4]) ⟨_, Try.func56, rfl, by kernel_rfl, rfl, rfl⟩ rfl ?_
  refine XC.seq fun K1 hK1 => ?_
  refine XC.region ?_
  refine x_a (r_bx rfl rfl) rfl fun b3 => ?_
  unfold ec
  refine x_v (r_as rfl) rfl ?_
  refine XL.nil ?_
  refine hK1 _ _ ?_
  refine XC.keep [(1, _), (2, _), (3, _)] ⟨rfl, rfl, rfl, trivial⟩ ?_
  refine XC.seq fun K2 hK2 => ?_
  refine XC.region ?_
  refine x_v (r_fa fo48_0 rfl) rfl ?_
  refine x_v (r_ld ty3 rfl (by repeat (first | exact Pick.head _ _ | apply Pick.tail)) (by rfl)) rfl ?_
  refine x_v (r_ld ty3 rfl (by repeat (first | exact Pick.head _ _ | apply Pick.tail)) (by rfl)) rfl ?_
  refine x_v (r_max rfl rfl) rfl ?_
  refine x_v (r_lt rfl rfl) rfl ?_
  refine x_v (r_mv rfl) rfl ?_
  refine XL.splitd 11 rfl (fun hg11 => ?_) (fun hg11 => ?_)
  · refine x_unwant rfl rfl rfl rfl rfl ?_
    refine x_unwant rfl rfl rfl rfl rfl ?_
    refine x_unwant rfl rfl rfl rfl rfl ?_
    refine x_unwant rfl rfl rfl rfl rfl ?_
    refine x_v (r_pk_t rfl rfl) rfl ?_
    refine x_v (r_mv rfl) rfl ?_
    refine x_unwant rfl rfl rfl rfl rfl ?_
    refine x_unwant rfl rfl rfl rfl rfl ?_
    refine x_unwant rfl rfl rfl rfl rfl ?_
    refine x_unwant rfl rfl rfl rfl rfl ?_
    refine x_v (r_pk_t rfl rfl) rfl ?_
    refine x_v (r_as rfl) rfl ?_
    refine XL.nil ?_
    refine hK2 _ _ ?_
    refine XC.keep [(1, _), (3, _), (5, _)] ⟨rfl, rfl, rfl, trivial⟩ ?_
    refine XC.seq fun K3 hK3 => ?_
    refine XC.region ?_
    refine x_v (r_fa fo48_0 rfl) rfl ?_
    refine x_v (r_ld ty3 rfl (by repeat (first | exact Pick.head _ _ | apply Pick.tail)) (by rfl)) rfl ?_
    refine x_e (r_st ty3 rfl rfl rfl rfl rfl (by repeat (first | exact Upd.head _ _ _ | apply Upd.tail)) (by repeat (first | exact Over.nil _ | apply Over.put | apply Over.skip))) ?_
    refine XL.nil ?_
    refine hK3 _ _ ?_
    refine XC.keep [(5, _)] ⟨rfl, trivial⟩ ?_
    refine XC.seq fun K4 hK4 => ?_
    refine XC.region ?_
    refine x_v (r_mv rfl) rfl ?_
    refine x_v (r_as rfl) rfl ?_
    refine XL.nil ?_
    refine hK4 _ _ ?_
    refine XC.keep [(4, _)] ⟨rfl, trivial⟩ ?_
    refine XC.ret ?_
    exact fin1 rfl (⟨congrArg Value.bool (by rw [Bool.eq_iff_iff]; simp only [Bool.not_eq_true', Bool.and_eq_false_iff, decide_eq_true_eq, decide_eq_false_iff_not, true_iff]; omega), rfl⟩) (by repeat (first | exact Gets.done _ | exact Gets.all _ | (apply Gets.step; focus ((repeat (first | exact Pick.head _ _ | apply Pick.tail)); done)) | apply Gets.drop))
  · refine x_want rfl rfl rfl ?_
    refine x_v (r_fa fo48_0 rfl) rfl ?_
    refine x_want rfl rfl rfl ?_
    refine x_v (r_ld ty3 rfl (by repeat (first | exact Pick.head _ _ | apply Pick.tail)) (by rfl)) rfl ?_
    refine x_want rfl rfl rfl ?_
    refine x_v (r_ld ty3 rfl (by repeat (first | exact Pick.head _ _ | apply Pick.tail)) (by rfl)) rfl ?_
    refine x_want rfl rfl rfl ?_
    refine x_v (r_gt rfl rfl) rfl ?_
    refine x_v (r_pk_f rfl rfl) rfl ?_
    refine x_v (r_mv rfl) rfl ?_
    refine XL.splitd 17 rfl (fun hg17 => ?_) (fun hg17 => ?_)
    · refine x_unwant rfl rfl rfl rfl rfl ?_
      refine x_unwant rfl rfl rfl rfl rfl ?_
      refine x_unwant rfl rfl rfl rfl rfl ?_
      refine x_unwant rfl rfl rfl rfl rfl ?_
      refine x_v (r_pk_t rfl rfl) rfl ?_
      refine x_v (r_as rfl) rfl ?_
      refine XL.nil ?_
      refine hK2 _ _ ?_
      refine XC.keep [(1, _), (3, _), (5, _)] ⟨rfl, rfl, rfl, trivial⟩ ?_
      refine XC.seq fun K5 hK5 => ?_
      refine XC.region ?_
      refine x_v (r_fa fo48_0 rfl) rfl ?_
      refine x_v (r_ld ty3 rfl (by repeat (first | exact Pick.head _ _ | apply Pick.tail)) (by rfl)) rfl ?_
      refine x_e (r_st ty3 rfl rfl rfl rfl rfl (by repeat (first | exact Upd.head _ _ _ | apply Upd.tail)) (by repeat (first | exact Over.nil _ | apply Over.put | apply Over.skip))) ?_
      refine XL.nil ?_
      refine hK5 _ _ ?_
      refine XC.keep [(5, _)] ⟨rfl, trivial⟩ ?_
      refine XC.seq fun K6 hK6 => ?_
      refine XC.region ?_
      refine x_v (r_mv rfl) rfl ?_
      refine x_v (r_as rfl) rfl ?_
      refine XL.nil ?_
      refine hK6 _ _ ?_
      refine XC.keep [(4, _)] ⟨rfl, trivial⟩ ?_
      refine XC.ret ?_
      exact fin1 rfl (⟨congrArg Value.bool (by rw [Bool.eq_iff_iff]; simp only [Bool.not_eq_true', Bool.and_eq_false_iff, decide_eq_true_eq, decide_eq_false_iff_not, true_iff]; omega), rfl⟩) (by repeat (first | exact Gets.done _ | exact Gets.all _ | (apply Gets.step; focus ((repeat (first | exact Pick.head _ _ | apply Pick.tail)); done)) | apply Gets.drop))
    · refine x_want rfl rfl rfl ?_
      refine x_v (r_fa fo48_1 rfl) rfl ?_
      refine x_want rfl rfl rfl ?_
      refine x_v (r_ld ty9 rfl (by repeat (first | exact Pick.head _ _ | apply Pick.tail)) (by rfl)) rfl ?_
      refine x_want rfl rfl rfl ?_
      refine x_v (r_lens Try.underlying9 rfl) rfl ?_
      refine x_want rfl rfl rfl ?_
      refine x_v (r_gt rfl rfl) rfl ?_
      refine x_v (r_pk_f rfl rfl) rfl ?_
      refine x_v (r_as rfl) rfl ?_
      refine XL.nil ?_
      refine hK2 _ _ ?_
      refine XC.keep [(1, _), (3, _), (5, _)] ⟨rfl, rfl, rfl, trivial⟩ ?_
      refine XC.seq fun K7 hK7 => ?_
      refine XC.region ?_
      refine x_v (r_fa fo48_0 rfl) rfl ?_
      refine x_v (r_ld ty3 rfl (by repeat (first | exact Pick.head _ _ | apply Pick.tail)) (by rfl)) rfl ?_
      refine x_e (r_st ty3 rfl rfl rfl rfl rfl (by repeat (first | exact Upd.head _ _ _ | apply Upd.tail)) (by repeat (first | exact Over.nil _ | apply Over.put | apply Over.skip))) ?_
      refine XL.nil ?_
      refine hK7 _ _ ?_
      refine XC.keep [(5, _)] ⟨rfl, trivial⟩ ?_
      refine XC.seq fun K8 hK8 => ?_
      refine XC.region ?_
      refine x_v (r_mv rfl) rfl ?_
      refine x_v (r_as rfl) rfl ?_
      refine XL.nil ?_
      refine hK8 _ _ ?_
      refine XC.keep [(4, _)] ⟨rfl, trivial⟩ ?_
      refine XC.ret ?_
      exact fin1 rfl (⟨congrArg Value.bool (by rw [Bool.eq_iff_iff]; simp only [Bool.not_eq_true', Bool.and_eq_false_iff, decide_eq_true_eq, decide_eq_false_iff_not, true_iff]; omega), rfl⟩) (by repeat (first | exact Gets.done _ | exact Gets.all _ | (apply Gets.step; focus ((repeat (first | exact Pick.head _ _ | apply Pick.tail)); done)) | apply Gets.drop))

theorem index_tr {W0 : World} {Fr : List HP} {k : HP} (b3 b4 : Nat) (f t : Int) (XA : Option Addr) (xc : Nat) (L : List En) (hr : Rdb W0 [k] XA L.length 2 (cells ec L)) (hl : L.length ≤ 140737488355328) :
    Tr W0 Try.prog 57 [.slice XA L.length xc, .func (.func 56) #[] [.pointer (some ⟨b3, 0, none⟩), .pointer (some ⟨b4, 0, none⟩)].toArray] (blk b3 3 [.int .i64 f] :: blk b4 3 [.int .i64 t] :: k :: Fr)
      (fun v Rs' => ∃ r f', v = .int .i64 r ∧ (0 ≤ r ↔ rising f t L = false) ∧ Rs' = blk b3 3 [.int .i64 f'] :: blk b4 3 [.int .i64 t] :: k :: Fr) := by
  refine Entry.tr (N := 19) (rs := [.tmp 4]) ⟨_, Try.func57, rfl, by kernel_rfl, rfl, rfl⟩ rfl ?_
  refine XC.seq fun K1 hK1 => ?_
  refine XC.region ?_
  refine x_v (r_as rfl) rfl ?_
  refine XL.nil ?_
  refine hK1 _ _ ?_
  refine XC.keep [(0, _), (1, _)] ⟨rfl, rfl, trivial⟩ ?_
  refine XC.seq fun K2 hK2 => ?_
  refine XC.seq fun K3 hK3 => ?_
  refine XC.region ?_
  refine x_v (r_mv rfl) rfl ?_
  refine x_v (r_lensl Try.underlying30 rfl) rfl ?_
  refine x_v (r_mv rfl) rfl ?_
  refine XL.nil ?_
  refine hK3 _ _ ?_
  refine XC.keep [(0, _), (1, _), (7, _), (8, _)] ⟨rfl, rfl, rfl, rfl, trivial⟩ ?_
  refine XC.block ?_
  refine XC.loop (σ := Nat × Int) (fun s => [(0, .slice XA L.length xc), (1, .func (.func 56) #[] [.pointer (some ⟨b3, 0, none⟩), .pointer (some ⟨b4, 0, none⟩)].toArray), (7, .int .i64 (L.length : Int)), (8, .int .i64 (s.1 : Int))]) (fun s => blk b3 3 [.int .i64 s.2] :: blk b4 3 [.int .i64 t] :: k :: Fr) (fun s => s.1 ≤ L.length ∧ rising f t L = rising s.2 t (L.drop s.1)) (fun s => L.length - s.1) (0, f) ?_ ⟨rfl, rfl, rfl, rfl, trivial⟩ (by repeat (first | exact Gets.done _ | exact Gets.all _ | (apply Gets.step; focus ((repeat (first | exact Pick.head _ _ | apply Pick.tail)); done)) | apply Gets.drop)) ?_
  · exact ⟨Nat.zero_le _, rfl⟩
  rintro ⟨i, g⟩ ⟨hi, hI⟩
  dsimp only at hi hI ⊢
  refine XC.seq fun K4 hK4 => ?_
  refine XC.region ?_
  refine x_v (r_lt rfl rfl) rfl ?_
  refine XL.nil ?_
  refine hK4 _ _ ?_
  refine XC.keep [(0, _), (1, _), (7, _), (8, _), (9, _)] ⟨rfl, rfl, rfl, rfl, rfl, trivial⟩ ?_
  refine XC.seq fun K5 hK5 => ?_
  refine XC.cond_d rfl (fun hc1 => ?_) (fun hc1 => ?_)
  · refine XC.skip ?_
    refine hK5 _ _ ?_
    refine XC.keep [(0, _), (1, _), (7, _), (8, _)] ⟨rfl, rfl, rfl, rfl, trivial⟩ ?_
    refine XC.seq fun K6 hK6 => ?_
    refine XC.block ?_
    refine XC.seq fun K7 hK7 => ?_
    refine XC.region ?_
    refine x_v (r_mv rfl) rfl ?_
    refine x_v (r_as rfl) rfl ?_
    refine XL.nil ?_
    refine hK7 _ _ ?_
    refine XC.keep [(0, _), (1, _), (5, _), (7, _), (8, _)] ⟨rfl, rfl, rfl, rfl, rfl, trivial⟩ ?_
    refine XC.seq fun K8 hK8 => ?_
    refine XC.region ?_
    refine x_v (r_mv rfl) rfl ?_
    refine x_v (r_mv rfl) rfl ?_
    refine x_v (r_mv rfl) rfl ?_
    obtain ⟨x, hx⟩ : ∃ x, L[i]? = some x := ⟨_, List.getElem?_eq_getElem (by omega)⟩
    obtain ⟨sb, so, rfl, hat⟩ := hr.at_ (by omega)
    have hdr : L.drop i = x :: L.drop (i + 1) := by (obtain ⟨h1, h2⟩ := List.getElem?_eq_some_iff.1 hx; rw [List.drop_eq_getElem_cons h1, h2])
    refine x_v (r_ia (k := i) Try.underlying30 ty48 rfl rfl (by omega) (by omega)) rfl ?_
    refine x_v (r_ldar (l' := [.int .i64 x.term, str x.data]) ty48 rfl rfl (fun w hw j u hu => by rw [Nat.add_assoc]; exact hat w (Gets.own (by repeat (first | exact Gets.done _ | exact Gets.all _ | (apply Gets.step; focus ((repeat (first | exact Pick.head _ _ | apply Pick.tail)); done)) | apply Gets.drop)) hw) _ u (cells_get ec_len L _ _ hx j u hu))) rfl ?_
    refine x_c (r_call (fst := []) (cap := [_, _]) (vs := [_]) rfl ⟨rfl, rfl⟩ rfl (rcl_tr b3 b4 g t x) (by repeat (first | exact Gets.done _ | exact Gets.all _ | (apply Gets.step; focus ((repeat (first | exact Pick.head _ _ | apply Pick.tail)); done)) | apply Gets.drop))) rfl ?_
    rintro _ _ ⟨rfl, rfl⟩
    refine XL.nil ?_
    refine hK8 _ _ ?_
    refine XC.keep [(0, _), (1, _), (5, _), (7, _), (8, _), (16, _)] ⟨rfl, rfl, rfl, rfl, rfl, rfl, trivial⟩ ?_
    refine XC.cond rfl (fun hc2 => ?_) (fun hc2 => ?_)
    · have hbad : (decide (max g 1 ≤ x.term) && decide (x.term ≤ t) && decide ((x.data.length : Int) ≤ 8000)) = false := by rw [Bool.not_eq_true'] at hc2; exact hc2
      refine XC.seq fun K9 hK9 => ?_
      refine XC.region ?_
      refine x_v (r_mv rfl) rfl ?_
      refine x_v (r_as rfl) rfl ?_
      refine XL.nil ?_
      refine hK9 _ _ ?_
      refine XC.keep [(4, _)] ⟨rfl, trivial⟩ ?_
      refine XC.ret ?_
      exact fin1 rfl (⟨_, x.term, rfl, ⟨fun _ => by rw [hI, hdr]; unfold rising; rw [hbad, Bool.false_and], fun _ => by omega⟩, rfl⟩) (by repeat (first | exact Gets.done _ | exact Gets.all _ | (apply Gets.step; focus ((repeat (first | exact Pick.head _ _ | apply Pick.tail)); done)) | apply Gets.drop))
    · have hbad : (decide (max g 1 ≤ x.term) && decide (x.term ≤ t) && decide ((x.data.length : Int) ≤ 8000)) = true := by rw [Bool.not_eq_false'] at hc2; exact hc2
      refine XC.skip ?_
      refine hK6 _ _ ?_
      refine XC.keep [(0, _), (1, _), (7, _), (8, _)] ⟨rfl, rfl, rfl, rfl, trivial⟩ ?_
      refine XC.region ?_
      refine x_v (r_add rfl rfl (by omega)) rfl ?_
      refine x_v (r_mv rfl) rfl ?_
      refine XL.nil ?_
      refine ⟨(i + 1, x.term), ?_, ?_, ⟨rfl, rfl, rfl, rfl, trivial⟩, (by repeat (first | exact Gets.done _ | exact Gets.all _ | (apply Gets.step; focus ((repeat (first | exact Pick.head _ _ | apply Pick.tail)); done)) | apply Gets.drop))⟩
      · exact ⟨by dsimp only; omega, by dsimp only; rw [hI, hdr]; conv => lhs; unfold rising; rw [hbad, Bool.true_and]⟩
      · dsimp only; omega
  · refine XC.exit rfl ?_
    refine hK2 _ _ ?_
    refine XC.keep [] trivial ?_
    refine XC.seq fun K10 hK10 => ?_
    refine XC.region ?_
    refine x_v (r_as rfl) rfl ?_
    refine XL.nil ?_
    refine hK10 _ _ ?_
    refine XC.keep [(4, _)] ⟨rfl, trivial⟩ ?_
    refine XC.ret ?_
    obtain rfl : i = L.length := by omega
    exact fin1 rfl (⟨_, g, rfl, ⟨fun h => by omega, fun h => by rw [hI, List.drop_length] at h; cases h⟩, rfl⟩) (by repeat (first | exact Gets.done _ | exact Gets.all _ | (apply Gets.step; focus ((repeat (first | exact Pick.head _ _ | apply Pick.tail)); done)) | apply Gets.drop))
theorem contains_tr {W0 : World} {Fr : List HP} {k : HP} (b3 b4 : Nat) (f t : Int) (XA : Option Addr) (xc : Nat) (L : List En) (hr : Rdb W0 [k] XA L.length 2 (cells ec L)) (hl : L.length ≤ 140737488355328) :
    Tr W0 Try.prog 55 [.slice XA L.length xc, .func (.func 56) #[] [.pointer (some ⟨b3, 0, none⟩), .pointer (some ⟨b4, 0, none⟩)].toArray] (blk b3 3 [.int .i64 f] :: blk b4 3 [.int .i64 t] :: k :: Fr)
      (fun v Rs' => v = .bool (!rising f t L) ∧ ∃ f', Rs' = blk b3 3 [.int .i64 f'] :: blk b4 3 [.int .i64 t] :: k :: Fr) := by
  refine Entry.tr (N := 9) (rs := [.tmp 4]) ⟨_, Try.func55, rfl, by kernel_rfl, rfl, rfl⟩ rfl ?_
  refine XC.seq fun K1 hK1 => ?_
  refine XC.region ?_
  refine x_v (r_as rfl) rfl ?_
  refine XL.nil ?_
  refine hK1 _ _ ?_
  refine XC.keep [(0, _), (1, _)] ⟨rfl, rfl, trivial⟩ ?_
  refine XC.seq fun K2 hK2 => ?_
  refine XC.region ?_
  refine x_v (r_mv rfl) rfl ?_
  refine x_v (r_mv rfl) rfl ?_
  refine x_c (r_call0 (args := [_, _]) ⟨rfl, rfl, rfl⟩ (index_tr b3 b4 f t XA xc L hr hl) (by repeat (first | exact Gets.done _ | exact Gets.all _ | (apply Gets.step; focus ((repeat (first | exact Pick.head _ _ | apply Pick.tail)); done)) | apply Gets.drop))) rfl ?_
  rintro _ _ ⟨r, f2, rfl, hr2, rfl⟩
  refine x_v (r_ge rfl rfl) rfl ?_
  refine x_v (r_as rfl) rfl ?_
  refine XL.nil ?_
  refine hK2 _ _ ?_
  refine XC.keep [(4, _)] ⟨rfl, trivial⟩ ?_
  refine XC.ret ?_
  exact fin1 rfl (⟨congrArg Value.bool (by rw [Bool.eq_iff_iff, decide_eq_true_eq, hr2]; simp), f2, rfl⟩) (by repeat (first | exact Gets.done _ | exact Gets.all _ | (apply Gets.step; focus ((repeat (first | exact Pick.head _ _ | apply Pick.tail)); done)) | apply Gets.drop))
theorem rising_tr {W0 : World} {Fr : List HP} {k : HP} (f t : Int) (XA : Option Addr) (xc : Nat) (L : List En) (hr : Rdb W0 [k] XA L.length 2 (cells ec L)) (hl : L.length ≤ 140737488355328) :
    Tr W0 Try.prog 53 [.int .i64 f, .int .i64 t, .slice XA L.length xc] (k :: Fr) (fun v Rs' => v = .bool (rising f t L) ∧ Rs' = k :: Fr) := by
  refine Entry.tr (N := 11) (rs := [.tmp 6]) ⟨_, Try.func53, rfl, by kernel_rfl, rfl, rfl⟩ rfl ?_
  refine XC.seq fun K1 hK1 => ?_
  refine XC.region ?_
  refine x_a (r_bx rfl rfl) rfl fun b3 => ?_
  refine x_a (r_bx rfl rfl) rfl fun b4 => ?_
  refine x_v (r_as rfl) rfl ?_
  refine XL.nil ?_
  refine hK1 _ _ ?_
  refine XC.keep [(2, _), (3, _), (4, _)] ⟨rfl, rfl, rfl, trivial⟩ ?_
  refine XC.seq fun K2 hK2 => ?_
  refine XC.region ?_
  refine x_v (r_mv rfl) rfl ?_
  refine x_v (r_mfv (cs := [_, _]) ⟨rfl, rfl, rfl⟩) rfl ?_
  refine x_c (r_call0 (args := [_, _]) ⟨rfl, rfl, rfl⟩ (contains_tr b3 b4 f t XA xc L hr hl) (by repeat (first | exact Gets.done _ | exact Gets.all _ | (apply Gets.step; focus ((repeat (first | exact Pick.head _ _ | apply Pick.tail)); done)) | apply Gets.drop))) rfl ?_
  rintro _ _ ⟨rfl, f2, rfl⟩
  refine x_v (r_not rfl) rfl ?_
  refine x_v (r_as rfl) rfl ?_
  refine XL.nil ?_
  refine hK2 _ _ ?_
  refine XC.keep [(6, _)] ⟨rfl, trivial⟩ ?_
  refine XC.ret ?_
  exact fin1 rfl (⟨by rw [Bool.not_not], rfl⟩) (by repeat (first | exact Gets.done _ | exact Gets.all _ | (apply Gets.step; focus ((repeat (first | exact Pick.head _ _ | apply Pick.tail)); done)) | apply Gets.drop))
end Go.Proofs.Ytlogcldbflemfaa

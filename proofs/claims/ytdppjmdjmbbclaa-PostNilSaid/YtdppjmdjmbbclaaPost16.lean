/- Letters: nothing there: the law function PostNil. -/
import Derived.Test.YtdppjmdjmbbclaaPost13
namespace Go.Sx
theorem x_unwantu {C : Cx} {ops : Array Oper} {l : List Oper} {κ : Kt} {e : Env} {Rs : List HP} {d : Nat} {o : Oper} {g : Nat} {b : Bool} {t : Nat} (hg : o.guard = some (g, b)) (hj : (ops[g]?).bind (·.dst) = some t) (ht : look e t = some undef) (hd : o.dst = some d) (hN : Nat.blt d C.N = true) (k : XL C ops l κ ((d, undef) :: e) Rs) : XL C ops (o :: l) κ e Rs := by
  intro a w ha hw
  have hy : yielded ops a.tmps g = none := by simp only [yielded, hj, Option.bind_some, ha.at_ t _ ht]; rfl
  unfold wpList
  rw [if_neg (by simp [Region.wanted, hg, hy])]
  rw [hd]
  exact k _ w (ha.put d hN _) hw
theorem x_unwantu0 {C : Cx} {ops : Array Oper} {l : List Oper} {κ : Kt} {e : Env} {Rs : List HP} {o : Oper} {g : Nat} {b : Bool} {t : Nat} (hg : o.guard = some (g, b)) (hj : (ops[g]?).bind (·.dst) = some t) (ht : look e t = some undef) (hd : o.dst = none) (k : XL C ops l κ e Rs) : XL C ops (o :: l) κ e Rs := by
  intro a w ha hw
  have hy : yielded ops a.tmps g = none := by simp only [yielded, hj, Option.bind_some, ha.at_ t _ ht]; rfl
  unfold wpList
  rw [if_neg (by simp [Region.wanted, hg, hy])]
  rw [hd]
  exact k _ w ha hw
end Go.Sx
namespace Go.Proofs.Ytdppjmdjmbbclaa
open Go.Sx
set_option linter.unusedVariables false

theorem atnil_tr {W0 : World} {Fr : List HP} (k : Int) : Tr W0 Try.prog 21 [.pointer none, .int .i64 k] Fr (fun v Rs' => v = .tuple #[.agg (lc zl).toArray, .bool false] ∧ Rs' = Fr) := by
  refine Entry.tr (N := 25) (rs := [.cell 4 29, .tmp 5]) ⟨_, Try.func21, rfl, by kernel_rfl, rfl, rfl⟩ rfl ?_
  refine XC.seq fun K1 hK1 => ?_
  refine XC.region ?_
  refine x_a (r_al ty29 rfl) rfl fun b4 => ?_
  refine x_v (r_as rfl) rfl ?_
  refine XL.nil ?_
  refine hK1 _ _ ?_
  refine XC.keep [(0, _), (1, _), (4, _)] ⟨rfl, rfl, rfl, trivial⟩ ?_
  refine XC.seq fun K2 hK2 => ?_
  refine XC.seq fun K3 hK3 => ?_
  refine XC.region ?_
  refine x_v (r_mv rfl) rfl ?_
  refine x_v (r_peq_nil Try.underlying23 rfl rfl) rfl ?_
  refine x_v (r_mv rfl) rfl ?_
  refine x_unwant rfl rfl rfl rfl rfl ?_
  refine x_unwant rfl rfl rfl rfl rfl ?_
  refine x_unwant rfl rfl rfl rfl rfl ?_
  refine x_unwant rfl rfl rfl rfl rfl ?_
  refine x_unwant rfl rfl rfl rfl rfl ?_
  refine x_unwant rfl rfl rfl rfl rfl ?_
  refine x_v (r_pk_t rfl rfl) rfl ?_
  refine XL.nil ?_
  refine hK3 _ _ ?_
  refine XC.keep [(0, _), (1, _), (4, _), (15, _)] ⟨rfl, rfl, rfl, rfl, trivial⟩ ?_
  refine XC.cond_t rfl ?_
  refine XC.seq fun K4 hK4 => ?_
  refine XC.region ?_
  refine x_v (r_bd (vs := []) rfl rfl bd29_z) rfl ?_
  refine x_e (r_st ty29 rfl rfl rfl rfl rfl (by repeat (first | exact Upd.head _ _ _ | apply Upd.tail)) (by repeat (first | exact Over.nil _ | apply Over.put | apply Over.skip))) ?_
  refine x_v (r_as rfl) rfl ?_
  refine XL.nil ?_
  refine hK4 _ _ ?_
  refine XC.keep [(4, _), (5, _)] ⟨rfl, rfl, trivial⟩ ?_
  refine XC.ret ?_
  exact finc2 ty29 rfl rfl (by repeat (first | exact Pick.head _ _ | apply Pick.tail)) (by rfl) (⟨rfl, rfl⟩) (by repeat (first | exact Gets.done _ | exact Gets.all _ | (apply Gets.step; focus ((repeat (first | exact Pick.head _ _ | apply Pick.tail)); done)) | apply Gets.drop))
theorem takenil_tr {W0 : World} {Fr : List HP} (k : Int) : Tr W0 Try.prog 14 [.pointer none, .int .i64 k] Fr (fun v Rs' => v = .tuple #[.agg (lc zl).toArray, .int .i64 2] ∧ Rs' = Fr) := by
  refine Entry.tr (N := 23) (rs := [.cell 4 29, .tmp 5]) ⟨_, Try.func14, rfl, by kernel_rfl, rfl, rfl⟩ rfl ?_
  refine XC.seq fun K1 hK1 => ?_
  refine XC.region ?_
  refine x_a (r_al ty29 rfl) rfl fun b4 => ?_
  refine x_v (r_as rfl) rfl ?_
  refine XL.nil ?_
  refine hK1 _ _ ?_
  refine XC.keep [(0, _), (1, _), (4, _)] ⟨rfl, rfl, rfl, trivial⟩ ?_
  refine XC.seq fun K2 hK2 => ?_
  refine XC.block ?_
  refine XC.seq fun K3 hK3 => ?_
  refine XC.region ?_
  refine x_v (r_mv rfl) rfl ?_
  refine x_v (r_peq_nil Try.underlying23 rfl rfl) rfl ?_
  refine x_v (r_as rfl) rfl ?_
  refine XL.nil ?_
  refine hK3 _ _ ?_
  refine XC.keep [(0, _), (1, _), (4, _), (6, _)] ⟨rfl, rfl, rfl, rfl, trivial⟩ ?_
  refine XC.cond_t rfl ?_
  refine XC.seq fun K4 hK4 => ?_
  refine XC.region ?_
  refine x_v (r_bd (vs := []) rfl rfl bd29_z) rfl ?_
  refine x_e (r_st ty29 rfl rfl rfl rfl rfl (by repeat (first | exact Upd.head _ _ _ | apply Upd.tail)) (by repeat (first | exact Over.nil _ | apply Over.put | apply Over.skip))) ?_
  refine x_v (r_as rfl) rfl ?_
  refine XL.nil ?_
  refine hK4 _ _ ?_
  refine XC.keep [(4, _), (5, _)] ⟨rfl, rfl, trivial⟩ ?_
  refine XC.ret ?_
  exact finc2 ty29 rfl rfl (by repeat (first | exact Pick.head _ _ | apply Pick.tail)) (by rfl) (⟨rfl, rfl⟩) (by repeat (first | exact Gets.done _ | exact Gets.all _ | (apply Gets.step; focus ((repeat (first | exact Pick.head _ _ | apply Pick.tail)); done)) | apply Gets.drop))
theorem sendnil_tr {W0 : World} {Fr : List HP} (l : Lt) : Tr W0 Try.prog 13 [.pointer none, .agg (lc l).toArray] Fr (fun v Rs' => v = .int .i64 2 ∧ Rs' = Fr) := by
  refine Entry.tr (N := 40) (rs := [.tmp 4]) ⟨_, Try.func13, rfl, by kernel_rfl, rfl, rfl⟩ rfl ?_
  refine XC.seq fun K1 hK1 => ?_
  refine XC.region ?_
  refine x_a (r_bx rfl rfl) rfl fun b3 => ?_
  refine x_v (r_as rfl) rfl ?_
  refine XL.nil ?_
  refine hK1 _ _ ?_
  refine XC.keep [(0, _), (3, _)] ⟨rfl, rfl, trivial⟩ ?_
  refine XC.seq fun K2 hK2 => ?_
  refine XC.block ?_
  refine XC.seq fun K3 hK3 => ?_
  refine XC.region ?_
  refine x_v (r_mv rfl) rfl ?_
  refine x_v (r_peq_nil Try.underlying23 rfl rfl) rfl ?_
  refine x_v (r_as rfl) rfl ?_
  refine XL.nil ?_
  refine hK3 _ _ ?_
  refine XC.keep [(0, _), (3, _), (5, _)] ⟨rfl, rfl, rfl, trivial⟩ ?_
  refine XC.cond_t rfl ?_
  refine XC.seq fun K4 hK4 => ?_
  refine XC.region ?_
  refine x_v (r_as rfl) rfl ?_
  refine XL.nil ?_
  refine hK4 _ _ ?_
  refine XC.keep [(4, _)] ⟨rfl, trivial⟩ ?_
  refine XC.ret ?_
  exact fin1 rfl (⟨rfl, rfl⟩) (by repeat (first | exact Gets.done _ | exact Gets.all _ | (apply Gets.step; focus ((repeat (first | exact Pick.head _ _ | apply Pick.tail)); done)) | apply Gets.drop))
theorem twinnil_tr {W0 : World} {Fr : List HP} (k : Int) : Tr W0 Try.prog 22 [.pointer none, .int .i64 k] Fr (fun v Rs' => v = .int .i64 2 ∧ Rs' = Fr) := by
  refine Entry.tr (N := 39) (rs := [.tmp 4]) ⟨_, Try.func22, rfl, by kernel_rfl, rfl, rfl⟩ rfl ?_
  refine XC.seq fun K1 hK1 => ?_
  refine XC.region ?_
  refine x_v (r_as rfl) rfl ?_
  refine XL.nil ?_
  refine hK1 _ _ ?_
  refine XC.keep [(0, _), (1, _)] ⟨rfl, rfl, trivial⟩ ?_
  refine XC.seq fun K2 hK2 => ?_
  refine XC.block ?_
  refine XC.seq fun K3 hK3 => ?_
  refine XC.region ?_
  refine x_v (r_mv rfl) rfl ?_
  refine x_v (r_peq_nil Try.underlying23 rfl rfl) rfl ?_
  refine x_v (r_as rfl) rfl ?_
  refine XL.nil ?_
  refine hK3 _ _ ?_
  refine XC.keep [(0, _), (1, _), (5, _)] ⟨rfl, rfl, rfl, trivial⟩ ?_
  refine XC.cond_t rfl ?_
  refine XC.seq fun K4 hK4 => ?_
  refine XC.region ?_
  refine x_v (r_as rfl) rfl ?_
  refine XL.nil ?_
  refine hK4 _ _ ?_
  refine XC.keep [(4, _)] ⟨rfl, trivial⟩ ?_
  refine XC.ret ?_
  exact fin1 rfl (⟨rfl, rfl⟩) (by repeat (first | exact Gets.done _ | exact Gets.all _ | (apply Gets.step; focus ((repeat (first | exact Pick.head _ _ | apply Pick.tail)); done)) | apply Gets.drop))
theorem purgenil_tr {W0 : World} {Fr : List HP} (A : Option Addr) (n c : Nat) : Tr W0 Try.prog 23 [.pointer none, .slice A n c] Fr (fun v Rs' => v = .int .i64 0 ∧ Rs' = Fr) := by
  refine Entry.tr (N := 33) (rs := [.tmp 4]) ⟨_, Try.func23, rfl, by kernel_rfl, rfl, rfl⟩ rfl ?_
  refine XC.seq fun K1 hK1 => ?_
  refine XC.region ?_
  refine x_a (r_bx rfl rfl) rfl fun b3 => ?_
  refine x_v (r_as rfl) rfl ?_
  refine XL.nil ?_
  refine hK1 _ _ ?_
  refine XC.keep [(0, _), (3, _)] ⟨rfl, rfl, trivial⟩ ?_
  refine XC.seq fun K2 hK2 => ?_
  refine XC.seq fun K3 hK3 => ?_
  refine XC.region ?_
  refine x_v (r_mv rfl) rfl ?_
  refine x_v (r_peq_nil Try.underlying23 rfl rfl) rfl ?_
  refine XL.nil ?_
  refine hK3 _ _ ?_
  refine XC.keep [(0, _), (3, _), (7, _)] ⟨rfl, rfl, rfl, trivial⟩ ?_
  refine XC.cond_t rfl ?_
  refine XC.seq fun K4 hK4 => ?_
  refine XC.region ?_
  refine x_v (r_as rfl) rfl ?_
  refine XL.nil ?_
  refine hK4 _ _ ?_
  refine XC.keep [(4, _)] ⟨rfl, trivial⟩ ?_
  refine XC.ret ?_
  exact fin1 rfl (⟨rfl, rfl⟩) (by repeat (first | exact Gets.done _ | exact Gets.all _ | (apply Gets.step; focus ((repeat (first | exact Pick.head _ _ | apply Pick.tail)); done)) | apply Gets.drop))
theorem lennil_tr {W0 : World} {Fr : List HP} : Tr W0 Try.prog 15 [.pointer none] Fr (fun v Rs' => v = .int .i64 0 ∧ Rs' = Fr) := by
  refine Entry.tr (N := 11) (rs := [.tmp 2]) ⟨_, Try.func15, rfl, by kernel_rfl, rfl, rfl⟩ rfl ?_
  refine XC.seq fun K1 hK1 => ?_
  refine XC.region ?_
  refine x_v (r_as rfl) rfl ?_
  refine XL.nil ?_
  refine hK1 _ _ ?_
  refine XC.keep [(0, _)] ⟨rfl, trivial⟩ ?_
  refine XC.seq fun K2 hK2 => ?_
  refine XC.seq fun K3 hK3 => ?_
  refine XC.region ?_
  refine x_v (r_mv rfl) rfl ?_
  refine x_v (r_peq_nil Try.underlying23 rfl rfl) rfl ?_
  refine XL.nil ?_
  refine hK3 _ _ ?_
  refine XC.keep [(0, _), (4, _)] ⟨rfl, rfl, trivial⟩ ?_
  refine XC.cond_t rfl ?_
  refine XC.seq fun K4 hK4 => ?_
  refine XC.region ?_
  refine x_v (r_as rfl) rfl ?_
  refine XL.nil ?_
  refine hK4 _ _ ?_
  refine XC.keep [(2, _)] ⟨rfl, trivial⟩ ?_
  refine XC.ret ?_
  exact fin1 rfl (⟨rfl, rfl⟩) (by repeat (first | exact Gets.done _ | exact Gets.all _ | (apply Gets.step; focus ((repeat (first | exact Pick.head _ _ | apply Pick.tail)); done)) | apply Gets.drop))
theorem copynil_tr {W0 : World} {Fr : List HP} : Tr W0 Try.prog 20 [.pointer none] Fr (fun v Rs' => v = .pointer none ∧ Rs' = Fr) := by
  refine Entry.tr (N := 18) (rs := [.tmp 2]) ⟨_, Try.func20, rfl, by kernel_rfl, rfl, rfl⟩ rfl ?_
  refine XC.seq fun K1 hK1 => ?_
  refine XC.region ?_
  refine x_v (r_as rfl) rfl ?_
  refine XL.nil ?_
  refine hK1 _ _ ?_
  refine XC.keep [(0, _)] ⟨rfl, trivial⟩ ?_
  refine XC.seq fun K2 hK2 => ?_
  refine XC.seq fun K3 hK3 => ?_
  refine XC.region ?_
  refine x_v (r_mv rfl) rfl ?_
  refine x_v (r_peq_nil Try.underlying23 rfl rfl) rfl ?_
  refine XL.nil ?_
  refine hK3 _ _ ?_
  refine XC.keep [(0, _), (4, _)] ⟨rfl, rfl, trivial⟩ ?_
  refine XC.cond_t rfl ?_
  refine XC.seq fun K4 hK4 => ?_
  refine XC.region ?_
  refine x_v (r_as rfl) rfl ?_
  refine XL.nil ?_
  refine hK4 _ _ ?_
  refine XC.keep [(2, _)] ⟨rfl, trivial⟩ ?_
  refine XC.ret ?_
  exact fin1 rfl (⟨rfl, rfl⟩) (by repeat (first | exact Gets.done _ | exact Gets.all _ | (apply Gets.step; focus ((repeat (first | exact Pick.head _ _ | apply Pick.tail)); done)) | apply Gets.drop))

theorem nil_tr {W0 : World} {Fr : List HP} (o : Od) (ho : OkOd W0 o) : Tr W0 Try.prog 6 [.agg (oc o).toArray] Fr (fun v _ => v = .bool true) := by
  have hnl : o.ns.length = o.n := by have := (ho.rd []).len; simpa [iv] using this
  refine Entry.tr (N := 79) (rs := [.tmp 2]) ⟨_, Try.func6, rfl, by kernel_rfl, rfl, rfl⟩ rfl ?_
  refine XC.seq fun K1 hK1 => ?_
  refine XC.region ?_
  refine x_a (r_bx rfl rfl) rfl fun b1 => ?_
  refine x_v (r_as rfl) rfl ?_
  refine XL.nil ?_
  refine hK1 _ _ ?_
  refine XC.keep [(1, _)] ⟨rfl, trivial⟩ ?_
  refine XC.seq fun K2 hK2 => ?_
  refine XC.region ?_
  refine x_v (r_as rfl) rfl ?_
  refine XL.nil ?_
  refine hK2 _ _ ?_
  refine XC.keep [(1, _), (3, _)] ⟨rfl, rfl, trivial⟩ ?_
  refine XC.seq fun K3 hK3 => ?_
  refine XC.region ?_
  refine x_v (r_mv rfl) rfl ?_
  refine x_v (r_fa fo42_1 rfl) rfl ?_
  refine x_v (r_ld ty3 rfl (by repeat (first | exact Pick.head _ _ | apply Pick.tail)) (by rfl)) rfl ?_
  refine x_c (r_call0 (args := [_, _]) ⟨rfl, rfl, rfl⟩ (atnil_tr o.k) (by repeat (first | exact Gets.done _ | exact Gets.all _ | (apply Gets.step; focus ((repeat (first | exact Pick.head _ _ | apply Pick.tail)); done)) | apply Gets.drop))) rfl ?_
  rintro _ _ ⟨rfl, rfl⟩
  refine x_v (r_mv rfl) rfl ?_
  refine x_v (r_ex rfl rfl) rfl ?_
  refine x_v (r_ex rfl rfl) rfl ?_
  refine x_a (r_al ty29 rfl) rfl fun b4 => ?_
  refine x_e (r_st (vs := lc zl) ty29 rfl rfl rfl rfl rfl (by repeat (first | exact Upd.head _ _ _ | apply Upd.tail)) (by repeat (first | exact Over.nil _ | apply Over.put | apply Over.skip))) ?_
  refine x_v (r_as rfl) rfl ?_
  refine XL.nil ?_
  refine hK3 _ _ ?_
  refine XC.keep [(1, _), (3, _), (4, _), (5, _)] ⟨rfl, rfl, rfl, rfl, trivial⟩ ?_
  refine XC.seq fun K4 hK4 => ?_
  refine XC.region ?_
  refine x_v (r_mv rfl) rfl ?_
  refine x_v (r_fa fo42_1 rfl) rfl ?_
  refine x_v (r_ld ty3 rfl (by repeat (first | exact Pick.head _ _ | apply Pick.tail)) (by rfl)) rfl ?_
  refine x_c (r_call0 (args := [_, _]) ⟨rfl, rfl, rfl⟩ (takenil_tr o.k) (by repeat (first | exact Gets.done _ | exact Gets.all _ | (apply Gets.step; focus ((repeat (first | exact Pick.head _ _ | apply Pick.tail)); done)) | apply Gets.drop))) rfl ?_
  rintro _ _ ⟨rfl, rfl⟩
  refine x_v (r_mv rfl) rfl ?_
  refine x_v (r_ex rfl rfl) rfl ?_
  refine x_v (r_ex rfl rfl) rfl ?_
  refine x_a (r_al ty29 rfl) rfl fun b6 => ?_
  refine x_e (r_st (vs := lc zl) ty29 rfl rfl rfl rfl rfl (by repeat (first | exact Upd.head _ _ _ | apply Upd.tail)) (by repeat (first | exact Over.nil _ | apply Over.put | apply Over.skip))) ?_
  refine x_v (r_as rfl) rfl ?_
  refine XL.nil ?_
  refine hK4 _ _ ?_
  refine XC.keep [(1, _), (3, _), (4, _), (5, _), (6, _), (7, _)] ⟨rfl, rfl, rfl, rfl, rfl, rfl, trivial⟩ ?_
  refine XC.seq fun K5 hK5 => ?_
  refine XC.region ?_
  refine x_c (r_call0 (args := []) rfl (awake_tr) (by repeat (first | exact Gets.done _ | exact Gets.all _ | (apply Gets.step; focus ((repeat (first | exact Pick.head _ _ | apply Pick.tail)); done)) | apply Gets.drop))) rfl ?_
  rintro _ _ ⟨rfl, rfl⟩
  refine x_v (r_mv rfl) rfl ?_
  refine x_want rfl rfl rfl ?_
  refine x_v (r_lda (l' := [_, _, _, _, _, _]) ty42 rfl (by repeat (first | exact Pick.head _ _ | apply Pick.tail)) rfl (Sub.get (by repeat (first | exact Sub.nil _ | apply Sub.take | apply Sub.skip)))) rfl ?_
  refine x_want rfl rfl rfl ?_
  refine x_a (r_bs (vs := [_]) rfl ⟨rfl, rfl⟩ (bs35_1_0 _ _ _ _ _ _ _ _)) rfl fun b25 => ?_
  refine x_want rfl rfl rfl ?_
  refine x_c (r_call0 (args := [_]) ⟨rfl, rfl⟩ (great_one (Fr := blk b25 42 (oc o) :: blk b6 29 (lc zl) :: blk b4 29 (lc zl) :: blk b1 42 (oc o) :: Fr) (some ⟨b25, 0, none⟩) 1 [o] (Rdb.of_blk (.head _ _) 0 rfl (fun _ _ h => by rw [Nat.zero_add]; simpa [cells] using h)) (fun q hq => by rw [List.mem_singleton.1 hq]; exact ho) (by simp)) (by repeat (first | exact Gets.done _ | exact Gets.all _ | (apply Gets.step; focus ((repeat (first | exact Pick.head _ _ | apply Pick.tail)); done)) | apply Gets.drop))) rfl ?_
  rintro _ _ ⟨⟨g, rfl, hgr⟩, rfl⟩
  refine x_want rfl rfl rfl ?_
  refine x_v (r_mv rfl) rfl ?_
  refine XL.split 27 rfl (fun hg27 => ?_) (fun hg27 => ?_)
  · refine x_unwant rfl rfl rfl rfl rfl ?_
    refine x_unwant rfl rfl rfl rfl rfl ?_
    refine x_unwant rfl rfl rfl rfl rfl ?_
    refine x_unwant rfl rfl rfl rfl rfl ?_
    refine x_unwant rfl rfl rfl rfl rfl ?_
    refine x_unwant rfl rfl rfl rfl rfl ?_
    refine x_unwantu rfl rfl rfl rfl rfl ?_
    refine x_unwantu rfl rfl rfl rfl rfl ?_
    refine x_unwantu rfl rfl rfl rfl rfl ?_
    refine x_unwant rfl rfl rfl rfl rfl ?_
    refine x_unwant rfl rfl rfl rfl rfl ?_
    refine x_unwantu rfl rfl rfl rfl rfl ?_
    refine x_unwantu rfl rfl rfl rfl rfl ?_
    refine x_unwant rfl rfl rfl rfl rfl ?_
    refine x_unwant rfl rfl rfl rfl rfl ?_
    refine x_unwantu rfl rfl rfl rfl rfl ?_
    refine x_unwantu rfl rfl rfl rfl rfl ?_
    refine x_unwantu rfl rfl rfl rfl rfl ?_
    refine x_unwant rfl rfl rfl rfl rfl ?_
    refine x_unwant rfl rfl rfl rfl rfl ?_
    refine x_unwantu rfl rfl rfl rfl rfl ?_
    refine x_unwantu rfl rfl rfl rfl rfl ?_
    refine x_unwant rfl rfl rfl rfl rfl ?_
    refine x_unwant rfl rfl rfl rfl rfl ?_
    refine x_unwantu rfl rfl rfl rfl rfl ?_
    refine x_unwantu rfl rfl rfl rfl rfl ?_
    refine x_unwantu rfl rfl rfl rfl rfl ?_
    refine x_unwantu rfl rfl rfl rfl rfl ?_
    refine x_unwantu rfl rfl rfl rfl rfl ?_
    refine x_unwant rfl rfl rfl rfl rfl ?_
    refine x_unwant rfl rfl rfl rfl rfl ?_
    refine x_unwantu rfl rfl rfl rfl rfl ?_
    refine x_unwantu rfl rfl rfl rfl rfl ?_
    refine x_unwantu rfl rfl rfl rfl rfl ?_
    refine x_unwantu rfl rfl rfl rfl rfl ?_
    refine x_unwantu rfl rfl rfl rfl rfl ?_
    refine x_unwantu rfl rfl rfl rfl rfl ?_
    refine x_unwantu rfl rfl rfl rfl rfl ?_
    refine x_unwant rfl rfl rfl rfl rfl ?_
    refine x_unwant rfl rfl rfl rfl rfl ?_
    refine x_unwantu rfl rfl rfl rfl rfl ?_
    refine x_unwantu rfl rfl rfl rfl rfl ?_
    refine x_unwantu rfl rfl rfl rfl rfl ?_
    refine x_unwant rfl rfl rfl rfl rfl ?_
    refine x_unwant rfl rfl rfl rfl rfl ?_
    refine x_unwantu rfl rfl rfl rfl rfl ?_
    refine x_unwantu rfl rfl rfl rfl rfl ?_
    refine x_unwantu rfl rfl rfl rfl rfl ?_
    refine x_unwant rfl rfl rfl rfl rfl ?_
    refine x_want rfl rfl rfl ?_
    refine x_v (r_pk_t rfl rfl) rfl ?_
    refine x_v (r_pk_t rfl rfl) rfl ?_
    refine x_v (r_as rfl) rfl ?_
    refine XL.nil ?_
    refine hK5 _ _ ?_
    refine XC.keep [(2, _)] ⟨rfl, trivial⟩ ?_
    refine XC.ret ?_
    exact fin1 rfl (rfl) (by repeat (first | exact Gets.done _ | exact Gets.all _ | (apply Gets.step; focus ((repeat (first | exact Pick.head _ _ | apply Pick.tail)); done)) | apply Gets.drop))
  · refine x_want rfl rfl rfl ?_
    refine x_v (r_mv rfl) rfl ?_
    refine x_want rfl rfl rfl ?_
    refine x_v (r_fa fo42_2 rfl) rfl ?_
    refine x_want rfl rfl rfl ?_
    refine x_v (r_lda (l' := [_, _, _]) ty29 rfl (by repeat (first | exact Pick.head _ _ | apply Pick.tail)) rfl (Sub.get (by repeat (first | exact Sub.nil _ | apply Sub.take | apply Sub.skip)))) rfl ?_
    refine x_want rfl rfl rfl ?_
    refine x_c (r_call0 (args := [_, _]) ⟨rfl, rfl, rfl⟩ (sendnil_tr o.l) (by repeat (first | exact Gets.done _ | exact Gets.all _ | (apply Gets.step; focus ((repeat (first | exact Pick.head _ _ | apply Pick.tail)); done)) | apply Gets.drop))) rfl ?_
    rintro _ _ ⟨rfl, rfl⟩
    refine x_want rfl rfl rfl ?_
    refine x_v (r_eq rfl rfl) rfl ?_
    refine x_want rfl rfl rfl ?_
    refine x_v (r_mv rfl) rfl ?_
    refine x_want rfl rfl rfl ?_
    refine x_v (r_lda (l' := [_, _, _]) ty29 rfl (by repeat (first | exact Pick.head _ _ | apply Pick.tail)) rfl (Sub.get (by repeat (first | exact Sub.nil _ | apply Sub.take | apply Sub.skip)))) rfl ?_
    refine x_want rfl rfl rfl ?_
    refine x_v (r_bd (vs := []) rfl rfl bd29_z) rfl ?_
    refine x_want rfl rfl rfl ?_
    refine x_v (r_steq (by kernel_rfl) (fun w => eq29 _ _ _ _ _ _ w) rfl rfl) rfl ?_
    refine x_want rfl rfl rfl ?_
    refine x_v (r_pk_t rfl rfl) rfl ?_
    refine x_want rfl rfl rfl ?_
    refine x_v (r_mv rfl) rfl ?_
    refine x_want rfl rfl rfl ?_
    refine x_v (r_mv rfl) rfl ?_
    refine x_want rfl rfl rfl ?_
    refine x_v (r_not rfl) rfl ?_
    refine x_want rfl rfl rfl ?_
    refine x_v (r_pk_t rfl rfl) rfl ?_
    refine x_want rfl rfl rfl ?_
    refine x_v (r_mv rfl) rfl ?_
    refine x_want rfl rfl rfl ?_
    refine x_v (r_lda (l' := [_, _, _]) ty29 rfl (by repeat (first | exact Pick.head _ _ | apply Pick.tail)) rfl (Sub.get (by repeat (first | exact Sub.nil _ | apply Sub.take | apply Sub.skip)))) rfl ?_
    refine x_want rfl rfl rfl ?_
    refine x_v (r_bd (vs := []) rfl rfl bd29_z) rfl ?_
    refine x_want rfl rfl rfl ?_
    refine x_v (r_steq (by kernel_rfl) (fun w => eq29 _ _ _ _ _ _ w) rfl rfl) rfl ?_
    refine x_want rfl rfl rfl ?_
    refine x_v (r_pk_t rfl rfl) rfl ?_
    refine x_want rfl rfl rfl ?_
    refine x_v (r_mv rfl) rfl ?_
    refine x_want rfl rfl rfl ?_
    refine x_v (r_mv rfl) rfl ?_
    refine x_want rfl rfl rfl ?_
    refine x_v (r_eq rfl rfl) rfl ?_
    refine x_want rfl rfl rfl ?_
    refine x_v (r_pk_t rfl rfl) rfl ?_
    refine x_want rfl rfl rfl ?_
    refine x_v (r_mv rfl) rfl ?_
    refine x_want rfl rfl rfl ?_
    refine x_v (r_mv rfl) rfl ?_
    refine x_want rfl rfl rfl ?_
    refine x_v (r_fa fo42_1 rfl) rfl ?_
    refine x_want rfl rfl rfl ?_
    refine x_v (r_ld ty3 rfl (by repeat (first | exact Pick.head _ _ | apply Pick.tail)) (by rfl)) rfl ?_
    refine x_want rfl rfl rfl ?_
    refine x_c (r_call0 (args := [_, _]) ⟨rfl, rfl, rfl⟩ (twinnil_tr o.k) (by repeat (first | exact Gets.done _ | exact Gets.all _ | (apply Gets.step; focus ((repeat (first | exact Pick.head _ _ | apply Pick.tail)); done)) | apply Gets.drop))) rfl ?_
    rintro _ _ ⟨rfl, rfl⟩
    refine x_want rfl rfl rfl ?_
    refine x_v (r_eq rfl rfl) rfl ?_
    refine x_want rfl rfl rfl ?_
    refine x_v (r_pk_t rfl rfl) rfl ?_
    refine x_want rfl rfl rfl ?_
    refine x_v (r_mv rfl) rfl ?_
    refine x_want rfl rfl rfl ?_
    refine x_v (r_mv rfl) rfl ?_
    refine x_want rfl rfl rfl ?_
    refine x_a (r_bs (vs := []) rfl rfl bs40_0_) rfl fun b60 => ?_
    refine XL.shut_ (n := 0) (c := 0) (sz := 1) (xs := []) (by repeat (first | exact Pick.head _ _ | apply Pick.tail)) (Nat.le_refl _) (Nat.zero_le _) rfl rfl ?_
    have hon := (hgr (by assumption)).2 o (List.mem_singleton.2 rfl)
    refine x_want rfl rfl rfl ?_
    refine x_v (r_fa fo42_3 rfl) rfl ?_
    refine x_want rfl rfl rfl ?_
    refine x_v (r_ld ty40 rfl (by repeat (first | exact Pick.head _ _ | apply Pick.tail)) (by rfl)) rfl ?_
    refine x_want rfl rfl rfl ?_
    refine x_a (r_app Try.underlying40 ty3 rfl (by decide) rfl rfl (by repeat (first | exact Pick.head _ _ | apply Pick.tail)) (ho.rd _) (iv_one _) (by unfold maxLen; omega) (by omega)) rfl fun ⟨A63, c63⟩ => ?_
    rw [Nat.zero_add]
    refine x_want rfl rfl rfl ?_
    refine x_c (r_call0 (args := [_, _]) ⟨rfl, rfl, rfl⟩ (purgenil_tr A63 o.n c63) (by repeat (first | exact Gets.done _ | exact Gets.all _ | (apply Gets.step; focus ((repeat (first | exact Pick.head _ _ | apply Pick.tail)); done)) | apply Gets.drop))) rfl ?_
    rintro _ _ ⟨rfl, rfl⟩
    refine x_want rfl rfl rfl ?_
    refine x_v (r_eq rfl rfl) rfl ?_
    refine x_want rfl rfl rfl ?_
    refine x_v (r_pk_t rfl rfl) rfl ?_
    refine x_want rfl rfl rfl ?_
    refine x_v (r_mv rfl) rfl ?_
    refine x_want rfl rfl rfl ?_
    refine x_v (r_mv rfl) rfl ?_
    refine x_want rfl rfl rfl ?_
    refine x_c (r_call0 (args := [_]) ⟨rfl, rfl⟩ (lennil_tr) (by repeat (first | exact Gets.done _ | exact Gets.all _ | (apply Gets.step; focus ((repeat (first | exact Pick.head _ _ | apply Pick.tail)); done)) | apply Gets.drop))) rfl ?_
    rintro _ _ ⟨rfl, rfl⟩
    refine x_want rfl rfl rfl ?_
    refine x_v (r_eq rfl rfl) rfl ?_
    refine x_want rfl rfl rfl ?_
    refine x_v (r_pk_t rfl rfl) rfl ?_
    refine x_want rfl rfl rfl ?_
    refine x_v (r_mv rfl) rfl ?_
    refine x_want rfl rfl rfl ?_
    refine x_v (r_mv rfl) rfl ?_
    refine x_want rfl rfl rfl ?_
    refine x_c (r_call0 (args := [_]) ⟨rfl, rfl⟩ (copynil_tr) (by repeat (first | exact Gets.done _ | exact Gets.all _ | (apply Gets.step; focus ((repeat (first | exact Pick.head _ _ | apply Pick.tail)); done)) | apply Gets.drop))) rfl ?_
    rintro _ _ ⟨rfl, rfl⟩
    refine x_want rfl rfl rfl ?_
    refine x_v (r_peq_nil Try.underlying23 rfl rfl) rfl ?_
    refine x_want rfl rfl rfl ?_
    refine x_v (r_pk_t rfl rfl) rfl ?_
    refine x_want rfl rfl rfl ?_
    refine x_v (r_pk_f rfl rfl) rfl ?_
    refine x_v (r_pk_t rfl rfl) rfl ?_
    refine x_v (r_as rfl) rfl ?_
    refine XL.nil ?_
    refine hK5 _ _ ?_
    refine XC.keep [(2, _)] ⟨rfl, trivial⟩ ?_
    refine XC.ret ?_
    exact fin1 rfl (rfl) (by repeat (first | exact Gets.done _ | exact Gets.all _ | (apply Gets.step; focus ((repeat (first | exact Pick.head _ _ | apply Pick.tail)); done)) | apply Gets.drop))
end Go.Proofs.Ytdppjmdjmbbclaa

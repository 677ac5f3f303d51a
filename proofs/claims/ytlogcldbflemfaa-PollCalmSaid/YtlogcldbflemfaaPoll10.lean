/- Polls: votes, leading, snapshots and entries that come. -/
import Derived.Test.YtlogcldbflemfaaPoll9
namespace Go.Proofs.Ytlogcldbflemfaa
open Go.Sx Go.Rf
set_option linter.unusedVariables false

theorem asked_tr {W0 : World} {Fr : List HP} {k : HP} {p : Pl} {A : Option Addr} {c : Nat} (b : Nat) (M : Option Nat) (f : Int) (x : Mx) (h : PB W0 k p A c) :
    Tr W0 Try.prog 41 [.pointer (some ⟨b, 0, none⟩), .int .i64 f, .agg (mc x).toArray] (blk b 90 (pc p A c M) :: k :: Fr) (fun v Rs' => v = .bool (asked p f x.m).2 ∧ Rs' = blk b 90 (pc (asked p f x.m).1 A c M) :: k :: Fr) := by
  have t1 : (p.vote ≠ -1 ∧ p.vote ≠ f) ∨ x.m.prev < lastT p ∨ (x.m.prev = lastT p ∧ x.m.index < lastI p) → asked p f x.m = (p, false) := fun hh => by unfold asked; rw [if_pos hh]
  have t2 : ¬ ((p.vote ≠ -1 ∧ p.vote ≠ f) ∨ x.m.prev < lastT p ∨ (x.m.prev = lastT p ∧ x.m.index < lastI p)) → asked p f x.m = ({ p with vote := f, touched := true, clock := 0 }, true) := fun hh => by unfold asked; rw [if_neg hh]
  refine Entry.tr (N := 65) (rs := [.tmp 6]) ⟨_, Try.func41, rfl, by kernel_rfl, rfl, rfl⟩ rfl ?_
  refine XC.seq fun K1 hK1 => ?_
  refine XC.region ?_
  refine x_a (r_bx rfl rfl) rfl fun b5 => ?_
  unfold mc
  refine x_v (r_as rfl) rfl ?_
  refine XL.nil ?_
  refine hK1 _ _ ?_
  refine XC.keep [(0, _), (1, _), (5, _)] ⟨rfl, rfl, rfl, trivial⟩ ?_
  refine XC.seq fun K2 hK2 => ?_
  refine XC.region ?_
  refine x_v (r_mv rfl) rfl ?_
  refine x_v (r_nc rfl) rfl ?_
  refine x_v (r_fa fo90_0 rfl) rfl ?_
  refine x_c (r_call0 (args := [_]) ⟨rfl, rfl⟩ (last_tr b M h) (by repeat (first | exact Gets.done _ | exact Gets.all _ | (apply Gets.step; focus ((repeat (first | exact Pick.head _ _ | apply Pick.tail)); done)) | apply Gets.drop))) rfl ?_
  rintro _ _ ⟨rfl, rfl⟩
  refine x_v (r_mv rfl) rfl ?_
  refine x_v (r_ex rfl rfl) rfl ?_
  refine x_v (r_ex rfl rfl) rfl ?_
  refine x_v (r_as rfl) rfl ?_
  refine x_v (r_as rfl) rfl ?_
  refine XL.nil ?_
  refine hK2 _ _ ?_
  refine XC.keep [(0, _), (1, _), (5, _), (7, _), (8, _)] ⟨rfl, rfl, rfl, rfl, rfl, trivial⟩ ?_
  refine XC.seq fun K3 hK3 => ?_
  refine XC.seq fun K4 hK4 => ?_
  refine XC.region ?_
  refine x_v (r_mv rfl) rfl ?_
  refine x_v (r_nc rfl) rfl ?_
  refine x_v (r_fa fo90_0 rfl) rfl ?_
  refine x_v (r_fa fo86_0 rfl) rfl ?_
  refine x_v (r_fa fo32_1 rfl) rfl ?_
  refine x_v (r_ld ty3 rfl (by repeat (first | exact Pick.head _ _ | apply Pick.tail)) (by rfl)) rfl ?_
  refine x_v (r_ne rfl rfl) rfl ?_
  refine x_v (r_mv rfl) rfl ?_
  refine XL.splitd 23 rfl (fun hg23 => ?_) (fun hg23 => ?_)
  · refine x_want rfl rfl rfl ?_
    refine x_v (r_mv rfl) rfl ?_
    refine x_want rfl rfl rfl ?_
    refine x_v (r_nc rfl) rfl ?_
    refine x_want rfl rfl rfl ?_
    refine x_v (r_fa fo90_0 rfl) rfl ?_
    refine x_want rfl rfl rfl ?_
    refine x_v (r_fa fo86_0 rfl) rfl ?_
    refine x_want rfl rfl rfl ?_
    refine x_v (r_fa fo32_1 rfl) rfl ?_
    refine x_want rfl rfl rfl ?_
    refine x_v (r_ld ty3 rfl (by repeat (first | exact Pick.head _ _ | apply Pick.tail)) (by rfl)) rfl ?_
    refine x_want rfl rfl rfl ?_
    refine x_v (r_mv rfl) rfl ?_
    refine x_want rfl rfl rfl ?_
    refine x_v (r_ne rfl rfl) rfl ?_
    refine x_v (r_pk_t rfl rfl) rfl ?_
    refine x_v (r_mv rfl) rfl ?_
    refine XL.splitd 33 rfl (fun hg33 => ?_) (fun hg33 => ?_)
    · refine x_unwant rfl rfl rfl rfl rfl ?_
      refine x_unwant rfl rfl rfl rfl rfl ?_
      refine x_unwant rfl rfl rfl rfl rfl ?_
      refine x_unwant rfl rfl rfl rfl rfl ?_
      refine x_v (r_pk_t rfl rfl) rfl ?_
      refine x_v (r_mv rfl) rfl ?_
      refine x_unwant rfl rfl rfl rfl rfl ?_
      refine x_unwant rfl rfl rfl rfl rfl ?_
      refine x_unwant rfl rfl rfl rfl rfl ?_
      refine x_unwant rfl rfl rfl rfl rfl ?_
      refine x_unwant rfl rfl rfl rfl rfl ?_
      refine x_unwantu rfl rfl rfl rfl rfl ?_
      refine x_unwantu rfl rfl rfl rfl rfl ?_
      refine x_unwantu rfl rfl rfl rfl rfl ?_
      refine x_unwantu rfl rfl rfl rfl rfl ?_
      refine x_unwant rfl rfl rfl rfl rfl ?_
      refine x_v (r_pk_t rfl rfl) rfl ?_
      refine XL.nil ?_
      refine hK4 _ _ ?_
      refine XC.keep [(0, _), (1, _), (50, _)] ⟨rfl, rfl, rfl, trivial⟩ ?_
      refine XC.cond_t rfl ?_
      refine XC.seq fun K5 hK5 => ?_
      refine XC.region ?_
      refine x_v (r_as rfl) rfl ?_
      refine XL.nil ?_
      refine hK5 _ _ ?_
      refine XC.keep [(6, _)] ⟨rfl, trivial⟩ ?_
      refine XC.ret ?_
      first | rw [t1 (by omega)] | rw [t2 (by omega)]
      exact fin1 rfl (⟨rfl, rfl⟩) (by repeat (first | exact Gets.done _ | exact Gets.all _ | (apply Gets.step; focus ((repeat (first | exact Pick.head _ _ | apply Pick.tail)); done)) | apply Gets.drop))
    · refine x_want rfl rfl rfl ?_
      refine x_v (r_fa fo42_3 rfl) rfl ?_
      refine x_want rfl rfl rfl ?_
      refine x_v (r_ld ty3 rfl (by repeat (first | exact Pick.head _ _ | apply Pick.tail)) (by rfl)) rfl ?_
      refine x_want rfl rfl rfl ?_
      refine x_v (r_mv rfl) rfl ?_
      refine x_want rfl rfl rfl ?_
      refine x_v (r_lt rfl rfl) rfl ?_
      refine x_v (r_pk_f rfl rfl) rfl ?_
      refine x_v (r_mv rfl) rfl ?_
      refine XL.splitd 39 rfl (fun hg39 => ?_) (fun hg39 => ?_)
      · refine x_unwant rfl rfl rfl rfl rfl ?_
        refine x_unwant rfl rfl rfl rfl rfl ?_
        refine x_unwant rfl rfl rfl rfl rfl ?_
        refine x_unwant rfl rfl rfl rfl rfl ?_
        refine x_unwant rfl rfl rfl rfl rfl ?_
        refine x_unwantu rfl rfl rfl rfl rfl ?_
        refine x_unwantu rfl rfl rfl rfl rfl ?_
        refine x_unwantu rfl rfl rfl rfl rfl ?_
        refine x_unwantu rfl rfl rfl rfl rfl ?_
        refine x_unwant rfl rfl rfl rfl rfl ?_
        refine x_v (r_pk_t rfl rfl) rfl ?_
        refine XL.nil ?_
        refine hK4 _ _ ?_
        refine XC.keep [(0, _), (1, _), (50, _)] ⟨rfl, rfl, rfl, trivial⟩ ?_
        refine XC.cond_t rfl ?_
        refine XC.seq fun K6 hK6 => ?_
        refine XC.region ?_
        refine x_v (r_as rfl) rfl ?_
        refine XL.nil ?_
        refine hK6 _ _ ?_
        refine XC.keep [(6, _)] ⟨rfl, trivial⟩ ?_
        refine XC.ret ?_
        first | rw [t1 (by omega)] | rw [t2 (by omega)]
        exact fin1 rfl (⟨rfl, rfl⟩) (by repeat (first | exact Gets.done _ | exact Gets.all _ | (apply Gets.step; focus ((repeat (first | exact Pick.head _ _ | apply Pick.tail)); done)) | apply Gets.drop))
      · refine x_want rfl rfl rfl ?_
        refine x_v (r_fa fo42_3 rfl) rfl ?_
        refine x_want rfl rfl rfl ?_
        refine x_v (r_ld ty3 rfl (by repeat (first | exact Pick.head _ _ | apply Pick.tail)) (by rfl)) rfl ?_
        refine x_want rfl rfl rfl ?_
        refine x_v (r_mv rfl) rfl ?_
        refine x_want rfl rfl rfl ?_
        refine x_v (r_eq rfl rfl) rfl ?_
        refine x_want rfl rfl rfl ?_
        refine x_v (r_mv rfl) rfl ?_
        refine XL.splitd 44 rfl (fun hg44 => ?_) (fun hg44 => ?_)
        · refine x_want rfl rfl rfl ?_
          refine x_v (r_fa fo42_2 rfl) rfl ?_
          refine x_want rfl rfl rfl ?_
          refine x_v (r_ld ty3 rfl (by repeat (first | exact Pick.head _ _ | apply Pick.tail)) (by rfl)) rfl ?_
          refine x_want rfl rfl rfl ?_
          refine x_v (r_mv rfl) rfl ?_
          refine x_want rfl rfl rfl ?_
          refine x_v (r_lt rfl rfl) rfl ?_
          refine x_want rfl rfl rfl ?_
          refine x_v (r_pk_t rfl rfl) rfl ?_
          refine x_v (r_pk_f rfl rfl) rfl ?_
          refine XL.nil ?_
          refine hK4 _ _ ?_
          refine XC.keep [(0, _), (1, _), (50, _)] ⟨rfl, rfl, rfl, trivial⟩ ?_
          refine XC.cond_d rfl (fun hc3 => ?_) (fun hc3 => ?_)
          · refine XC.seq fun K7 hK7 => ?_
            refine XC.region ?_
            refine x_v (r_as rfl) rfl ?_
            refine XL.nil ?_
            refine hK7 _ _ ?_
            refine XC.keep [(6, _)] ⟨rfl, trivial⟩ ?_
            refine XC.ret ?_
            first | rw [t1 (by omega)] | rw [t2 (by omega)]
            exact fin1 rfl (⟨rfl, rfl⟩) (by repeat (first | exact Gets.done _ | exact Gets.all _ | (apply Gets.step; focus ((repeat (first | exact Pick.head _ _ | apply Pick.tail)); done)) | apply Gets.drop))
          · refine XC.skip ?_
            refine hK3 _ _ ?_
            refine XC.keep [(0, _), (1, _)] ⟨rfl, rfl, trivial⟩ ?_
            refine XC.seq fun K8 hK8 => ?_
            refine XC.draw [blk b 90 (pc p A c M)] true [(0, false), (1, false), (2, false), (3, false), (4, false), (5, false), (6, false), (7, false), (8, false), (9, false), (10, true)] (by kernel_rfl) (by kernel_rfl) ?_
            refine y_v rfl (r_mv rfl) (fun _ h => Gets.own (by repeat (first | exact Gets.done _ | exact Gets.all _ | (apply Gets.step; focus ((repeat (first | exact Pick.head _ _ | apply Pick.tail)); done)) | apply Gets.drop)) h) rfl ?_
            refine y_v rfl (r_nc rfl) (fun _ h => Gets.own (by repeat (first | exact Gets.done _ | exact Gets.all _ | (apply Gets.step; focus ((repeat (first | exact Pick.head _ _ | apply Pick.tail)); done)) | apply Gets.drop)) h) rfl ?_
            refine y_v rfl (r_fa fo90_0 rfl) (fun _ h => Gets.own (by repeat (first | exact Gets.done _ | exact Gets.all _ | (apply Gets.step; focus ((repeat (first | exact Pick.head _ _ | apply Pick.tail)); done)) | apply Gets.drop)) h) rfl ?_
            refine y_v rfl (r_mv rfl) (fun _ h => Gets.own (by repeat (first | exact Gets.done _ | exact Gets.all _ | (apply Gets.step; focus ((repeat (first | exact Pick.head _ _ | apply Pick.tail)); done)) | apply Gets.drop)) h) rfl ?_
            refine y_v rfl (r_nc rfl) (fun _ h => Gets.own (by repeat (first | exact Gets.done _ | exact Gets.all _ | (apply Gets.step; focus ((repeat (first | exact Pick.head _ _ | apply Pick.tail)); done)) | apply Gets.drop)) h) rfl ?_
            refine y_v rfl (r_fa fo90_0 rfl) (fun _ h => Gets.own (by repeat (first | exact Gets.done _ | exact Gets.all _ | (apply Gets.step; focus ((repeat (first | exact Pick.head _ _ | apply Pick.tail)); done)) | apply Gets.drop)) h) rfl ?_
            refine y_v rfl (r_fa fo86_0 rfl) (fun _ h => Gets.own (by repeat (first | exact Gets.done _ | exact Gets.all _ | (apply Gets.step; focus ((repeat (first | exact Pick.head _ _ | apply Pick.tail)); done)) | apply Gets.drop)) h) rfl ?_
            refine y_v rfl (r_fa fo32_0 rfl) (fun _ h => Gets.own (by repeat (first | exact Gets.done _ | exact Gets.all _ | (apply Gets.step; focus ((repeat (first | exact Pick.head _ _ | apply Pick.tail)); done)) | apply Gets.drop)) h) rfl ?_
            refine y_v rfl (r_ld ty3 rfl (by repeat (first | exact Pick.head _ _ | apply Pick.tail)) (by rfl)) (fun _ h => Gets.own (by repeat (first | exact Gets.done _ | exact Gets.all _ | (apply Gets.step; focus ((repeat (first | exact Pick.head _ _ | apply Pick.tail)); done)) | apply Gets.drop)) h) rfl ?_
            refine y_v rfl (r_mv rfl) (fun _ h => Gets.own (by repeat (first | exact Gets.done _ | exact Gets.all _ | (apply Gets.step; focus ((repeat (first | exact Pick.head _ _ | apply Pick.tail)); done)) | apply Gets.drop)) h) rfl ?_
            refine y_c rfl (r_call0 (args := [_, _, _]) ⟨rfl, rfl, rfl, rfl⟩ (swear_tr (p := p) (A := A) (c := c) b M p.term f) (by repeat (first | exact Gets.done _ | exact Gets.all _ | (apply Gets.step; focus ((repeat (first | exact Pick.head _ _ | apply Pick.tail)); done)) | apply Gets.drop))) (fun h => absurd h (by decide)) rfl ?_
            rintro _ _ ⟨rfl, rfl⟩
            refine XH.nil ?_
            refine hK8 _ _ ?_
            refine XC.keep [(0, _)] ⟨rfl, trivial⟩ ?_
            refine XC.seq fun K9 hK9 => ?_
            refine XC.region ?_
            refine x_v (r_mv rfl) rfl ?_
            refine x_v (r_nc rfl) rfl ?_
            refine x_v (r_fa fo90_7 rfl) rfl ?_
            unfold pc
            dsimp only [swear]
            refine x_e (r_st ty3 rfl rfl rfl rfl rfl (by repeat (first | exact Upd.head _ _ _ | apply Upd.tail)) (by repeat (first | exact Over.nil _ | apply Over.put | apply Over.skip))) ?_
            refine XL.nil ?_
            refine hK9 _ _ ?_
            refine XC.keep [] trivial ?_
            refine XC.seq fun K10 hK10 => ?_
            refine XC.region ?_
            refine x_v (r_as rfl) rfl ?_
            refine XL.nil ?_
            refine hK10 _ _ ?_
            refine XC.keep [(6, _)] ⟨rfl, trivial⟩ ?_
            refine XC.ret ?_
            first | rw [t1 (by omega)] | rw [t2 (by omega)]
            exact fin1 rfl (⟨rfl, rfl⟩) (by repeat (first | exact Gets.done _ | exact Gets.all _ | (apply Gets.step; focus ((repeat (first | exact Pick.head _ _ | apply Pick.tail)); done)) | apply Gets.drop))
        · refine x_unwant rfl rfl rfl rfl rfl ?_
          refine x_unwant rfl rfl rfl rfl rfl ?_
          refine x_unwant rfl rfl rfl rfl rfl ?_
          refine x_unwant rfl rfl rfl rfl rfl ?_
          refine x_want rfl rfl rfl ?_
          refine x_v (r_pk_f rfl rfl) rfl ?_
          refine x_v (r_pk_f rfl rfl) rfl ?_
          refine XL.nil ?_
          refine hK4 _ _ ?_
          refine XC.keep [(0, _), (1, _), (50, _)] ⟨rfl, rfl, rfl, trivial⟩ ?_
          refine XC.cond_f rfl ?_
          refine XC.skip ?_
          refine hK3 _ _ ?_
          refine XC.keep [(0, _), (1, _)] ⟨rfl, rfl, trivial⟩ ?_
          refine XC.seq fun K11 hK11 => ?_
          refine XC.draw [blk b 90 (pc p A c M)] true [(0, false), (1, false), (2, false), (3, false), (4, false), (5, false), (6, false), (7, false), (8, false), (9, false), (10, true)] (by kernel_rfl) (by kernel_rfl) ?_
          refine y_v rfl (r_mv rfl) (fun _ h => Gets.own (by repeat (first | exact Gets.done _ | exact Gets.all _ | (apply Gets.step; focus ((repeat (first | exact Pick.head _ _ | apply Pick.tail)); done)) | apply Gets.drop)) h) rfl ?_
          refine y_v rfl (r_nc rfl) (fun _ h => Gets.own (by repeat (first | exact Gets.done _ | exact Gets.all _ | (apply Gets.step; focus ((repeat (first | exact Pick.head _ _ | apply Pick.tail)); done)) | apply Gets.drop)) h) rfl ?_
          refine y_v rfl (r_fa fo90_0 rfl) (fun _ h => Gets.own (by repeat (first | exact Gets.done _ | exact Gets.all _ | (apply Gets.step; focus ((repeat (first | exact Pick.head _ _ | apply Pick.tail)); done)) | apply Gets.drop)) h) rfl ?_
          refine y_v rfl (r_mv rfl) (fun _ h => Gets.own (by repeat (first | exact Gets.done _ | exact Gets.all _ | (apply Gets.step; focus ((repeat (first | exact Pick.head _ _ | apply Pick.tail)); done)) | apply Gets.drop)) h) rfl ?_
          refine y_v rfl (r_nc rfl) (fun _ h => Gets.own (by repeat (first | exact Gets.done _ | exact Gets.all _ | (apply Gets.step; focus ((repeat (first | exact Pick.head _ _ | apply Pick.tail)); done)) | apply Gets.drop)) h) rfl ?_
          refine y_v rfl (r_fa fo90_0 rfl) (fun _ h => Gets.own (by repeat (first | exact Gets.done _ | exact Gets.all _ | (apply Gets.step; focus ((repeat (first | exact Pick.head _ _ | apply Pick.tail)); done)) | apply Gets.drop)) h) rfl ?_
          refine y_v rfl (r_fa fo86_0 rfl) (fun _ h => Gets.own (by repeat (first | exact Gets.done _ | exact Gets.all _ | (apply Gets.step; focus ((repeat (first | exact Pick.head _ _ | apply Pick.tail)); done)) | apply Gets.drop)) h) rfl ?_
          refine y_v rfl (r_fa fo32_0 rfl) (fun _ h => Gets.own (by repeat (first | exact Gets.done _ | exact Gets.all _ | (apply Gets.step; focus ((repeat (first | exact Pick.head _ _ | apply Pick.tail)); done)) | apply Gets.drop)) h) rfl ?_
          refine y_v rfl (r_ld ty3 rfl (by repeat (first | exact Pick.head _ _ | apply Pick.tail)) (by rfl)) (fun _ h => Gets.own (by repeat (first | exact Gets.done _ | exact Gets.all _ | (apply Gets.step; focus ((repeat (first | exact Pick.head _ _ | apply Pick.tail)); done)) | apply Gets.drop)) h) rfl ?_
          refine y_v rfl (r_mv rfl) (fun _ h => Gets.own (by repeat (first | exact Gets.done _ | exact Gets.all _ | (apply Gets.step; focus ((repeat (first | exact Pick.head _ _ | apply Pick.tail)); done)) | apply Gets.drop)) h) rfl ?_
          refine y_c rfl (r_call0 (args := [_, _, _]) ⟨rfl, rfl, rfl, rfl⟩ (swear_tr (p := p) (A := A) (c := c) b M p.term f) (by repeat (first | exact Gets.done _ | exact Gets.all _ | (apply Gets.step; focus ((repeat (first | exact Pick.head _ _ | apply Pick.tail)); done)) | apply Gets.drop))) (fun h => absurd h (by decide)) rfl ?_
          rintro _ _ ⟨rfl, rfl⟩
          refine XH.nil ?_
          refine hK11 _ _ ?_
          refine XC.keep [(0, _)] ⟨rfl, trivial⟩ ?_
          refine XC.seq fun K12 hK12 => ?_
          refine XC.region ?_
          refine x_v (r_mv rfl) rfl ?_
          refine x_v (r_nc rfl) rfl ?_
          refine x_v (r_fa fo90_7 rfl) rfl ?_
          unfold pc
          dsimp only [swear]
          refine x_e (r_st ty3 rfl rfl rfl rfl rfl (by repeat (first | exact Upd.head _ _ _ | apply Upd.tail)) (by repeat (first | exact Over.nil _ | apply Over.put | apply Over.skip))) ?_
          refine XL.nil ?_
          refine hK12 _ _ ?_
          refine XC.keep [] trivial ?_
          refine XC.seq fun K13 hK13 => ?_
          refine XC.region ?_
          refine x_v (r_as rfl) rfl ?_
          refine XL.nil ?_
          refine hK13 _ _ ?_
          refine XC.keep [(6, _)] ⟨rfl, trivial⟩ ?_
          refine XC.ret ?_
          first | rw [t1 (by omega)] | rw [t2 (by omega)]
          exact fin1 rfl (⟨rfl, rfl⟩) (by repeat (first | exact Gets.done _ | exact Gets.all _ | (apply Gets.step; focus ((repeat (first | exact Pick.head _ _ | apply Pick.tail)); done)) | apply Gets.drop))
  · refine x_unwant rfl rfl rfl rfl rfl ?_
    refine x_unwant rfl rfl rfl rfl rfl ?_
    refine x_unwant rfl rfl rfl rfl rfl ?_
    refine x_unwant rfl rfl rfl rfl rfl ?_
    refine x_unwant rfl rfl rfl rfl rfl ?_
    refine x_unwant rfl rfl rfl rfl rfl ?_
    refine x_unwant rfl rfl rfl rfl rfl ?_
    refine x_unwant rfl rfl rfl rfl rfl ?_
    refine x_v (r_pk_f rfl rfl) rfl ?_
    refine x_v (r_mv rfl) rfl ?_
    refine x_want rfl rfl rfl ?_
    refine x_v (r_fa fo42_3 rfl) rfl ?_
    refine x_want rfl rfl rfl ?_
    refine x_v (r_ld ty3 rfl (by repeat (first | exact Pick.head _ _ | apply Pick.tail)) (by rfl)) rfl ?_
    refine x_want rfl rfl rfl ?_
    refine x_v (r_mv rfl) rfl ?_
    refine x_want rfl rfl rfl ?_
    refine x_v (r_lt rfl rfl) rfl ?_
    refine x_v (r_pk_f rfl rfl) rfl ?_
    refine x_v (r_mv rfl) rfl ?_
    refine XL.splitd 39 rfl (fun hg39 => ?_) (fun hg39 => ?_)
    · refine x_unwant rfl rfl rfl rfl rfl ?_
      refine x_unwant rfl rfl rfl rfl rfl ?_
      refine x_unwant rfl rfl rfl rfl rfl ?_
      refine x_unwant rfl rfl rfl rfl rfl ?_
      refine x_unwant rfl rfl rfl rfl rfl ?_
      refine x_unwantu rfl rfl rfl rfl rfl ?_
      refine x_unwantu rfl rfl rfl rfl rfl ?_
      refine x_unwantu rfl rfl rfl rfl rfl ?_
      refine x_unwantu rfl rfl rfl rfl rfl ?_
      refine x_unwant rfl rfl rfl rfl rfl ?_
      refine x_v (r_pk_t rfl rfl) rfl ?_
      refine XL.nil ?_
      refine hK4 _ _ ?_
      refine XC.keep [(0, _), (1, _), (50, _)] ⟨rfl, rfl, rfl, trivial⟩ ?_
      refine XC.cond_t rfl ?_
      refine XC.seq fun K14 hK14 => ?_
      refine XC.region ?_
      refine x_v (r_as rfl) rfl ?_
      refine XL.nil ?_
      refine hK14 _ _ ?_
      refine XC.keep [(6, _)] ⟨rfl, trivial⟩ ?_
      refine XC.ret ?_
      first | rw [t1 (by omega)] | rw [t2 (by omega)]
      exact fin1 rfl (⟨rfl, rfl⟩) (by repeat (first | exact Gets.done _ | exact Gets.all _ | (apply Gets.step; focus ((repeat (first | exact Pick.head _ _ | apply Pick.tail)); done)) | apply Gets.drop))
    · refine x_want rfl rfl rfl ?_
      refine x_v (r_fa fo42_3 rfl) rfl ?_
      refine x_want rfl rfl rfl ?_
      refine x_v (r_ld ty3 rfl (by repeat (first | exact Pick.head _ _ | apply Pick.tail)) (by rfl)) rfl ?_
      refine x_want rfl rfl rfl ?_
      refine x_v (r_mv rfl) rfl ?_
      refine x_want rfl rfl rfl ?_
      refine x_v (r_eq rfl rfl) rfl ?_
      refine x_want rfl rfl rfl ?_
      refine x_v (r_mv rfl) rfl ?_
      refine XL.splitd 44 rfl (fun hg44 => ?_) (fun hg44 => ?_)
      · refine x_want rfl rfl rfl ?_
        refine x_v (r_fa fo42_2 rfl) rfl ?_
        refine x_want rfl rfl rfl ?_
        refine x_v (r_ld ty3 rfl (by repeat (first | exact Pick.head _ _ | apply Pick.tail)) (by rfl)) rfl ?_
        refine x_want rfl rfl rfl ?_
        refine x_v (r_mv rfl) rfl ?_
        refine x_want rfl rfl rfl ?_
        refine x_v (r_lt rfl rfl) rfl ?_
        refine x_want rfl rfl rfl ?_
        refine x_v (r_pk_t rfl rfl) rfl ?_
        refine x_v (r_pk_f rfl rfl) rfl ?_
        refine XL.nil ?_
        refine hK4 _ _ ?_
        refine XC.keep [(0, _), (1, _), (50, _)] ⟨rfl, rfl, rfl, trivial⟩ ?_
        refine XC.cond_d rfl (fun hc6 => ?_) (fun hc6 => ?_)
        · refine XC.seq fun K15 hK15 => ?_
          refine XC.region ?_
          refine x_v (r_as rfl) rfl ?_
          refine XL.nil ?_
          refine hK15 _ _ ?_
          refine XC.keep [(6, _)] ⟨rfl, trivial⟩ ?_
          refine XC.ret ?_
          first | rw [t1 (by omega)] | rw [t2 (by omega)]
          exact fin1 rfl (⟨rfl, rfl⟩) (by repeat (first | exact Gets.done _ | exact Gets.all _ | (apply Gets.step; focus ((repeat (first | exact Pick.head _ _ | apply Pick.tail)); done)) | apply Gets.drop))
        · refine XC.skip ?_
          refine hK3 _ _ ?_
          refine XC.keep [(0, _), (1, _)] ⟨rfl, rfl, trivial⟩ ?_
          refine XC.seq fun K16 hK16 => ?_
          refine XC.draw [blk b 90 (pc p A c M)] true [(0, false), (1, false), (2, false), (3, false), (4, false), (5, false), (6, false), (7, false), (8, false), (9, false), (10, true)] (by kernel_rfl) (by kernel_rfl) ?_
          refine y_v rfl (r_mv rfl) (fun _ h => Gets.own (by repeat (first | exact Gets.done _ | exact Gets.all _ | (apply Gets.step; focus ((repeat (first | exact Pick.head _ _ | apply Pick.tail)); done)) | apply Gets.drop)) h) rfl ?_
          refine y_v rfl (r_nc rfl) (fun _ h => Gets.own (by repeat (first | exact Gets.done _ | exact Gets.all _ | (apply Gets.step; focus ((repeat (first | exact Pick.head _ _ | apply Pick.tail)); done)) | apply Gets.drop)) h) rfl ?_
          refine y_v rfl (r_fa fo90_0 rfl) (fun _ h => Gets.own (by repeat (first | exact Gets.done _ | exact Gets.all _ | (apply Gets.step; focus ((repeat (first | exact Pick.head _ _ | apply Pick.tail)); done)) | apply Gets.drop)) h) rfl ?_
          refine y_v rfl (r_mv rfl) (fun _ h => Gets.own (by repeat (first | exact Gets.done _ | exact Gets.all _ | (apply Gets.step; focus ((repeat (first | exact Pick.head _ _ | apply Pick.tail)); done)) | apply Gets.drop)) h) rfl ?_
          refine y_v rfl (r_nc rfl) (fun _ h => Gets.own (by repeat (first | exact Gets.done _ | exact Gets.all _ | (apply Gets.step; focus ((repeat (first | exact Pick.head _ _ | apply Pick.tail)); done)) | apply Gets.drop)) h) rfl ?_
          refine y_v rfl (r_fa fo90_0 rfl) (fun _ h => Gets.own (by repeat (first | exact Gets.done _ | exact Gets.all _ | (apply Gets.step; focus ((repeat (first | exact Pick.head _ _ | apply Pick.tail)); done)) | apply Gets.drop)) h) rfl ?_
          refine y_v rfl (r_fa fo86_0 rfl) (fun _ h => Gets.own (by repeat (first | exact Gets.done _ | exact Gets.all _ | (apply Gets.step; focus ((repeat (first | exact Pick.head _ _ | apply Pick.tail)); done)) | apply Gets.drop)) h) rfl ?_
          refine y_v rfl (r_fa fo32_0 rfl) (fun _ h => Gets.own (by repeat (first | exact Gets.done _ | exact Gets.all _ | (apply Gets.step; focus ((repeat (first | exact Pick.head _ _ | apply Pick.tail)); done)) | apply Gets.drop)) h) rfl ?_
          refine y_v rfl (r_ld ty3 rfl (by repeat (first | exact Pick.head _ _ | apply Pick.tail)) (by rfl)) (fun _ h => Gets.own (by repeat (first | exact Gets.done _ | exact Gets.all _ | (apply Gets.step; focus ((repeat (first | exact Pick.head _ _ | apply Pick.tail)); done)) | apply Gets.drop)) h) rfl ?_
          refine y_v rfl (r_mv rfl) (fun _ h => Gets.own (by repeat (first | exact Gets.done _ | exact Gets.all _ | (apply Gets.step; focus ((repeat (first | exact Pick.head _ _ | apply Pick.tail)); done)) | apply Gets.drop)) h) rfl ?_
          refine y_c rfl (r_call0 (args := [_, _, _]) ⟨rfl, rfl, rfl, rfl⟩ (swear_tr (p := p) (A := A) (c := c) b M p.term f) (by repeat (first | exact Gets.done _ | exact Gets.all _ | (apply Gets.step; focus ((repeat (first | exact Pick.head _ _ | apply Pick.tail)); done)) | apply Gets.drop))) (fun h => absurd h (by decide)) rfl ?_
          rintro _ _ ⟨rfl, rfl⟩
          refine XH.nil ?_
          refine hK16 _ _ ?_
          refine XC.keep [(0, _)] ⟨rfl, trivial⟩ ?_
          refine XC.seq fun K17 hK17 => ?_
          refine XC.region ?_
          refine x_v (r_mv rfl) rfl ?_
          refine x_v (r_nc rfl) rfl ?_
          refine x_v (r_fa fo90_7 rfl) rfl ?_
          unfold pc
          dsimp only [swear]
          refine x_e (r_st ty3 rfl rfl rfl rfl rfl (by repeat (first | exact Upd.head _ _ _ | apply Upd.tail)) (by repeat (first | exact Over.nil _ | apply Over.put | apply Over.skip))) ?_
          refine XL.nil ?_
          refine hK17 _ _ ?_
          refine XC.keep [] trivial ?_
          refine XC.seq fun K18 hK18 => ?_
          refine XC.region ?_
          refine x_v (r_as rfl) rfl ?_
          refine XL.nil ?_
          refine hK18 _ _ ?_
          refine XC.keep [(6, _)] ⟨rfl, trivial⟩ ?_
          refine XC.ret ?_
          first | rw [t1 (by omega)] | rw [t2 (by omega)]
          exact fin1 rfl (⟨rfl, rfl⟩) (by repeat (first | exact Gets.done _ | exact Gets.all _ | (apply Gets.step; focus ((repeat (first | exact Pick.head _ _ | apply Pick.tail)); done)) | apply Gets.drop))
      · refine x_unwant rfl rfl rfl rfl rfl ?_
        refine x_unwant rfl rfl rfl rfl rfl ?_
        refine x_unwant rfl rfl rfl rfl rfl ?_
        refine x_unwant rfl rfl rfl rfl rfl ?_
        refine x_want rfl rfl rfl ?_
        refine x_v (r_pk_f rfl rfl) rfl ?_
        refine x_v (r_pk_f rfl rfl) rfl ?_
        refine XL.nil ?_
        refine hK4 _ _ ?_
        refine XC.keep [(0, _), (1, _), (50, _)] ⟨rfl, rfl, rfl, trivial⟩ ?_
        refine XC.cond_f rfl ?_
        refine XC.skip ?_
        refine hK3 _ _ ?_
        refine XC.keep [(0, _), (1, _)] ⟨rfl, rfl, trivial⟩ ?_
        refine XC.seq fun K19 hK19 => ?_
        refine XC.draw [blk b 90 (pc p A c M)] true [(0, false), (1, false), (2, false), (3, false), (4, false), (5, false), (6, false), (7, false), (8, false), (9, false), (10, true)] (by kernel_rfl) (by kernel_rfl) ?_
        refine y_v rfl (r_mv rfl) (fun _ h => Gets.own (by repeat (first | exact Gets.done _ | exact Gets.all _ | (apply Gets.step; focus ((repeat (first | exact Pick.head _ _ | apply Pick.tail)); done)) | apply Gets.drop)) h) rfl ?_
        refine y_v rfl (r_nc rfl) (fun _ h => Gets.own (by repeat (first | exact Gets.done _ | exact Gets.all _ | (apply Gets.step; focus ((repeat (first | exact Pick.head _ _ | apply Pick.tail)); done)) | apply Gets.drop)) h) rfl ?_
        refine y_v rfl (r_fa fo90_0 rfl) (fun _ h => Gets.own (by repeat (first | exact Gets.done _ | exact Gets.all _ | (apply Gets.step; focus ((repeat (first | exact Pick.head _ _ | apply Pick.tail)); done)) | apply Gets.drop)) h) rfl ?_
        refine y_v rfl (r_mv rfl) (fun _ h => Gets.own (by repeat (first | exact Gets.done _ | exact Gets.all _ | (apply Gets.step; focus ((repeat (first | exact Pick.head _ _ | apply Pick.tail)); done)) | apply Gets.drop)) h) rfl ?_
        refine y_v rfl (r_nc rfl) (fun _ h => Gets.own (by repeat (first | exact Gets.done _ | exact Gets.all _ | (apply Gets.step; focus ((repeat (first | exact Pick.head _ _ | apply Pick.tail)); done)) | apply Gets.drop)) h) rfl ?_
        refine y_v rfl (r_fa fo90_0 rfl) (fun _ h => Gets.own (by repeat (first | exact Gets.done _ | exact Gets.all _ | (apply Gets.step; focus ((repeat (first | exact Pick.head _ _ | apply Pick.tail)); done)) | apply Gets.drop)) h) rfl ?_
        refine y_v rfl (r_fa fo86_0 rfl) (fun _ h => Gets.own (by repeat (first | exact Gets.done _ | exact Gets.all _ | (apply Gets.step; focus ((repeat (first | exact Pick.head _ _ | apply Pick.tail)); done)) | apply Gets.drop)) h) rfl ?_
        refine y_v rfl (r_fa fo32_0 rfl) (fun _ h => Gets.own (by repeat (first | exact Gets.done _ | exact Gets.all _ | (apply Gets.step; focus ((repeat (first | exact Pick.head _ _ | apply Pick.tail)); done)) | apply Gets.drop)) h) rfl ?_
        refine y_v rfl (r_ld ty3 rfl (by repeat (first | exact Pick.head _ _ | apply Pick.tail)) (by rfl)) (fun _ h => Gets.own (by repeat (first | exact Gets.done _ | exact Gets.all _ | (apply Gets.step; focus ((repeat (first | exact Pick.head _ _ | apply Pick.tail)); done)) | apply Gets.drop)) h) rfl ?_
        refine y_v rfl (r_mv rfl) (fun _ h => Gets.own (by repeat (first | exact Gets.done _ | exact Gets.all _ | (apply Gets.step; focus ((repeat (first | exact Pick.head _ _ | apply Pick.tail)); done)) | apply Gets.drop)) h) rfl ?_
        refine y_c rfl (r_call0 (args := [_, _, _]) ⟨rfl, rfl, rfl, rfl⟩ (swear_tr (p := p) (A := A) (c := c) b M p.term f) (by repeat (first | exact Gets.done _ | exact Gets.all _ | (apply Gets.step; focus ((repeat (first | exact Pick.head _ _ | apply Pick.tail)); done)) | apply Gets.drop))) (fun h => absurd h (by decide)) rfl ?_
        rintro _ _ ⟨rfl, rfl⟩
        refine XH.nil ?_
        refine hK19 _ _ ?_
        refine XC.keep [(0, _)] ⟨rfl, trivial⟩ ?_
        refine XC.seq fun K20 hK20 => ?_
        refine XC.region ?_
        refine x_v (r_mv rfl) rfl ?_
        refine x_v (r_nc rfl) rfl ?_
        refine x_v (r_fa fo90_7 rfl) rfl ?_
        unfold pc
        dsimp only [swear]
        refine x_e (r_st ty3 rfl rfl rfl rfl rfl (by repeat (first | exact Upd.head _ _ _ | apply Upd.tail)) (by repeat (first | exact Over.nil _ | apply Over.put | apply Over.skip))) ?_
        refine XL.nil ?_
        refine hK20 _ _ ?_
        refine XC.keep [] trivial ?_
        refine XC.seq fun K21 hK21 => ?_
        refine XC.region ?_
        refine x_v (r_as rfl) rfl ?_
        refine XL.nil ?_
        refine hK21 _ _ ?_
        refine XC.keep [(6, _)] ⟨rfl, trivial⟩ ?_
        refine XC.ret ?_
        first | rw [t1 (by omega)] | rw [t2 (by omega)]
        exact fin1 rfl (⟨rfl, rfl⟩) (by repeat (first | exact Gets.done _ | exact Gets.all _ | (apply Gets.step; focus ((repeat (first | exact Pick.head _ _ | apply Pick.tail)); done)) | apply Gets.drop))

theorem leads_tr {W0 : World} {Fr : List HP} {k : HP} {p : Pl} {A : Option Addr} {c : Nat} {B : Nat} (b : Nat) (M : Option Nat) (h : PB W0 k p A c) (hL : Lim B p) (hB : B ≤ 1000000) :
    Tr W0 Try.prog 42 [.pointer (some ⟨b, 0, none⟩)] (blk b 90 (pc p A c M) :: k :: Fr) (SP W0 k Fr b (leads p).1 M (leads p).2) := by
  have hb0 := h.b0; have hb1 := h.b1; have hel := h.el
  have hli := last_in hL
  have hmost : most = 1099511627776 := rfl
  obtain ⟨q, hqd⟩ : ∃ q : Pl, q = { p with role := 2, lead := p.me, nx := [lastI p + 1, lastI p + 1, lastI p + 1], mt := [0, 0, 0] } := ⟨_, rfl⟩
  have hLq : Lim B q := by rw [hqd]; exact hL.lead0 2 p.me
  have hPq : PB W0 k q A c := by rw [hqd]; exact ⟨h.rd, h.el, h.ec, h.b0, h.b1⟩
  have e : leads p = (put q [], feed (put q []) (others (put q []))) := by unfold leads; rw [hqd]
  rw [e]
  obtain ⟨p1, hp1⟩ : ∃ p1 : Pl, p1 = { p with role := 2, lead := p.me } := ⟨_, rfl⟩
  have hP1 : PB W0 k p1 A c := by rw [hp1]; exact ⟨h.rd, h.el, h.ec, h.b0, h.b1⟩
  have hl1 : lastI p1 = lastI p := by rw [hp1]; rfl
  refine Entry.tr (N := 38) (rs := [.tmp 2]) ⟨_, Try.func42, rfl, by kernel_rfl, rfl, rfl⟩ rfl ?_
  refine XC.seq fun K1 hK1 => ?_
  refine XC.region ?_
  refine x_v (r_as rfl) rfl ?_
  refine XL.nil ?_
  refine hK1 _ _ ?_
  refine XC.keep [(0, _)] ⟨rfl, trivial⟩ ?_
  refine XC.seq fun K2 hK2 => ?_
  unfold pc
  refine XC.region ?_
  refine x_v (r_mv rfl) rfl ?_
  refine x_v (r_mv rfl) rfl ?_
  refine x_v (r_mv rfl) rfl ?_
  refine x_v (r_nc rfl) rfl ?_
  refine x_v (r_fa fo90_1 rfl) rfl ?_
  refine x_v (r_ld ty3 rfl (by repeat (first | exact Pick.head _ _ | apply Pick.tail)) (by rfl)) rfl ?_
  refine x_v (r_nc rfl) rfl ?_
  refine x_v (r_fa fo90_4 rfl) rfl ?_
  refine x_e (r_st ty3 rfl rfl rfl rfl rfl (by repeat (first | exact Upd.head _ _ _ | apply Upd.tail)) (by repeat (first | exact Over.nil _ | apply Over.put | apply Over.skip))) ?_
  refine x_v (r_nc rfl) rfl ?_
  refine x_v (r_fa fo90_5 rfl) rfl ?_
  refine x_e (r_st ty3 rfl rfl rfl rfl rfl (by repeat (first | exact Upd.head _ _ _ | apply Upd.tail)) (by repeat (first | exact Over.nil _ | apply Over.put | apply Over.skip))) ?_
  refine XL.nil ?_
  refine hK2 _ _ ?_
  refine XC.keep [(0, _)] ⟨rfl, trivial⟩ ?_
  refine XC.seq fun K3 hK3 => ?_
  refine XC.mem (blk b 90 (pc p1 A c M) :: k :: Fr) (fun w h => by rw [hp1]; exact Gets.own (by repeat (first | exact Gets.done _ | exact Gets.all _ | (apply Gets.step; focus ((repeat (first | exact Pick.head _ _ | apply Pick.tail)); done)) | apply Gets.drop)) h) ?_
  refine XC.region ?_
  refine x_v (r_mv rfl) rfl ?_
  refine x_v (r_nc rfl) rfl ?_
  refine x_v (r_fa fo90_0 rfl) rfl ?_
  refine x_c (r_call0 (args := [_]) ⟨rfl, rfl⟩ (last_tr (p := p1) b M hP1) (by repeat (first | exact Gets.done _ | exact Gets.all _ | (apply Gets.step; focus ((repeat (first | exact Pick.head _ _ | apply Pick.tail)); done)) | apply Gets.drop))) rfl ?_
  rintro _ _ ⟨rfl, rfl⟩
  rw [hl1]
  refine x_v (r_mv rfl) rfl ?_
  refine x_v (r_ex rfl rfl) rfl ?_
  refine x_v (r_ex rfl rfl) rfl ?_
  refine x_v (r_as rfl) rfl ?_
  refine x_v (r_as rfl) rfl ?_
  refine XL.nil ?_
  refine hK3 _ _ ?_
  refine XC.keep [(0, _), (3, _)] ⟨rfl, rfl, trivial⟩ ?_
  refine XC.seq fun K4 hK4 => ?_
  unfold pc
  refine XC.region ?_
  refine x_v (r_mv rfl) rfl ?_
  refine x_v (r_mv rfl) rfl ?_
  refine x_v (r_mv rfl) rfl ?_
  refine x_v (r_add rfl rfl (by omega)) rfl ?_
  refine x_v (r_mv rfl) rfl ?_
  refine x_v (r_add rfl rfl (by omega)) rfl ?_
  refine x_v (r_mv rfl) rfl ?_
  refine x_v (r_add rfl rfl (by omega)) rfl ?_
  refine x_v (r_bd (vs := [_, _, _]) rfl ⟨rfl, rfl, rfl, rfl⟩ (bd88_0_1_2 _ _ _)) rfl ?_
  refine x_v (r_bd (vs := []) rfl rfl bd88_z) rfl ?_
  refine x_v (r_nc rfl) rfl ?_
  refine x_v (r_fa fo90_10 rfl) rfl ?_
  refine x_e (r_st ty88 rfl rfl rfl rfl rfl (by repeat (first | exact Upd.head _ _ _ | apply Upd.tail)) (by repeat (first | exact Over.nil _ | apply Over.put | apply Over.skip))) ?_
  refine x_v (r_nc rfl) rfl ?_
  refine x_v (r_fa fo90_11 rfl) rfl ?_
  refine x_e (r_st ty88 rfl rfl rfl rfl rfl (by repeat (first | exact Upd.head _ _ _ | apply Upd.tail)) (by repeat (first | exact Over.nil _ | apply Over.put | apply Over.skip))) ?_
  refine XL.nil ?_
  refine hK4 _ _ ?_
  refine XC.keep [(0, _)] ⟨rfl, trivial⟩ ?_
  refine XC.seq fun K5 hK5 => ?_
  refine XC.mem (blk b 90 (pc q A c M) :: k :: Fr) (fun w h => by rw [hqd]; rw [hp1] at h; exact Gets.own (by repeat (first | exact Gets.done _ | exact Gets.all _ | (apply Gets.step; focus ((repeat (first | exact Pick.head _ _ | apply Pick.tail)); done)) | apply Gets.drop)) h) ?_
  refine XC.region ?_
  refine x_v (r_mv rfl) rfl ?_
  refine x_c (r_call0 (args := [_, _]) ⟨rfl, rfl, rfl⟩ (put_tr b M [] hPq (hLq.put (by simp)) (by omega)) (by repeat (first | exact Gets.done _ | exact Gets.all _ | (apply Gets.step; focus ((repeat (first | exact Pick.head _ _ | apply Pick.tail)); done)) | apply Gets.drop))) rfl ?_
  rintro _ _ ⟨L, A5, c5, A6, c6, k6, rfl, rfl, hLs, hx6, hp6, hrd⟩
  refine x_v (r_as rfl) rfl ?_
  refine XL.nil ?_
  refine hK5 _ _ ?_
  refine XC.keep [(2, _)] ⟨rfl, trivial⟩ ?_
  refine XC.ret ?_
  exact fin1 rfl (⟨L, A5, c5, A6, c6, k6, rfl, rfl, hLs, hx6, hp6, hrd⟩) (by repeat (first | exact Gets.done _ | exact Gets.all _ | (apply Gets.step; focus ((repeat (first | exact Pick.head _ _ | apply Pick.tail)); done)) | apply Gets.drop))

theorem laid_tr {W0 : World} {Fr : List HP} {k : HP} {p : Pl} {A : Option Addr} {c : Nat} (b : Nat) (M : Option Nat) (x : Mx) (h : PB W0 k p A c) (hi : 0 ≤ x.m.index ∧ x.m.index ≤ 2000000000000) :
    Tr W0 Try.prog 45 [.pointer (some ⟨b, 0, none⟩), .agg (mc x).toArray] (blk b 90 (pc p A c M) :: k :: Fr) (fun v Rs' => v = .tuple #[.int .i64 (laid p x.m).2.1, .bool (laid p x.m).2.2] ∧ ∃ A2 c2 k2, Rs' = blk b 90 (pc (laid p x.m).1 A2 c2 M) :: k2 :: Fr ∧ Ex W0 k k2 ∧ PB W0 k2 (laid p x.m).1 A2 c2) := by
  have t1 : p.agree < x.m.index → laid p x.m = ({ rebase p x.m.index x.m.prev x.m.data with agree := x.m.index }, x.m.index, true) := fun hh => by unfold laid; rw [if_pos hh]
  have t2 : ¬ p.agree < x.m.index → laid p x.m = (p, p.agree, true) := fun hh => by unfold laid; rw [if_neg hh]
  refine Entry.tr (N := 32) (rs := [.tmp 4, .tmp 5]) ⟨_, Try.func45, rfl, by kernel_rfl, rfl, rfl⟩ rfl ?_
  refine XC.seq fun K1 hK1 => ?_
  refine XC.region ?_
  refine x_a (r_bx rfl rfl) rfl fun b3 => ?_
  unfold mc
  refine x_v (r_as rfl) rfl ?_
  refine x_v (r_as rfl) rfl ?_
  refine XL.nil ?_
  refine hK1 _ _ ?_
  refine XC.keep [(0, _), (3, _)] ⟨rfl, rfl, trivial⟩ ?_
  refine XC.seq fun K2 hK2 => ?_
  refine XC.seq fun K3 hK3 => ?_
  refine XC.draw [blk b3 42 (mc x), blk b 90 (pc p A c M)] false [(0, false), (1, false), (2, false), (3, false), (4, false), (5, false), (6, false)] (by kernel_rfl) (by kernel_rfl) ?_
  refine y_v rfl (r_fa fo42_2 rfl) (fun _ h => Gets.own (by repeat (first | exact Gets.done _ | exact Gets.all _ | (apply Gets.step; focus ((repeat (first | exact Pick.head _ _ | apply Pick.tail)); done)) | apply Gets.drop)) h) rfl ?_
  refine y_v rfl (r_ld ty3 rfl (by repeat (first | exact Pick.head _ _ | apply Pick.tail)) (by rfl)) (fun _ h => Gets.own (by repeat (first | exact Gets.done _ | exact Gets.all _ | (apply Gets.step; focus ((repeat (first | exact Pick.head _ _ | apply Pick.tail)); done)) | apply Gets.drop)) h) rfl ?_
  refine y_v rfl (r_mv rfl) (fun _ h => Gets.own (by repeat (first | exact Gets.done _ | exact Gets.all _ | (apply Gets.step; focus ((repeat (first | exact Pick.head _ _ | apply Pick.tail)); done)) | apply Gets.drop)) h) rfl ?_
  refine y_v rfl (r_nc rfl) (fun _ h => Gets.own (by repeat (first | exact Gets.done _ | exact Gets.all _ | (apply Gets.step; focus ((repeat (first | exact Pick.head _ _ | apply Pick.tail)); done)) | apply Gets.drop)) h) rfl ?_
  refine y_v rfl (r_fa fo90_6 rfl) (fun _ h => Gets.own (by repeat (first | exact Gets.done _ | exact Gets.all _ | (apply Gets.step; focus ((repeat (first | exact Pick.head _ _ | apply Pick.tail)); done)) | apply Gets.drop)) h) rfl ?_
  refine y_v rfl (r_ld ty3 rfl (by repeat (first | exact Pick.head _ _ | apply Pick.tail)) (by rfl)) (fun _ h => Gets.own (by repeat (first | exact Gets.done _ | exact Gets.all _ | (apply Gets.step; focus ((repeat (first | exact Pick.head _ _ | apply Pick.tail)); done)) | apply Gets.drop)) h) rfl ?_
  refine y_v rfl (r_gt rfl rfl) (fun _ h => Gets.own (by repeat (first | exact Gets.done _ | exact Gets.all _ | (apply Gets.step; focus ((repeat (first | exact Pick.head _ _ | apply Pick.tail)); done)) | apply Gets.drop)) h) rfl ?_
  refine XH.nil ?_
  refine hK3 _ _ ?_
  refine XC.keep [(0, _), (3, _), (12, _)] ⟨rfl, rfl, rfl, trivial⟩ ?_
  refine XC.cond_d rfl (fun hc1 => ?_) (fun hc1 => ?_)
  · refine XC.seq fun K4 hK4 => ?_
    refine XC.draw [blk b3 42 (mc x), blk b 90 (pc p A c M)] true [(0, false), (1, false), (2, false), (3, false), (4, false), (5, false), (6, false), (7, false), (8, false), (9, true)] (by kernel_rfl) (by kernel_rfl) ?_
    refine y_v rfl (r_mv rfl) (fun _ h => Gets.own (by repeat (first | exact Gets.done _ | exact Gets.all _ | (apply Gets.step; focus ((repeat (first | exact Pick.head _ _ | apply Pick.tail)); done)) | apply Gets.drop)) h) rfl ?_
    refine y_v rfl (r_nc rfl) (fun _ h => Gets.own (by repeat (first | exact Gets.done _ | exact Gets.all _ | (apply Gets.step; focus ((repeat (first | exact Pick.head _ _ | apply Pick.tail)); done)) | apply Gets.drop)) h) rfl ?_
    refine y_v rfl (r_fa fo90_0 rfl) (fun _ h => Gets.own (by repeat (first | exact Gets.done _ | exact Gets.all _ | (apply Gets.step; focus ((repeat (first | exact Pick.head _ _ | apply Pick.tail)); done)) | apply Gets.drop)) h) rfl ?_
    refine y_v rfl (r_fa fo42_2 rfl) (fun _ h => Gets.own (by repeat (first | exact Gets.done _ | exact Gets.all _ | (apply Gets.step; focus ((repeat (first | exact Pick.head _ _ | apply Pick.tail)); done)) | apply Gets.drop)) h) rfl ?_
    refine y_v rfl (r_ld ty3 rfl (by repeat (first | exact Pick.head _ _ | apply Pick.tail)) (by rfl)) (fun _ h => Gets.own (by repeat (first | exact Gets.done _ | exact Gets.all _ | (apply Gets.step; focus ((repeat (first | exact Pick.head _ _ | apply Pick.tail)); done)) | apply Gets.drop)) h) rfl ?_
    refine y_v rfl (r_fa fo42_3 rfl) (fun _ h => Gets.own (by repeat (first | exact Gets.done _ | exact Gets.all _ | (apply Gets.step; focus ((repeat (first | exact Pick.head _ _ | apply Pick.tail)); done)) | apply Gets.drop)) h) rfl ?_
    refine y_v rfl (r_ld ty3 rfl (by repeat (first | exact Pick.head _ _ | apply Pick.tail)) (by rfl)) (fun _ h => Gets.own (by repeat (first | exact Gets.done _ | exact Gets.all _ | (apply Gets.step; focus ((repeat (first | exact Pick.head _ _ | apply Pick.tail)); done)) | apply Gets.drop)) h) rfl ?_
    refine y_v rfl (r_fa fo42_7 rfl) (fun _ h => Gets.own (by repeat (first | exact Gets.done _ | exact Gets.all _ | (apply Gets.step; focus ((repeat (first | exact Pick.head _ _ | apply Pick.tail)); done)) | apply Gets.drop)) h) rfl ?_
    refine y_v rfl (r_ld ty9 rfl (by repeat (first | exact Pick.head _ _ | apply Pick.tail)) (by rfl)) (fun _ h => Gets.own (by repeat (first | exact Gets.done _ | exact Gets.all _ | (apply Gets.step; focus ((repeat (first | exact Pick.head _ _ | apply Pick.tail)); done)) | apply Gets.drop)) h) rfl ?_
    refine y_c rfl (r_call0 (args := [_, _, _, _]) ⟨rfl, rfl, rfl, rfl, rfl⟩ (rebase_tr (k := k) (Fr := blk b3 42 (mc x) :: Fr) b M x.m.index x.m.prev x.m.data h hi) (by repeat (first | exact Gets.done _ | exact Gets.all _ | (apply Gets.step; focus ((repeat (first | exact Pick.head _ _ | apply Pick.tail)); done)) | apply Gets.drop))) (fun h => absurd h (by decide)) rfl ?_
    rintro _ _ ⟨rfl, A2, c2, k2, rfl, hx2, hp2⟩
    refine XH.nil ?_
    refine hK4 _ _ ?_
    refine XC.keep [(0, _), (3, _)] ⟨rfl, rfl, trivial⟩ ?_
    unfold pc mc
    refine XC.region ?_
    refine x_v (r_mv rfl) rfl ?_
    refine x_v (r_fa fo42_2 rfl) rfl ?_
    refine x_v (r_ld ty3 rfl (by repeat (first | exact Pick.head _ _ | apply Pick.tail)) (by rfl)) rfl ?_
    refine x_v (r_nc rfl) rfl ?_
    refine x_v (r_fa fo90_6 rfl) rfl ?_
    refine x_e (r_st ty3 rfl rfl rfl rfl rfl (by repeat (first | exact Upd.head _ _ _ | apply Upd.tail)) (by repeat (first | exact Over.nil _ | apply Over.put | apply Over.skip))) ?_
    refine XL.nil ?_
    refine hK2 _ _ ?_
    refine XC.keep [(0, _)] ⟨rfl, trivial⟩ ?_
    refine XC.seq fun K5 hK5 => ?_
    refine XC.region ?_
    refine x_v (r_mv rfl) rfl ?_
    refine x_v (r_nc rfl) rfl ?_
    refine x_v (r_fa fo90_6 rfl) rfl ?_
    refine x_v (r_ld ty3 rfl (by repeat (first | exact Pick.head _ _ | apply Pick.tail)) (by rfl)) rfl ?_
    refine x_v (r_as rfl) rfl ?_
    refine x_v (r_as rfl) rfl ?_
    refine XL.nil ?_
    refine hK5 _ _ ?_
    refine XC.keep [(4, _), (5, _)] ⟨rfl, rfl, trivial⟩ ?_
    refine XC.ret ?_
    rw [t1 hc1]
    exact fin2 rfl rfl (⟨rfl, A2, c2, k2, rfl, hx2, hp2.rd, hp2.el, hp2.ec, hp2.b0, hp2.b1⟩) (by repeat (first | exact Gets.done _ | exact Gets.all _ | (apply Gets.step; focus ((repeat (first | exact Pick.head _ _ | apply Pick.tail)); done)) | apply Gets.drop))
  · refine XC.skip ?_
    refine hK2 _ _ ?_
    refine XC.keep [(0, _)] ⟨rfl, trivial⟩ ?_
    refine XC.seq fun K6 hK6 => ?_
    refine XC.region ?_
    refine x_v (r_mv rfl) rfl ?_
    refine x_v (r_nc rfl) rfl ?_
    refine x_v (r_fa fo90_6 rfl) rfl ?_
    refine x_v (r_ld ty3 rfl (by repeat (first | exact Pick.head _ _ | apply Pick.tail)) (by rfl)) rfl ?_
    refine x_v (r_as rfl) rfl ?_
    refine x_v (r_as rfl) rfl ?_
    refine XL.nil ?_
    refine hK6 _ _ ?_
    refine XC.keep [(4, _), (5, _)] ⟨rfl, rfl, trivial⟩ ?_
    refine XC.ret ?_
    rw [t2 hc1]
    exact fin2 rfl rfl (⟨rfl, A, c, k, rfl, Ex.refl W0 k, h⟩) (by repeat (first | exact Gets.done _ | exact Gets.all _ | (apply Gets.step; focus ((repeat (first | exact Pick.head _ _ | apply Pick.tail)); done)) | apply Gets.drop))
end Go.Proofs.Ytlogcldbflemfaa

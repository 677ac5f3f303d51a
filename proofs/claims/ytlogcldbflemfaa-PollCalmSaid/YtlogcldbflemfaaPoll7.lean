/- Polls: what is told; proposals; snapshots put. -/
import Derived.Test.YtlogcldbflemfaaPoll6
namespace Go.Proofs.Ytlogcldbflemfaa
open Go.Sx Go.Rf
set_option linter.unusedVariables false

theorem role_tr {W0 : World} {Fr : List HP} {p : Pl} {A : Option Addr} {c : Nat} (b : Nat) (M : Option Nat) : Tr W0 Try.prog 16 [.pointer (some ⟨b, 0, none⟩)] (blk b 90 (pc p A c M) :: Fr) (fun v Rs' => v = .int .i64 p.role ∧ Rs' = blk b 90 (pc p A c M) :: Fr) := by
  refine Entry.tr (N := 9) (rs := [.tmp 2]) ⟨_, Try.func16, rfl, by kernel_rfl, rfl, rfl⟩ rfl ?_
  refine XC.seq fun K1 hK1 => ?_
  refine XC.region ?_
  refine x_v (r_as rfl) rfl ?_
  refine XL.nil ?_
  refine hK1 _ _ ?_
  refine XC.keep [(0, _)] ⟨rfl, trivial⟩ ?_
  refine XC.seq fun K2 hK2 => ?_
  refine XC.seq fun K3 hK3 => ?_
  refine XC.region ?_
  refine x_v (r_mv rfl) rfl ?_
  refine x_v (r_peq_some Try.underlying23 rfl rfl) rfl ?_
  refine XL.nil ?_
  refine hK3 _ _ ?_
  refine XC.keep [(0, _), (4, _)] ⟨rfl, rfl, trivial⟩ ?_
  refine XC.cond_f rfl ?_
  refine XC.skip ?_
  refine hK2 _ _ ?_
  refine XC.keep [(0, _)] ⟨rfl, trivial⟩ ?_
  refine XC.seq fun K4 hK4 => ?_
  refine XC.region ?_
  refine x_v (r_mv rfl) rfl ?_
  refine x_v (r_nc rfl) rfl ?_
  refine x_v (r_fa fo90_4 rfl) rfl ?_
  refine x_v (r_ld ty3 rfl (by repeat (first | exact Pick.head _ _ | apply Pick.tail)) (by rfl)) rfl ?_
  refine x_v (r_as rfl) rfl ?_
  refine XL.nil ?_
  refine hK4 _ _ ?_
  refine XC.keep [(2, _)] ⟨rfl, trivial⟩ ?_
  refine XC.ret ?_
  exact fin1 rfl (⟨rfl, rfl⟩) (by repeat (first | exact Gets.done _ | exact Gets.all _ | (apply Gets.step; focus ((repeat (first | exact Pick.head _ _ | apply Pick.tail)); done)) | apply Gets.drop))
theorem commit_tr {W0 : World} {Fr : List HP} {p : Pl} {A : Option Addr} {c : Nat} (b : Nat) (M : Option Nat) : Tr W0 Try.prog 13 [.pointer (some ⟨b, 0, none⟩)] (blk b 90 (pc p A c M) :: Fr) (fun v Rs' => v = .int .i64 p.agree ∧ Rs' = blk b 90 (pc p A c M) :: Fr) := by
  refine Entry.tr (N := 9) (rs := [.tmp 2]) ⟨_, Try.func13, rfl, by kernel_rfl, rfl, rfl⟩ rfl ?_
  refine XC.seq fun K1 hK1 => ?_
  refine XC.region ?_
  refine x_v (r_as rfl) rfl ?_
  refine XL.nil ?_
  refine hK1 _ _ ?_
  refine XC.keep [(0, _)] ⟨rfl, trivial⟩ ?_
  refine XC.seq fun K2 hK2 => ?_
  refine XC.seq fun K3 hK3 => ?_
  refine XC.region ?_
  refine x_v (r_mv rfl) rfl ?_
  refine x_v (r_peq_some Try.underlying23 rfl rfl) rfl ?_
  refine XL.nil ?_
  refine hK3 _ _ ?_
  refine XC.keep [(0, _), (4, _)] ⟨rfl, rfl, trivial⟩ ?_
  refine XC.cond_f rfl ?_
  refine XC.skip ?_
  refine hK2 _ _ ?_
  refine XC.keep [(0, _)] ⟨rfl, trivial⟩ ?_
  refine XC.seq fun K4 hK4 => ?_
  refine XC.region ?_
  refine x_v (r_mv rfl) rfl ?_
  refine x_v (r_nc rfl) rfl ?_
  refine x_v (r_fa fo90_6 rfl) rfl ?_
  refine x_v (r_ld ty3 rfl (by repeat (first | exact Pick.head _ _ | apply Pick.tail)) (by rfl)) rfl ?_
  refine x_v (r_as rfl) rfl ?_
  refine XL.nil ?_
  refine hK4 _ _ ?_
  refine XC.keep [(2, _)] ⟨rfl, trivial⟩ ?_
  refine XC.ret ?_
  exact fin1 rfl (⟨rfl, rfl⟩) (by repeat (first | exact Gets.done _ | exact Gets.all _ | (apply Gets.step; focus ((repeat (first | exact Pick.head _ _ | apply Pick.tail)); done)) | apply Gets.drop))
theorem lead_tr {W0 : World} {Fr : List HP} {p : Pl} {A : Option Addr} {c : Nat} (b : Nat) (M : Option Nat) : Tr W0 Try.prog 28 [.pointer (some ⟨b, 0, none⟩)] (blk b 90 (pc p A c M) :: Fr) (fun v Rs' => v = .int .i64 p.lead ∧ Rs' = blk b 90 (pc p A c M) :: Fr) := by
  refine Entry.tr (N := 9) (rs := [.tmp 2]) ⟨_, Try.func28, rfl, by kernel_rfl, rfl, rfl⟩ rfl ?_
  refine XC.seq fun K1 hK1 => ?_
  refine XC.region ?_
  refine x_v (r_as rfl) rfl ?_
  refine XL.nil ?_
  refine hK1 _ _ ?_
  refine XC.keep [(0, _)] ⟨rfl, trivial⟩ ?_
  refine XC.seq fun K2 hK2 => ?_
  refine XC.seq fun K3 hK3 => ?_
  refine XC.region ?_
  refine x_v (r_mv rfl) rfl ?_
  refine x_v (r_peq_some Try.underlying23 rfl rfl) rfl ?_
  refine XL.nil ?_
  refine hK3 _ _ ?_
  refine XC.keep [(0, _), (4, _)] ⟨rfl, rfl, trivial⟩ ?_
  refine XC.cond_f rfl ?_
  refine XC.skip ?_
  refine hK2 _ _ ?_
  refine XC.keep [(0, _)] ⟨rfl, trivial⟩ ?_
  refine XC.seq fun K4 hK4 => ?_
  refine XC.region ?_
  refine x_v (r_mv rfl) rfl ?_
  refine x_v (r_nc rfl) rfl ?_
  refine x_v (r_fa fo90_5 rfl) rfl ?_
  refine x_v (r_ld ty3 rfl (by repeat (first | exact Pick.head _ _ | apply Pick.tail)) (by rfl)) rfl ?_
  refine x_v (r_as rfl) rfl ?_
  refine XL.nil ?_
  refine hK4 _ _ ?_
  refine XC.keep [(2, _)] ⟨rfl, trivial⟩ ?_
  refine XC.ret ?_
  exact fin1 rfl (⟨rfl, rfl⟩) (by repeat (first | exact Gets.done _ | exact Gets.all _ | (apply Gets.step; focus ((repeat (first | exact Pick.head _ _ | apply Pick.tail)); done)) | apply Gets.drop))
theorem plast_tr {W0 : World} {Fr : List HP} {k : HP} {p : Pl} {A : Option Addr} {c : Nat} (b : Nat) (M : Option Nat) (h : PB W0 k p A c) : Tr W0 Try.prog 15 [.pointer (some ⟨b, 0, none⟩)] (blk b 90 (pc p A c M) :: k :: Fr) (fun v Rs' => v = .int .i64 (lastI p) ∧ Rs' = blk b 90 (pc p A c M) :: k :: Fr) := by
  refine Entry.tr (N := 15) (rs := [.tmp 2]) ⟨_, Try.func15, rfl, by kernel_rfl, rfl, rfl⟩ rfl ?_
  refine XC.seq fun K1 hK1 => ?_
  refine XC.region ?_
  refine x_v (r_as rfl) rfl ?_
  refine XL.nil ?_
  refine hK1 _ _ ?_
  refine XC.keep [(0, _)] ⟨rfl, trivial⟩ ?_
  refine XC.seq fun K2 hK2 => ?_
  refine XC.seq fun K3 hK3 => ?_
  refine XC.region ?_
  refine x_v (r_mv rfl) rfl ?_
  refine x_v (r_peq_some Try.underlying23 rfl rfl) rfl ?_
  refine XL.nil ?_
  refine hK3 _ _ ?_
  refine XC.keep [(0, _), (6, _)] ⟨rfl, rfl, trivial⟩ ?_
  refine XC.cond_f rfl ?_
  refine XC.skip ?_
  refine hK2 _ _ ?_
  refine XC.keep [(0, _)] ⟨rfl, trivial⟩ ?_
  refine XC.seq fun K4 hK4 => ?_
  refine XC.region ?_
  refine x_v (r_mv rfl) rfl ?_
  refine x_v (r_nc rfl) rfl ?_
  refine x_v (r_fa fo90_0 rfl) rfl ?_
  refine x_c (r_call0 (args := [_]) ⟨rfl, rfl⟩ (last_tr b M h) (by repeat (first | exact Gets.done _ | exact Gets.all _ | (apply Gets.step; focus ((repeat (first | exact Pick.head _ _ | apply Pick.tail)); done)) | apply Gets.drop))) rfl ?_
  rintro _ _ ⟨rfl, rfl⟩
  refine x_v (r_mv rfl) rfl ?_
  refine x_v (r_ex rfl rfl) rfl ?_
  refine x_v (r_ex rfl rfl) rfl ?_
  refine x_v (r_as rfl) rfl ?_
  refine x_v (r_as rfl) rfl ?_
  refine XL.nil ?_
  refine hK4 _ _ ?_
  refine XC.keep [(3, _)] ⟨rfl, trivial⟩ ?_
  refine XC.seq fun K5 hK5 => ?_
  refine XC.region ?_
  refine x_v (r_mv rfl) rfl ?_
  refine x_v (r_as rfl) rfl ?_
  refine XL.nil ?_
  refine hK5 _ _ ?_
  refine XC.keep [(2, _)] ⟨rfl, trivial⟩ ?_
  refine XC.ret ?_
  exact fin1 rfl (⟨rfl, rfl⟩) (by repeat (first | exact Gets.done _ | exact Gets.all _ | (apply Gets.step; focus ((repeat (first | exact Pick.head _ _ | apply Pick.tail)); done)) | apply Gets.drop))
def en0 : En := ⟨0, []⟩
theorem entry_tr {W0 : World} {Fr : List HP} {k : HP} {p : Pl} {A : Option Addr} {c : Nat} (b : Nat) (M : Option Nat) (i : Int) (h : PB W0 k p A c) : Tr W0 Try.prog 17 [.pointer (some ⟨b, 0, none⟩), .int .i64 i] (blk b 90 (pc p A c M) :: k :: Fr) (fun v Rs' => v = .tuple #[.agg (ec ((entry p i).getD en0)).toArray, .bool (entry p i).isSome] ∧ Rs' = blk b 90 (pc p A c M) :: k :: Fr) := by
  have hel := h.el; have hb0 := h.b0; have hb1 := h.b1; have hec := h.ec
  have hl : lastI p = p.base + p.es.length := rfl
  refine Entry.tr (N := 42) (rs := [.cell 4 48, .tmp 5]) ⟨_, Try.func17, rfl, by kernel_rfl, rfl, rfl⟩ rfl ?_
  refine XC.seq fun K1 hK1 => ?_
  refine XC.region ?_
  refine x_a (r_al ty48 rfl) rfl fun b4 => ?_
  refine x_v (r_as rfl) rfl ?_
  refine XL.nil ?_
  refine hK1 _ _ ?_
  refine XC.keep [(0, _), (1, _), (4, _)] ⟨rfl, rfl, rfl, trivial⟩ ?_
  refine XC.seq fun K2 hK2 => ?_
  refine XC.seq fun K3 hK3 => ?_
  refine XC.region ?_
  refine x_v (r_mv rfl) rfl ?_
  refine x_v (r_peq_some Try.underlying23 rfl rfl) rfl ?_
  refine x_v (r_mv rfl) rfl ?_
  refine x_want rfl rfl rfl ?_
  refine x_v (r_mv rfl) rfl ?_
  refine x_want rfl rfl rfl ?_
  refine x_v (r_mv rfl) rfl ?_
  refine x_want rfl rfl rfl ?_
  refine x_v (r_nc rfl) rfl ?_
  refine x_want rfl rfl rfl ?_
  refine x_v (r_fa fo90_0 rfl) rfl ?_
  refine x_want rfl rfl rfl ?_
  refine x_v (r_fa fo86_0 rfl) rfl ?_
  refine x_want rfl rfl rfl ?_
  refine x_v (r_fa fo32_2 rfl) rfl ?_
  refine x_want rfl rfl rfl ?_
  refine x_v (r_ld ty3 rfl (by repeat (first | exact Pick.head _ _ | apply Pick.tail)) (by rfl)) rfl ?_
  refine x_want rfl rfl rfl ?_
  refine x_v (r_le rfl rfl) rfl ?_
  refine x_v (r_pk_f rfl rfl) rfl ?_
  refine x_v (r_mv rfl) rfl ?_
  refine XL.splitd 18 rfl (fun hg18 => ?_) (fun hg18 => ?_)
  · refine x_unwant rfl rfl rfl rfl rfl ?_
    refine x_unwant rfl rfl rfl rfl rfl ?_
    refine x_unwant rfl rfl rfl rfl rfl ?_
    refine x_unwant rfl rfl rfl rfl rfl ?_
    refine x_v (r_pk_t rfl rfl) rfl ?_
    refine XL.nil ?_
    refine hK3 _ _ ?_
    refine XC.keep [(0, _), (1, _), (4, _), (23, _)] ⟨rfl, rfl, rfl, rfl, trivial⟩ ?_
    refine XC.cond_t rfl ?_
    refine XC.seq fun K4 hK4 => ?_
    refine XC.region ?_
    refine x_v (r_bd (vs := []) rfl rfl bd48_z) rfl ?_
    refine x_e (r_st ty48 rfl rfl rfl rfl rfl (by repeat (first | exact Upd.head _ _ _ | apply Upd.tail)) (by repeat (first | exact Over.nil _ | apply Over.put | apply Over.skip))) ?_
    refine x_v (r_as rfl) rfl ?_
    refine XL.nil ?_
    refine hK4 _ _ ?_
    refine XC.keep [(4, _), (5, _)] ⟨rfl, rfl, trivial⟩ ?_
    refine XC.ret ?_
    rw [show entry p i = none by unfold entry; rw [if_pos (by omega)]]
    exact finc2 ty48 rfl rfl (by repeat (first | exact Pick.head _ _ | apply Pick.tail)) (by rfl) (⟨rfl, rfl⟩) (by repeat (first | exact Gets.done _ | exact Gets.all _ | (apply Gets.step; focus ((repeat (first | exact Pick.head _ _ | apply Pick.tail)); done)) | apply Gets.drop))
  · refine x_want rfl rfl rfl ?_
    refine x_v (r_mv rfl) rfl ?_
    refine x_want rfl rfl rfl ?_
    refine x_v (r_mv rfl) rfl ?_
    refine x_want rfl rfl rfl ?_
    refine x_c (r_call0 (args := [_]) ⟨rfl, rfl⟩ (plast_tr b M h) (by repeat (first | exact Gets.done _ | exact Gets.all _ | (apply Gets.step; focus ((repeat (first | exact Pick.head _ _ | apply Pick.tail)); done)) | apply Gets.drop))) rfl ?_
    rintro _ _ ⟨rfl, rfl⟩
    refine x_want rfl rfl rfl ?_
    refine x_v (r_gt rfl rfl) rfl ?_
    refine x_v (r_pk_f rfl rfl) rfl ?_
    refine XL.nil ?_
    refine hK3 _ _ ?_
    refine XC.keep [(0, _), (1, _), (4, _), (23, _)] ⟨rfl, rfl, rfl, rfl, trivial⟩ ?_
    refine XC.cond_d rfl (fun hc2 => ?_) (fun hc2 => ?_)
    · refine XC.seq fun K5 hK5 => ?_
      refine XC.region ?_
      refine x_v (r_bd (vs := []) rfl rfl bd48_z) rfl ?_
      refine x_e (r_st ty48 rfl rfl rfl rfl rfl (by repeat (first | exact Upd.head _ _ _ | apply Upd.tail)) (by repeat (first | exact Over.nil _ | apply Over.put | apply Over.skip))) ?_
      refine x_v (r_as rfl) rfl ?_
      refine XL.nil ?_
      refine hK5 _ _ ?_
      refine XC.keep [(4, _), (5, _)] ⟨rfl, rfl, trivial⟩ ?_
      refine XC.ret ?_
      rw [show entry p i = none by unfold entry; rw [if_pos (by omega)]]
      exact finc2 ty48 rfl rfl (by repeat (first | exact Pick.head _ _ | apply Pick.tail)) (by rfl) (⟨rfl, rfl⟩) (by repeat (first | exact Gets.done _ | exact Gets.all _ | (apply Gets.step; focus ((repeat (first | exact Pick.head _ _ | apply Pick.tail)); done)) | apply Gets.drop))
    · refine XC.skip ?_
      refine hK2 _ _ ?_
      refine XC.keep [(0, _), (1, _), (4, _)] ⟨rfl, rfl, rfl, trivial⟩ ?_
      refine XC.seq fun K6 hK6 => ?_
      obtain ⟨x, hx⟩ : ∃ x, p.es[(i - p.base - 1).toNat]? = some x := ⟨_, List.getElem?_eq_getElem (by omega)⟩
      obtain ⟨sb, so, rfl, hat⟩ := h.rd.at_ (by omega)
      refine XC.draw [blk b 90 (pc p (some ⟨sb, so, none⟩) c M), k] false [(0, false), (1, false), (2, false), (3, false), (4, false), (5, false), (6, false), (7, false), (8, false), (9, false), (10, false), (11, false), (12, false), (13, false), (14, false), (15, false), (16, false), (17, true), (18, false)] (by kernel_rfl) (by kernel_rfl) ?_
      refine y_v rfl (r_mv rfl) (fun _ h => Gets.own (by repeat (first | exact Gets.done _ | exact Gets.all _ | (apply Gets.step; focus ((repeat (first | exact Pick.head _ _ | apply Pick.tail)); done)) | apply Gets.drop)) h) rfl ?_
      refine y_v rfl (r_nc rfl) (fun _ h => Gets.own (by repeat (first | exact Gets.done _ | exact Gets.all _ | (apply Gets.step; focus ((repeat (first | exact Pick.head _ _ | apply Pick.tail)); done)) | apply Gets.drop)) h) rfl ?_
      refine y_v rfl (r_fa fo90_0 rfl) (fun _ h => Gets.own (by repeat (first | exact Gets.done _ | exact Gets.all _ | (apply Gets.step; focus ((repeat (first | exact Pick.head _ _ | apply Pick.tail)); done)) | apply Gets.drop)) h) rfl ?_
      refine y_v rfl (r_fa fo86_0 rfl) (fun _ h => Gets.own (by repeat (first | exact Gets.done _ | exact Gets.all _ | (apply Gets.step; focus ((repeat (first | exact Pick.head _ _ | apply Pick.tail)); done)) | apply Gets.drop)) h) rfl ?_
      refine y_v rfl (r_fa fo32_5 rfl) (fun _ h => Gets.own (by repeat (first | exact Gets.done _ | exact Gets.all _ | (apply Gets.step; focus ((repeat (first | exact Pick.head _ _ | apply Pick.tail)); done)) | apply Gets.drop)) h) rfl ?_
      refine y_v rfl (r_ld ty30 rfl (by repeat (first | exact Pick.head _ _ | apply Pick.tail)) (by rfl)) (fun _ h => Gets.own (by repeat (first | exact Gets.done _ | exact Gets.all _ | (apply Gets.step; focus ((repeat (first | exact Pick.head _ _ | apply Pick.tail)); done)) | apply Gets.drop)) h) rfl ?_
      refine y_v rfl (r_mv rfl) (fun _ h => Gets.own (by repeat (first | exact Gets.done _ | exact Gets.all _ | (apply Gets.step; focus ((repeat (first | exact Pick.head _ _ | apply Pick.tail)); done)) | apply Gets.drop)) h) rfl ?_
      refine y_v rfl (r_mv rfl) (fun _ h => Gets.own (by repeat (first | exact Gets.done _ | exact Gets.all _ | (apply Gets.step; focus ((repeat (first | exact Pick.head _ _ | apply Pick.tail)); done)) | apply Gets.drop)) h) rfl ?_
      refine y_v rfl (r_nc rfl) (fun _ h => Gets.own (by repeat (first | exact Gets.done _ | exact Gets.all _ | (apply Gets.step; focus ((repeat (first | exact Pick.head _ _ | apply Pick.tail)); done)) | apply Gets.drop)) h) rfl ?_
      refine y_v rfl (r_fa fo90_0 rfl) (fun _ h => Gets.own (by repeat (first | exact Gets.done _ | exact Gets.all _ | (apply Gets.step; focus ((repeat (first | exact Pick.head _ _ | apply Pick.tail)); done)) | apply Gets.drop)) h) rfl ?_
      refine y_v rfl (r_fa fo86_0 rfl) (fun _ h => Gets.own (by repeat (first | exact Gets.done _ | exact Gets.all _ | (apply Gets.step; focus ((repeat (first | exact Pick.head _ _ | apply Pick.tail)); done)) | apply Gets.drop)) h) rfl ?_
      refine y_v rfl (r_fa fo32_2 rfl) (fun _ h => Gets.own (by repeat (first | exact Gets.done _ | exact Gets.all _ | (apply Gets.step; focus ((repeat (first | exact Pick.head _ _ | apply Pick.tail)); done)) | apply Gets.drop)) h) rfl ?_
      refine y_v rfl (r_ld ty3 rfl (by repeat (first | exact Pick.head _ _ | apply Pick.tail)) (by rfl)) (fun _ h => Gets.own (by repeat (first | exact Gets.done _ | exact Gets.all _ | (apply Gets.step; focus ((repeat (first | exact Pick.head _ _ | apply Pick.tail)); done)) | apply Gets.drop)) h) rfl ?_
      refine y_v rfl (r_sub rfl rfl (by omega)) (fun _ h => Gets.own (by repeat (first | exact Gets.done _ | exact Gets.all _ | (apply Gets.step; focus ((repeat (first | exact Pick.head _ _ | apply Pick.tail)); done)) | apply Gets.drop)) h) rfl ?_
      refine y_v rfl (r_sub rfl rfl (by omega)) (fun _ h => Gets.own (by repeat (first | exact Gets.done _ | exact Gets.all _ | (apply Gets.step; focus ((repeat (first | exact Pick.head _ _ | apply Pick.tail)); done)) | apply Gets.drop)) h) rfl ?_
      refine y_v rfl (r_ia (k := (i - p.base - 1).toNat) Try.underlying30 ty48 rfl rfl (by omega) (by omega)) (fun _ h => Gets.own (by repeat (first | exact Gets.done _ | exact Gets.all _ | (apply Gets.step; focus ((repeat (first | exact Pick.head _ _ | apply Pick.tail)); done)) | apply Gets.drop)) h) rfl ?_
      refine y_v rfl (r_ldar (l' := [.int .i64 x.term, str x.data]) ty48 rfl rfl (fun w hw j u hu => by rw [Nat.add_assoc]; exact hat w (Gets.own (by repeat (first | exact Gets.done _ | exact Gets.all _ | (apply Gets.step; focus ((repeat (first | exact Pick.head _ _ | apply Pick.tail)); done)) | apply Gets.drop)) hw) _ u (cells_get ec_len p.es _ _ hx j u hu))) (fun _ h => Gets.own (by repeat (first | exact Gets.done _ | exact Gets.all _ | (apply Gets.step; focus ((repeat (first | exact Pick.head _ _ | apply Pick.tail)); done)) | apply Gets.drop)) h) rfl ?_
      refine y_e rfl (r_st ty48 rfl rfl rfl rfl rfl (by repeat (first | exact Upd.head _ _ _ | apply Upd.tail)) (by repeat (first | exact Over.nil _ | apply Over.put | apply Over.skip))) (fun _ _ h => Gets.own (by repeat (first | exact Gets.done _ | exact Gets.all _ | (apply Gets.step; focus ((repeat (first | exact Pick.head _ _ | apply Pick.tail)); done)) | apply Gets.drop)) h) ?_
      refine y_v rfl (r_as rfl) (fun _ h => Gets.own (by repeat (first | exact Gets.done _ | exact Gets.all _ | (apply Gets.step; focus ((repeat (first | exact Pick.head _ _ | apply Pick.tail)); done)) | apply Gets.drop)) h) rfl ?_
      refine XH.nil ?_
      refine hK6 _ _ ?_
      refine XC.keep [(4, _), (5, _)] ⟨rfl, rfl, trivial⟩ ?_
      refine XC.ret ?_
      rw [show entry p i = some x by unfold entry; rw [if_neg (by omega), hx]]
      exact finc2 ty48 rfl rfl (by repeat (first | exact Pick.head _ _ | apply Pick.tail)) (by rfl) (⟨rfl, rfl⟩) (by repeat (first | exact Gets.done _ | exact Gets.all _ | (apply Gets.step; focus ((repeat (first | exact Pick.head _ _ | apply Pick.tail)); done)) | apply Gets.drop))
theorem clonek_tr {W0 : World} {Fr : List HP} {k : HP} (XA : Option Addr) (xc : Nat) (L : List En) (hr : Rdb W0 [k] XA L.length 2 (cells ec L)) (hl : L.length ≤ 1000000000) :
    Tr W0 Try.prog 34 [.slice XA L.length xc] (k :: Fr) (fun v Rs' => ∃ A2 c2, v = .slice A2 L.length c2 ∧ Rs' = sl A2 L.length c2 48 2 (cells ec L) :: k :: Fr) :=
  clone_tr XA xc L (hr.mono fun w h => Gets.own (.step (.head _ _) (.all _)) h) hl
theorem kept_tr {W0 : World} {Fr : List HP} {k : HP} {p : Pl} {A : Option Addr} {c : Nat} (b : Nat) (M : Option Nat) (h : PB W0 k p A c) : Tr W0 Try.prog 14 [.pointer (some ⟨b, 0, none⟩)] (blk b 90 (pc p A c M) :: k :: Fr) (fun v Rs' => ∃ A2 c2, v = .agg #[.int .i64 p.term, .int .i64 p.vote, .int .i64 p.base, .int .i64 p.bterm, str p.snap, .slice A2 p.es.length c2] ∧ Rs' = sl A2 p.es.length c2 48 2 (cells ec p.es) :: blk b 90 (pc p A c M) :: k :: Fr) := by
  have hel := h.el
  refine Entry.tr (N := 17) (rs := [.cell 2 32]) ⟨_, Try.func14, rfl, by kernel_rfl, rfl, rfl⟩ rfl ?_
  refine XC.seq fun K1 hK1 => ?_
  refine XC.region ?_
  refine x_a (r_al ty32 rfl) rfl fun b2 => ?_
  refine XL.nil ?_
  refine hK1 _ _ ?_
  refine XC.keep [(0, _), (2, _)] ⟨rfl, rfl, trivial⟩ ?_
  refine XC.seq fun K2 hK2 => ?_
  refine XC.seq fun K3 hK3 => ?_
  refine XC.region ?_
  refine x_v (r_mv rfl) rfl ?_
  refine x_v (r_peq_some Try.underlying23 rfl rfl) rfl ?_
  refine XL.nil ?_
  refine hK3 _ _ ?_
  refine XC.keep [(0, _), (2, _), (5, _)] ⟨rfl, rfl, rfl, trivial⟩ ?_
  refine XC.cond_f rfl ?_
  refine XC.skip ?_
  refine hK2 _ _ ?_
  refine XC.keep [(0, _), (2, _)] ⟨rfl, rfl, trivial⟩ ?_
  refine XC.seq fun K4 hK4 => ?_
  refine XC.region ?_
  refine x_v (r_mv rfl) rfl ?_
  refine x_v (r_nc rfl) rfl ?_
  refine x_v (r_fa fo90_0 rfl) rfl ?_
  refine x_v (r_fa fo86_0 rfl) rfl ?_
  refine x_v (r_lda (l' := [_, _, _, _, _, _]) ty32 rfl (by repeat (first | exact Pick.head _ _ | apply Pick.tail)) rfl (Sub.get (by repeat (first | exact Sub.nil _ | apply Sub.take | apply Sub.skip)))) rfl ?_
  refine x_a (r_al ty32 rfl) rfl fun b3 => ?_
  refine x_e (r_st ty32 rfl rfl rfl rfl rfl (by repeat (first | exact Upd.head _ _ _ | apply Upd.tail)) (by repeat (first | exact Over.nil _ | apply Over.put | apply Over.skip))) ?_
  refine XL.nil ?_
  refine hK4 _ _ ?_
  refine XC.keep [(2, _), (3, _)] ⟨rfl, rfl, trivial⟩ ?_
  refine XC.seq fun K5 hK5 => ?_
  refine XC.region ?_
  refine x_v (r_fa fo32_5 rfl) rfl ?_
  refine x_v (r_ld ty30 rfl (by repeat (first | exact Pick.head _ _ | apply Pick.tail)) (by rfl)) rfl ?_
  refine x_c (r_call0 (args := [_]) ⟨rfl, rfl⟩ (clonek_tr (k := k) A c p.es h.rd (by omega)) (by repeat (first | exact Gets.done _ | exact Gets.all _ | (apply Gets.step; focus ((repeat (first | exact Pick.head _ _ | apply Pick.tail)); done)) | apply Gets.drop))) rfl ?_
  rintro _ _ ⟨A14, c14, rfl, rfl⟩
  refine x_v (r_fa fo32_5 rfl) rfl ?_
  refine x_e (r_st ty30 rfl rfl rfl rfl rfl (by repeat (first | exact Upd.head _ _ _ | apply Upd.tail)) (by repeat (first | exact Over.nil _ | apply Over.put | apply Over.skip))) ?_
  refine XL.nil ?_
  refine hK5 _ _ ?_
  refine XC.keep [(2, _), (3, _)] ⟨rfl, rfl, trivial⟩ ?_
  refine XC.seq fun K6 hK6 => ?_
  refine XC.region ?_
  refine x_v (r_lda (l' := [_, _, _, _, _, _]) ty32 rfl (by repeat (first | exact Pick.head _ _ | apply Pick.tail)) rfl (Sub.get (by repeat (first | exact Sub.nil _ | apply Sub.take | apply Sub.skip)))) rfl ?_
  refine x_e (r_st ty32 rfl rfl rfl rfl rfl (by repeat (first | exact Upd.head _ _ _ | apply Upd.tail)) (by repeat (first | exact Over.nil _ | apply Over.put | apply Over.skip))) ?_
  refine XL.nil ?_
  refine hK6 _ _ ?_
  refine XC.keep [(2, _)] ⟨rfl, trivial⟩ ?_
  refine XC.ret ?_
  exact finc1 ty32 rfl (by repeat (first | exact Pick.head _ _ | apply Pick.tail)) (by rfl) (⟨A14, c14, rfl, rfl⟩) (by repeat (first | exact Gets.done _ | exact Gets.all _ | (apply Gets.step; focus ((repeat (first | exact Pick.head _ _ | apply Pick.tail)); done)) | apply Gets.drop))

/-- A node's part behind an act; what goes out is told within more. -/
def NPf (f : Value → Value) (W0 : World) (k : HP) (Fr : List HP) (b : Nat) (p : Pl) (out : List Sd) (v : Value) (Rs' : List HP) : Prop :=
  ∃ L A2 c2 A' c' M' k', v = f (.slice A2 L.length c2) ∧ Rs' = sl A2 L.length c2 92 18 (cells sc L) :: blk b 90 (pc p A' c' M') :: vmo M' :: k' :: Fr ∧ L.map sv = out ∧ Ex W0 k k' ∧ PB W0 k' p A' c' ∧ (∀ s ∈ L, RdM W0 k' s.2) ∧ (p.role = 1 → M' ≠ none)
theorem propose_tr {W0 : World} {Fr : List HP} {k : HP} {p : Pl} {A : Option Addr} {c : Nat} {B : Nat} (b : Nat) (M : Option Nat) (data : List UInt8) (h : PB W0 k p A c) (hL : Lim B p) (hB : B ≤ 1000000) (hM : p.role = 1 → M ≠ none) :
    Tr W0 Try.prog 20 [.pointer (some ⟨b, 0, none⟩), str data] (blk b 90 (pc p A c M) :: vmo M :: k :: Fr) (NPf (fun v => .tuple #[.int .i64 (propose p data).2.1, v, .int .i64 (propose p data).2.2.2]) W0 k Fr b (propose p data).1 (propose p data).2.2.1) := by
  refine Entry.tr (N := 27) (rs := [.tmp 4, .tmp 5, .tmp 6]) ⟨_, Try.func20, rfl, by kernel_rfl, rfl, rfl⟩ rfl ?_
  refine XC.seq fun K1 hK1 => ?_
  refine XC.region ?_
  refine x_v (r_as rfl) rfl ?_
  refine x_v (r_as rfl) rfl ?_
  refine x_v (r_as rfl) rfl ?_
  refine XL.nil ?_
  refine hK1 _ _ ?_
  refine XC.keep [(0, _), (1, _)] ⟨rfl, rfl, trivial⟩ ?_
  refine XC.seq fun K2 hK2 => ?_
  refine XC.block ?_
  refine XC.seq fun K3 hK3 => ?_
  refine XC.region ?_
  refine x_v (r_mv rfl) rfl ?_
  refine x_v (r_peq_some Try.underlying23 rfl rfl) rfl ?_
  refine x_v (r_as rfl) rfl ?_
  refine XL.nil ?_
  refine hK3 _ _ ?_
  refine XC.keep [(0, _), (1, _), (8, _)] ⟨rfl, rfl, rfl, trivial⟩ ?_
  refine XC.cond_f rfl ?_
  refine XC.seq fun K4 hK4 => ?_
  refine XC.region ?_
  refine x_v (r_mv rfl) rfl ?_
  refine x_v (r_nc rfl) rfl ?_
  refine x_v (r_fa fo90_4 rfl) rfl ?_
  refine x_v (r_ld ty3 rfl (by repeat (first | exact Pick.head _ _ | apply Pick.tail)) (by rfl)) rfl ?_
  refine x_v (r_ne rfl rfl) rfl ?_
  refine x_v (r_as rfl) rfl ?_
  refine XL.nil ?_
  refine hK4 _ _ ?_
  refine XC.keep [(0, _), (1, _), (11, _)] ⟨rfl, rfl, rfl, trivial⟩ ?_
  refine XC.cond_d rfl (fun hc2 => ?_) (fun hc2 => ?_)
  · refine XC.seq fun K5 hK5 => ?_
    refine XC.nil_ 92 18 ?_
    refine XC.region ?_
    refine x_v (r_as rfl) rfl ?_
    refine x_v (r_as rfl) rfl ?_
    refine x_v (r_as rfl) rfl ?_
    refine XL.nil ?_
    refine hK5 _ _ ?_
    refine XC.keep [(4, _), (5, _), (6, _)] ⟨rfl, rfl, rfl, trivial⟩ ?_
    refine XC.ret ?_
    have e : propose p data = (p, 0, [], 130) := by unfold propose; rw [if_pos (by omega)]
    rw [e]
    exact fin3 rfl rfl rfl (⟨[], none, 0, A, c, M, k, rfl, rfl, rfl, Ex.refl W0 k, h, by simp, hM⟩) (by repeat (first | exact Gets.done _ | exact Gets.all _ | (apply Gets.step; focus ((repeat (first | exact Pick.head _ _ | apply Pick.tail)); done)) | apply Gets.drop))
  · refine XC.seq fun K6 hK6 => ?_
    refine XC.region ?_
    refine x_v (r_mv rfl) rfl ?_
    refine x_v (r_lens Try.underlying9 rfl) rfl ?_
    refine x_v (r_gt rfl rfl) rfl ?_
    refine x_v (r_as rfl) rfl ?_
    refine XL.nil ?_
    refine hK6 _ _ ?_
    refine XC.keep [(0, _), (1, _), (17, _)] ⟨rfl, rfl, rfl, trivial⟩ ?_
    refine XC.cond_d rfl (fun hc3 => ?_) (fun hc3 => ?_)
    · refine XC.seq fun K7 hK7 => ?_
      refine XC.nil_ 92 18 ?_
      refine XC.region ?_
      refine x_v (r_as rfl) rfl ?_
      refine x_v (r_as rfl) rfl ?_
      refine x_v (r_as rfl) rfl ?_
      refine XL.nil ?_
      refine hK7 _ _ ?_
      refine XC.keep [(4, _), (5, _), (6, _)] ⟨rfl, rfl, rfl, trivial⟩ ?_
      refine XC.ret ?_
      have e : propose p data = (p, 0, [], 4) := by unfold propose; rw [if_neg (by omega), if_pos (by omega)]
      rw [e]
      exact fin3 rfl rfl rfl (⟨[], none, 0, A, c, M, k, rfl, rfl, rfl, Ex.refl W0 k, h, by simp, hM⟩) (by repeat (first | exact Gets.done _ | exact Gets.all _ | (apply Gets.step; focus ((repeat (first | exact Pick.head _ _ | apply Pick.tail)); done)) | apply Gets.drop))
    · refine XC.skip ?_
      refine hK2 _ _ ?_
      refine XC.keep [(0, _), (1, _)] ⟨rfl, rfl, trivial⟩ ?_
      refine XC.seq fun K8 hK8 => ?_
      refine XC.region ?_
      refine x_v (r_mv rfl) rfl ?_
      refine x_v (r_mv rfl) rfl ?_
      refine x_c (r_call0 (args := [_, _]) ⟨rfl, rfl, rfl⟩ (put_tr (Fr := vmo M :: Fr) b M data h (hL.put (by omega)) (by omega)) (by repeat (first | exact Gets.done _ | exact Gets.all _ | (apply Gets.step; focus ((repeat (first | exact Pick.head _ _ | apply Pick.tail)); done)) | apply Gets.drop))) rfl ?_
      rintro _ _ ⟨L, A5, c5, A6, c6, k6, rfl, rfl, hLs, hx6, hp6, hrd⟩
      refine x_v (r_as rfl) rfl ?_
      refine XL.nil ?_
      refine hK8 _ _ ?_
      refine XC.keep [(0, _), (7, _)] ⟨rfl, rfl, trivial⟩ ?_
      refine XC.seq fun K9 hK9 => ?_
      refine XC.region ?_
      refine x_v (r_mv rfl) rfl ?_
      refine x_c (r_call0 (args := [_]) ⟨rfl, rfl⟩ (plast_tr b M hp6) (by repeat (first | exact Gets.done _ | exact Gets.all _ | (apply Gets.step; focus ((repeat (first | exact Pick.head _ _ | apply Pick.tail)); done)) | apply Gets.drop))) rfl ?_
      rintro _ _ ⟨rfl, rfl⟩
      refine x_v (r_mv rfl) rfl ?_
      refine x_v (r_as rfl) rfl ?_
      refine x_v (r_as rfl) rfl ?_
      refine x_v (r_as rfl) rfl ?_
      refine XL.nil ?_
      refine hK9 _ _ ?_
      refine XC.keep [(4, _), (5, _), (6, _)] ⟨rfl, rfl, rfl, trivial⟩ ?_
      refine XC.ret ?_
      have e : propose p data = (put p data, lastI (put p data), feed (put p data) (others (put p data)), 0) := by unfold propose; rw [if_neg (by omega), if_neg (by omega)]
      rw [e]
      exact fin3 rfl rfl rfl (⟨L, A5, c5, A6, c6, M, k6, rfl, rfl, hLs, hx6, hp6, hrd, hM⟩) (by repeat (first | exact Gets.done _ | exact Gets.all _ | (apply Gets.step; focus ((repeat (first | exact Pick.head _ _ | apply Pick.tail)); done)) | apply Gets.drop))
theorem compact_tr {W0 : World} {Fr : List HP} {k : HP} {p : Pl} {A : Option Addr} {c : Nat} {B : Nat} (b : Nat) (M : Option Nat) (i : Int) (s : List UInt8) (h : PB W0 k p A c) (hL : Lim B p) :
    Tr W0 Try.prog 21 [.pointer (some ⟨b, 0, none⟩), .int .i64 i, str s] (blk b 90 (pc p A c M) :: k :: Fr) (fun v Rs' => v = .int .i64 (compact p i s).2 ∧ ∃ A2 c2 k2, Rs' = blk b 90 (pc (compact p i s).1 A2 c2 M) :: k2 :: Fr ∧ Ex W0 k k2 ∧ PB W0 k2 (compact p i s).1 A2 c2) := by
  have hb0 := h.b0; have ha1 := hL.a1; have hmost : most = 1099511627776 := rfl
  refine Entry.tr (N := 49) (rs := [.tmp 6]) ⟨_, Try.func21, rfl, by kernel_rfl, rfl, rfl⟩ rfl ?_
  refine XC.seq fun K1 hK1 => ?_
  refine XC.region ?_
  refine x_v (r_as rfl) rfl ?_
  refine XL.nil ?_
  refine hK1 _ _ ?_
  refine XC.keep [(0, _), (1, _), (2, _)] ⟨rfl, rfl, rfl, trivial⟩ ?_
  refine XC.seq fun K2 hK2 => ?_
  refine XC.block ?_
  refine XC.seq fun K3 hK3 => ?_
  refine XC.region ?_
  refine x_v (r_mv rfl) rfl ?_
  refine x_v (r_peq_some Try.underlying23 rfl rfl) rfl ?_
  refine x_v (r_as rfl) rfl ?_
  refine XL.nil ?_
  refine hK3 _ _ ?_
  refine XC.keep [(0, _), (1, _), (2, _), (9, _)] ⟨rfl, rfl, rfl, rfl, trivial⟩ ?_
  refine XC.cond_f rfl ?_
  refine XC.seq fun K4 hK4 => ?_
  refine XC.region ?_
  refine x_v (r_mv rfl) rfl ?_
  refine x_v (r_mv rfl) rfl ?_
  refine x_v (r_nc rfl) rfl ?_
  refine x_v (r_fa fo90_0 rfl) rfl ?_
  refine x_v (r_fa fo86_0 rfl) rfl ?_
  refine x_v (r_fa fo32_2 rfl) rfl ?_
  refine x_v (r_ld ty3 rfl (by repeat (first | exact Pick.head _ _ | apply Pick.tail)) (by rfl)) rfl ?_
  refine x_v (r_le rfl rfl) rfl ?_
  refine x_v (r_mv rfl) rfl ?_
  refine XL.splitd 21 rfl (fun hg21 => ?_) (fun hg21 => ?_)
  · refine x_unwant rfl rfl rfl rfl rfl ?_
    refine x_unwant rfl rfl rfl rfl rfl ?_
    refine x_unwant rfl rfl rfl rfl rfl ?_
    refine x_unwant rfl rfl rfl rfl rfl ?_
    refine x_unwant rfl rfl rfl rfl rfl ?_
    refine x_unwant rfl rfl rfl rfl rfl ?_
    refine x_v (r_pk_t rfl rfl) rfl ?_
    refine x_v (r_mv rfl) rfl ?_
    refine x_unwant rfl rfl rfl rfl rfl ?_
    refine x_unwant rfl rfl rfl rfl rfl ?_
    refine x_unwant rfl rfl rfl rfl rfl ?_
    refine x_v (r_pk_t rfl rfl) rfl ?_
    refine x_v (r_as rfl) rfl ?_
    refine XL.nil ?_
    refine hK4 _ _ ?_
    refine XC.keep [(0, _), (1, _), (2, _), (12, _)] ⟨rfl, rfl, rfl, rfl, trivial⟩ ?_
    refine XC.cond_t rfl ?_
    refine XC.seq fun K5 hK5 => ?_
    refine XC.region ?_
    refine x_v (r_as rfl) rfl ?_
    refine XL.nil ?_
    refine hK5 _ _ ?_
    refine XC.keep [(6, _)] ⟨rfl, trivial⟩ ?_
    refine XC.ret ?_
    have e : compact p i s = (p, 1) := by unfold compact; rw [if_pos (by omega)]
    rw [e]
    exact fin1 rfl (⟨rfl, A, c, k, rfl, Ex.refl W0 k, h⟩) (by repeat (first | exact Gets.done _ | exact Gets.all _ | (apply Gets.step; focus ((repeat (first | exact Pick.head _ _ | apply Pick.tail)); done)) | apply Gets.drop))
  · refine x_want rfl rfl rfl ?_
    refine x_v (r_mv rfl) rfl ?_
    refine x_want rfl rfl rfl ?_
    refine x_v (r_mv rfl) rfl ?_
    refine x_want rfl rfl rfl ?_
    refine x_v (r_nc rfl) rfl ?_
    refine x_want rfl rfl rfl ?_
    refine x_v (r_fa fo90_6 rfl) rfl ?_
    refine x_want rfl rfl rfl ?_
    refine x_v (r_ld ty3 rfl (by repeat (first | exact Pick.head _ _ | apply Pick.tail)) (by rfl)) rfl ?_
    refine x_want rfl rfl rfl ?_
    refine x_v (r_gt rfl rfl) rfl ?_
    refine x_v (r_pk_f rfl rfl) rfl ?_
    refine x_v (r_mv rfl) rfl ?_
    refine XL.splitd 29 rfl (fun hg29 => ?_) (fun hg29 => ?_)
    · refine x_unwant rfl rfl rfl rfl rfl ?_
      refine x_unwant rfl rfl rfl rfl rfl ?_
      refine x_unwant rfl rfl rfl rfl rfl ?_
      refine x_v (r_pk_t rfl rfl) rfl ?_
      refine x_v (r_as rfl) rfl ?_
      refine XL.nil ?_
      refine hK4 _ _ ?_
      refine XC.keep [(0, _), (1, _), (2, _), (12, _)] ⟨rfl, rfl, rfl, rfl, trivial⟩ ?_
      refine XC.cond_t rfl ?_
      refine XC.seq fun K6 hK6 => ?_
      refine XC.region ?_
      refine x_v (r_as rfl) rfl ?_
      refine XL.nil ?_
      refine hK6 _ _ ?_
      refine XC.keep [(6, _)] ⟨rfl, trivial⟩ ?_
      refine XC.ret ?_
      have e : compact p i s = (p, 1) := by unfold compact; rw [if_pos (by omega)]
      rw [e]
      exact fin1 rfl (⟨rfl, A, c, k, rfl, Ex.refl W0 k, h⟩) (by repeat (first | exact Gets.done _ | exact Gets.all _ | (apply Gets.step; focus ((repeat (first | exact Pick.head _ _ | apply Pick.tail)); done)) | apply Gets.drop))
    · refine x_want rfl rfl rfl ?_
      refine x_v (r_mv rfl) rfl ?_
      refine x_want rfl rfl rfl ?_
      refine x_v (r_lens Try.underlying9 rfl) rfl ?_
      refine x_want rfl rfl rfl ?_
      refine x_v (r_gt rfl rfl) rfl ?_
      refine x_v (r_pk_f rfl rfl) rfl ?_
      refine x_v (r_as rfl) rfl ?_
      refine XL.nil ?_
      refine hK4 _ _ ?_
      refine XC.keep [(0, _), (1, _), (2, _), (12, _)] ⟨rfl, rfl, rfl, rfl, trivial⟩ ?_
      refine XC.cond_d rfl (fun hc4 => ?_) (fun hc4 => ?_)
      · refine XC.seq fun K7 hK7 => ?_
        refine XC.region ?_
        refine x_v (r_as rfl) rfl ?_
        refine XL.nil ?_
        refine hK7 _ _ ?_
        refine XC.keep [(6, _)] ⟨rfl, trivial⟩ ?_
        refine XC.ret ?_
        have e : compact p i s = (p, 1) := by unfold compact; rw [if_pos (by omega)]
        rw [e]
        exact fin1 rfl (⟨rfl, A, c, k, rfl, Ex.refl W0 k, h⟩) (by repeat (first | exact Gets.done _ | exact Gets.all _ | (apply Gets.step; focus ((repeat (first | exact Pick.head _ _ | apply Pick.tail)); done)) | apply Gets.drop))
      · refine XC.skip ?_
        refine hK2 _ _ ?_
        refine XC.keep [(0, _), (1, _), (2, _)] ⟨rfl, rfl, rfl, trivial⟩ ?_
        refine XC.seq fun K8 hK8 => ?_
        refine XC.region ?_
        refine x_v (r_mv rfl) rfl ?_
        refine x_v (r_nc rfl) rfl ?_
        refine x_v (r_fa fo90_0 rfl) rfl ?_
        refine x_v (r_mv rfl) rfl ?_
        refine x_c (r_call0 (args := [_, _]) ⟨rfl, rfl, rfl⟩ (term_tr b M i h (by omega)) (by repeat (first | exact Gets.done _ | exact Gets.all _ | (apply Gets.step; focus ((repeat (first | exact Pick.head _ _ | apply Pick.tail)); done)) | apply Gets.drop))) rfl ?_
        rintro _ _ ⟨rfl, rfl⟩
        refine x_v (r_mv rfl) rfl ?_
        refine x_v (r_ex rfl rfl) rfl ?_
        refine x_v (r_ex rfl rfl) rfl ?_
        refine x_v (r_as rfl) rfl ?_
        refine x_v (r_as rfl) rfl ?_
        refine XL.nil ?_
        refine hK8 _ _ ?_
        refine XC.keep [(0, _), (1, _), (2, _), (7, _)] ⟨rfl, rfl, rfl, rfl, trivial⟩ ?_
        refine XC.seq fun K9 hK9 => ?_
        refine XC.region ?_
        refine x_v (r_mv rfl) rfl ?_
        refine x_v (r_nc rfl) rfl ?_
        refine x_v (r_fa fo90_0 rfl) rfl ?_
        refine x_v (r_mv rfl) rfl ?_
        refine x_v (r_mv rfl) rfl ?_
        refine x_v (r_mv rfl) rfl ?_
        refine x_c (r_call0 (args := [_, _, _, _]) ⟨rfl, rfl, rfl, rfl, rfl⟩ (rebase_tr b M i ((termAt p i).getD 0) s h (by omega)) (by repeat (first | exact Gets.done _ | exact Gets.all _ | (apply Gets.step; focus ((repeat (first | exact Pick.head _ _ | apply Pick.tail)); done)) | apply Gets.drop))) rfl ?_
        rintro _ _ ⟨rfl, A2, c2, k2, rfl, hx2, hp2⟩
        refine XL.nil ?_
        refine hK9 _ _ ?_
        refine XC.keep [] trivial ?_
        refine XC.seq fun K10 hK10 => ?_
        refine XC.region ?_
        refine x_v (r_as rfl) rfl ?_
        refine XL.nil ?_
        refine hK10 _ _ ?_
        refine XC.keep [(6, _)] ⟨rfl, trivial⟩ ?_
        refine XC.ret ?_
        have e : compact p i s = (rebase p i ((termAt p i).getD 0) s, 0) := by unfold compact; rw [if_neg (by omega)]
        rw [e]
        exact fin1 rfl (⟨rfl, A2, c2, k2, rfl, hx2, hp2⟩) (by repeat (first | exact Gets.done _ | exact Gets.all _ | (apply Gets.step; focus ((repeat (first | exact Pick.head _ _ | apply Pick.tail)); done)) | apply Gets.drop))
end Go.Proofs.Ytlogcldbflemfaa

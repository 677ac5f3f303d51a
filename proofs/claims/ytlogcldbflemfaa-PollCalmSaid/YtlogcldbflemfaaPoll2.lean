/- Polls: entries laid, a base put; mails that go out. -/
import Derived.Test.YtlogcldbflemfaaPoll1
namespace Go.Proofs.Ytlogcldbflemfaa
open Go.Sx Go.Rf
set_option linter.unusedVariables false

theorem es_laid {W0 : World} {A : Option Addr} {c : Nat} {L : List En} (k : HP) (hA : 0 < L.length → ∃ g, A = some ⟨g, 0, none⟩) : Rdb W0 [sep (sl A L.length c 48 2 (cells ec L)) k] A L.length 2 (cells ec L) :=
  Rdb.laid k (by rw [cells_len ec_len]) hA
theorem rd_take {α : Type} {f : α → List Value} {m : Nat} (hf : ∀ x, (f x).length = m) {W0 : World} {Fr : List HP} {A : Option Addr} {L : List α} (h : Rdb W0 Fr A L.length m (cells f L)) {j : Nat} (hj : j ≤ L.length) : Rdb W0 Fr A (L.take j).length m (cells f (L.take j)) := by
  have hl : (L.take j).length = j := by rw [List.length_take]; omega
  refine ⟨by rw [cells_len hf], fun hn => ?_⟩
  obtain ⟨b, o, e, k⟩ := h.at_ (by omega)
  refine ⟨b, o, e, fun w hw i u hu => k w hw i u ?_⟩
  rw [← cells_take hf, List.getElem?_take] at hu
  split at hu
  · exact hu
  · cases hu

theorem lay_tr {W0 : World} {Fr : List HP} {k : HP} {p : Pl} {A : Option Addr} {c : Nat} (b : Nat) (M : Option Nat) (i : Int) (XA : Option Addr) (xc : Nat) (l : List En) (h : PB W0 k p A c) (hi : p.base ≤ i) (hi2 : i ≤ p.base + p.es.length) (hr : Rdb W0 (k :: Fr) XA l.length 2 (cells ec l)) (hl : p.es.length + l.length ≤ 100000000) :
    Tr W0 Try.prog 54 [.pointer (some ⟨b, 0, none⟩), .int .i64 i, .slice XA l.length xc] (blk b 90 (pc p A c M) :: k :: Fr) (fun v Rs' => v = .tuple #[] ∧ ∃ A2 c2 k2, Rs' = blk b 90 (pc (lay p i l) A2 c2 M) :: k2 :: Fr ∧ Ex W0 k k2 ∧ PB W0 k2 (lay p i l) A2 c2) := by
  have hel := h.el; have hb0 := h.b0; have hb1 := h.b1; have hec := h.ec
  obtain ⟨es2, hes2⟩ : ∃ es2, es2 = p.es.take (i - p.base).toNat ++ l := ⟨_, rfl⟩
  have hlt : (p.es.take (i - p.base).toNat).length = (i - p.base).toNat := by rw [List.length_take]; omega
  have hl2 : es2.length = (i - p.base).toNat + l.length := by rw [hes2, List.length_append, hlt]
  refine Entry.tr (N := 48) (rs := []) ⟨_, Try.func54, rfl, by kernel_rfl, rfl, rfl⟩ rfl ?_
  refine XC.seq fun K1 hK1 => ?_
  refine XC.draw [blk b 90 (pc p A c M), k] true [(0, false), (1, false), (2, false), (3, false), (4, false), (5, false), (6, false), (7, false), (8, false), (9, false), (10, false), (11, false), (12, false), (13, false), (15, false), (14, true), (16, true), (17, false), (18, false), (19, false), (20, true)] (by kernel_rfl) (by kernel_rfl) ?_
  refine y_v rfl (r_mv rfl) (fun _ h => Gets.own (by repeat (first | exact Gets.done _ | exact Gets.all _ | (apply Gets.step; focus ((repeat (first | exact Pick.head _ _ | apply Pick.tail)); done)) | apply Gets.drop)) h) rfl ?_
  refine y_v rfl (r_mv rfl) (fun _ h => Gets.own (by repeat (first | exact Gets.done _ | exact Gets.all _ | (apply Gets.step; focus ((repeat (first | exact Pick.head _ _ | apply Pick.tail)); done)) | apply Gets.drop)) h) rfl ?_
  refine y_v rfl (r_nc rfl) (fun _ h => Gets.own (by repeat (first | exact Gets.done _ | exact Gets.all _ | (apply Gets.step; focus ((repeat (first | exact Pick.head _ _ | apply Pick.tail)); done)) | apply Gets.drop)) h) rfl ?_
  refine y_v rfl (r_fa fo86_0 rfl) (fun _ h => Gets.own (by repeat (first | exact Gets.done _ | exact Gets.all _ | (apply Gets.step; focus ((repeat (first | exact Pick.head _ _ | apply Pick.tail)); done)) | apply Gets.drop)) h) rfl ?_
  refine y_v rfl (r_fa fo32_5 rfl) (fun _ h => Gets.own (by repeat (first | exact Gets.done _ | exact Gets.all _ | (apply Gets.step; focus ((repeat (first | exact Pick.head _ _ | apply Pick.tail)); done)) | apply Gets.drop)) h) rfl ?_
  refine y_v rfl (r_ld ty30 rfl (by repeat (first | exact Pick.head _ _ | apply Pick.tail)) (by rfl)) (fun _ h => Gets.own (by repeat (first | exact Gets.done _ | exact Gets.all _ | (apply Gets.step; focus ((repeat (first | exact Pick.head _ _ | apply Pick.tail)); done)) | apply Gets.drop)) h) rfl ?_
  refine y_v rfl (r_mv rfl) (fun _ h => Gets.own (by repeat (first | exact Gets.done _ | exact Gets.all _ | (apply Gets.step; focus ((repeat (first | exact Pick.head _ _ | apply Pick.tail)); done)) | apply Gets.drop)) h) rfl ?_
  refine y_v rfl (r_mv rfl) (fun _ h => Gets.own (by repeat (first | exact Gets.done _ | exact Gets.all _ | (apply Gets.step; focus ((repeat (first | exact Pick.head _ _ | apply Pick.tail)); done)) | apply Gets.drop)) h) rfl ?_
  refine y_v rfl (r_nc rfl) (fun _ h => Gets.own (by repeat (first | exact Gets.done _ | exact Gets.all _ | (apply Gets.step; focus ((repeat (first | exact Pick.head _ _ | apply Pick.tail)); done)) | apply Gets.drop)) h) rfl ?_
  refine y_v rfl (r_fa fo86_0 rfl) (fun _ h => Gets.own (by repeat (first | exact Gets.done _ | exact Gets.all _ | (apply Gets.step; focus ((repeat (first | exact Pick.head _ _ | apply Pick.tail)); done)) | apply Gets.drop)) h) rfl ?_
  refine y_v rfl (r_fa fo32_2 rfl) (fun _ h => Gets.own (by repeat (first | exact Gets.done _ | exact Gets.all _ | (apply Gets.step; focus ((repeat (first | exact Pick.head _ _ | apply Pick.tail)); done)) | apply Gets.drop)) h) rfl ?_
  refine y_v rfl (r_ld ty3 rfl (by repeat (first | exact Pick.head _ _ | apply Pick.tail)) (by rfl)) (fun _ h => Gets.own (by repeat (first | exact Gets.done _ | exact Gets.all _ | (apply Gets.step; focus ((repeat (first | exact Pick.head _ _ | apply Pick.tail)); done)) | apply Gets.drop)) h) rfl ?_
  refine y_v rfl (r_sub rfl rfl (by omega)) (fun _ h => Gets.own (by repeat (first | exact Gets.done _ | exact Gets.all _ | (apply Gets.step; focus ((repeat (first | exact Pick.head _ _ | apply Pick.tail)); done)) | apply Gets.drop)) h) rfl ?_
  refine y_v rfl (r_sll0 (p.es.take (i - p.base).toNat).length Try.underlying30 ty48 rfl ⟨.i64, by rw [hlt, Int.toNat_of_nonneg (by omega)]; rfl⟩ (by omega)) (fun _ h => Gets.own (by repeat (first | exact Gets.done _ | exact Gets.all _ | (apply Gets.step; focus ((repeat (first | exact Pick.head _ _ | apply Pick.tail)); done)) | apply Gets.drop)) h) rfl ?_
  refine y_v rfl (r_mv rfl) (fun _ h => Gets.own (by repeat (first | exact Gets.done _ | exact Gets.all _ | (apply Gets.step; focus ((repeat (first | exact Pick.head _ _ | apply Pick.tail)); done)) | apply Gets.drop)) h) rfl ?_
  refine y_c rfl (r_call0 (args := [_]) ⟨rfl, rfl⟩ (clone_tr (Fr := blk b 90 (pc p A c M) :: k :: Fr) A c (p.es.take (i - p.base).toNat) (rd_take ec_len (h.rd.mono (fun w h => Gets.own (by repeat (first | exact Gets.done _ | exact Gets.all _ | (apply Gets.step; focus ((repeat (first | exact Pick.head _ _ | apply Pick.tail)); done)) | apply Gets.drop)) h)) (by omega)) (by omega)) (by repeat (first | exact Gets.done _ | exact Gets.all _ | (apply Gets.step; focus ((repeat (first | exact Pick.head _ _ | apply Pick.tail)); done)) | apply Gets.drop))) (by rintro _ _ _ _ ⟨A20, c20, rfl, rfl⟩ h; exact Gets.own (by repeat (first | exact Gets.done _ | exact Gets.all _ | (apply Gets.step; focus ((repeat (first | exact Pick.head _ _ | apply Pick.tail)); done)) | apply Gets.drop)) h) rfl ?_
  rintro _ _ ⟨A20, c20, rfl, rfl⟩
  refine y_a rfl (r_app Try.underlying30 ty48 rfl (by decide) rfl rfl (by repeat (first | exact Pick.head _ _ | apply Pick.tail)) (hr.mono (fun w h => Gets.own (by repeat (first | exact Gets.done _ | exact Gets.all _ | (apply Gets.step; focus ((repeat (first | exact Pick.head _ _ | apply Pick.tail)); done)) | apply Gets.drop)) h)) (cells_one' ec_one l) (by unfold maxLen; omega) (by omega)) (fun _ _ _ h => Gets.own (by repeat (first | exact Gets.done _ | exact Gets.all _ | (apply Gets.step; focus ((repeat (first | exact Pick.head _ _ | apply Pick.tail)); done)) | apply Gets.drop)) h) rfl fun ⟨A22, c22⟩ => ?_
  dsimp only
  rw [← List.length_append, ← cells_app, ← hes2]
  refine y_v rfl (r_nc rfl) (fun _ h => Gets.own (by repeat (first | exact Gets.done _ | exact Gets.all _ | (apply Gets.step; focus ((repeat (first | exact Pick.head _ _ | apply Pick.tail)); done)) | apply Gets.drop)) h) rfl ?_
  refine y_v rfl (r_fa fo86_0 rfl) (fun _ h => Gets.own (by repeat (first | exact Gets.done _ | exact Gets.all _ | (apply Gets.step; focus ((repeat (first | exact Pick.head _ _ | apply Pick.tail)); done)) | apply Gets.drop)) h) rfl ?_
  refine y_v rfl (r_fa fo32_5 rfl) (fun _ h => Gets.own (by repeat (first | exact Gets.done _ | exact Gets.all _ | (apply Gets.step; focus ((repeat (first | exact Pick.head _ _ | apply Pick.tail)); done)) | apply Gets.drop)) h) rfl ?_
  unfold pc
  refine y_e rfl (r_st ty30 rfl rfl rfl rfl rfl (by repeat (first | exact Upd.head _ _ _ | apply Upd.tail)) (by repeat (first | exact Over.nil _ | apply Over.put | apply Over.skip))) (fun h => absurd h (by decide)) ?_
  refine XH.nil ?_
  refine hK1 _ _ ?_
  refine XC.keep [(0, _), (1, _)] ⟨rfl, rfl, trivial⟩ ?_
  refine XC.seq fun K2 hK2 => ?_
  refine XC.slnn (A := A22) (by repeat (first | exact Pick.head _ _ | apply Pick.tail)) fun _ hA => ?_
  refine XC.sllen (A := A22) (by repeat (first | exact Pick.head _ _ | apply Pick.tail)) fun _ hcap _ => ?_
  refine XC.stash (x := sl A22 es2.length c22 48 2 (cells ec es2)) (k := k) (by repeat (first | exact Pick.head _ _ | apply Pick.tail)) (by repeat (first | exact Pick.head _ _ | apply Pick.tail)) ?_
  refine XC.region ?_
  refine x_v (r_mv rfl) rfl ?_
  refine x_v (r_nc rfl) rfl ?_
  refine x_v (r_fa fo86_2 rfl) rfl ?_
  refine x_e (r_st ty4 rfl rfl rfl rfl rfl (by repeat (first | exact Upd.head _ _ _ | apply Upd.tail)) (by repeat (first | exact Over.nil _ | apply Over.put | apply Over.skip))) ?_
  refine XL.nil ?_
  refine hK2 _ _ ?_
  refine XC.keep [(0, _), (1, _)] ⟨rfl, rfl, trivial⟩ ?_
  refine XC.seq fun K3 hK3 => ?_
  refine XC.region ?_
  refine x_v (r_mv rfl) rfl ?_
  refine x_v (r_nc rfl) rfl ?_
  refine x_v (r_fa fo86_1 rfl) rfl ?_
  refine x_v (r_ld ty3 rfl (by repeat (first | exact Pick.head _ _ | apply Pick.tail)) (by rfl)) rfl ?_
  refine x_v (r_eq rfl rfl) rfl ?_
  refine x_v (r_mv rfl) rfl ?_
  refine XL.splitd 34 rfl (fun hg34 => ?_) (fun hg34 => ?_)
  · refine x_unwant rfl rfl rfl rfl rfl ?_
    refine x_unwant rfl rfl rfl rfl rfl ?_
    refine x_unwant rfl rfl rfl rfl rfl ?_
    refine x_unwant rfl rfl rfl rfl rfl ?_
    refine x_unwant rfl rfl rfl rfl rfl ?_
    refine x_unwant rfl rfl rfl rfl rfl ?_
    refine x_unwant rfl rfl rfl rfl rfl ?_
    refine x_v (r_pk_t rfl rfl) rfl ?_
    refine XL.nil ?_
    refine hK3 _ _ ?_
    refine XC.keep [(0, _), (1, _), (42, _)] ⟨rfl, rfl, rfl, trivial⟩ ?_
    refine XC.cond_t rfl ?_
    refine XC.region ?_
    refine x_v (r_mv rfl) rfl ?_
    refine x_v (r_mv rfl) rfl ?_
    refine x_v (r_add rfl rfl (by omega)) rfl ?_
    refine x_v (r_nc rfl) rfl ?_
    refine x_v (r_fa fo86_1 rfl) rfl ?_
    refine x_e (r_st ty3 rfl rfl rfl rfl rfl (by repeat (first | exact Upd.head _ _ _ | apply Upd.tail)) (by repeat (first | exact Over.nil _ | apply Over.put | apply Over.skip))) ?_
    refine XL.nil ?_
    have hly : lay p i l = { p with es := es2, touched := true, frm := i + 1 } := by (unfold lay; rw [if_pos (by omega), hes2])
    rw [hly]
    exact fin0 (⟨rfl, A22, c22, _, rfl, Ex.on W0 _ _, es_laid k hA, by dsimp only; omega, hcap, hb0, hb1⟩) (by repeat (first | exact Gets.done _ | exact Gets.all _ | (apply Gets.step; focus ((repeat (first | exact Pick.head _ _ | apply Pick.tail)); done)) | apply Gets.drop))
  · refine x_want rfl rfl rfl ?_
    refine x_v (r_mv rfl) rfl ?_
    refine x_want rfl rfl rfl ?_
    refine x_v (r_add rfl rfl (by omega)) rfl ?_
    refine x_want rfl rfl rfl ?_
    refine x_v (r_mv rfl) rfl ?_
    refine x_want rfl rfl rfl ?_
    refine x_v (r_nc rfl) rfl ?_
    refine x_want rfl rfl rfl ?_
    refine x_v (r_fa fo86_1 rfl) rfl ?_
    refine x_want rfl rfl rfl ?_
    refine x_v (r_ld ty3 rfl (by repeat (first | exact Pick.head _ _ | apply Pick.tail)) (by rfl)) rfl ?_
    refine x_want rfl rfl rfl ?_
    refine x_v (r_lt rfl rfl) rfl ?_
    refine x_v (r_pk_f rfl rfl) rfl ?_
    refine XL.nil ?_
    refine hK3 _ _ ?_
    refine XC.keep [(0, _), (1, _), (42, _)] ⟨rfl, rfl, rfl, trivial⟩ ?_
    refine XC.cond_d rfl (fun hc2 => ?_) (fun hc2 => ?_)
    · refine XC.region ?_
      refine x_v (r_mv rfl) rfl ?_
      refine x_v (r_mv rfl) rfl ?_
      refine x_v (r_add rfl rfl (by omega)) rfl ?_
      refine x_v (r_nc rfl) rfl ?_
      refine x_v (r_fa fo86_1 rfl) rfl ?_
      refine x_e (r_st ty3 rfl rfl rfl rfl rfl (by repeat (first | exact Upd.head _ _ _ | apply Upd.tail)) (by repeat (first | exact Over.nil _ | apply Over.put | apply Over.skip))) ?_
      refine XL.nil ?_
      have hly : lay p i l = { p with es := es2, touched := true, frm := i + 1 } := by (unfold lay; rw [if_pos (by omega), hes2])
      rw [hly]
      exact fin0 (⟨rfl, A22, c22, _, rfl, Ex.on W0 _ _, es_laid k hA, by dsimp only; omega, hcap, hb0, hb1⟩) (by repeat (first | exact Gets.done _ | exact Gets.all _ | (apply Gets.step; focus ((repeat (first | exact Pick.head _ _ | apply Pick.tail)); done)) | apply Gets.drop))
    · refine XC.skip ?_
      have hly : lay p i l = { p with es := es2, touched := true, frm := p.frm } := by (unfold lay; rw [if_neg (by omega), hes2])
      rw [hly]
      exact fin0 (⟨rfl, A22, c22, _, rfl, Ex.on W0 _ _, es_laid k hA, by dsimp only; omega, hcap, hb0, hb1⟩) (by repeat (first | exact Gets.done _ | exact Gets.all _ | (apply Gets.step; focus ((repeat (first | exact Pick.head _ _ | apply Pick.tail)); done)) | apply Gets.drop))
end Go.Proofs.Ytlogcldbflemfaa

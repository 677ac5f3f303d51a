/- Scripts: the tape's act (function 45). -/
import Derived.Test.YtdppjmdjmbbclaaScript15
namespace Go.Proofs.Ytdppjmdjmbbclaa
open Go.Sx
set_option linter.unusedVariables false

def za : Ac := ⟨0, 0, 0, 0, none, 0, 0, [], zq⟩
theorem made_za (n : Nat) : (madeCells (Value.agg #[.int .i64 0, .int .i64 0, .int .i64 0, .int .i64 0, .slice none 0 0, .int .i64 0, .int .i64 0, .int .i64 0, .string ⟨#[]⟩, .string ⟨#[]⟩, .int .i64 0, .int .i64 0]).cells (n * 12)).toList = cells ac (List.replicate n za) := by
  apply List.ext_getElem?
  intro j
  by_cases hj : j < n * 12
  · have h1 : j / 12 < n := by omega
    have h2 := cells_get ac_len (List.replicate n za) (j / 12) za (by simp [h1]) (j % 12)
    have h3 : j / 12 * 12 + j % 12 = j := by omega
    rw [h3] at h2
    have h4 : j % 12 < 12 := by omega
    have h5 : (madeCells (Value.agg #[.int .i64 0, .int .i64 0, .int .i64 0, .int .i64 0, .slice none 0 0, .int .i64 0, .int .i64 0, .int .i64 0, .string ⟨#[]⟩, .string ⟨#[]⟩, .int .i64 0, .int .i64 0]).cells (n * 12)).toList[j]? = (ac za)[j % 12]? := by
      simp only [madeCells, Array.toList_map, Array.toList_range, List.getElem?_map, List.getElem?_range hj, Option.map_some]
      have : (Value.agg #[.int .i64 0, .int .i64 0, .int .i64 0, .int .i64 0, .slice none 0 0, .int .i64 0, .int .i64 0, .int .i64 0, .string ⟨#[]⟩, .string ⟨#[]⟩, .int .i64 0, .int .i64 0]).cells.size = 12 := rfl
      rw [this]
      rcases (by omega : j % 12 = 0 ∨ j % 12 = 1 ∨ j % 12 = 2 ∨ j % 12 = 3 ∨ j % 12 = 4 ∨ j % 12 = 5 ∨ j % 12 = 6 ∨ j % 12 = 7 ∨ j % 12 = 8 ∨ j % 12 = 9 ∨ j % 12 = 10 ∨ j % 12 = 11) with h | h | h | h | h | h | h | h | h | h | h | h <;> rw [h] <;> rfl
    rw [h5]
    cases hu : (ac za)[j % 12]? with
    | none => rw [List.getElem?_eq_none_iff, ac_len] at hu; omega
    | some u => exact (h2 u hu).symm
  · rw [List.getElem?_eq_none (by simp [size_madeCells]; omega), List.getElem?_eq_none (by rw [cells_len ac_len, List.length_replicate]; omega)]

theorem rob_at {W0 : World} {q E : Nat} {p : List UInt8} {r : List Value} : ∀ i ch, p[i]? = some ch → ∀ w, Own W0 w [rob q E (bv p ++ r)] → w.cell? ⟨q, 0 + i * 1, none⟩ = some (.int .u8 (ch.toNat : Int)) := by
  intro i ch hi w hw
  have hr : Rdb W0 [rob q E (bv p ++ r)] (some ⟨q, 0, none⟩) p.length 1 (bv p) := Rdb.of_rob (.head _ _) (by simp [bv_len]) (fun j u hu => by rw [List.getElem?_append_left (List.getElem?_eq_some_iff.1 hu).1]; exact hu)
  have hl := (List.getElem?_eq_some_iff.1 hi).1
  obtain ⟨b, o, e, k⟩ := hr.at_ (by omega)
  simp only [Option.some.injEq, Addr.mk.injEq, and_true] at e
  obtain ⟨rfl, rfl⟩ := e
  have := k w hw i _ (bv_get hi)
  simpa using this

/-- What the tape's act leaves: the acts; a piece that has their Keeps. -/
def ActP (W0 : World) (kind b : Nat) (t : Tp) (Fr : List HP) (v : Value) (Rs' : List HP) : Prop :=
  ∃ A c L kp, v = .slice A L.length c ∧ Rs' = sl A L.length c 83 12 (cells ac L) :: blk b 86 [str (actT kind t).2.1, .bool (actT kind t).2.2] :: kp :: Fr ∧
    (∀ x ∈ L, Rdb W0 [kp] x.A x.n 1 (iv x.ks) ∧ x.n ≤ 7) ∧ L.length ≤ 255 ∧ (if kind = 12 then L = List.replicate (oneV t) za else L.map Ac.v = (actT kind t).1)

theorem ActP.mk {W0 : World} {kind b : Nat} {t : Tp} {Fr Rs' : List HP} {v : Value} {A : Option Addr} {c : Nat} (L : List Ac) (kp : HP) (S : Tp) (h2 : (actT kind t).2 = S) (hv : v = .slice A L.length c) (hR : Rs' = sl A L.length c 83 12 (cells ac L) :: blk b 86 [str S.1, .bool S.2] :: kp :: Fr)
    (hk : ∀ x ∈ L, Rdb W0 [kp] x.A x.n 1 (iv x.ks) ∧ x.n ≤ 7) (hl : L.length ≤ 255) (hL : if kind = 12 then L = List.replicate (oneV t) za else L.map Ac.v = (actT kind t).1) : ActP W0 kind b t Fr v Rs' :=
  ⟨A, c, L, kp, hv, by rw [h2]; exact hR, hk, hl, hL⟩

theorem act_tr {W0 : World} {Fr : List HP} (b : Nat) (t : Tp) (kind : Nat) (hk : kind < 16) (hl : t.1.length ≤ 1000000) :
    Tr W0 Try.prog 45 [.pointer (some ⟨b, 0, none⟩), .int .i64 (kind : Int)] (tp b t Fr) (ActP W0 kind b t Fr) := by
  have hz : ∀ (k0 : HP) (a : Ac), a.A = none → a.n = 0 → a.ks = [] → ∀ x ∈ [a], Rdb W0 [k0] x.A x.n 1 (iv x.ks) ∧ x.n ≤ 7 := fun k0 a h1 h2 h3 x hx => by
    rw [List.mem_singleton.1 hx, h1, h2, h3]; exact ⟨Rdb.nil _ _ _, by omega⟩
  unfold tp
  refine Entry.tr (N := 124) (rs := [.tmp 4]) ⟨_, Try.func45, rfl, by kernel_rfl, rfl, rfl⟩ rfl ?_
  refine XC.seq fun K1 hK1 => ?_
  refine XC.nil_ 3 1 ?_
  refine XC.region ?_
  refine x_v (r_as rfl) rfl ?_
  refine XL.nil ?_
  refine hK1 _ _ ?_
  refine XC.keep [(0, _), (1, _)] ⟨rfl, rfl, trivial⟩ ?_
  refine XC.seq fun K2 hK2 => ?_
  refine XC.region ?_
  refine x_v (r_mv rfl) rfl ?_
  refine x_v (r_bd (vs := [_]) rfl ⟨rfl, rfl⟩ (bd83_0 _)) rfl ?_
  refine x_a (r_al ty83 rfl) rfl fun b5 => ?_
  refine x_e (r_st ty83 rfl rfl rfl rfl rfl (by repeat (first | exact Upd.head _ _ _ | apply Upd.tail)) (by repeat (first | exact Over.nil _ | apply Over.put | apply Over.skip))) ?_
  refine XL.nil ?_
  refine hK2 _ _ ?_
  refine XC.keep [(0, _), (1, _), (5, _)] ⟨rfl, rfl, rfl, trivial⟩ ?_
  refine XC.seq fun K3 hK3 => ?_
  refine XC.seq fun K4 hK4 => ?_
  refine XC.region ?_
  refine x_v (r_mv rfl) rfl ?_
  refine XL.nil ?_
  refine hK4 _ _ ?_
  refine XC.keep [(0, _), (5, _), (12, _)] ⟨rfl, rfl, rfl, trivial⟩ ?_
  refine XC.block ?_
  refine XC.seq fun K5 hK5 => ?_
  refine XC.region ?_
  refine x_v (r_eq rfl rfl) rfl ?_
  refine x_v (r_as rfl) rfl ?_
  refine XL.nil ?_
  refine hK5 _ _ ?_
  refine XC.keep [(0, _), (5, _), (12, _), (13, _)] ⟨rfl, rfl, rfl, rfl, trivial⟩ ?_
  refine XC.cond_d rfl (fun hc1 => ?_) (fun hc1 => ?_)
  · refine XC.seq fun K6 hK6 => ?_
    refine XC.region ?_
    refine x_v (r_mv rfl) rfl ?_
    refine x_c (r_call0 (args := [_]) ⟨rfl, rfl⟩ (one_tr b t) (by repeat (first | exact Gets.done _ | exact Gets.all _ | (apply Gets.step; focus ((repeat (first | exact Pick.head _ _ | apply Pick.tail)); done)) | apply Gets.drop))) rfl ?_
    rintro _ _ ⟨rfl, rfl⟩
    unfold tp
    refine x_v (r_fa fo83_1 rfl) rfl ?_
    refine x_e (r_st ty3 rfl rfl rfl rfl rfl (by repeat (first | exact Upd.head _ _ _ | apply Upd.tail)) (by repeat (first | exact Over.nil _ | apply Over.put | apply Over.skip))) ?_
    refine XL.nil ?_
    refine hK6 _ _ ?_
    refine XC.keep [(0, _), (5, _)] ⟨rfl, rfl, trivial⟩ ?_
    refine XC.seq fun K7 hK7 => ?_
    refine XC.region ?_
    refine x_v (r_mv rfl) rfl ?_
    refine x_c (r_call0 (args := [_]) ⟨rfl, rfl⟩ (one_tr b _) (by repeat (first | exact Gets.done _ | exact Gets.all _ | (apply Gets.step; focus ((repeat (first | exact Pick.head _ _ | apply Pick.tail)); done)) | apply Gets.drop))) rfl ?_
    rintro _ _ ⟨rfl, rfl⟩
    unfold tp
    refine x_v (r_mv rfl) rfl ?_
    refine x_c (r_call0 (args := [_]) ⟨rfl, rfl⟩ (one_tr b _) (by repeat (first | exact Gets.done _ | exact Gets.all _ | (apply Gets.step; focus ((repeat (first | exact Pick.head _ _ | apply Pick.tail)); done)) | apply Gets.drop))) rfl ?_
    rintro _ _ ⟨rfl, rfl⟩
    unfold tp
    refine x_v (r_mv rfl) rfl ?_
    refine x_c (r_call0 (args := [_]) ⟨rfl, rfl⟩ (one_tr b _) (by repeat (first | exact Gets.done _ | exact Gets.all _ | (apply Gets.step; focus ((repeat (first | exact Pick.head _ _ | apply Pick.tail)); done)) | apply Gets.drop))) rfl ?_
    rintro _ _ ⟨rfl, rfl⟩
    unfold tp
    refine x_v (r_mv rfl) rfl ?_
    refine x_c (r_call0 (args := [_]) ⟨rfl, rfl⟩ (one_tr b _) (by repeat (first | exact Gets.done _ | exact Gets.all _ | (apply Gets.step; focus ((repeat (first | exact Pick.head _ _ | apply Pick.tail)); done)) | apply Gets.drop))) rfl ?_
    rintro _ _ ⟨rfl, rfl⟩
    unfold tp
    refine x_v (r_mv rfl) rfl ?_
    refine x_c (r_call0 (args := [_]) ⟨rfl, rfl⟩ (one_tr b _) (by repeat (first | exact Gets.done _ | exact Gets.all _ | (apply Gets.step; focus ((repeat (first | exact Pick.head _ _ | apply Pick.tail)); done)) | apply Gets.drop))) rfl ?_
    rintro _ _ ⟨rfl, rfl⟩
    unfold tp
    refine x_v (r_bd (vs := [_, _, _, _, _]) rfl ⟨rfl, rfl, rfl, rfl, rfl, rfl⟩ (bd81_0_1_2_5_6 _ _ _ _ _)) rfl ?_
    refine x_v (r_fa fo83_5 rfl) rfl ?_
    refine x_e (r_st ty81 rfl rfl rfl rfl rfl (by repeat (first | exact Upd.head _ _ _ | apply Upd.tail)) (by repeat (first | exact Over.nil _ | apply Over.put | apply Over.skip))) ?_
    refine XL.nil ?_
    refine hK7 _ _ ?_
    refine XC.keep [(0, _), (5, _)] ⟨rfl, rfl, trivial⟩ ?_
    refine XC.seq fun K8 hK8 => ?_
    refine XC.region ?_
    refine x_v (r_mv rfl) rfl ?_
    refine x_v (r_mv rfl) rfl ?_
    refine x_c (r_call0 (args := [_]) ⟨rfl, rfl⟩ (one_tr b _) (by repeat (first | exact Gets.done _ | exact Gets.all _ | (apply Gets.step; focus ((repeat (first | exact Pick.head _ _ | apply Pick.tail)); done)) | apply Gets.drop))) rfl ?_
    rintro _ _ ⟨rfl, rfl⟩
    unfold tp
    refine x_v (r_rem rfl rfl (by omega)) rfl ?_
    rw [show ((oneV (oneS (oneS (oneS (oneS (oneS (oneS t)))))) : Nat) : Int) % 32 = ((oneV (oneS (oneS (oneS (oneS (oneS (oneS t)))))) % 32 : Nat) : Int) by omega]
    refine x_c (r_call0 (args := [_, _]) ⟨rfl, rfl, rfl⟩ (text_tr b _ (oneV (oneS (oneS (oneS (oneS (oneS (oneS t)))))) % 32)) (by repeat (first | exact Gets.done _ | exact Gets.all _ | (apply Gets.step; focus ((repeat (first | exact Pick.head _ _ | apply Pick.tail)); done)) | apply Gets.drop))) rfl ?_
    rintro _ _ ⟨rfl, rfl⟩
    unfold tp
    refine x_v (r_fa fo83_5 rfl) rfl ?_
    refine x_v (r_fa fo81_3 rfl) rfl ?_
    refine x_e (r_st ty9 rfl rfl rfl rfl rfl (by repeat (first | exact Upd.head _ _ _ | apply Upd.tail)) (by repeat (first | exact Over.nil _ | apply Over.put | apply Over.skip))) ?_
    refine XL.nil ?_
    refine hK8 _ _ ?_
    refine XC.keep [(0, _), (5, _)] ⟨rfl, rfl, trivial⟩ ?_
    refine XC.region ?_
    refine x_v (r_mv rfl) rfl ?_
    refine x_v (r_mv rfl) rfl ?_
    refine x_c (r_call0 (args := [_]) ⟨rfl, rfl⟩ (pair_tr b _) (by repeat (first | exact Gets.done _ | exact Gets.all _ | (apply Gets.step; focus ((repeat (first | exact Pick.head _ _ | apply Pick.tail)); done)) | apply Gets.drop))) rfl ?_
    rintro _ _ ⟨rfl, rfl⟩
    unfold tp
    refine x_v (r_rem rfl rfl (by omega)) rfl ?_
    rw [show ((pairV (textS (oneS (oneS (oneS (oneS (oneS (oneS (oneS t))))))) (oneV (oneS (oneS (oneS (oneS (oneS (oneS t)))))) % 32)) : Nat) : Int) % 1024 = ((pairV (textS (oneS (oneS (oneS (oneS (oneS (oneS (oneS t))))))) (oneV (oneS (oneS (oneS (oneS (oneS (oneS t)))))) % 32)) % 1024 : Nat) : Int) by omega]
    refine x_c (r_call0 (args := [_, _]) ⟨rfl, rfl, rfl⟩ (text_tr b _ (pairV (textS (oneS (oneS (oneS (oneS (oneS (oneS (oneS t))))))) (oneV (oneS (oneS (oneS (oneS (oneS (oneS t)))))) % 32)) % 1024)) (by repeat (first | exact Gets.done _ | exact Gets.all _ | (apply Gets.step; focus ((repeat (first | exact Pick.head _ _ | apply Pick.tail)); done)) | apply Gets.drop))) rfl ?_
    rintro _ _ ⟨rfl, rfl⟩
    unfold tp
    refine x_v (r_fa fo83_5 rfl) rfl ?_
    refine x_v (r_fa fo81_4 rfl) rfl ?_
    refine x_e (r_st ty9 rfl rfl rfl rfl rfl (by repeat (first | exact Upd.head _ _ _ | apply Upd.tail)) (by repeat (first | exact Over.nil _ | apply Over.put | apply Over.skip))) ?_
    refine XL.nil ?_
    refine hK3 _ _ ?_
    refine XC.keep [(5, _)] ⟨rfl, trivial⟩ ?_
    refine XC.seq fun K9 hK9 => ?_
    refine XC.region ?_
    refine x_v (r_lda (l' := [_, _, _, _, _, _, _, _, _, _, _, _]) ty83 rfl (by repeat (first | exact Pick.head _ _ | apply Pick.tail)) rfl (Sub.get (by repeat (first | exact Sub.nil _ | apply Sub.take | apply Sub.skip)))) rfl ?_
    refine x_a (r_bs (vs := [_]) rfl ⟨rfl, rfl⟩ (bs56_1_0 _ _ _ _ _ _ _ _ _ _ _ _ _ _)) rfl fun b123 => ?_
    refine XL.shut_ (n := 1) (c := 1) (sz := 12) (by repeat (first | exact Pick.head _ _ | apply Pick.tail)) (Nat.le_refl _) (by decide) rfl rfl ?_
    refine x_v (r_as rfl) rfl ?_
    refine XL.nil ?_
    refine hK9 _ _ ?_
    refine XC.keep [(4, _)] ⟨rfl, trivial⟩ ?_
    refine XC.ret ?_
    obtain rfl : kind = 1 := by omega
    exact fin1 rfl (ActP.mk [⟨((1 : Nat) : Int), oneV t, 0, 0, none, 0, 0, [], ⟨oneV (oneS t), oneV (oneS (oneS t)), oneV (oneS (oneS (oneS t))), textV (oneS (oneS (oneS (oneS (oneS (oneS (oneS t))))))) (oneV (oneS (oneS (oneS (oneS (oneS (oneS t)))))) % 32), textV (pairS (textS (oneS (oneS (oneS (oneS (oneS (oneS (oneS t))))))) (oneV (oneS (oneS (oneS (oneS (oneS (oneS t)))))) % 32))) (pairV (textS (oneS (oneS (oneS (oneS (oneS (oneS (oneS t))))))) (oneV (oneS (oneS (oneS (oneS (oneS (oneS t)))))) % 32)) % 1024), oneV (oneS (oneS (oneS (oneS t)))), oneV (oneS (oneS (oneS (oneS (oneS t)))))⟩⟩] (sl none 0 0 3 1 []) (textS (pairS (textS (oneS (oneS (oneS (oneS (oneS (oneS (oneS t))))))) (oneV (oneS (oneS (oneS (oneS (oneS (oneS t)))))) % 32))) (pairV (textS (oneS (oneS (oneS (oneS (oneS (oneS (oneS t))))))) (oneV (oneS (oneS (oneS (oneS (oneS (oneS t)))))) % 32)) % 1024)) (by unfold actT; simp) rfl rfl (hz _ _ rfl rfl rfl) (by simp) (by unfold actT; simp [Ac.v])) (by repeat (first | exact Gets.done _ | exact Gets.all _ | (apply Gets.step; focus ((repeat (first | exact Pick.head _ _ | apply Pick.tail)); done)) | apply Gets.drop))
  · refine XC.seqcut (σ := Bool) (fun p => [(0, .pointer (some ⟨b, 0, none⟩)), (5, .pointer (some ⟨b5, 0, none⟩)), (12, .int .i64 (kind : Int)), (44, .bool p)]) (fun p => sl none 0 0 3 1 [] :: blk b5 83 [.int .i64 (kind : Int), .int .i64 0, .int .i64 0, .int .i64 0, .slice none 0 0, .int .i64 0, .int .i64 0, .int .i64 0, .string ⟨#[]⟩, .string ⟨#[]⟩, .int .i64 0, .int .i64 0] :: blk b 86 [str t.1, .bool t.2] :: Fr) (fun p => p = true ↔ (kind = 2 ∨ kind = 3 ∨ kind = 4 ∨ kind = 9)) ?_ ?_
    · refine XC.seq fun K11 hK11 => ?_
      refine XC.region ?_
      refine x_v (r_eq rfl rfl) rfl ?_
      refine x_v (r_as rfl) rfl ?_
      refine XL.nil ?_
      refine hK11 _ _ ?_
      refine XC.keep [(0, _), (5, _), (12, _), (44, _)] ⟨rfl, rfl, rfl, rfl, trivial⟩ ?_
      refine XC.cond_d rfl (fun hc2 => ?_) (fun hc2 => ?_)
      · refine XC.skip ?_
        exact ⟨_, by simp only [decide_eq_true_eq]; omega, ⟨rfl, rfl, rfl, rfl, trivial⟩, (by repeat (first | exact Gets.done _ | exact Gets.all _ | (apply Gets.step; focus ((repeat (first | exact Pick.head _ _ | apply Pick.tail)); done)) | apply Gets.drop))⟩
      · refine XC.seq fun K12 hK12 => ?_
        refine XC.region ?_
        refine x_v (r_eq rfl rfl) rfl ?_
        refine x_v (r_as rfl) rfl ?_
        refine XL.nil ?_
        refine hK12 _ _ ?_
        refine XC.keep [(0, _), (5, _), (12, _), (44, _)] ⟨rfl, rfl, rfl, rfl, trivial⟩ ?_
        refine XC.cond_d rfl (fun hc3 => ?_) (fun hc3 => ?_)
        · refine XC.skip ?_
          exact ⟨_, by simp only [decide_eq_true_eq]; omega, ⟨rfl, rfl, rfl, rfl, trivial⟩, (by repeat (first | exact Gets.done _ | exact Gets.all _ | (apply Gets.step; focus ((repeat (first | exact Pick.head _ _ | apply Pick.tail)); done)) | apply Gets.drop))⟩
        · refine XC.seq fun K13 hK13 => ?_
          refine XC.region ?_
          refine x_v (r_eq rfl rfl) rfl ?_
          refine x_v (r_as rfl) rfl ?_
          refine XL.nil ?_
          refine hK13 _ _ ?_
          refine XC.keep [(0, _), (5, _), (12, _), (44, _)] ⟨rfl, rfl, rfl, rfl, trivial⟩ ?_
          refine XC.cond_d rfl (fun hc4 => ?_) (fun hc4 => ?_)
          · refine XC.skip ?_
            exact ⟨_, by simp only [decide_eq_true_eq]; omega, ⟨rfl, rfl, rfl, rfl, trivial⟩, (by repeat (first | exact Gets.done _ | exact Gets.all _ | (apply Gets.step; focus ((repeat (first | exact Pick.head _ _ | apply Pick.tail)); done)) | apply Gets.drop))⟩
          · refine XC.region ?_
            refine x_v (r_eq rfl rfl) rfl ?_
            refine x_v (r_as rfl) rfl ?_
            refine XL.nil ?_
            exact ⟨_, by simp only [decide_eq_true_eq]; omega, ⟨rfl, rfl, rfl, rfl, trivial⟩, (by repeat (first | exact Gets.done _ | exact Gets.all _ | (apply Gets.step; focus ((repeat (first | exact Pick.head _ _ | apply Pick.tail)); done)) | apply Gets.drop))⟩
    · rintro p hp
      refine XC.cond rfl (fun hc5 => ?_) (fun hc5 => ?_)
      · have hkk := hp.1 hc5
        refine XC.region ?_
        refine x_v (r_mv rfl) rfl ?_
        refine x_c (r_call0 (args := [_]) ⟨rfl, rfl⟩ (one_tr b t) (by repeat (first | exact Gets.done _ | exact Gets.all _ | (apply Gets.step; focus ((repeat (first | exact Pick.head _ _ | apply Pick.tail)); done)) | apply Gets.drop))) rfl ?_
        rintro _ _ ⟨rfl, rfl⟩
        unfold tp
        refine x_v (r_fa fo83_2 rfl) rfl ?_
        refine x_e (r_st ty3 rfl rfl rfl rfl rfl (by repeat (first | exact Upd.head _ _ _ | apply Upd.tail)) (by repeat (first | exact Over.nil _ | apply Over.put | apply Over.skip))) ?_
        refine XL.nil ?_
        refine hK3 _ _ ?_
        refine XC.keep [(5, _)] ⟨rfl, trivial⟩ ?_
        refine XC.seq fun K14 hK14 => ?_
        refine XC.region ?_
        refine x_v (r_lda (l' := [_, _, _, _, _, _, _, _, _, _, _, _]) ty83 rfl (by repeat (first | exact Pick.head _ _ | apply Pick.tail)) rfl (Sub.get (by repeat (first | exact Sub.nil _ | apply Sub.take | apply Sub.skip)))) rfl ?_
        refine x_a (r_bs (vs := [_]) rfl ⟨rfl, rfl⟩ (bs56_1_0 _ _ _ _ _ _ _ _ _ _ _ _ _ _)) rfl fun b123 => ?_
        refine XL.shut_ (n := 1) (c := 1) (sz := 12) (by repeat (first | exact Pick.head _ _ | apply Pick.tail)) (Nat.le_refl _) (by decide) rfl rfl ?_
        refine x_v (r_as rfl) rfl ?_
        refine XL.nil ?_
        refine hK14 _ _ ?_
        refine XC.keep [(4, _)] ⟨rfl, trivial⟩ ?_
        refine XC.ret ?_
        have k1 : ¬ kind = 1 := by omega
        have k12 : ¬ kind = 12 := by omega
        exact fin1 rfl (ActP.mk [⟨(kind : Int), 0, oneV t, 0, none, 0, 0, [], zq⟩] (sl none 0 0 3 1 []) (oneS t) (by unfold actT; simp [k1, k12, hkk]) rfl rfl (hz _ _ rfl rfl rfl) (by simp) (by unfold actT; simp [Ac.v, k1, k12, hkk])) (by repeat (first | exact Gets.done _ | exact Gets.all _ | (apply Gets.step; focus ((repeat (first | exact Pick.head _ _ | apply Pick.tail)); done)) | apply Gets.drop))
      · have hnk : ¬ (kind = 2 ∨ kind = 3 ∨ kind = 4 ∨ kind = 9) := fun h => Bool.noConfusion (hc5.symm.trans (hp.2 h))
        refine XC.seq fun K15 hK15 => ?_
        refine XC.region ?_
        refine x_v (r_eq rfl rfl) rfl ?_
        refine x_v (r_as rfl) rfl ?_
        refine XL.nil ?_
        refine hK15 _ _ ?_
        refine XC.keep [(0, _), (5, _), (12, _), (52, _)] ⟨rfl, rfl, rfl, rfl, trivial⟩ ?_
        refine XC.cond_d rfl (fun hc6 => ?_) (fun hc6 => ?_)
        · refine XC.region ?_
          refine x_v (r_mv rfl) rfl ?_
          refine x_c (r_call0 (args := [_]) ⟨rfl, rfl⟩ (one_tr b t) (by repeat (first | exact Gets.done _ | exact Gets.all _ | (apply Gets.step; focus ((repeat (first | exact Pick.head _ _ | apply Pick.tail)); done)) | apply Gets.drop))) rfl ?_
          rintro _ _ ⟨rfl, rfl⟩
          unfold tp
          refine x_v (r_mv rfl) rfl ?_
          refine x_c (r_call0 (args := [_]) ⟨rfl, rfl⟩ (one_tr b _) (by repeat (first | exact Gets.done _ | exact Gets.all _ | (apply Gets.step; focus ((repeat (first | exact Pick.head _ _ | apply Pick.tail)); done)) | apply Gets.drop))) rfl ?_
          rintro _ _ ⟨rfl, rfl⟩
          unfold tp
          refine x_v (r_fa fo83_1 rfl) rfl ?_
          refine x_e (r_st ty3 rfl rfl rfl rfl rfl (by repeat (first | exact Upd.head _ _ _ | apply Upd.tail)) (by repeat (first | exact Over.nil _ | apply Over.put | apply Over.skip))) ?_
          refine x_v (r_fa fo83_3 rfl) rfl ?_
          refine x_e (r_st ty3 rfl rfl rfl rfl rfl (by repeat (first | exact Upd.head _ _ _ | apply Upd.tail)) (by repeat (first | exact Over.nil _ | apply Over.put | apply Over.skip))) ?_
          refine XL.nil ?_
          refine hK3 _ _ ?_
          refine XC.keep [(5, _)] ⟨rfl, trivial⟩ ?_
          refine XC.seq fun K16 hK16 => ?_
          refine XC.region ?_
          refine x_v (r_lda (l' := [_, _, _, _, _, _, _, _, _, _, _, _]) ty83 rfl (by repeat (first | exact Pick.head _ _ | apply Pick.tail)) rfl (Sub.get (by repeat (first | exact Sub.nil _ | apply Sub.take | apply Sub.skip)))) rfl ?_
          refine x_a (r_bs (vs := [_]) rfl ⟨rfl, rfl⟩ (bs56_1_0 _ _ _ _ _ _ _ _ _ _ _ _ _ _)) rfl fun b123 => ?_
          refine XL.shut_ (n := 1) (c := 1) (sz := 12) (by repeat (first | exact Pick.head _ _ | apply Pick.tail)) (Nat.le_refl _) (by decide) rfl rfl ?_
          refine x_v (r_as rfl) rfl ?_
          refine XL.nil ?_
          refine hK16 _ _ ?_
          refine XC.keep [(4, _)] ⟨rfl, trivial⟩ ?_
          refine XC.ret ?_
          obtain rfl : kind = 5 := by omega
          exact fin1 rfl (ActP.mk [⟨((5 : Nat) : Int), oneV t, 0, oneV (oneS t), none, 0, 0, [], zq⟩] (sl none 0 0 3 1 []) (oneS (oneS t)) (by unfold actT; simp) rfl rfl (hz _ _ rfl rfl rfl) (by simp) (by unfold actT; simp [Ac.v])) (by repeat (first | exact Gets.done _ | exact Gets.all _ | (apply Gets.step; focus ((repeat (first | exact Pick.head _ _ | apply Pick.tail)); done)) | apply Gets.drop))
        · refine XC.seqcut (σ := Bool) (fun p => [(0, .pointer (some ⟨b, 0, none⟩)), (5, .pointer (some ⟨b5, 0, none⟩)), (12, .int .i64 (kind : Int)), (60, .bool p)]) (fun p => sl none 0 0 3 1 [] :: blk b5 83 [.int .i64 (kind : Int), .int .i64 0, .int .i64 0, .int .i64 0, .slice none 0 0, .int .i64 0, .int .i64 0, .int .i64 0, .string ⟨#[]⟩, .string ⟨#[]⟩, .int .i64 0, .int .i64 0] :: blk b 86 [str t.1, .bool t.2] :: Fr) (fun p => p = true ↔ (kind = 6 ∨ kind = 7)) ?_ ?_
          · refine XC.seq fun K18 hK18 => ?_
            refine XC.region ?_
            refine x_v (r_eq rfl rfl) rfl ?_
            refine x_v (r_as rfl) rfl ?_
            refine XL.nil ?_
            refine hK18 _ _ ?_
            refine XC.keep [(0, _), (5, _), (12, _), (60, _)] ⟨rfl, rfl, rfl, rfl, trivial⟩ ?_
            refine XC.cond_d rfl (fun hc7 => ?_) (fun hc7 => ?_)
            · refine XC.skip ?_
              exact ⟨_, by simp only [decide_eq_true_eq]; omega, ⟨rfl, rfl, rfl, rfl, trivial⟩, (by repeat (first | exact Gets.done _ | exact Gets.all _ | (apply Gets.step; focus ((repeat (first | exact Pick.head _ _ | apply Pick.tail)); done)) | apply Gets.drop))⟩
            · refine XC.region ?_
              refine x_v (r_eq rfl rfl) rfl ?_
              refine x_v (r_as rfl) rfl ?_
              refine XL.nil ?_
              exact ⟨_, by simp only [decide_eq_true_eq]; omega, ⟨rfl, rfl, rfl, rfl, trivial⟩, (by repeat (first | exact Gets.done _ | exact Gets.all _ | (apply Gets.step; focus ((repeat (first | exact Pick.head _ _ | apply Pick.tail)); done)) | apply Gets.drop))⟩
          · rintro p hp
            refine XC.cond rfl (fun hc8 => ?_) (fun hc8 => ?_)
            · have hkk := hp.1 hc8
              refine XC.seq fun K19 hK19 => ?_
              refine XC.region ?_
              refine x_v (r_mv rfl) rfl ?_
              refine x_c (r_call0 (args := [_]) ⟨rfl, rfl⟩ (one_tr b t) (by repeat (first | exact Gets.done _ | exact Gets.all _ | (apply Gets.step; focus ((repeat (first | exact Pick.head _ _ | apply Pick.tail)); done)) | apply Gets.drop))) rfl ?_
              rintro _ _ ⟨rfl, rfl⟩
              unfold tp
              refine x_v (r_fa fo83_1 rfl) rfl ?_
              refine x_e (r_st ty3 rfl rfl rfl rfl rfl (by repeat (first | exact Upd.head _ _ _ | apply Upd.tail)) (by repeat (first | exact Over.nil _ | apply Over.put | apply Over.skip))) ?_
              refine XL.nil ?_
              refine hK19 _ _ ?_
              refine XC.keep [(0, _), (5, _)] ⟨rfl, rfl, trivial⟩ ?_
              refine XC.seq fun K20 hK20 => ?_
              refine XC.region ?_
              refine x_v (r_mv rfl) rfl ?_
              refine x_v (r_mv rfl) rfl ?_
              refine x_c (r_call0 (args := [_]) ⟨rfl, rfl⟩ (one_tr b _) (by repeat (first | exact Gets.done _ | exact Gets.all _ | (apply Gets.step; focus ((repeat (first | exact Pick.head _ _ | apply Pick.tail)); done)) | apply Gets.drop))) rfl ?_
              rintro _ _ ⟨rfl, rfl⟩
              unfold tp
              refine x_v (r_rem rfl rfl (by omega)) rfl ?_
              rw [show ((oneV (oneS t) : Nat) : Int) % 8 = ((oneV (oneS t) % 8 : Nat) : Int) by omega]
              refine x_c (r_call0 (args := [_, _]) ⟨rfl, rfl, rfl⟩ (text_tr b _ (oneV (oneS t) % 8)) (by repeat (first | exact Gets.done _ | exact Gets.all _ | (apply Gets.step; focus ((repeat (first | exact Pick.head _ _ | apply Pick.tail)); done)) | apply Gets.drop))) rfl ?_
              rintro _ _ ⟨rfl, rfl⟩
              unfold tp
              have hxl := textV_le (oneS (oneS t)) (oneV (oneS t) % 8)
              obtain ⟨tx, htx⟩ : ∃ tx, tx = textV (oneS (oneS t)) (oneV (oneS t) % 8) := ⟨_, rfl⟩
              rw [← htx] at hxl ⊢
              refine x_a (r_bytes Try.underlying9 Try.underlying92 Try.underlying5 rfl) rfl fun ⟨q71, m71⟩ => ?_
              dsimp only
              refine x_v (r_lensl Try.underlying92 rfl) rfl ?_
              refine x_v (r_mv rfl) rfl ?_
              refine XL.nil ?_
              refine hK20 _ _ ?_
              refine XC.keep [(5, _), (71, _), (72, _), (73, _)] ⟨rfl, rfl, rfl, rfl, trivial⟩ ?_
              refine XC.block ?_
              refine XC.loop (σ := Nat × Option Addr × Nat) (fun s2 => [(5, .pointer (some ⟨b5, 0, none⟩)), (71, .slice (some ⟨q71, 0, none⟩) tx.length m71), (72, .int .i64 (tx.length : Int)), (73, .int .i64 (s2.1 : Int))]) (fun s2 => sl s2.2.1 s2.1 s2.2.2 3 1 (iv (kz (tx.take s2.1))) :: blk b5 83 [.int .i64 (kind : Int), .int .i64 (oneV t : Int), .int .i64 0, .int .i64 0, .slice s2.2.1 s2.1 s2.2.2, .int .i64 0, .int .i64 0, .int .i64 0, .string ⟨#[]⟩, .string ⟨#[]⟩, .int .i64 0, .int .i64 0] :: rob q71 5 (bv tx ++ List.replicate (m71 - tx.length) (.int .u8 0)) :: blk b 86 [str (textS (oneS (oneS t)) (oneV (oneS t) % 8)).1, .bool (textS (oneS (oneS t)) (oneV (oneS t) % 8)).2] :: Fr) (fun s2 => s2.1 ≤ tx.length) (fun s2 => tx.length - s2.1) (0, none, 0) ?_ ⟨rfl, rfl, rfl, rfl, trivial⟩ (by repeat (first | exact Gets.done _ | exact Gets.all _ | (apply Gets.step; focus ((repeat (first | exact Pick.head _ _ | apply Pick.tail)); done)) | apply Gets.drop)) ?_
              · exact Nat.zero_le _
              rintro ⟨i, A, c⟩ hi
              dsimp only at hi ⊢
              refine XC.seq fun K21 hK21 => ?_
              refine XC.region ?_
              refine x_v (r_lt rfl rfl) rfl ?_
              refine XL.nil ?_
              refine hK21 _ _ ?_
              refine XC.keep [(5, _), (71, _), (72, _), (73, _), (74, _)] ⟨rfl, rfl, rfl, rfl, rfl, trivial⟩ ?_
              refine XC.seq fun K22 hK22 => ?_
              refine XC.cond_d rfl (fun hc9 => ?_) (fun hc9 => ?_)
              · refine XC.skip ?_
                refine hK22 _ _ ?_
                refine XC.keep [(5, _), (71, _), (72, _), (73, _)] ⟨rfl, rfl, rfl, rfl, trivial⟩ ?_
                refine XC.seq fun K23 hK23 => ?_
                refine XC.block ?_
                refine XC.seq fun K24 hK24 => ?_
                refine XC.region ?_
                obtain ⟨ch, ho⟩ : ∃ ch, tx[i]? = some ch := ⟨_, List.getElem?_eq_getElem (by omega)⟩
                have hch := UInt8.toNat_lt ch
                refine x_v (r_ia (k := i) Try.underlying92 ty5 rfl rfl (by omega) (by omega)) rfl ?_
                refine x_v (r_ldr ty5 rfl (fun w hw => rob_at i ch ho w (Gets.own (by repeat (first | exact Gets.done _ | exact Gets.all _ | (apply Gets.step; focus ((repeat (first | exact Pick.head _ _ | apply Pick.tail)); done)) | apply Gets.drop)) hw))) rfl ?_
                refine x_v (r_as rfl) rfl ?_
                refine XL.nil ?_
                refine hK24 _ _ ?_
                refine XC.keep [(5, _), (7, _), (71, _), (72, _), (73, _)] ⟨rfl, rfl, rfl, rfl, rfl, trivial⟩ ?_
                refine XC.region ?_
                refine x_v (r_fa fo83_4 rfl) rfl ?_
                refine x_v (r_ld ty40 rfl (by repeat (first | exact Pick.head _ _ | apply Pick.tail)) (by rfl)) rfl ?_
                refine x_v (r_mv rfl) rfl ?_
                refine x_v (r_cvn Try.underlying5 Try.underlying3 rfl (by rw [IntKind.wrap_i64]; omega)) rfl ?_
                refine x_a (r_bs (vs := [_]) rfl ⟨rfl, rfl⟩ (bs40_1_0 _)) rfl fun b81 => ?_
                refine x_a (r_app Try.underlying40 ty3 rfl (by decide) rfl rfl (by repeat (first | exact Pick.head _ _ | apply Pick.tail)) (Rdb.of_blk (b := b81) (n := 1) (sz := 1) (xs := [.int .i64 (ch.toNat : Int)]) (by repeat (first | exact Pick.head _ _ | apply Pick.tail)) 0 rfl (fun _ _ h => by rw [Nat.zero_add]; exact h)) rfl (by unfold maxLen; omega) (by omega)) rfl fun ⟨A82, c82⟩ => ?_
                dsimp only
                rw [show iv (kz (tx.take i)) ++ [.int .i64 (ch.toNat : Int)] = iv (kz (tx.take (i + 1))) by rw [tk_snoc ho]; simp [kz, iv]]
                refine x_v (r_fa fo83_4 rfl) rfl ?_
                refine x_e (r_st ty40 rfl rfl rfl rfl rfl (by repeat (first | exact Upd.head _ _ _ | apply Upd.tail)) (by repeat (first | exact Over.nil _ | apply Over.put | apply Over.skip))) ?_
                refine XL.nil ?_
                refine hK23 _ _ ?_
                refine XC.keep [(5, _), (71, _), (72, _), (73, _)] ⟨rfl, rfl, rfl, rfl, trivial⟩ ?_
                refine XC.region ?_
                refine x_v (r_add rfl rfl (by omega)) rfl ?_
                refine x_v (r_mv rfl) rfl ?_
                refine XL.nil ?_
                refine ⟨(i + 1, A82, c82), ?_, ?_, ⟨rfl, rfl, rfl, rfl, trivial⟩, (by repeat (first | exact Gets.done _ | exact Gets.all _ | (apply Gets.step; focus ((repeat (first | exact Pick.head _ _ | apply Pick.tail)); done)) | apply Gets.drop))⟩
                · dsimp only; omega
                · dsimp only; omega
              · obtain rfl : i = tx.length := by omega
                rw [List.take_length]
                refine XC.slnn (A := A) (by repeat (first | exact Pick.head _ _ | apply Pick.tail)) fun hkl hkA => ?_
                refine XC.exit rfl ?_
                refine hK3 _ _ ?_
                refine XC.keep [(5, _)] ⟨rfl, trivial⟩ ?_
                refine XC.seq fun K25 hK25 => ?_
                refine XC.region ?_
                refine x_v (r_lda (l' := [_, _, _, _, _, _, _, _, _, _, _, _]) ty83 rfl (by repeat (first | exact Pick.head _ _ | apply Pick.tail)) rfl (Sub.get (by repeat (first | exact Sub.nil _ | apply Sub.take | apply Sub.skip)))) rfl ?_
                refine x_a (r_bs (vs := [_]) rfl ⟨rfl, rfl⟩ (bs56_1_0 _ _ _ _ _ _ _ _ _ _ _ _ _ _)) rfl fun b123 => ?_
                refine XL.shut_ (n := 1) (c := 1) (sz := 12) (by repeat (first | exact Pick.head _ _ | apply Pick.tail)) (Nat.le_refl _) (by decide) rfl rfl ?_
                refine x_v (r_as rfl) rfl ?_
                refine XL.nil ?_
                refine hK25 _ _ ?_
                refine XC.keep [(4, _)] ⟨rfl, trivial⟩ ?_
                refine XC.ret ?_
                have k1 : ¬ kind = 1 := by omega
                have k5 : ¬ kind = 5 := by omega
                have k12 : ¬ kind = 12 := by omega
                exact fin1 rfl (ActP.mk [⟨(kind : Int), oneV t, 0, 0, A, tx.length, c, kz tx, zq⟩] (sl A tx.length c 3 1 (iv (kz tx))) (textS (oneS (oneS t)) (oneV (oneS t) % 8)) (by unfold actT; simp [k1, k12, k5, hnk, hkk, htx]) rfl rfl (by simp only [List.mem_singleton, forall_eq]; exact ⟨Rdb.of_sl (.head _ _) hkl hkA, by omega⟩) (by simp) (by unfold actT; simp [Ac.v, k1, k12, k5, hnk, hkk, htx])) (by repeat (first | exact Gets.done _ | exact Gets.all _ | (apply Gets.step; focus ((repeat (first | exact Pick.head _ _ | apply Pick.tail)); done)) | apply Gets.drop))
            · have hnk2 : ¬ (kind = 6 ∨ kind = 7) := fun h => Bool.noConfusion (hc8.symm.trans (hp.2 h))
              refine XC.seq fun K26 hK26 => ?_
              refine XC.region ?_
              refine x_v (r_eq rfl rfl) rfl ?_
              refine x_v (r_as rfl) rfl ?_
              refine XL.nil ?_
              refine hK26 _ _ ?_
              refine XC.keep [(0, _), (5, _), (12, _), (85, _)] ⟨rfl, rfl, rfl, rfl, trivial⟩ ?_
              refine XC.cond_d rfl (fun hc10 => ?_) (fun hc10 => ?_)
              · refine XC.region ?_
                refine x_v (r_mv rfl) rfl ?_
                refine x_c (r_call0 (args := [_]) ⟨rfl, rfl⟩ (one_tr b t) (by repeat (first | exact Gets.done _ | exact Gets.all _ | (apply Gets.step; focus ((repeat (first | exact Pick.head _ _ | apply Pick.tail)); done)) | apply Gets.drop))) rfl ?_
                rintro _ _ ⟨rfl, rfl⟩
                unfold tp
                refine x_v (r_mv rfl) rfl ?_
                refine x_c (r_call0 (args := [_]) ⟨rfl, rfl⟩ (one_tr b _) (by repeat (first | exact Gets.done _ | exact Gets.all _ | (apply Gets.step; focus ((repeat (first | exact Pick.head _ _ | apply Pick.tail)); done)) | apply Gets.drop))) rfl ?_
                rintro _ _ ⟨rfl, rfl⟩
                unfold tp
                refine x_v (r_fa fo83_1 rfl) rfl ?_
                refine x_e (r_st ty3 rfl rfl rfl rfl rfl (by repeat (first | exact Upd.head _ _ _ | apply Upd.tail)) (by repeat (first | exact Over.nil _ | apply Over.put | apply Over.skip))) ?_
                refine x_v (r_fa fo83_2 rfl) rfl ?_
                refine x_e (r_st ty3 rfl rfl rfl rfl rfl (by repeat (first | exact Upd.head _ _ _ | apply Upd.tail)) (by repeat (first | exact Over.nil _ | apply Over.put | apply Over.skip))) ?_
                refine XL.nil ?_
                refine hK3 _ _ ?_
                refine XC.keep [(5, _)] ⟨rfl, trivial⟩ ?_
                refine XC.seq fun K27 hK27 => ?_
                refine XC.region ?_
                refine x_v (r_lda (l' := [_, _, _, _, _, _, _, _, _, _, _, _]) ty83 rfl (by repeat (first | exact Pick.head _ _ | apply Pick.tail)) rfl (Sub.get (by repeat (first | exact Sub.nil _ | apply Sub.take | apply Sub.skip)))) rfl ?_
                refine x_a (r_bs (vs := [_]) rfl ⟨rfl, rfl⟩ (bs56_1_0 _ _ _ _ _ _ _ _ _ _ _ _ _ _)) rfl fun b123 => ?_
                refine XL.shut_ (n := 1) (c := 1) (sz := 12) (by repeat (first | exact Pick.head _ _ | apply Pick.tail)) (Nat.le_refl _) (by decide) rfl rfl ?_
                refine x_v (r_as rfl) rfl ?_
                refine XL.nil ?_
                refine hK27 _ _ ?_
                refine XC.keep [(4, _)] ⟨rfl, trivial⟩ ?_
                refine XC.ret ?_
                obtain rfl : kind = 8 := by omega
                exact fin1 rfl (ActP.mk [⟨((8 : Nat) : Int), oneV t, oneV (oneS t), 0, none, 0, 0, [], zq⟩] (sl none 0 0 3 1 []) (oneS (oneS t)) (by unfold actT; simp) rfl rfl (hz _ _ rfl rfl rfl) (by simp) (by unfold actT; simp [Ac.v])) (by repeat (first | exact Gets.done _ | exact Gets.all _ | (apply Gets.step; focus ((repeat (first | exact Pick.head _ _ | apply Pick.tail)); done)) | apply Gets.drop))
              · refine XC.seq fun K28 hK28 => ?_
                refine XC.region ?_
                refine x_v (r_eq rfl rfl) rfl ?_
                refine x_v (r_as rfl) rfl ?_
                refine XL.nil ?_
                refine hK28 _ _ ?_
                refine XC.keep [(0, _), (5, _), (12, _), (93, _)] ⟨rfl, rfl, rfl, rfl, trivial⟩ ?_
                refine XC.cond_d rfl (fun hc11 => ?_) (fun hc11 => ?_)
                · refine XC.region ?_
                  refine x_v (r_mv rfl) rfl ?_
                  refine x_c (r_call0 (args := [_]) ⟨rfl, rfl⟩ (one_tr b t) (by repeat (first | exact Gets.done _ | exact Gets.all _ | (apply Gets.step; focus ((repeat (first | exact Pick.head _ _ | apply Pick.tail)); done)) | apply Gets.drop))) rfl ?_
                  rintro _ _ ⟨rfl, rfl⟩
                  unfold tp
                  refine x_v (r_mv rfl) rfl ?_
                  refine x_c (r_call0 (args := [_]) ⟨rfl, rfl⟩ (one_tr b _) (by repeat (first | exact Gets.done _ | exact Gets.all _ | (apply Gets.step; focus ((repeat (first | exact Pick.head _ _ | apply Pick.tail)); done)) | apply Gets.drop))) rfl ?_
                  rintro _ _ ⟨rfl, rfl⟩
                  unfold tp
                  refine x_v (r_mv rfl) rfl ?_
                  refine x_c (r_call0 (args := [_]) ⟨rfl, rfl⟩ (pair_tr b _) (by repeat (first | exact Gets.done _ | exact Gets.all _ | (apply Gets.step; focus ((repeat (first | exact Pick.head _ _ | apply Pick.tail)); done)) | apply Gets.drop))) rfl ?_
                  rintro _ _ ⟨rfl, rfl⟩
                  unfold tp
                  refine x_v (r_fa fo83_1 rfl) rfl ?_
                  refine x_e (r_st ty3 rfl rfl rfl rfl rfl (by repeat (first | exact Upd.head _ _ _ | apply Upd.tail)) (by repeat (first | exact Over.nil _ | apply Over.put | apply Over.skip))) ?_
                  refine x_v (r_fa fo83_2 rfl) rfl ?_
                  refine x_e (r_st ty3 rfl rfl rfl rfl rfl (by repeat (first | exact Upd.head _ _ _ | apply Upd.tail)) (by repeat (first | exact Over.nil _ | apply Over.put | apply Over.skip))) ?_
                  refine x_v (r_fa fo83_3 rfl) rfl ?_
                  refine x_e (r_st ty3 rfl rfl rfl rfl rfl (by repeat (first | exact Upd.head _ _ _ | apply Upd.tail)) (by repeat (first | exact Over.nil _ | apply Over.put | apply Over.skip))) ?_
                  refine XL.nil ?_
                  refine hK3 _ _ ?_
                  refine XC.keep [(5, _)] ⟨rfl, trivial⟩ ?_
                  refine XC.seq fun K29 hK29 => ?_
                  refine XC.region ?_
                  refine x_v (r_lda (l' := [_, _, _, _, _, _, _, _, _, _, _, _]) ty83 rfl (by repeat (first | exact Pick.head _ _ | apply Pick.tail)) rfl (Sub.get (by repeat (first | exact Sub.nil _ | apply Sub.take | apply Sub.skip)))) rfl ?_
                  refine x_a (r_bs (vs := [_]) rfl ⟨rfl, rfl⟩ (bs56_1_0 _ _ _ _ _ _ _ _ _ _ _ _ _ _)) rfl fun b123 => ?_
                  refine XL.shut_ (n := 1) (c := 1) (sz := 12) (by repeat (first | exact Pick.head _ _ | apply Pick.tail)) (Nat.le_refl _) (by decide) rfl rfl ?_
                  refine x_v (r_as rfl) rfl ?_
                  refine XL.nil ?_
                  refine hK29 _ _ ?_
                  refine XC.keep [(4, _)] ⟨rfl, trivial⟩ ?_
                  refine XC.ret ?_
                  obtain rfl : kind = 10 := by omega
                  exact fin1 rfl (ActP.mk [⟨((10 : Nat) : Int), oneV t, oneV (oneS t), pairV (oneS (oneS t)), none, 0, 0, [], zq⟩] (sl none 0 0 3 1 []) (pairS (oneS (oneS t))) (by unfold actT; simp) rfl rfl (hz _ _ rfl rfl rfl) (by simp) (by unfold actT; simp [Ac.v])) (by repeat (first | exact Gets.done _ | exact Gets.all _ | (apply Gets.step; focus ((repeat (first | exact Pick.head _ _ | apply Pick.tail)); done)) | apply Gets.drop))
                · refine XC.seq fun K30 hK30 => ?_
                  refine XC.region ?_
                  refine x_v (r_eq rfl rfl) rfl ?_
                  refine x_v (r_as rfl) rfl ?_
                  refine XL.nil ?_
                  refine hK30 _ _ ?_
                  refine XC.keep [(0, _), (12, _), (104, _)] ⟨rfl, rfl, rfl, trivial⟩ ?_
                  refine XC.cond_d rfl (fun hc12 => ?_) (fun hc12 => ?_)
                  · refine XC.seq fun K31 hK31 => ?_
                    refine XC.nil_ 83 12 ?_
                    refine XC.region ?_
                    refine x_v (r_as rfl) rfl ?_
                    refine XL.nil ?_
                    refine hK31 _ _ ?_
                    refine XC.keep [(8, _)] ⟨rfl, trivial⟩ ?_
                    refine XC.seq fun K32 hK32 => ?_
                    refine XC.seq fun K33 hK33 => ?_
                    refine XC.region ?_
                    refine x_v (r_mv rfl) rfl ?_
                    refine XL.nil ?_
                    refine hK33 _ _ ?_
                    refine XC.keep [(8, _), (106, _)] ⟨rfl, rfl, trivial⟩ ?_
                    refine XC.block ?_
                    refine XC.loop (σ := Nat × List Ac × Option Addr × Nat) (fun s2 => [(8, .slice s2.2.2.1 s2.2.1.length s2.2.2.2), (106, .int .i64 (s2.1 : Int))]) (fun s2 => sl s2.2.2.1 s2.2.1.length s2.2.2.2 83 12 (cells ac s2.2.1) :: blk b 86 [str t.1, .bool t.2] :: sl none 0 0 3 1 [] :: Fr) (fun s2 => s2.1 ≤ 6 ∧ s2.2.1 = (List.range s2.1).map tk) (fun s2 => 6 - s2.1) (0, [], none, 0) ?_ ⟨rfl, rfl, trivial⟩ (by repeat (first | exact Gets.done _ | exact Gets.all _ | (apply Gets.step; focus ((repeat (first | exact Pick.head _ _ | apply Pick.tail)); done)) | apply Gets.drop)) ?_
                    · exact ⟨Nat.zero_le _, by simp⟩
                    rintro ⟨i, N, A2, c2⟩ ⟨hi6, hN⟩
                    dsimp only at hi6 hN ⊢
                    have hNl : N.length = i := by rw [hN]; simp
                    refine XC.seq fun K34 hK34 => ?_
                    refine XC.region ?_
                    refine x_v (r_lt rfl rfl) rfl ?_
                    refine XL.nil ?_
                    refine hK34 _ _ ?_
                    refine XC.keep [(8, _), (106, _), (107, _)] ⟨rfl, rfl, rfl, trivial⟩ ?_
                    refine XC.seq fun K35 hK35 => ?_
                    refine XC.cond_d rfl (fun hc13 => ?_) (fun hc13 => ?_)
                    · refine XC.skip ?_
                      refine hK35 _ _ ?_
                      refine XC.keep [(8, _), (106, _)] ⟨rfl, rfl, trivial⟩ ?_
                      refine XC.seq fun K36 hK36 => ?_
                      refine XC.block ?_
                      refine XC.seq fun K37 hK37 => ?_
                      refine XC.region ?_
                      refine x_v (r_mv rfl) rfl ?_
                      refine x_v (r_as rfl) rfl ?_
                      refine XL.nil ?_
                      refine hK37 _ _ ?_
                      refine XC.keep [(8, _), (9, _), (106, _)] ⟨rfl, rfl, rfl, trivial⟩ ?_
                      refine XC.region ?_
                      refine x_v (r_mv rfl) rfl ?_
                      refine x_v (r_mv rfl) rfl ?_
                      refine x_v (r_mv rfl) rfl ?_
                      refine x_v (r_bd (vs := [_, _, _]) rfl ⟨rfl, rfl, rfl, rfl⟩ (bd83_0_1_3 _ _ _)) rfl ?_
                      refine x_a (r_bs (vs := [_]) rfl ⟨rfl, rfl⟩ (bs56_1_0 _ _ _ _ _ _ _ _ _ _ _ _ _ _)) rfl fun b113 => ?_
                      refine x_a (r_app Try.underlying56 ty83 rfl (by decide) rfl rfl (by repeat (first | exact Pick.head _ _ | apply Pick.tail)) (Rdb.of_blk (b := b113) (n := 1) (sz := 12) (xs := ac (tk i)) (by repeat (first | exact Pick.head _ _ | apply Pick.tail)) 0 rfl (fun _ _ h => by rw [Nat.zero_add]; exact h)) (ac_one _) (by unfold maxLen; omega) (by omega)) rfl fun ⟨A114, c114⟩ => ?_
                      dsimp only
                      rw [show N.length + 1 = (N ++ [tk i]).length by simp, ← cells_one ac (tk i), ← cells_app]
                      refine x_v (r_as rfl) rfl ?_
                      refine XL.nil ?_
                      refine hK36 _ _ ?_
                      refine XC.keep [(8, _), (106, _)] ⟨rfl, rfl, trivial⟩ ?_
                      refine XC.region ?_
                      refine x_v (r_add rfl rfl (by omega)) rfl ?_
                      refine x_v (r_mv rfl) rfl ?_
                      refine XL.nil ?_
                      refine ⟨(i + 1, N ++ [tk i], A114, c114), ?_, ?_, ⟨rfl, rfl, trivial⟩, (by repeat (first | exact Gets.done _ | exact Gets.all _ | (apply Gets.step; focus ((repeat (first | exact Pick.head _ _ | apply Pick.tail)); done)) | apply Gets.drop))⟩
                      · exact ⟨by dsimp only; omega, by dsimp only; rw [hN, List.range_succ, List.map_append]; rfl⟩
                      · dsimp only; omega
                    · refine XC.exit rfl ?_
                      refine hK32 _ _ ?_
                      refine XC.keep [(8, _)] ⟨rfl, trivial⟩ ?_
                      refine XC.seq fun K38 hK38 => ?_
                      refine XC.region ?_
                      refine x_v (r_mv rfl) rfl ?_
                      refine x_v (r_as rfl) rfl ?_
                      refine XL.nil ?_
                      refine hK38 _ _ ?_
                      refine XC.keep [(4, _)] ⟨rfl, trivial⟩ ?_
                      refine XC.ret ?_
                      obtain rfl : kind = 11 := by omega
                      obtain rfl : i = 6 := by omega
                      exact fin1 rfl (ActP.mk N (sl none 0 0 3 1 []) t (by unfold actT; simp) rfl rfl (by rw [hN]; simp only [List.mem_map]; rintro x ⟨i, _, rfl⟩; exact ⟨Rdb.nil _ _ _, Nat.zero_le _⟩) (by omega) (by rw [hN]; unfold actT; simp [Ac.v, tk])) (by repeat (first | exact Gets.done _ | exact Gets.all _ | (apply Gets.step; focus ((repeat (first | exact Pick.head _ _ | apply Pick.tail)); done)) | apply Gets.drop))
                  · refine XC.seq fun K39 hK39 => ?_
                    refine XC.region ?_
                    refine x_v (r_eq rfl rfl) rfl ?_
                    refine x_v (r_as rfl) rfl ?_
                    refine XL.nil ?_
                    refine hK39 _ _ ?_
                    refine XC.keep [(0, _), (117, _)] ⟨rfl, rfl, trivial⟩ ?_
                    refine XC.cond_d rfl (fun hc14 => ?_) (fun hc14 => ?_)
                    · refine XC.seq fun K40 hK40 => ?_
                      refine XC.region ?_
                      refine x_v (r_mv rfl) rfl ?_
                      refine x_c (r_call0 (args := [_]) ⟨rfl, rfl⟩ (one_tr b t) (by repeat (first | exact Gets.done _ | exact Gets.all _ | (apply Gets.step; focus ((repeat (first | exact Pick.head _ _ | apply Pick.tail)); done)) | apply Gets.drop))) rfl ?_
                      rintro _ _ ⟨rfl, rfl⟩
                      unfold tp
                      have hov := oneV_lt t
                      refine x_a (r_mk Try.underlying56 ty83 rfl rfl rfl (by omega) (by omega)) rfl fun b121 => ?_
                      rw [made_za, show sl (some ⟨b121, 0, none⟩) (oneV t) (oneV t) 83 12 (cells ac (List.replicate (oneV t) za)) = sl (some ⟨b121, 0, none⟩) (List.replicate (oneV t) za).length (oneV t) 83 12 (cells ac (List.replicate (oneV t) za)) by rw [List.length_replicate]]
                      refine x_v (r_as rfl) rfl ?_
                      refine XL.nil ?_
                      refine hK40 _ _ ?_
                      refine XC.keep [(4, _)] ⟨rfl, trivial⟩ ?_
                      refine XC.ret ?_
                      obtain rfl : kind = 12 := by omega
                      exact fin1 rfl (ActP.mk (List.replicate (oneV t) za) (sl none 0 0 3 1 []) (oneS t) (by unfold actT; simp) (by rw [List.length_replicate]) rfl (fun x hx => by rw [List.eq_of_mem_replicate hx]; exact ⟨Rdb.nil _ _ _, Nat.zero_le _⟩) (by rw [List.length_replicate]; omega) (by simp)) (by repeat (first | exact Gets.done _ | exact Gets.all _ | (apply Gets.step; focus ((repeat (first | exact Pick.head _ _ | apply Pick.tail)); done)) | apply Gets.drop))
                    · refine XC.seq fun K41 hK41 => ?_
                      refine XC.nil_ 83 12 ?_
                      refine XC.region ?_
                      refine x_v (r_as rfl) rfl ?_
                      refine XL.nil ?_
                      refine hK41 _ _ ?_
                      refine XC.keep [(4, _)] ⟨rfl, trivial⟩ ?_
                      refine XC.ret ?_
                      have k1 : ¬ kind = 1 := by omega
                      have k5 : ¬ kind = 5 := by omega
                      have k8 : ¬ kind = 8 := by omega
                      have k10 : ¬ kind = 10 := by omega
                      have k11 : ¬ kind = 11 := by omega
                      have k12 : ¬ kind = 12 := by omega
                      exact fin1 rfl (ActP.mk [] (sl none 0 0 3 1 []) t (by unfold actT; simp [k1, k5, k8, k10, k11, k12, hnk, hnk2]) rfl rfl (by simp) (by simp) (by unfold actT; simp [k1, k5, k8, k10, k11, k12, hnk, hnk2])) (by repeat (first | exact Gets.done _ | exact Gets.all _ | (apply Gets.step; focus ((repeat (first | exact Pick.head _ _ | apply Pick.tail)); done)) | apply Gets.drop))
end Go.Proofs.Ytdppjmdjmbbclaa

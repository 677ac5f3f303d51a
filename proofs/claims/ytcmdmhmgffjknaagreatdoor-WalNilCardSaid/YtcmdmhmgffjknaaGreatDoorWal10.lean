/- Names that may be: functions 135, 134, 114. -/
import Derived.Laws.RangeString
import Derived.Laws.RangeAny
import Derived.Shelf.Strings.FuncGrows
import Derived.Test.YtcmdmhmgffjknaaGreatDoorWal8
namespace Go.Proofs.YtcmdmhmgffjknaaGreatDoor
open Go.Sx Go.RowKit
set_option linter.unusedVariables false

def oddN (c : Nat) : Bool := decide ((c < 97 ∨ 122 < c) ∧ (c < 48 ∨ 57 < c) ∧ c ≠ 46)
theorem odd_tr {W0 : World} (c : Nat) : Tr W0 Tryz.prog 135 [.int .i32 (c : Int)] [] (fun v Rs' => v = .bool (oddN c) ∧ Rs' = []) := by
  refine Entry.tr (N := 21) (rs := [.tmp 2]) ⟨_, Tryz.func135, rfl, by kernel_rfl, rfl, rfl⟩ rfl ?_
  refine XC.seq fun K1 hK1 => ?_
  refine XC.region ?_
  refine x_v (r_as rfl) rfl ?_
  refine XL.nil ?_
  refine hK1 _ _ ?_
  refine XC.keep [(0, _)] ⟨rfl, trivial⟩ ?_
  refine XC.seq fun K2 hK2 => ?_
  refine XC.region ?_
  refine x_v (r_mv rfl) rfl ?_
  refine x_v (r_lt rfl rfl) rfl ?_
  refine x_v (r_mv rfl) rfl ?_
  refine XL.splitd 5 rfl (fun hg5 => ?_) (fun hg5 => ?_)
  · refine x_unwant rfl rfl rfl rfl rfl ?_
    refine x_unwant rfl rfl rfl rfl rfl ?_
    refine x_v (r_pk_t rfl rfl) rfl ?_
    refine x_v (r_mv rfl) rfl ?_
    refine x_want rfl rfl rfl ?_
    refine x_v (r_mv rfl) rfl ?_
    refine x_want rfl rfl rfl ?_
    refine x_v (r_lt rfl rfl) rfl ?_
    refine x_want rfl rfl rfl ?_
    refine x_v (r_mv rfl) rfl ?_
    refine XL.splitd 12 rfl (fun hg12 => ?_) (fun hg12 => ?_)
    · refine x_unwant rfl rfl rfl rfl rfl ?_
      refine x_unwant rfl rfl rfl rfl rfl ?_
      refine x_want rfl rfl rfl ?_
      refine x_v (r_pk_t rfl rfl) rfl ?_
      refine x_v (r_pk_t rfl rfl) rfl ?_
      refine x_v (r_mv rfl) rfl ?_
      refine x_want rfl rfl rfl ?_
      refine x_v (r_mv rfl) rfl ?_
      refine x_want rfl rfl rfl ?_
      refine x_v (r_ne rfl rfl) rfl ?_
      refine x_v (r_pk_t rfl rfl) rfl ?_
      refine x_v (r_as rfl) rfl ?_
      refine XL.nil ?_
      refine hK2 _ _ ?_
      refine XC.keep [(2, _)] ⟨rfl, trivial⟩ ?_
      refine XC.ret ?_
      exact fin1 rfl (⟨congrArg Value.bool (by unfold oddN; first | (rw [decide_eq_decide]; omega) | (symm; rw [decide_eq_false_iff_not]; omega) | (symm; rw [decide_eq_true_iff]; omega)), rfl⟩) gS
    · refine x_want rfl rfl rfl ?_
      refine x_v (r_mv rfl) rfl ?_
      refine x_want rfl rfl rfl ?_
      refine x_v (r_gt rfl rfl) rfl ?_
      refine x_want rfl rfl rfl ?_
      refine x_v (r_pk_f rfl rfl) rfl ?_
      refine x_v (r_pk_t rfl rfl) rfl ?_
      refine x_v (r_mv rfl) rfl ?_
      refine XL.splitd 17 rfl (fun hg17 => ?_) (fun hg17 => ?_)
      · refine x_want rfl rfl rfl ?_
        refine x_v (r_mv rfl) rfl ?_
        refine x_want rfl rfl rfl ?_
        refine x_v (r_ne rfl rfl) rfl ?_
        refine x_v (r_pk_t rfl rfl) rfl ?_
        refine x_v (r_as rfl) rfl ?_
        refine XL.nil ?_
        refine hK2 _ _ ?_
        refine XC.keep [(2, _)] ⟨rfl, trivial⟩ ?_
        refine XC.ret ?_
        exact fin1 rfl (⟨congrArg Value.bool (by unfold oddN; first | (rw [decide_eq_decide]; omega) | (symm; rw [decide_eq_false_iff_not]; omega) | (symm; rw [decide_eq_true_iff]; omega)), rfl⟩) gS
      · refine x_unwant rfl rfl rfl rfl rfl ?_
        refine x_unwant rfl rfl rfl rfl rfl ?_
        refine x_v (r_pk_f rfl rfl) rfl ?_
        refine x_v (r_as rfl) rfl ?_
        refine XL.nil ?_
        refine hK2 _ _ ?_
        refine XC.keep [(2, _)] ⟨rfl, trivial⟩ ?_
        refine XC.ret ?_
        exact fin1 rfl (⟨congrArg Value.bool (by unfold oddN; first | (rw [decide_eq_decide]; omega) | (symm; rw [decide_eq_false_iff_not]; omega) | (symm; rw [decide_eq_true_iff]; omega)), rfl⟩) gS
  · refine x_want rfl rfl rfl ?_
    refine x_v (r_mv rfl) rfl ?_
    refine x_want rfl rfl rfl ?_
    refine x_v (r_gt rfl rfl) rfl ?_
    refine x_v (r_pk_f rfl rfl) rfl ?_
    refine x_v (r_mv rfl) rfl ?_
    refine XL.splitd 9 rfl (fun hg9 => ?_) (fun hg9 => ?_)
    · refine x_want rfl rfl rfl ?_
      refine x_v (r_mv rfl) rfl ?_
      refine x_want rfl rfl rfl ?_
      refine x_v (r_lt rfl rfl) rfl ?_
      refine x_want rfl rfl rfl ?_
      refine x_v (r_mv rfl) rfl ?_
      refine XL.splitd 12 rfl (fun hg12 => ?_) (fun hg12 => ?_)
      · refine x_unwant rfl rfl rfl rfl rfl ?_
        refine x_unwant rfl rfl rfl rfl rfl ?_
        refine x_want rfl rfl rfl ?_
        refine x_v (r_pk_t rfl rfl) rfl ?_
        refine x_v (r_pk_t rfl rfl) rfl ?_
        refine x_v (r_mv rfl) rfl ?_
        refine x_want rfl rfl rfl ?_
        refine x_v (r_mv rfl) rfl ?_
        refine x_want rfl rfl rfl ?_
        refine x_v (r_ne rfl rfl) rfl ?_
        refine x_v (r_pk_t rfl rfl) rfl ?_
        refine x_v (r_as rfl) rfl ?_
        refine XL.nil ?_
        refine hK2 _ _ ?_
        refine XC.keep [(2, _)] ⟨rfl, trivial⟩ ?_
        refine XC.ret ?_
        exact fin1 rfl (⟨congrArg Value.bool (by unfold oddN; first | (rw [decide_eq_decide]; omega) | (symm; rw [decide_eq_false_iff_not]; omega) | (symm; rw [decide_eq_true_iff]; omega)), rfl⟩) gS
      · refine x_want rfl rfl rfl ?_
        refine x_v (r_mv rfl) rfl ?_
        refine x_want rfl rfl rfl ?_
        refine x_v (r_gt rfl rfl) rfl ?_
        refine x_want rfl rfl rfl ?_
        refine x_v (r_pk_f rfl rfl) rfl ?_
        refine x_v (r_pk_t rfl rfl) rfl ?_
        refine x_v (r_mv rfl) rfl ?_
        refine XL.splitd 17 rfl (fun hg17 => ?_) (fun hg17 => ?_)
        · refine x_want rfl rfl rfl ?_
          refine x_v (r_mv rfl) rfl ?_
          refine x_want rfl rfl rfl ?_
          refine x_v (r_ne rfl rfl) rfl ?_
          refine x_v (r_pk_t rfl rfl) rfl ?_
          refine x_v (r_as rfl) rfl ?_
          refine XL.nil ?_
          refine hK2 _ _ ?_
          refine XC.keep [(2, _)] ⟨rfl, trivial⟩ ?_
          refine XC.ret ?_
          exact fin1 rfl (⟨congrArg Value.bool (by unfold oddN; first | (rw [decide_eq_decide]; omega) | (symm; rw [decide_eq_false_iff_not]; omega) | (symm; rw [decide_eq_true_iff]; omega)), rfl⟩) gS
        · refine x_unwant rfl rfl rfl rfl rfl ?_
          refine x_unwant rfl rfl rfl rfl rfl ?_
          refine x_v (r_pk_f rfl rfl) rfl ?_
          refine x_v (r_as rfl) rfl ?_
          refine XL.nil ?_
          refine hK2 _ _ ?_
          refine XC.keep [(2, _)] ⟨rfl, trivial⟩ ?_
          refine XC.ret ?_
          exact fin1 rfl (⟨congrArg Value.bool (by unfold oddN; first | (rw [decide_eq_decide]; omega) | (symm; rw [decide_eq_false_iff_not]; omega) | (symm; rw [decide_eq_true_iff]; omega)), rfl⟩) gS
    · refine x_unwant rfl rfl rfl rfl rfl ?_
      refine x_unwant rfl rfl rfl rfl rfl ?_
      refine x_unwant rfl rfl rfl rfl rfl ?_
      refine x_unwantu rfl rfl rfl rfl rfl ?_
      refine x_unwantu rfl rfl rfl rfl rfl ?_
      refine x_unwant rfl rfl rfl rfl rfl ?_
      refine x_v (r_pk_f rfl rfl) rfl ?_
      refine x_v (r_mv rfl) rfl ?_
      refine x_unwant rfl rfl rfl rfl rfl ?_
      refine x_unwant rfl rfl rfl rfl rfl ?_
      refine x_v (r_pk_f rfl rfl) rfl ?_
      refine x_v (r_as rfl) rfl ?_
      refine XL.nil ?_
      refine hK2 _ _ ?_
      refine XC.keep [(2, _)] ⟨rfl, trivial⟩ ?_
      refine XC.ret ?_
      exact fin1 rfl (⟨congrArg Value.bool (by unfold oddN; first | (rw [decide_eq_decide]; omega) | (symm; rw [decide_eq_false_iff_not]; omega) | (symm; rw [decide_eq_true_iff]; omega)), rfl⟩) gS
def fineB (s : List UInt8) : Bool := decide (s ≠ [] ∧ s.length ≤ 80 ∧ ∀ c ∈ s, oddN c.toNat = false)
theorem idx_fine (s : List UInt8) : ∀ (f pos : Nat), s.length ≤ pos + f → (Lib.idxFuncFrom oddN true ⟨s.toArray⟩ f pos < 0 ↔ ∀ c ∈ s.drop pos, oddN c.toNat = false)
  | 0, pos, h => by simp [Lib.idxFuncFrom, List.drop_of_length_le (show s.length ≤ pos by omega)]
  | f + 1, pos, h => by
    unfold Lib.idxFuncFrom
    have hsz : (⟨s.toArray⟩ : ByteArray).size = s.length := rfl
    by_cases hp : pos < s.length
    · rw [if_pos (by rw [hsz]; exact hp), List.drop_eq_getElem_cons hp, List.forall_mem_cons]
      have hp0 : ¬ ((pos : Int) < 0) := by omega
      have hg : ((⟨s.toArray⟩ : ByteArray)[pos]'(by rw [hsz]; exact hp)) = s[pos] := rfl
      by_cases ha : s[pos].toNat < 128
      · rw [decode_ascii _ pos (by rw [hsz]; exact hp) (by rw [hg]; exact ha), hg]
        dsimp only
        cases ho : oddN s[pos].toNat with
        | true => rw [if_pos rfl]; exact ⟨fun h => absurd h hp0, fun h => absurd h.1 (by decide)⟩
        | false => rw [if_neg (by decide), idx_fine s f (pos + 1) (by omega)]; exact ⟨fun h => ⟨rfl, h⟩, fun h => h.2⟩
      · have hd := decode_high (⟨s.toArray⟩ : ByteArray) pos (by rw [hsz]; exact hp) (by rw [hg]; omega)
        have ho : oddN (Utf8.decode ⟨s.toArray⟩ pos).1 = true := by unfold oddN; rw [decide_eq_true_iff]; omega
        have ho2 : oddN s[pos].toNat = true := by unfold oddN; rw [decide_eq_true_iff]; omega
        rw [ho, if_pos rfl, ho2]
        exact ⟨fun h => absurd h hp0, fun h => absurd h.1 (by decide)⟩
    · rw [if_neg (by rw [hsz]; exact hp), List.drop_of_length_le (by omega)]; simp
theorem idx_th : ∃ fn c, Tryz.prog.funcs[134]? = some fn ∧ (fn.name == "runtime.NumGoroutine") = false ∧ fn.body = some c := ⟨_, _, Tryz.func134, by kernel_rfl, rfl⟩
theorem idx_tr {W0 : World} (s : List UInt8) (Fr : List HP) : Tr W0 Tryz.prog 134 [str s, .func (.func 135) #[] #[]] Fr (fun v Rs' => (v = .int .i64 (Lib.idxFunc oddN true ⟨s.toArray⟩)) ∧ Rs' = Fr) := by
  refine (Tr.of_below (Q := fun v => v = .int .i64 (Lib.idxFunc oddN true ⟨s.toArray⟩)) idx_th fun w hw => ?_)
  refine (Tryz.strings_IndexFunc_grows 135 #[] (enters_of Tryz.func135 (by kernel_rfl) rfl) oddN ⟨s.toArray⟩ w ?_).mono fun e w' ⟨h1, h2⟩ => ⟨_, rfl, h1, h2⟩
  intro W x hx hb
  refine ((odd_tr x).calls W (Own.start W)).mono ?_
  rintro e w' ⟨v, Rs', ⟨rfl, rfl⟩, rfl, o⟩
  exact ⟨rfl, o.os, o.tape, o.output, o.size, o.old⟩
theorem fine_tr {W0 : World} (s : List UInt8) (Fr : List HP) : Tr W0 Tryz.prog 114 [str s] Fr (fun v Rs' => v = .bool (fineB s) ∧ Rs' = Fr) := by
  have hi : Lib.idxFunc oddN true ⟨s.toArray⟩ < 0 ↔ ∀ c ∈ s, oddN c.toNat = false := idx_fine s _ 0 (by rw [str_size]; omega)
  refine Entry.tr (N := 15) (rs := [.tmp 2]) ⟨_, Tryz.func114, rfl, by kernel_rfl, rfl, rfl⟩ rfl ?_
  refine XC.seq fun K1 hK1 => ?_
  refine XC.region ?_
  refine x_v (r_as rfl) rfl ?_
  refine XL.nil ?_
  refine hK1 _ _ ?_
  refine XC.keep [(0, _)] ⟨rfl, trivial⟩ ?_
  refine XC.seq fun K2 hK2 => ?_
  refine XC.region ?_
  refine x_v (r_mv rfl) rfl ?_
  refine x_v (r_sne rfl rfl) rfl ?_
  refine x_v (r_mv rfl) rfl ?_
  refine XL.splitd 5 rfl (fun hg5 => ?_) (fun hg5 => ?_)
  · refine x_want rfl rfl rfl ?_
    refine x_v (r_mv rfl) rfl ?_
    refine x_want rfl rfl rfl ?_
    refine x_v (r_lens Tryz.underlying9 rfl) rfl ?_
    refine x_want rfl rfl rfl ?_
    refine x_v (r_le rfl rfl) rfl ?_
    refine x_v (r_pk_t rfl rfl) rfl ?_
    refine x_v (r_mv rfl) rfl ?_
    refine XL.splitd 10 rfl (fun hg10 => ?_) (fun hg10 => ?_)
    · refine x_want rfl rfl rfl ?_
      refine x_v (r_mv rfl) rfl ?_
      refine x_want rfl rfl rfl ?_
      refine x_c (r_call0 (args := [_, _]) ⟨rfl, rfl, rfl⟩ (idx_tr s Fr) gS) rfl ?_
      rintro _ _ ⟨rfl, hRs⟩
      rw [hRs]
      refine x_want rfl rfl rfl ?_
      refine x_v (r_lt rfl rfl) rfl ?_
      refine x_v (r_pk_t rfl rfl) rfl ?_
      refine x_v (r_as rfl) rfl ?_
      refine XL.nil ?_
      refine hK2 _ _ ?_
      refine XC.keep [(2, _)] ⟨rfl, trivial⟩ ?_
      refine XC.ret ?_
      exact fin1 rfl (⟨congrArg Value.bool (by unfold fineB; first | (rw [decide_eq_decide, hi]; constructor; (intro h; exact ⟨by assumption, by omega, h⟩); (intro h; exact h.2.2)) | (symm; rw [decide_eq_false_iff_not]; rintro ⟨h1, h2, h3⟩; first | omega | exact absurd h1 (by assumption))), rfl⟩) gS
    · refine x_unwant rfl rfl rfl rfl rfl ?_
      refine x_unwant rfl rfl rfl rfl rfl ?_
      refine x_unwant rfl rfl rfl rfl rfl ?_
      refine x_v (r_pk_f rfl rfl) rfl ?_
      refine x_v (r_as rfl) rfl ?_
      refine XL.nil ?_
      refine hK2 _ _ ?_
      refine XC.keep [(2, _)] ⟨rfl, trivial⟩ ?_
      refine XC.ret ?_
      exact fin1 rfl (⟨congrArg Value.bool (by unfold fineB; first | (rw [decide_eq_decide, hi]; constructor; (intro h; exact ⟨by assumption, by omega, h⟩); (intro h; exact h.2.2)) | (symm; rw [decide_eq_false_iff_not]; rintro ⟨h1, h2, h3⟩; first | omega | exact absurd h1 (by assumption))), rfl⟩) gS
  · refine x_unwant rfl rfl rfl rfl rfl ?_
    refine x_unwant rfl rfl rfl rfl rfl ?_
    refine x_unwant rfl rfl rfl rfl rfl ?_
    refine x_v (r_pk_f rfl rfl) rfl ?_
    refine x_v (r_mv rfl) rfl ?_
    refine x_unwant rfl rfl rfl rfl rfl ?_
    refine x_unwant rfl rfl rfl rfl rfl ?_
    refine x_unwant rfl rfl rfl rfl rfl ?_
    refine x_v (r_pk_f rfl rfl) rfl ?_
    refine x_v (r_as rfl) rfl ?_
    refine XL.nil ?_
    refine hK2 _ _ ?_
    refine XC.keep [(2, _)] ⟨rfl, trivial⟩ ?_
    refine XC.ret ?_
    exact fin1 rfl (⟨congrArg Value.bool (by unfold fineB; first | (rw [decide_eq_decide, hi]; constructor; (intro h; exact ⟨by assumption, by omega, h⟩); (intro h; exact h.2.2)) | (symm; rw [decide_eq_false_iff_not]; rintro ⟨h1, h2, h3⟩; first | omega | exact absurd h1 (by assumption))), rfl⟩) gS
end Go.Proofs.YtcmdmhmgffjknaaGreatDoor

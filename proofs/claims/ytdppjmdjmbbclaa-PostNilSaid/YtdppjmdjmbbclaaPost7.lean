/- Letters: what the functions of package post and of the document's answer do to memory (7). -/
import Derived.Test.YtdppjmdjmbbclaaPost6
namespace Go.Proofs.Ytdppjmdjmbbclaa
open Go.Sx
set_option linter.unusedVariables false

/-- How it stands in the middle of DeleteFunc: of the first 'j' letters those that stay lie in front, those from 'j' on where they lay. -/
structure Mid (ns : List Int) (L : List Lt) (c j : Nat) (cur : List Value) : Prop where
  le : j ≤ L.length
  len : cur.length = c * 3
  lt : (stay ns (L.take j)).length < j
  front : cur.take ((stay ns (L.take j)).length * 3) = cells lc (stay ns (L.take j))
  back : (cur.drop (j * 3)).take ((L.length - j) * 3) = cells lc (L.drop j)

theorem Mid.get {ns : List Int} {L : List Lt} {c j : Nat} {cur : List Value} (h : Mid ns L c j cur) {l : Lt} (hl : L[j]? = some l) : ∀ q u, (lc l)[q]? = some u → cur[0 + j * 3 + q]? = some u := by
  intro q u hu
  have := elem_at lc_len h.back (k := 0) (x := l) (by simpa using hl) q u hu
  rw [List.getElem?_drop] at this
  rw [Nat.zero_add]; simpa using this
theorem Mid.skip {ns : List Int} {L : List Lt} {c j : Nat} {cur : List Value} (h : Mid ns L c j cur) {l : Lt} (hl : L[j]? = some l) (hh : Hit ns l) : Mid ns L c (j + 1) cur := by
  have hj : j < L.length := (List.getElem?_eq_some_iff.1 hl).1
  have e : stay ns (L.take (j + 1)) = stay ns (L.take j) := by rw [take_snoc hl, stay_snoc, if_pos hh]
  have hlt := h.lt
  refine ⟨by omega, h.len, by rw [e]; omega, by rw [e]; exact h.front, ?_⟩
  have hb := congrArg (List.drop 3) h.back
  rw [List.drop_take, List.drop_drop, show (3 : Nat) = 1 * 3 from rfl, cells_drop lc_len, List.drop_drop] at hb
  rw [show (j + 1) * 3 = j * 3 + 1 * 3 by omega, show (L.length - (j + 1)) * 3 = (L.length - j) * 3 - 1 * 3 by omega]
  exact hb
theorem Mid.put {ns : List Int} {L : List Lt} {c j : Nat} {cur : List Value} (h : Mid ns L c j cur) {l : Lt} (hl : L[j]? = some l) (hh : ¬ Hit ns l) (hc : L.length ≤ c) : Mid ns L c (j + 1) (over cur (0 + (stay ns (L.take j)).length * 3) (lc l)) := by
  have hj : j < L.length := (List.getElem?_eq_some_iff.1 hl).1
  have e : stay ns (L.take (j + 1)) = stay ns (L.take j) ++ [l] := by rw [take_snoc hl, stay_snoc, if_neg hh]
  have hlt := h.lt; have hlen := h.len
  have hr : 0 + (stay ns (L.take j)).length * 3 + (lc l).length ≤ cur.length := by rw [lc_len]; omega
  refine ⟨by omega, by rw [over_length hr]; exact h.len, by rw [e]; simp; omega, ?_, ?_⟩
  · rw [e, List.length_append, List.length_singleton, show ((stay ns (L.take j)).length + 1) * 3 = 0 + (stay ns (L.take j)).length * 3 + (lc l).length by rw [lc_len]; omega, over_take_eq hr, Nat.zero_add, h.front, cells_app, cells_one]
  · rw [over_drop hr (by rw [lc_len]; omega)]
    have hb := congrArg (List.drop 3) h.back
    rw [List.drop_take, List.drop_drop, show (3 : Nat) = 1 * 3 from rfl, cells_drop lc_len, List.drop_drop] at hb
    rw [show (j + 1) * 3 = j * 3 + 1 * 3 by omega, show (L.length - (j + 1)) * 3 = (L.length - j) * 3 - 1 * 3 by omega]
    exact hb

theorem deletefunc_tr {W0 : World} {Fr : List HP} (bc : Nat) (NA : Option Addr) (nn nc : Nat) (ns : List Int) (A : Option Addr) (c : Nat) (L : List Lt) (hr : Rdb W0 Fr NA nn 1 (iv ns)) (hn : nn ≤ 4611686018427387904) (hL : L.length ≤ 100000) :
    Tr W0 Try.prog 41 [.slice A L.length c, .func (.func 42) #[] #[.pointer (some ⟨bc, 0, none⟩)]] (sl A L.length c 29 3 (cells lc L) :: blk bc 40 [.slice NA nn nc] :: Fr)
      (fun v Rs' => v = .slice A (stay ns L).length c ∧ Rs' = sl A (stay ns L).length c 29 3 (cells lc (stay ns L)) :: blk bc 40 [.slice NA nn nc] :: Fr) := by
  refine Entry.tr (N := 42) (rs := [.tmp 4]) ⟨_, Try.func41, rfl, by kernel_rfl, rfl, rfl⟩ rfl ?_
  refine XC.seq fun K1 hK1 => ?_
  refine XC.sllen (by repeat (first | exact Pick.head _ _ | apply Pick.tail)) fun hl1 hl2 hl3 => ?_
  refine XC.region ?_
  refine x_v (r_as rfl) rfl ?_
  refine XL.nil ?_
  refine hK1 _ _ ?_
  refine XC.keep [(0, _), (1, _)] ⟨rfl, rfl, trivial⟩ ?_
  refine XC.seq fun K2 hK2 => ?_
  refine XC.region ?_
  refine x_v (r_mv rfl) rfl ?_
  refine x_v (r_mv rfl) rfl ?_
  refine x_c (r_call0 (args := [_, _]) ⟨rfl, rfl, rfl⟩ (indexfunc_tr bc NA nn nc ns A c L hr hn hL) (by repeat (first | exact Gets.done _ | exact Gets.all _ | (apply Gets.step; focus ((repeat (first | exact Pick.head _ _ | apply Pick.tail)); done)) | apply Gets.drop))) rfl ?_
  rintro _ _ ⟨⟨r, rfl, hx⟩, rfl⟩
  refine x_v (r_as rfl) rfl ?_
  refine XL.nil ?_
  refine hK2 _ _ ?_
  refine XC.keep [(0, _), (1, _), (5, _)] ⟨rfl, rfl, rfl, trivial⟩ ?_
  refine XC.seq fun K3 hK3 => ?_
  refine XC.seq fun K4 hK4 => ?_
  refine XC.region ?_
  refine x_v (r_mv rfl) rfl ?_
  refine x_v (r_eq rfl rfl) rfl ?_
  refine XL.nil ?_
  refine hK4 _ _ ?_
  refine XC.keep [(0, _), (1, _), (5, _), (12, _)] ⟨rfl, rfl, rfl, rfl, trivial⟩ ?_
  refine XC.cond_d rfl (fun hc1 => ?_) (fun hc1 => ?_)
  · refine XC.seq fun K5 hK5 => ?_
    refine XC.region ?_
    refine x_v (r_mv rfl) rfl ?_
    refine x_v (r_as rfl) rfl ?_
    refine XL.nil ?_
    refine hK5 _ _ ?_
    refine XC.keep [(4, _)] ⟨rfl, trivial⟩ ?_
    refine XC.ret ?_
    have hst : stay ns L = L := by rcases hx with h | ⟨k, h, _⟩; exact h.2; omega
    exact fin1 rfl (⟨by rw [hst], by rw [hst]⟩) (by repeat (first | exact Gets.done _ | exact Gets.all _ | (apply Gets.step; focus ((repeat (first | exact Pick.head _ _ | apply Pick.tail)); done)) | apply Gets.drop))
  · obtain ⟨i, rfl, hi, hst⟩ : ∃ k : Nat, r = k ∧ k < L.length ∧ stay ns (L.take (k + 1)) = L.take k := by rcases hx with h | h; exact absurd h.1 hc1; exact h
    refine XC.skip ?_
    refine hK3 _ _ ?_
    refine XC.keep [(0, _), (1, _), (5, _)] ⟨rfl, rfl, rfl, trivial⟩ ?_
    refine XC.seq fun K6 hK6 => ?_
    refine XC.seq fun K7 hK7 => ?_
    refine XC.openp (by repeat (first | exact Pick.head _ _ | apply Pick.tail)) (by omega) fun g cur0 hA h1 h2 h3 h4 => ?_
    subst hA
    refine XC.region ?_
    refine x_v (r_mv rfl) rfl ?_
    refine x_v (r_add rfl rfl (by omega)) rfl ?_
    refine x_v (r_as rfl) rfl ?_
    refine XL.nil ?_
    refine hK7 _ _ ?_
    refine XC.keep [(0, _), (1, _), (5, _), (6, _)] ⟨rfl, rfl, rfl, rfl, trivial⟩ ?_
    refine XC.block ?_
    refine XC.loop (σ := Nat × Nat × List Value) (fun s => [(0, .slice (some ⟨g, 0, none⟩) L.length c), (1, .func (.func 42) #[] #[.pointer (some ⟨bc, 0, none⟩)]), (5, .int .i64 (s.1 : Int)), (6, .int .i64 (s.2.1 : Int))]) (fun s => blk g 29 s.2.2 :: blk bc 40 [.slice NA nn nc] :: Fr) (fun s => s.1 = (stay ns (L.take s.2.1)).length ∧ Mid ns L c s.2.1 s.2.2) (fun s => L.length - s.2.1) (i, i + 1, cur0) ?_ ⟨rfl, rfl, rfl, rfl, trivial⟩ (by repeat (first | exact Gets.done _ | exact Gets.all _ | (apply Gets.step; focus ((repeat (first | exact Pick.head _ _ | apply Pick.tail)); done)) | apply Gets.drop)) ?_
    · dsimp only; exact ⟨by rw [hst, List.length_take]; omega, by omega, h3, by rw [hst, List.length_take]; omega, by rw [hst, ← cells_take lc_len, ← h4, List.take_take, List.length_take, Nat.min_eq_left (by omega), Nat.min_eq_left (by omega)], by rw [← cut_L rfl, ← h4, List.drop_take, List.take_take]; congr 1; omega⟩
    rintro ⟨i, j, cur⟩ ⟨hi2, hM⟩
    dsimp only at hi2 hM ⊢
    have hlt := hM.lt; have hle := hM.le; have hcl := hM.len
    refine XC.seq fun K8 hK8 => ?_
    refine XC.seq fun K9 hK9 => ?_
    refine XC.region ?_
    refine x_v (r_mv rfl) rfl ?_
    refine x_v (r_mv rfl) rfl ?_
    refine x_v (r_lensl Try.underlying22 rfl) rfl ?_
    refine x_v (r_lt rfl rfl) rfl ?_
    refine XL.nil ?_
    refine hK9 _ _ ?_
    refine XC.keep [(0, _), (1, _), (5, _), (6, _), (19, _)] ⟨rfl, rfl, rfl, rfl, rfl, trivial⟩ ?_
    refine XC.cond_d rfl (fun hc2 => ?_) (fun hc2 => ?_)
    · refine XC.skip ?_
      refine hK8 _ _ ?_
      refine XC.keep [(0, _), (1, _), (5, _), (6, _)] ⟨rfl, rfl, rfl, rfl, trivial⟩ ?_
      refine XC.seq fun K10 hK10 => ?_
      refine XC.block ?_
      refine XC.seq fun K11 hK11 => ?_
      refine XC.region ?_
      refine x_v (r_mv rfl) rfl ?_
      refine x_v (r_mv rfl) rfl ?_
      obtain ⟨l, hl⟩ : ∃ l, L[j]? = some l := ⟨_, List.getElem?_eq_getElem (by omega)⟩
      refine x_v (r_ia (k := j) Try.underlying22 ty29 rfl rfl (by omega) (by omega)) rfl ?_
      refine x_v (r_lda (l' := lc l) ty29 rfl (by repeat (first | exact Pick.head _ _ | apply Pick.tail)) rfl (hM.get hl)) rfl ?_
      refine x_a (r_al ty29 rfl) rfl fun b7 => ?_
      refine x_e (r_st ty29 rfl rfl rfl rfl rfl (by repeat (first | exact Upd.head _ _ _ | apply Upd.tail)) (by repeat (first | exact Over.nil _ | apply Over.put | apply Over.skip))) ?_
      refine XL.nil ?_
      refine hK11 _ _ ?_
      refine XC.keep [(0, _), (1, _), (5, _), (6, _), (7, _)] ⟨rfl, rfl, rfl, rfl, rfl, trivial⟩ ?_
      refine XC.seq fun K12 hK12 => ?_
      refine XC.region ?_
      refine x_v (r_mv rfl) rfl ?_
      refine x_v (r_lda (l' := [_, _, _]) ty29 rfl (by repeat (first | exact Pick.head _ _ | apply Pick.tail)) rfl (Sub.get (by repeat (first | exact Sub.nil _ | apply Sub.take | apply Sub.skip)))) rfl ?_
      refine x_c (r_call (fst := []) (cap := [_]) (vs := [_]) rfl ⟨rfl, rfl⟩ rfl (del_tr bc NA nn nc ns l (hr.suf (.cons _ (.cons _ (.refl _)))) hn) (by repeat (first | exact Gets.done _ | exact Gets.all _ | (apply Gets.step; focus ((repeat (first | exact Pick.head _ _ | apply Pick.tail)); done)) | apply Gets.drop))) rfl ?_
      rintro _ _ ⟨rfl, rfl⟩
      refine x_v (r_not_d rfl) rfl ?_
      refine XL.nil ?_
      refine hK12 _ _ ?_
      refine XC.keep [(0, _), (1, _), (5, _), (6, _), (7, _), (29, _)] ⟨rfl, rfl, rfl, rfl, rfl, rfl, trivial⟩ ?_
      refine XC.cond_d rfl (fun hc3 => ?_) (fun hc3 => ?_)
      · refine XC.seq fun K13 hK13 => ?_
        refine XC.region ?_
        refine x_v (r_mv rfl) rfl ?_
        refine x_v (r_mv rfl) rfl ?_
        refine x_v (r_lda (l' := [_, _, _]) ty29 rfl (by repeat (first | exact Pick.head _ _ | apply Pick.tail)) rfl (Sub.get (by repeat (first | exact Sub.nil _ | apply Sub.take | apply Sub.skip)))) rfl ?_
        refine x_v (r_ia (k := i) Try.underlying22 ty29 rfl rfl (by omega) (by omega)) rfl ?_
        refine x_e (r_st (vs := lc l) ty29 rfl rfl rfl rfl rfl (by repeat (first | exact Upd.head _ _ _ | apply Upd.tail)) (Over.over (by rw [lc_len]; omega))) ?_
        refine XL.nil ?_
        refine hK13 _ _ ?_
        refine XC.keep [(0, _), (1, _), (5, _), (6, _)] ⟨rfl, rfl, rfl, rfl, trivial⟩ ?_
        refine XC.region ?_
        refine x_v (r_mv rfl) rfl ?_
        refine x_v (r_add rfl rfl (by omega)) rfl ?_
        refine x_v (r_as rfl) rfl ?_
        refine XL.nil ?_
        refine hK10 _ _ ?_
        refine XC.keep [(0, _), (1, _), (5, _), (6, _)] ⟨rfl, rfl, rfl, rfl, trivial⟩ ?_
        refine XC.region ?_
        refine x_v (r_mv rfl) rfl ?_
        refine x_v (r_add rfl rfl (by omega)) rfl ?_
        refine x_v (r_as rfl) rfl ?_
        refine XL.nil ?_
        refine ⟨(i + 1, j + 1, over cur (0 + i * 3) (lc l)), ?_, ?_, ⟨rfl, rfl, rfl, rfl, trivial⟩, (by repeat (first | exact Gets.done _ | exact Gets.all _ | (apply Gets.step; focus ((repeat (first | exact Pick.head _ _ | apply Pick.tail)); done)) | apply Gets.drop))⟩
        · exact ⟨by rw [take_snoc hl, stay_snoc, if_neg (by assumption), List.length_append, ← hi2]; rfl, by rw [hi2]; exact hM.put hl (by assumption) (by omega)⟩
        · dsimp only; omega
      · refine XC.skip ?_
        refine hK10 _ _ ?_
        refine XC.keep [(0, _), (1, _), (5, _), (6, _)] ⟨rfl, rfl, rfl, rfl, trivial⟩ ?_
        refine XC.region ?_
        refine x_v (r_mv rfl) rfl ?_
        refine x_v (r_add rfl rfl (by omega)) rfl ?_
        refine x_v (r_as rfl) rfl ?_
        refine XL.nil ?_
        refine ⟨(i, j + 1, cur), ?_, ?_, ⟨rfl, rfl, rfl, rfl, trivial⟩, (by repeat (first | exact Gets.done _ | exact Gets.all _ | (apply Gets.step; focus ((repeat (first | exact Pick.head _ _ | apply Pick.tail)); done)) | apply Gets.drop))⟩
        · exact ⟨by rw [take_snoc hl, stay_snoc, if_pos (by simp_all), ← hi2], hM.skip hl (by simp_all)⟩
        · dsimp only; omega
    · refine XC.exit rfl ?_
      refine hK6 _ _ ?_
      refine XC.keep [(0, _), (5, _)] ⟨rfl, rfl, trivial⟩ ?_
      refine XC.seq fun K14 hK14 => ?_
      refine XC.region ?_
      refine x_v (r_mv rfl) rfl ?_
      refine x_v (r_mv rfl) rfl ?_
      have hz : 0 + i * 3 + (Builtin.zeroCells (.agg #[.int .i64 0, .int .i64 0, .string ⟨#[]⟩] : Value).cells (L.length - i)).toList.length ≤ cur.length := by rw [zeroCells_len]; show _ + _ * 3 ≤ _; omega
      refine x_v (r_slla i L.length Try.underlying22 ty29 rfl ⟨_, by rfl⟩ rfl (by omega) (by omega) (by omega)) rfl ?_
      refine x_e (r_clear Try.underlying22 ty29 (by kernel_rfl) rfl (by repeat (first | exact Upd.head _ _ _ | apply Upd.tail)) (Over.over hz)) ?_
      refine XL.nil ?_
      refine hK14 _ _ ?_
      refine XC.keep [(0, _), (5, _)] ⟨rfl, rfl, trivial⟩ ?_
      refine XC.seq fun K15 hK15 => ?_
      obtain rfl : j = L.length := by omega
      rw [List.take_length] at hi2
      have hfr := hM.front
      rw [List.take_length] at hfr
      subst hi2
      refine XC.shut_ (by repeat (first | exact Pick.head _ _ | apply Pick.tail)) (n := (stay ns L).length) (xs := cells lc (stay ns L)) (by omega) h2 (by rw [over_length hz]; omega) ?_ ?_
      · rw [over_take_le (by omega) (by omega), hfr]
      refine XC.region ?_
      refine x_v (r_mv rfl) rfl ?_
      refine x_v (r_mv rfl) rfl ?_
      refine x_v (r_sll0 (stay ns L).length Try.underlying22 ty29 rfl ⟨_, by rfl⟩ (by omega)) rfl ?_
      refine x_v (r_as rfl) rfl ?_
      refine XL.nil ?_
      refine hK15 _ _ ?_
      refine XC.keep [(4, _)] ⟨rfl, trivial⟩ ?_
      refine XC.ret ?_
      exact fin1 rfl (⟨rfl, rfl⟩) (by repeat (first | exact Gets.done _ | exact Gets.all _ | (apply Gets.step; focus ((repeat (first | exact Pick.head _ _ | apply Pick.tail)); done)) | apply Gets.drop))
end Go.Proofs.Ytdppjmdjmbbclaa

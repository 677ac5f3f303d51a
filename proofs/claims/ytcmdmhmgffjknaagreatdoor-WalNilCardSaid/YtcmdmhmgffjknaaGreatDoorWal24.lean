/- A log opened: function 9. -/
import Derived.Test.YtcmdmhmgffjknaaGreatDoorFacts
import Derived.Test.YtcmdmhmgffjknaaGreatDoorWal23
namespace Go.Proofs.YtcmdmhmgffjknaaGreatDoor
open Go.Sx
set_option linter.unusedVariables false

def OpenV (R : Int × Option (Lg × List UInt8 × List (List UInt8)) × Dk) (d : Nat) (Fr : List HP) (v : Value) (Rs' : List HP) : Prop := match R.2.1 with
  | none => v = .tuple #[.pointer none, str [], .slice none 0 0, .int .i64 R.1] ∧ Rs' = dsk d R.2.2 :: Fr
  | some (L, base, rc) => ∃ l A c, v = .tuple #[.pointer (some ⟨l, 0, none⟩), str base, .slice A rc.length c, .int .i64 0] ∧ Rs' = lgc l d L :: sl A rc.length c 9 1 (cells sv rc) :: dsk d R.2.2 :: Fr
theorem open_th : ∃ fn c, Tryz.prog.funcs[9]? = some fn ∧ (fn.name == "runtime.NumGoroutine") = false ∧ fn.body = some c := ⟨_, _, Tryz.func9, by kernel_rfl, rfl⟩
theorem open_nil {W0 : World} (Fr : List HP) : Tr W0 Tryz.prog 9 [.pointer none] Fr (fun v Rs' => v = .tuple #[.pointer none, str [], .slice none 0 0, .int .i64 2] ∧ Rs' = Fr) := by
  refine Entry.tr (N := 168) (rs := [.tmp 2, .tmp 3, .tmp 4, .tmp 5]) ⟨_, Tryz.func9, rfl, by kernel_rfl, rfl, rfl⟩ rfl ?_
  refine XC.seq fun K1 hK1 => ?_
  refine XC.region ?_
  refine x_v (r_as rfl) rfl ?_
  refine x_v (r_as rfl) rfl ?_
  refine x_v (r_as rfl) rfl ?_
  refine x_v (r_as rfl) rfl ?_
  refine XL.nil ?_
  refine hK1 _ _ ?_
  refine XC.keep [(0, _), (4, _)] ⟨rfl, rfl, trivial⟩ ?_
  refine XC.seq fun K2 hK2 => ?_
  refine XC.seq fun K3 hK3 => ?_
  refine XC.region ?_
  refine x_v (r_mv rfl) rfl ?_
  refine x_v (r_peq_nil Tryz.underlying38 rfl rfl) rfl ?_
  refine XL.nil ?_
  refine hK3 _ _ ?_
  refine XC.keep [(0, _), (4, _), (22, _)] ⟨rfl, rfl, rfl, trivial⟩ ?_
  refine XC.cond_t rfl ?_
  refine XC.seq fun K4 hK4 => ?_
  refine XC.region ?_
  refine x_v (r_as rfl) rfl ?_
  refine x_v (r_as rfl) rfl ?_
  refine x_v (r_as rfl) rfl ?_
  refine x_v (r_as rfl) rfl ?_
  refine XL.nil ?_
  refine hK4 _ _ ?_
  refine XC.keep [(2, _), (3, _), (4, _), (5, _)] ⟨rfl, rfl, rfl, rfl, trivial⟩ ?_
  refine XC.ret ?_
  exact fin4 rfl rfl rfl rfl (⟨rfl, rfl⟩) gS
theorem openl_tr {W0 : World} (hL : Laid W0) (d : Nat) (D : Dk) (Fr : List HP) (hph0 : phi D ≤ 1000000) : Tr W0 Tryz.prog 9 [.pointer (some ⟨d, 0, none⟩)] (dsk d D :: Fr) (OpenV (openL D) d Fr) := by
  have hmax : maxS = 140737488355328 := rfl
  refine Tr.fact open_th (fun w hw => dsk_ok hw) fun hok => ?_
  have hfl0 : D.files.length ≤ phi D := by unfold phi; omega
  have hNl : ∀ n ∈ namesD D logP, n.length ≤ 80 := fun n hn => by
    unfold namesD at hn
    split at hn
    · cases hn
    · obtain ⟨t, ht, rfl⟩ := List.mem_map.1 (List.mem_filter.1 hn).1
      exact fineB_len (hok.fi t ht).2.2
  have hO : openL D = if D.off = true then (50, none, D) else
    if (cleanL (firstL D (namesD D logP)).1 (chainD D).1 (namesD D logP) D).1 ≠ 0 then ((cleanL (firstL D (namesD D logP)).1 (chainD D).1 (namesD D logP) D).1, none, (cleanL (firstL D (namesD D logP)).1 (chainD D).1 (namesD D logP) D).2)
    else (0, some (⟨(chainD D).1, (tailD D).2.1, (tailD D).2.2, (firstL D (namesD D logP)).1⟩, (firstL D (namesD D logP)).2.base, (tailD D).1), (cleanL (firstL D (namesD D logP)).1 (chainD D).1 (namesD D logP) D).2) := rfl
  have hCh : chainD D = if 0 < (firstL D (namesD D logP)).1 then chainL D (999999999 - (firstL D (namesD D logP)).1) (firstL D (namesD D logP)).1 (firstL D (namesD D logP)).2 [] else (0, zeroSg, []) := rfl
  have hTl : tailD D = if 0 < (firstL D (namesD D logP)).1 then ((chainD D).2.2 ++ (scanF (chainD D).2.1.bytes).1.tail, (scanF (chainD D).2.1.bytes).2, decide ((scanF (chainD D).2.1.bytes).2 < (chainD D).2.1.bytes.length)) else ([], 0, false) := rfl
  have hNle : (namesD D logP).length ≤ D.files.length := by
    unfold namesD
    split
    · simp
    · exact Nat.le_trans (List.length_filter_le _ _) (by simp)
  generalize hNd : namesD D logP = N at hNl hO hCh hTl hNle
  refine Entry.tr (N := 168) (rs := [.tmp 2, .tmp 3, .tmp 4, .tmp 5]) ⟨_, Tryz.func9, rfl, by kernel_rfl, rfl, rfl⟩ rfl ?_
  refine XC.seq fun K1 hK1 => ?_
  refine XC.region ?_
  refine x_v (r_as rfl) rfl ?_
  refine x_v (r_as rfl) rfl ?_
  refine x_v (r_as rfl) rfl ?_
  refine x_v (r_as rfl) rfl ?_
  refine XL.nil ?_
  refine hK1 _ _ ?_
  refine XC.keep [(0, _), (4, _)] ⟨rfl, rfl, trivial⟩ ?_
  refine XC.seq fun K2 hK2 => ?_
  refine XC.seq fun K3 hK3 => ?_
  refine XC.region ?_
  refine x_v (r_mv rfl) rfl ?_
  refine x_v (r_peq_some Tryz.underlying38 rfl rfl) rfl ?_
  refine XL.nil ?_
  refine hK3 _ _ ?_
  refine XC.keep [(0, _), (4, _), (22, _)] ⟨rfl, rfl, rfl, trivial⟩ ?_
  refine XC.cond_f rfl ?_
  refine XC.skip ?_
  refine hK2 _ _ ?_
  refine XC.keep [(0, _), (4, _)] ⟨rfl, rfl, trivial⟩ ?_
  refine XC.seq fun K4 hK4 => ?_
  refine XC.seq fun K5 hK5 => ?_
  refine XC.region ?_
  refine x_v (r_mv rfl) rfl ?_
  refine x_c (r_call0 (args := [_]) ⟨rfl, rfl⟩ (down_tr d D Fr) gS) rfl ?_
  rintro _ _ ⟨rfl, hRs⟩
  rw [hRs]
  refine XL.nil ?_
  refine hK5 _ _ ?_
  refine XC.keep [(0, _), (4, _), (24, _)] ⟨rfl, rfl, rfl, trivial⟩ ?_
  refine XC.cond rfl (fun hc2 => ?_) (fun hc2 => ?_)
  · refine XC.seq fun K6 hK6 => ?_
    refine XC.region ?_
    refine x_v (r_as rfl) rfl ?_
    refine x_v (r_as rfl) rfl ?_
    refine x_v (r_as rfl) rfl ?_
    refine x_v (r_as rfl) rfl ?_
    refine XL.nil ?_
    refine hK6 _ _ ?_
    refine XC.keep [(2, _), (3, _), (4, _), (5, _)] ⟨rfl, rfl, rfl, rfl, trivial⟩ ?_
    refine XC.ret ?_
    unfold OpenV
    rw [hO, if_pos (by simpa using hc2)]
    exact fin4 rfl rfl rfl rfl (⟨rfl, rfl⟩) gS
  · refine XC.skip ?_
    refine hK4 _ _ ?_
    refine XC.keep [(0, _), (4, _)] ⟨rfl, rfl, trivial⟩ ?_
    refine XC.seq fun K7 hK7 => ?_
    have hoff : D.off = false := by simpa using hc2
    rw [if_neg (by rw [hoff]; decide)] at hO
    refine XC.region ?_
    refine x_v (r_mv rfl) rfl ?_
    refine x_v (r_bd (vs := [_]) rfl ⟨rfl, rfl⟩ (bd56_1 _)) rfl ?_
    refine x_a (r_bx rfl rfl) rfl fun b27 => ?_
    refine x_v (r_as rfl) rfl ?_
    refine XL.nil ?_
    refine hK7 _ _ ?_
    refine XC.keep [(0, _), (2, _), (4, _)] ⟨rfl, rfl, rfl, trivial⟩ ?_
    refine XC.seq fun K8 hK8 => ?_
    refine XC.region ?_
    refine x_v (r_mv rfl) rfl ?_
    refine x_c (r_call0 (args := [_, _]) ⟨rfl, rfl, rfl⟩ (names_tr d D logP (blk b27 56 [.int .i64 0, .int .i64 0, .bool false, .pointer (some ⟨d, 0, none⟩), .int .i64 0] :: Fr) (by omega)) gS) rfl ?_
    rintro _ _ ⟨A29, c29, hv29, hRs⟩
    rw [hNd] at hv29 hRs
    subst hv29
    rw [hRs]
    refine x_v (r_as rfl) rfl ?_
    refine XL.nil ?_
    refine hK8 _ _ ?_
    refine XC.keep [(0, _), (2, _), (4, _), (6, _)] ⟨rfl, rfl, rfl, rfl, trivial⟩ ?_
    refine XC.seq fun K9 hK9 => ?_
    refine XC.region ?_
    refine x_a (r_al ty59 rfl) rfl fun b7 => ?_
    refine XL.nil ?_
    refine hK9 _ _ ?_
    refine XC.keep [(0, _), (2, _), (4, _), (6, _), (7, _)] ⟨rfl, rfl, rfl, rfl, rfl, trivial⟩ ?_
    refine XC.seq fun K10 hK10 => ?_
    refine XC.seq fun K11 hK11 => ?_
    refine XC.region ?_
    refine x_v (r_mv rfl) rfl ?_
    refine x_v (r_lensl Tryz.underlying22 rfl) rfl ?_
    refine x_v (r_mv rfl) rfl ?_
    refine XL.nil ?_
    refine hK11 _ _ ?_
    refine XC.keep [(0, _), (2, _), (4, _), (6, _), (7, _), (30, _), (31, _), (32, _)] ⟨rfl, rfl, rfl, rfl, rfl, rfl, rfl, rfl, trivial⟩ ?_
    refine XC.block ?_
    refine XC.loop (σ := Nat × Nat × Sg) (fun q => [(0, .pointer (some ⟨d, 0, none⟩)), (2, .pointer (some ⟨b27, 0, none⟩)), (4, .slice none 0 0), (6, .slice A29 N.length c29), (7, .pointer (some ⟨b7, 0, none⟩)), (30, .slice A29 N.length c29), (31, .int .i64 (N.length : Int)), (32, .int .i64 (q.1 : Int))]) (fun q => blk b27 56 [.int .i64 0, .int .i64 0, .bool false, .pointer (some ⟨d, 0, none⟩), .int .i64 (q.2.1 : Int)] :: blk b7 59 [str q.2.2.bytes, .int .i64 q.2.2.kind, str q.2.2.base, .int .i64 q.2.2.behind] :: sl A29 N.length c29 9 1 (cells sv N) :: dsk d D :: Fr) (fun q => q.1 ≤ N.length ∧ (N.take q.1).foldl (stepF D) (0, zeroSg) = (q.2.1, q.2.2) ∧ AtOk q.2.2 ∧ (0 < q.2.1 → q.2.2.kind ≠ 0) ∧ q.2.1 ≤ 999999999) (fun q => N.length - q.1) (0, 0, zeroSg) ?_ ⟨rfl, rfl, rfl, rfl, rfl, rfl, rfl, rfl, trivial⟩ gS ?_
    · exact ⟨Nat.zero_le _, rfl, ⟨by simp [zeroSg], fun h => absurd rfl h⟩, fun h => absurd h (by decide), Nat.zero_le _⟩
    rintro ⟨i, first, a⟩ ⟨hi, hfo, hao, hak, hf9⟩
    dsimp only at hi hfo hao hak hf9 ⊢
    refine XC.seq fun K12 hK12 => ?_
    refine XC.region ?_
    refine x_v (r_lt rfl rfl) rfl ?_
    refine XL.nil ?_
    refine hK12 _ _ ?_
    refine XC.keep [(0, _), (2, _), (4, _), (6, _), (7, _), (30, _), (31, _), (32, _), (33, _)] ⟨rfl, rfl, rfl, rfl, rfl, rfl, rfl, rfl, rfl, trivial⟩ ?_
    refine XC.seq fun K13 hK13 => ?_
    refine XC.cond_d rfl (fun hc3 => ?_) (fun hc3 => ?_)
    · refine XC.skip ?_
      refine hK13 _ _ ?_
      refine XC.keep [(0, _), (2, _), (4, _), (6, _), (7, _), (30, _), (31, _), (32, _)] ⟨rfl, rfl, rfl, rfl, rfl, rfl, rfl, rfl, trivial⟩ ?_
      refine XC.seq fun K14 hK14 => ?_
      refine XC.block ?_
      refine XC.seq fun K15 hK15 => ?_
      obtain ⟨x, hx⟩ : ∃ x, N[i]? = some x := ⟨_, List.getElem?_eq_getElem (by omega)⟩
      have hxl := hNl x (List.mem_of_getElem? hx)
      refine XC.slnn (pK : Pick _ (sl A29 N.length c29 9 1 (cells sv N)) _) fun hl hA => ?_
      obtain ⟨g, rfl⟩ := hA (by omega)
      have hrN := Rdb.of_sl (W0 := W0) (pK : Pick (sl (some ⟨g, 0, none⟩) N.length c29 9 1 (cells sv N) :: Fr) (sl (some ⟨g, 0, none⟩) N.length c29 9 1 (cells sv N)) _) hl (fun _ => ⟨g, rfl⟩)
      obtain ⟨g2, o2, he2, hat⟩ := hrN.at_ (by omega)
      injection he2 with he2
      injection he2 with hg2 ho2
      subst hg2
      subst ho2
      refine XC.region ?_
      refine x_v (r_ia (k := i) Tryz.underlying22 ty9 rfl rfl (by omega) (by omega)) rfl ?_
      refine x_v (r_ldr (v := str x) ty9 rfl (fun w hw => hat w (Gets.own gS hw) (i * 1) _ (by rw [Nat.mul_one]; exact sv_get hx))) rfl ?_
      refine x_v (r_as rfl) rfl ?_
      refine XL.nil ?_
      refine hK15 _ _ ?_
      refine XC.keep [(0, _), (2, _), (4, _), (6, _), (7, _), (9, _), (30, _), (31, _), (32, _)] ⟨rfl, rfl, rfl, rfl, rfl, rfl, rfl, rfl, rfl, trivial⟩ ?_
      refine XC.seq fun K16 hK16 => ?_
      refine XC.region ?_
      refine x_v (r_mv rfl) rfl ?_
      refine x_c (r_call0 (args := [_]) ⟨rfl, rfl⟩ (number_tr hL x hxl (blk b27 56 [.int .i64 0, .int .i64 0, .bool false, .pointer (some ⟨d, 0, none⟩), .int .i64 (first : Int)] :: blk b7 59 [str a.bytes, .int .i64 a.kind, str a.base, .int .i64 a.behind] :: sl (some ⟨g, 0, none⟩) N.length c29 9 1 (cells sv N) :: dsk d D :: Fr)) gS) rfl ?_
      rintro _ _ ⟨rfl, hRs⟩
      rw [hRs]
      refine x_v (r_as rfl) rfl ?_
      refine XL.nil ?_
      refine hK16 _ _ ?_
      refine XC.keep [(0, _), (2, _), (4, _), (6, _), (7, _), (9, _), (10, _), (30, _), (31, _), (32, _)] ⟨rfl, rfl, rfl, rfl, rfl, rfl, rfl, rfl, rfl, rfl, trivial⟩ ?_
      refine XC.seq fun K17 hK17 => ?_
      refine XC.region ?_
      refine x_v (r_mv rfl) rfl ?_
      refine x_v (r_mv rfl) rfl ?_
      refine x_v (r_nc rfl) rfl ?_
      refine x_v (r_fa fo56_2 rfl) rfl ?_
      refine x_v (r_ld ty3 rfl pK (by rfl)) rfl ?_
      refine x_v (r_gt rfl rfl) rfl ?_
      refine XL.nil ?_
      refine hK17 _ _ ?_
      refine XC.keep [(0, _), (2, _), (4, _), (6, _), (7, _), (9, _), (10, _), (30, _), (31, _), (32, _), (43, _)] ⟨rfl, rfl, rfl, rfl, rfl, rfl, rfl, rfl, rfl, rfl, rfl, trivial⟩ ?_
      refine XC.cond_d rfl (fun hc4 => ?_) (fun hc4 => ?_)
      · refine XC.seq fun K18 hK18 => ?_
        refine XC.region ?_
        refine x_v (r_mv rfl) rfl ?_
        refine x_v (r_mv rfl) rfl ?_
        refine x_c (r_call0 (args := [_, _]) ⟨rfl, rfl, rfl⟩ (sread_tr d D x (blk b27 56 [.int .i64 0, .int .i64 0, .bool false, .pointer (some ⟨d, 0, none⟩), .int .i64 (first : Int)] :: blk b7 59 [str a.bytes, .int .i64 a.kind, str a.base, .int .i64 a.behind] :: sl (some ⟨g, 0, none⟩) N.length c29 9 1 (cells sv N) :: Fr)) gS) rfl ?_
        rintro _ _ ⟨rfl, hRs⟩
        rw [hRs]
        unfold sgc
        refine x_a (r_al ty59 rfl) rfl fun b11 => ?_
        refine x_e (r_st ty59 rfl rfl rfl rfl rfl uD oV) ?_
        refine XL.nil ?_
        refine hK18 _ _ ?_
        refine XC.keep [(0, _), (2, _), (4, _), (6, _), (7, _), (10, _), (11, _), (30, _), (31, _), (32, _)] ⟨rfl, rfl, rfl, rfl, rfl, rfl, rfl, rfl, rfl, rfl, trivial⟩ ?_
        refine XC.seq fun K19 hK19 => ?_
        refine XC.region ?_
        refine x_v (r_fa fo59_1 rfl) rfl ?_
        refine x_v (r_ld ty3 rfl pK (by rfl)) rfl ?_
        refine x_v (r_eq rfl rfl) rfl ?_
        refine XL.nil ?_
        refine hK19 _ _ ?_
        refine XC.keep [(0, _), (2, _), (4, _), (6, _), (7, _), (10, _), (11, _), (30, _), (31, _), (32, _), (49, _)] ⟨rfl, rfl, rfl, rfl, rfl, rfl, rfl, rfl, rfl, rfl, rfl, trivial⟩ ?_
        refine XC.cond_d rfl (fun hc5 => ?_) (fun hc5 => ?_)
        · refine XC.draw (blk b11 59 [str (readS (readD D x).1).bytes, .int .i64 (readS (readD D x).1).kind, str (readS (readD D x).1).base, .int .i64 (readS (readD D x).1).behind] :: []) true [(0, false), (1, false), (2, false), (3, false), (4, false), (5, true), (6, true)] (by kernel_rfl) (by kernel_rfl) ?_
          refine y_v rfl (r_mv rfl) gT rfl ?_
          refine y_v rfl (r_mv rfl) gT rfl ?_
          refine y_v rfl (r_lda (l' := [_, _, _, _]) ty59 rfl pK rfl (Sub.get sU)) gT rfl ?_
          refine y_v rfl (r_nc rfl) gT rfl ?_
          refine y_v rfl (r_fa fo56_2 rfl) gT rfl ?_
          refine y_e rfl (r_st ty3 rfl rfl rfl rfl rfl uD oV) (fun _ _ h => Gets.own gS h) ?_
          refine y_e rfl (r_st ty59 rfl rfl rfl rfl rfl uD oV) (fun h => absurd h (by decide)) ?_
          refine XH.nil ?_
          refine hK14 _ _ ?_
          refine XC.keep [(0, _), (2, _), (4, _), (6, _), (7, _), (30, _), (31, _), (32, _)] ⟨rfl, rfl, rfl, rfl, rfl, rfl, rfl, rfl, trivial⟩ ?_
          refine XC.region ?_
          refine x_v (r_add rfl rfl (by omega)) rfl ?_
          refine x_v (r_mv rfl) rfl ?_
          refine XL.nil ?_
          refine ⟨(i + 1, numB x, readS (readD D x).1), ?_, ?_, ⟨rfl, rfl, rfl, rfl, rfl, rfl, rfl, rfl, trivial⟩, gS⟩
          · exact ⟨by dsimp only; omega, by dsimp only; rw [foldl_snoc _ _ _ _ _ hx, hfo]; unfold stepF; rw [if_pos ⟨by omega, by assumption⟩], readS_ok hok x, fun _ => by dsimp only; omega, numB_le x⟩
          · dsimp only; omega
        · refine XC.skip ?_
          refine hK14 _ _ ?_
          refine XC.keep [(0, _), (2, _), (4, _), (6, _), (7, _), (30, _), (31, _), (32, _)] ⟨rfl, rfl, rfl, rfl, rfl, rfl, rfl, rfl, trivial⟩ ?_
          refine XC.region ?_
          refine x_v (r_add rfl rfl (by omega)) rfl ?_
          refine x_v (r_mv rfl) rfl ?_
          refine XL.nil ?_
          refine ⟨(i + 1, first, a), ?_, ?_, ⟨rfl, rfl, rfl, rfl, rfl, rfl, rfl, rfl, trivial⟩, gS⟩
          · exact ⟨by dsimp only; omega, by dsimp only; rw [foldl_snoc _ _ _ _ _ hx, hfo]; unfold stepF; rw [if_neg (by rintro ⟨_, h⟩; exact absurd h (by assumption))], hao, hak, hf9⟩
          · dsimp only; omega
      · refine XC.skip ?_
        refine hK14 _ _ ?_
        refine XC.keep [(0, _), (2, _), (4, _), (6, _), (7, _), (30, _), (31, _), (32, _)] ⟨rfl, rfl, rfl, rfl, rfl, rfl, rfl, rfl, trivial⟩ ?_
        refine XC.region ?_
        refine x_v (r_add rfl rfl (by omega)) rfl ?_
        refine x_v (r_mv rfl) rfl ?_
        refine XL.nil ?_
        refine ⟨(i + 1, first, a), ?_, ?_, ⟨rfl, rfl, rfl, rfl, rfl, rfl, rfl, rfl, trivial⟩, gS⟩
        · exact ⟨by dsimp only; omega, by dsimp only; rw [foldl_snoc _ _ _ _ _ hx, hfo]; unfold stepF; rw [if_neg (by rintro ⟨h, _⟩; omega)], hao, hak, hf9⟩
        · dsimp only; omega
    · refine XC.exit rfl ?_
      refine hK10 _ _ ?_
      refine XC.keep [(0, _), (2, _), (4, _), (6, _), (7, _)] ⟨rfl, rfl, rfl, rfl, rfl, trivial⟩ ?_
      refine XC.seq fun K20 hK20 => ?_
      obtain rfl : i = N.length := by omega
      rw [List.take_of_length_le (Nat.le_refl _)] at hfo
      have hFi : firstL D N = (first, a) := hfo
      rw [hFi] at hO hCh hTl
      dsimp only at hO hCh hTl
      refine XC.nil_ 9 1 ?_
      refine XC.draw (blk b7 59 [str a.bytes, .int .i64 a.kind, str a.base, .int .i64 a.behind] :: []) false [(0, false), (1, false), (2, false), (3, false), (5, false), (6, false), (4, true), (7, false), (8, false), (9, false), (10, true), (11, false)] (by kernel_rfl) (by kernel_rfl) ?_
      refine y_v rfl (r_mv rfl) gT rfl ?_
      refine y_v rfl (r_mv rfl) gT rfl ?_
      refine y_v rfl (r_nc rfl) gT rfl ?_
      refine y_v rfl (r_fa fo56_2 rfl) gT rfl ?_
      refine y_v rfl (r_fa fo59_2 rfl) gT rfl ?_
      refine y_v rfl (r_ld ty9 rfl pK (by rfl)) gT rfl ?_
      refine y_vl rfl (r_ld ty3 rfl pK (by rfl)) gT rfl ?_
      refine y_v rfl (r_nc rfl) gT rfl ?_
      refine y_v rfl (r_fa fo56_0 rfl) gT rfl ?_
      refine y_v rfl (r_fa fo54_0 rfl) gT rfl ?_
      refine y_e rfl (r_st ty3 rfl rfl rfl rfl rfl uD oV) (fun _ _ h => Gets.own gS h) ?_
      refine y_v rfl (r_as rfl) gT rfl ?_
      refine XH.nil ?_
      refine hK20 _ _ ?_
      refine XC.keep [(0, _), (2, _), (3, _), (4, _), (6, _), (7, _)] ⟨rfl, rfl, rfl, rfl, rfl, rfl, trivial⟩ ?_
      refine XC.seqcut (σ := Nat × Nat × Bool × List (List UInt8) × Option Addr × Nat) (fun q => [(0, .pointer (some ⟨d, 0, none⟩)), (2, .pointer (some ⟨b27, 0, none⟩)), (3, str a.base), (4, .slice q.2.2.2.2.1 q.2.2.2.1.length q.2.2.2.2.2), (6, .slice A29 N.length c29)]) (fun q => blk b27 56 [.int .i64 (q.1 : Int), .int .i64 (q.2.1 : Int), .bool q.2.2.1, .pointer (some ⟨d, 0, none⟩), .int .i64 (first : Int)] :: sl q.2.2.2.2.1 q.2.2.2.1.length q.2.2.2.2.2 9 1 (cells sv q.2.2.2.1) :: sl A29 N.length c29 9 1 (cells sv N) :: dsk d D :: Fr) (fun q => (chainD D).1 = q.1 ∧ tailD D = (q.2.2.2.1, q.2.1, q.2.2.1) ∧ q.1 ≤ 999999999) ?_ ?_
      · refine XC.seq fun K22 hK22 => ?_
        refine XC.region ?_
        refine x_v (r_mv rfl) rfl ?_
        refine x_v (r_nc rfl) rfl ?_
        refine x_v (r_fa fo56_2 rfl) rfl ?_
        refine x_v (r_ld ty3 rfl pK (by rfl)) rfl ?_
        refine x_v (r_gt rfl rfl) rfl ?_
        refine XL.nil ?_
        refine hK22 _ _ ?_
        refine XC.keep [(0, _), (2, _), (3, _), (4, _), (6, _), (7, _), (70, _)] ⟨rfl, rfl, rfl, rfl, rfl, rfl, rfl, trivial⟩ ?_
        refine XC.cond_d rfl (fun hc6 => ?_) (fun hc6 => ?_)
        · refine XC.seqcut (σ := Nat × Sg × List (List UInt8) × Option Addr × Nat) (fun q => [(0, .pointer (some ⟨d, 0, none⟩)), (2, .pointer (some ⟨b27, 0, none⟩)), (3, str a.base), (4, .slice q.2.2.2.1 q.2.2.1.length q.2.2.2.2), (6, .slice A29 N.length c29), (7, .pointer (some ⟨b7, 0, none⟩))]) (fun q => blk b27 56 [.int .i64 (q.1 : Int), .int .i64 0, .bool false, .pointer (some ⟨d, 0, none⟩), .int .i64 (first : Int)] :: blk b7 59 [str q.2.1.bytes, .int .i64 q.2.1.kind, str q.2.1.base, .int .i64 q.2.1.behind] :: sl q.2.2.2.1 q.2.2.1.length q.2.2.2.2 9 1 (cells sv q.2.2.1) :: sl A29 N.length c29 9 1 (cells sv N) :: dsk d D :: Fr) (fun q => chainL D (999999999 - first) first a [] = (q.1, q.2.1, q.2.2.1) ∧ AtOk q.2.1 ∧ q.2.1.kind ≠ 0 ∧ q.2.2.1.length ≤ 1048576000000 ∧ q.1 ≤ 999999999) ?_ ?_
          · refine XC.block ?_
            refine XC.loop (σ := Nat × Sg × List (List UInt8) × Option Addr × Nat) (fun q => [(0, .pointer (some ⟨d, 0, none⟩)), (2, .pointer (some ⟨b27, 0, none⟩)), (3, str a.base), (4, .slice q.2.2.2.1 q.2.2.1.length q.2.2.2.2), (6, .slice A29 N.length c29), (7, .pointer (some ⟨b7, 0, none⟩))]) (fun q => blk b27 56 [.int .i64 (q.1 : Int), .int .i64 0, .bool false, .pointer (some ⟨d, 0, none⟩), .int .i64 (first : Int)] :: blk b7 59 [str q.2.1.bytes, .int .i64 q.2.1.kind, str q.2.1.base, .int .i64 q.2.1.behind] :: sl q.2.2.2.1 q.2.2.1.length q.2.2.2.2 9 1 (cells sv q.2.2.1) :: sl A29 N.length c29 9 1 (cells sv N) :: dsk d D :: Fr) (fun q => first ≤ q.1 ∧ q.1 ≤ 999999999 ∧ chainL D (999999999 - first) first a [] = chainL D (999999999 - q.1) q.1 q.2.1 q.2.2.1 ∧ AtOk q.2.1 ∧ q.2.1.kind ≠ 0 ∧ (∀ k, first < k → k ≤ q.1 → getF D.files (nameB k) ≠ none) ∧ q.2.2.1.length ≤ (q.1 - first) * 1048576) (fun q => 999999999 - q.1) (first, a, [], none, 0) ?_ ⟨rfl, rfl, rfl, rfl, rfl, rfl, trivial⟩ gS ?_
            · exact ⟨Nat.le_refl _, hf9, rfl, hao, hak (by omega), fun k h1 h2 => absurd h1 (by dsimp only at h2; omega), by simp⟩
            rintro ⟨n, a2, rc, A, c⟩ ⟨h1n, h2n, hch, hao2, hak2, hth, hrl⟩
            dsimp only at h1n h2n hch hao2 hak2 hth hrl ⊢
            refine XC.seq fun K24 hK24 => ?_
            refine XC.seq fun K25 hK25 => ?_
            have hcb := chain_bound hok (a := first) (m := n - first) (by omega) (fun k h1 h2 => hth k h1 (by omega))
            have hrl2 : rc.length ≤ 1048576000000 := Nat.le_trans hrl (Nat.le_trans (Nat.mul_le_mul_right _ (show n - first ≤ 1000000 by omega)) (by decide))
            refine XC.region ?_
            refine x_v (r_mv rfl) rfl ?_
            refine x_v (r_nc rfl) rfl ?_
            refine x_v (r_fa fo56_0 rfl) rfl ?_
            refine x_v (r_fa fo54_0 rfl) rfl ?_
            refine x_v (r_ld ty3 rfl pK (by rfl)) rfl ?_
            refine x_v (r_lt rfl rfl) rfl ?_
            refine XL.nil ?_
            refine hK25 _ _ ?_
            refine XC.keep [(0, _), (2, _), (3, _), (4, _), (6, _), (7, _), (76, _)] ⟨rfl, rfl, rfl, rfl, rfl, rfl, rfl, trivial⟩ ?_
            refine XC.cond_d rfl (fun hc7 => ?_) (fun hc7 => ?_)
            · refine XC.skip ?_
              refine hK24 _ _ ?_
              refine XC.keep [(0, _), (2, _), (3, _), (4, _), (6, _), (7, _)] ⟨rfl, rfl, rfl, rfl, rfl, rfl, trivial⟩ ?_
              refine XC.block ?_
              refine XC.seq fun K26 hK26 => ?_
              refine XC.region ?_
              refine x_v (r_mv rfl) rfl ?_
              refine x_v (r_mv rfl) rfl ?_
              refine x_v (r_nc rfl) rfl ?_
              refine x_v (r_fa fo56_0 rfl) rfl ?_
              refine x_v (r_fa fo54_0 rfl) rfl ?_
              refine x_v (r_ld ty3 rfl pK (by rfl)) rfl ?_
              refine x_v (yv (v' := .int .i64 ((n + 1 : Nat) : Int)) (r_add rfl rfl (by omega)) (by congr 1)) rfl ?_
              refine x_c (r_call0 (args := [_]) ⟨rfl, rfl⟩ (name_tr hL (n + 1) (by omega) (itoa_short _ (by omega)) (blk b27 56 [.int .i64 (n : Int), .int .i64 0, .bool false, .pointer (some ⟨d, 0, none⟩), .int .i64 (first : Int)] :: blk b7 59 [str a2.bytes, .int .i64 a2.kind, str a2.base, .int .i64 a2.behind] :: sl A rc.length c 9 1 (cells sv rc) :: sl A29 N.length c29 9 1 (cells sv N) :: dsk d D :: Fr)) gS) rfl ?_
              rintro _ _ ⟨rfl, hRs⟩
              rw [hRs]
              refine x_c (r_call0 (args := [_, _]) ⟨rfl, rfl, rfl⟩ (sread_tr d D (nameB (n + 1)) (blk b27 56 [.int .i64 (n : Int), .int .i64 0, .bool false, .pointer (some ⟨d, 0, none⟩), .int .i64 (first : Int)] :: blk b7 59 [str a2.bytes, .int .i64 a2.kind, str a2.base, .int .i64 a2.behind] :: sl A rc.length c 9 1 (cells sv rc) :: sl A29 N.length c29 9 1 (cells sv N) :: Fr)) gS) rfl ?_
              rintro _ _ ⟨rfl, hRs⟩
              rw [hRs]
              unfold sgc
              refine x_a (r_al ty59 rfl) rfl fun b12 => ?_
              refine x_e (r_st ty59 rfl rfl rfl rfl rfl uD oV) ?_
              refine XL.nil ?_
              refine hK26 _ _ ?_
              refine XC.keep [(0, _), (2, _), (3, _), (4, _), (6, _), (7, _), (12, _)] ⟨rfl, rfl, rfl, rfl, rfl, rfl, rfl, trivial⟩ ?_
              refine XC.seq fun K27 hK27 => ?_
              refine XC.region ?_
              refine x_v (r_lda (l' := [_, _, _, _]) ty59 rfl pK rfl (Sub.get sU)) rfl ?_
              refine x_v (r_lda (l' := [_, _, _, _]) ty59 rfl pK rfl (Sub.get sU)) rfl ?_
              refine x_c (r_call0 (args := [_, _]) ⟨rfl, rfl, rfl⟩ (follows_tr (readS (readD D (nameB (n + 1))).1) a2 (blk b12 59 [str (readS (readD D (nameB (n + 1))).1).bytes, .int .i64 (readS (readD D (nameB (n + 1))).1).kind, str (readS (readD D (nameB (n + 1))).1).base, .int .i64 (readS (readD D (nameB (n + 1))).1).behind] :: blk b27 56 [.int .i64 (n : Int), .int .i64 0, .bool false, .pointer (some ⟨d, 0, none⟩), .int .i64 (first : Int)] :: blk b7 59 [str a2.bytes, .int .i64 a2.kind, str a2.base, .int .i64 a2.behind] :: sl A rc.length c 9 1 (cells sv rc) :: sl A29 N.length c29 9 1 (cells sv N) :: dsk d D :: Fr) (by have := hao2.1; omega)) gS) rfl ?_
              rintro _ _ hfv
              unfold FolV at hfv
              rcases hfl : followsF (readS (readD D (nameB (n + 1))).1) a2 with _ | L2 <;> rw [hfl] at hfv <;> dsimp only at hfv
              · obtain ⟨rfl, rfl⟩ := hfv
                refine x_v (r_mv rfl) rfl ?_
                refine x_v (r_ex rfl rfl) rfl ?_
                refine x_v (r_ex rfl rfl) rfl ?_
                refine x_v (r_as rfl) rfl ?_
                refine x_v (r_as rfl) rfl ?_
                refine XL.nil ?_
                refine hK27 _ _ ?_
                refine XC.keep [(0, _), (2, _), (3, _), (4, _), (6, _), (7, _), (12, _), (13, _), (14, _)] ⟨rfl, rfl, rfl, rfl, rfl, rfl, rfl, rfl, rfl, trivial⟩ ?_
                refine XC.seq fun K28 hK28 => ?_
                refine XC.seq fun K29 hK29 => ?_
                refine XC.region ?_
                refine x_v (r_mv rfl) rfl ?_
                refine x_v (r_not rfl) rfl ?_
                refine XL.nil ?_
                refine hK29 _ _ ?_
                refine XC.keep [(0, _), (2, _), (3, _), (4, _), (6, _), (7, _), (12, _), (13, _), (93, _)] ⟨rfl, rfl, rfl, rfl, rfl, rfl, rfl, rfl, rfl, trivial⟩ ?_
                refine XC.cond rfl (fun hc8 => ?_) (fun hc8 => ?_)
                · refine XC.exit rfl ?_
                  exact ⟨(n, a2, rc, A, c), ⟨by rw [hch, show 999999999 - n = (999999999 - (n + 1)) + 1 by omega, chainL, hfl], hao2, hak2, hrl2, h2n⟩, ⟨rfl, rfl, rfl, rfl, rfl, rfl, trivial⟩, gS⟩
                · exfalso; exact absurd hc8 (by decide)
              · obtain ⟨A2, A3, c2, c3, y, rfl, hc2, rfl, hrd⟩ := hfv
                refine x_v (r_mv rfl) rfl ?_
                refine x_v (r_ex rfl rfl) rfl ?_
                refine x_v (r_ex rfl rfl) rfl ?_
                refine x_v (r_as rfl) rfl ?_
                refine x_v (r_as rfl) rfl ?_
                refine XL.nil ?_
                refine hK27 _ _ ?_
                refine XC.keep [(0, _), (2, _), (3, _), (4, _), (6, _), (7, _), (12, _), (13, _), (14, _)] ⟨rfl, rfl, rfl, rfl, rfl, rfl, rfl, rfl, rfl, trivial⟩ ?_
                refine XC.seq fun K30 hK30 => ?_
                refine XC.seq fun K31 hK31 => ?_
                refine XC.region ?_
                refine x_v (r_mv rfl) rfl ?_
                refine x_v (r_not rfl) rfl ?_
                refine XL.nil ?_
                refine hK31 _ _ ?_
                refine XC.keep [(0, _), (2, _), (3, _), (4, _), (6, _), (7, _), (12, _), (13, _), (93, _)] ⟨rfl, rfl, rfl, rfl, rfl, rfl, rfl, rfl, rfl, trivial⟩ ?_
                refine XC.cond rfl (fun hc9 => ?_) (fun hc9 => ?_)
                · exfalso; exact absurd hc9 (by decide)
                · refine XC.skip ?_
                  refine hK30 _ _ ?_
                  refine XC.keep [(0, _), (2, _), (3, _), (4, _), (6, _), (7, _), (12, _), (13, _)] ⟨rfl, rfl, rfl, rfl, rfl, rfl, rfl, rfl, trivial⟩ ?_
                  refine XC.seq fun K32 hK32 => ?_
                  refine XC.draw (blk b12 59 [str (readS (readD D (nameB (n + 1))).1).bytes, .int .i64 (readS (readD D (nameB (n + 1))).1).kind, str (readS (readD D (nameB (n + 1))).1).base, .int .i64 (readS (readD D (nameB (n + 1))).1).behind] :: []) true [(0, false), (1, false), (3, false), (2, true), (4, false), (5, true)] (by kernel_rfl) (by kernel_rfl) ?_
                  refine y_v rfl (r_mv rfl) gT rfl ?_
                  refine y_v rfl (r_mv rfl) gT rfl ?_
                  refine y_v rfl (r_lda (l' := [_, _, _, _]) ty59 rfl pK rfl (Sub.get sU)) gT rfl ?_
                  refine y_a rfl (r_app Tryz.underlying22 ty9 rfl (by decide) rfl rfl pK (hrd.mono (fun w hw => Gets.own gS hw)) (cells_one' sv_one _) (by have := (follows_kind hfl).2; have := hao2.1; unfold maxLen; omega) (by have := (follows_kind hfl).2; have := hao2.1; omega)) (fun _ _ _ h => Gets.own gS h) rfl fun ⟨A96, c96⟩ => ?_
                  refine y_v rfl (r_as rfl) gT rfl ?_
                  refine y_e rfl (r_st ty59 rfl rfl rfl rfl rfl uD oV) (fun h => absurd h (by decide)) ?_
                  refine XH.nil ?_
                  refine hK32 _ _ ?_
                  refine XC.keep [(0, _), (2, _), (3, _), (4, _), (6, _), (7, _)] ⟨rfl, rfl, rfl, rfl, rfl, rfl, trivial⟩ ?_
                  refine XC.region ?_
                  refine x_v (r_mv rfl) rfl ?_
                  refine x_v (r_nc rfl) rfl ?_
                  refine x_v (r_fa fo56_0 rfl) rfl ?_
                  refine x_v (r_fa fo54_0 rfl) rfl ?_
                  refine x_v (r_ld ty3 rfl pK (by rfl)) rfl ?_
                  refine x_v (yv (v' := .int .i64 ((n + 1 : Nat) : Int)) (r_add rfl rfl (by omega)) (by congr 1)) rfl ?_
                  refine x_v (r_nc rfl) rfl ?_
                  refine x_v (r_fa fo56_0 rfl) rfl ?_
                  refine x_v (r_fa fo54_0 rfl) rfl ?_
                  refine x_e (r_st ty3 rfl rfl rfl rfl rfl uD oV) ?_
                  refine XL.nil ?_
                  rw [← List.length_append, ← cells_app]
                  refine ⟨(n + 1, readS (readD D (nameB (n + 1))).1, rc ++ L2, A96, c96), ?_, ?_, ⟨rfl, rfl, rfl, rfl, rfl, rfl, trivial⟩, gS⟩
                  · exact ⟨by dsimp only; omega, by dsimp only; omega, by dsimp only; rw [hch, show 999999999 - n = (999999999 - (n + 1)) + 1 by omega, chainL, hfl], readS_ok hok _, by dsimp only; rw [(follows_kind hfl).1]; decide, fun k h1 h2 => by by_cases hk : k = n + 1; (subst hk; exact follows_there hfl); exact hth k h1 (by dsimp only at h2; omega), by have := (follows_kind hfl).2; have := hao2.1; dsimp only; rw [List.length_append, show n + 1 - first = (n - first) + 1 by omega, Nat.add_mul]; omega⟩
                  · dsimp only; omega
            · refine XC.exit rfl ?_
              exact ⟨(n, a2, rc, A, c), ⟨by rw [hch, show 999999999 - n = 0 by omega]; rfl, hao2, hak2, hrl2, h2n⟩, ⟨rfl, rfl, rfl, rfl, rfl, rfl, trivial⟩, gS⟩
          · rintro ⟨n, a2, rc, A, c⟩ ⟨hch, hao2, hak2, hrl2, h2n⟩
            dsimp only at hch hao2 hak2 hrl2 h2n ⊢
            have hf0 : 0 < first := by omega
            rw [if_pos hf0, hch] at hCh
            rw [hCh] at hTl
            rw [if_pos hf0] at hTl
            dsimp only at hTl
            refine XC.seq fun K33 hK33 => ?_
            refine XC.region ?_
            refine x_v (r_fa fo59_0 rfl) rfl ?_
            refine x_v (r_ld ty9 rfl pK (by rfl)) rfl ?_
            refine x_c (r_call0 (args := [_]) ⟨rfl, rfl⟩ (scan_tr a2.bytes (blk b27 56 [.int .i64 (n : Int), .int .i64 0, .bool false, .pointer (some ⟨d, 0, none⟩), .int .i64 (first : Int)] :: blk b7 59 [str a2.bytes, .int .i64 a2.kind, str a2.base, .int .i64 a2.behind] :: sl A rc.length c 9 1 (cells sv rc) :: sl A29 N.length c29 9 1 (cells sv N) :: dsk d D :: Fr) (by have := hao2.1; omega)) gS) rfl ?_
            rintro _ _ ⟨A5, c5, hv5, hRs⟩
            generalize hS : scanF a2.bytes = S at hv5 hRs hTl
            have hS0 := hao2.2 hak2
            have hSl := scanF_len _ a2.bytes (Nat.le_refl _)
            rw [hS] at hS0 hSl
            obtain ⟨SL, se⟩ := S
            dsimp only at hv5 hRs hTl hS0 hSl
            obtain ⟨y, L2, rfl⟩ : ∃ y L2, SL = y :: L2 := List.exists_cons_of_length_pos hS0
            subst hv5
            rw [hRs]
            refine x_v (r_mv rfl) rfl ?_
            refine x_v (r_ex rfl rfl) rfl ?_
            refine x_v (r_ex rfl rfl) rfl ?_
            refine x_v (r_as rfl) rfl ?_
            refine x_v (r_as rfl) rfl ?_
            refine XL.nil ?_
            refine hK33 _ _ ?_
            refine XC.keep [(0, _), (2, _), (3, _), (4, _), (6, _), (7, _), (15, _), (16, _)] ⟨rfl, rfl, rfl, rfl, rfl, rfl, rfl, rfl, trivial⟩ ?_
            refine XC.slnn (pK : Pick _ (sl A5 (y :: L2).length c5 9 1 (cells sv (y :: L2))) _) fun hl1 hl2 => ?_
            refine XC.sllen (pK : Pick _ (sl A5 (y :: L2).length c5 9 1 (cells sv (y :: L2))) _) fun hl3 hl4 hl5 => ?_
            have hrd : Rdb W0 (sl A5 (y :: L2).length c5 9 1 (cells sv (y :: L2)) :: Fr) (if c5 = 1 then A5 else A5.map (·.add (1 * 1))) L2.length 1 (cells sv L2) := rd_cut1 (Rdb.of_sl pK hl1 hl2) hl4
            refine XC.draw (blk b7 59 [str a2.bytes, .int .i64 a2.kind, str a2.base, .int .i64 a2.behind] :: []) true [(0, false), (1, false), (2, false), (3, false), (4, false), (6, false), (7, false), (8, false), (9, false), (10, false), (11, false), (5, true), (12, false), (13, false), (14, false), (15, false), (16, true), (17, false), (18, false), (19, false), (20, true)] (by kernel_rfl) (by kernel_rfl) ?_
            refine y_v rfl (r_mv rfl) gT rfl ?_
            refine y_v rfl (r_mv rfl) gT rfl ?_
            refine y_v rfl (r_mv rfl) gT rfl ?_
            refine y_v rfl (r_mv rfl) gT rfl ?_
            refine y_v rfl (yv (v' := .slice (if c5 = 1 then A5 else A5.map (·.add (1 * 1))) L2.length (c5 - 1)) (r_sll 1 (y :: L2).length Tryz.underlying22 ty9 rfl ⟨_, by rfl⟩ rfl (by simp) hl4) (by congr 1)) gT rfl ?_
            refine y_v rfl (r_mv rfl) gT rfl ?_
            refine y_v rfl (r_mv rfl) gT rfl ?_
            refine y_v rfl (r_fa fo59_0 rfl) gT rfl ?_
            refine y_v rfl (r_ld ty9 rfl pK (by rfl)) gT rfl ?_
            refine y_v rfl (r_lens Tryz.underlying9 rfl) gT rfl ?_
            refine y_v rfl (r_lt rfl rfl) gT rfl ?_
            refine y_a rfl (r_app Tryz.underlying22 ty9 rfl (by decide) rfl rfl pK (hrd.mono (fun w hw => Gets.own gS hw)) (cells_one' sv_one _) (by have := hao2.1; simp only [List.length_cons] at hSl; unfold maxLen; omega) (by have := hao2.1; simp only [List.length_cons] at hSl; omega)) (fun _ _ _ h => Gets.own gS h) rfl fun ⟨A118, c118⟩ => ?_
            refine y_v rfl (r_as rfl) gT rfl ?_
            refine y_v rfl (r_nc rfl) gT rfl ?_
            refine y_v rfl (r_fa fo56_0 rfl) gT rfl ?_
            refine y_v rfl (r_fa fo54_1 rfl) gT rfl ?_
            refine y_e rfl (r_st ty3 rfl rfl rfl rfl rfl uD oV) (fun _ _ h => Gets.own gS h) ?_
            refine y_v rfl (r_nc rfl) gT rfl ?_
            refine y_v rfl (r_fa fo56_0 rfl) gT rfl ?_
            refine y_v rfl (r_fa fo54_2 rfl) gT rfl ?_
            refine y_e rfl (r_st ty4 rfl rfl rfl rfl rfl uD oV) (fun h => absurd h (by decide)) ?_
            refine XH.nil ?_
            rw [← List.length_append, ← cells_app]
            exact ⟨(n, se, decide ((se : Int) < (a2.bytes.length : Int)), rc ++ L2, A118, c118), ⟨by rw [hCh], by rw [hTl]; simp, h2n⟩, ⟨rfl, rfl, rfl, rfl, rfl, trivial⟩, gS⟩
        · refine XC.skip ?_
          exact ⟨(first, 0, false, [], none, 0), ⟨by rw [hCh, if_neg (by omega)]; dsimp only; omega, by rw [hTl, if_neg (by omega)], hf9⟩, ⟨rfl, rfl, rfl, rfl, rfl, trivial⟩, gS⟩
      · rintro ⟨n, gd, tn, rc, A, c⟩ ⟨hc1n, htd, h2n⟩
        dsimp only at hc1n htd h2n ⊢
        rw [hc1n, htd] at hO
        dsimp only at hO
        refine XC.seq fun K34 hK34 => ?_
        refine XC.seq fun K35 hK35 => ?_
        refine XC.region ?_
        refine x_v (r_mv rfl) rfl ?_
        refine x_v (r_lensl Tryz.underlying22 rfl) rfl ?_
        refine x_v (r_mv rfl) rfl ?_
        refine XL.nil ?_
        refine hK35 _ _ ?_
        refine XC.keep [(0, _), (2, _), (3, _), (4, _), (131, _), (132, _), (133, _)] ⟨rfl, rfl, rfl, rfl, rfl, rfl, rfl, trivial⟩ ?_
        refine XC.block ?_
        refine XC.loop (σ := Nat × Dk) (fun q => [(0, .pointer (some ⟨d, 0, none⟩)), (2, .pointer (some ⟨b27, 0, none⟩)), (3, str a.base), (4, .slice A rc.length c), (131, .slice A29 N.length c29), (132, .int .i64 (N.length : Int)), (133, .int .i64 (q.1 : Int))]) (fun q => blk b27 56 [.int .i64 (n : Int), .int .i64 (gd : Int), .bool tn, .pointer (some ⟨d, 0, none⟩), .int .i64 (first : Int)] :: sl A rc.length c 9 1 (cells sv rc) :: sl A29 N.length c29 9 1 (cells sv N) :: dsk d q.2 :: Fr) (fun q => q.1 ≤ N.length ∧ cleanL first n N D = cleanL first n (N.drop q.1) q.2 ∧ phi q.2 ≤ phi D) (fun q => N.length - q.1) (0, D) ?_ ⟨rfl, rfl, rfl, rfl, rfl, rfl, rfl, trivial⟩ gS ?_
        · exact ⟨Nat.zero_le _, rfl, Nat.le_refl _⟩
        rintro ⟨i, D2⟩ ⟨hi, hcl, hph⟩
        dsimp only at hi hcl hph ⊢
        have hds2 : D2.steps ≤ phi D2 := by unfold phi; omega
        refine XC.seq fun K36 hK36 => ?_
        refine XC.region ?_
        refine x_v (r_lt rfl rfl) rfl ?_
        refine XL.nil ?_
        refine hK36 _ _ ?_
        refine XC.keep [(0, _), (2, _), (3, _), (4, _), (131, _), (132, _), (133, _), (134, _)] ⟨rfl, rfl, rfl, rfl, rfl, rfl, rfl, rfl, trivial⟩ ?_
        refine XC.seq fun K37 hK37 => ?_
        refine XC.cond_d rfl (fun hc10 => ?_) (fun hc10 => ?_)
        · refine XC.skip ?_
          refine hK37 _ _ ?_
          refine XC.keep [(0, _), (2, _), (3, _), (4, _), (131, _), (132, _), (133, _)] ⟨rfl, rfl, rfl, rfl, rfl, rfl, rfl, trivial⟩ ?_
          refine XC.seq fun K38 hK38 => ?_
          refine XC.block ?_
          refine XC.seq fun K39 hK39 => ?_
          obtain ⟨x, hx⟩ : ∃ x, N[i]? = some x := ⟨_, List.getElem?_eq_getElem (by omega)⟩
          have hxl := hNl x (List.mem_of_getElem? hx)
          refine XC.slnn (pK : Pick _ (sl A29 N.length c29 9 1 (cells sv N)) _) fun hl hA => ?_
          obtain ⟨g, rfl⟩ := hA (by omega)
          have hrN := Rdb.of_sl (W0 := W0) (pK : Pick (sl (some ⟨g, 0, none⟩) N.length c29 9 1 (cells sv N) :: Fr) (sl (some ⟨g, 0, none⟩) N.length c29 9 1 (cells sv N)) _) hl (fun _ => ⟨g, rfl⟩)
          obtain ⟨g2, o2, he2, hat⟩ := hrN.at_ (by omega)
          injection he2 with he2
          injection he2 with hg2 ho2
          subst hg2
          subst ho2
          have hdr : N.drop i = x :: N.drop (i + 1) := by rw [List.drop_eq_getElem_cons (show i < N.length by omega), (List.getElem?_eq_some_iff.1 hx).2]
          have hrp := removeD_phi D2 x
          refine XC.region ?_
          refine x_v (r_ia (k := i) Tryz.underlying22 ty9 rfl rfl (by omega) (by omega)) rfl ?_
          refine x_v (r_ldr (v := str x) ty9 rfl (fun w hw => hat w (Gets.own gS hw) (i * 1) _ (by rw [Nat.mul_one]; exact sv_get hx))) rfl ?_
          refine x_v (r_as rfl) rfl ?_
          refine XL.nil ?_
          refine hK39 _ _ ?_
          refine XC.keep [(0, _), (2, _), (3, _), (4, _), (18, _), (131, _), (132, _), (133, _)] ⟨rfl, rfl, rfl, rfl, rfl, rfl, rfl, rfl, trivial⟩ ?_
          refine XC.seq fun K40 hK40 => ?_
          refine XC.region ?_
          refine x_v (r_mv rfl) rfl ?_
          refine x_c (r_call0 (args := [_]) ⟨rfl, rfl⟩ (number_tr hL x hxl (blk b27 56 [.int .i64 (n : Int), .int .i64 (gd : Int), .bool tn, .pointer (some ⟨d, 0, none⟩), .int .i64 (first : Int)] :: sl A rc.length c 9 1 (cells sv rc) :: sl (some ⟨g, 0, none⟩) N.length c29 9 1 (cells sv N) :: dsk d D2 :: Fr)) gS) rfl ?_
          rintro _ _ ⟨rfl, hRs⟩
          rw [hRs]
          refine x_v (r_as rfl) rfl ?_
          refine XL.nil ?_
          refine hK40 _ _ ?_
          refine XC.keep [(0, _), (2, _), (3, _), (4, _), (18, _), (19, _), (131, _), (132, _), (133, _)] ⟨rfl, rfl, rfl, rfl, rfl, rfl, rfl, rfl, rfl, trivial⟩ ?_
          refine XC.seq fun K41 hK41 => ?_
          refine XC.region ?_
          refine x_v (r_mv rfl) rfl ?_
          refine x_v (r_eq rfl rfl) rfl ?_
          refine x_v (r_mv rfl) rfl ?_
          refine XL.splitd 141 rfl (fun hg141 => ?_) (fun hg141 => ?_)
          · refine x_unwant rfl rfl rfl rfl rfl ?_
            refine x_unwant rfl rfl rfl rfl rfl ?_
            refine x_unwant rfl rfl rfl rfl rfl ?_
            refine x_unwant rfl rfl rfl rfl rfl ?_
            refine x_unwant rfl rfl rfl rfl rfl ?_
            refine x_unwant rfl rfl rfl rfl rfl ?_
            refine x_v (r_pk_t rfl rfl) rfl ?_
            refine x_v (r_mv rfl) rfl ?_
            refine x_unwant rfl rfl rfl rfl rfl ?_
            refine x_unwant rfl rfl rfl rfl rfl ?_
            refine x_unwant rfl rfl rfl rfl rfl ?_
            refine x_unwant rfl rfl rfl rfl rfl ?_
            refine x_unwant rfl rfl rfl rfl rfl ?_
            refine x_unwant rfl rfl rfl rfl rfl ?_
            refine x_unwant rfl rfl rfl rfl rfl ?_
            refine x_v (r_pk_t rfl rfl) rfl ?_
            refine XL.nil ?_
            refine hK41 _ _ ?_
            refine XC.keep [(0, _), (2, _), (3, _), (4, _), (18, _), (131, _), (132, _), (133, _), (157, _)] ⟨rfl, rfl, rfl, rfl, rfl, rfl, rfl, rfl, rfl, trivial⟩ ?_
            refine XC.cond_t rfl ?_
            refine XC.seq fun K42 hK42 => ?_
            refine XC.region ?_
            refine x_v (r_mv rfl) rfl ?_
            refine x_v (r_mv rfl) rfl ?_
            refine x_c (r_call0 (args := [_, _]) ⟨rfl, rfl, rfl⟩ (remove_tr d D2 x (blk b27 56 [.int .i64 (n : Int), .int .i64 (gd : Int), .bool tn, .pointer (some ⟨d, 0, none⟩), .int .i64 (first : Int)] :: sl A rc.length c 9 1 (cells sv rc) :: sl (some ⟨g, 0, none⟩) N.length c29 9 1 (cells sv N) :: Fr) (by omega)) gS) rfl ?_
            rintro _ _ ⟨rfl, hRs⟩
            rw [hRs]
            refine x_v (r_as rfl) rfl ?_
            refine XL.nil ?_
            refine hK42 _ _ ?_
            refine XC.keep [(0, _), (2, _), (3, _), (4, _), (20, _), (131, _), (132, _), (133, _)] ⟨rfl, rfl, rfl, rfl, rfl, rfl, rfl, rfl, trivial⟩ ?_
            refine XC.seq fun K43 hK43 => ?_
            refine XC.region ?_
            refine x_v (r_mv rfl) rfl ?_
            refine x_v (r_ne rfl rfl) rfl ?_
            refine XL.nil ?_
            refine hK43 _ _ ?_
            refine XC.keep [(0, _), (2, _), (3, _), (4, _), (20, _), (131, _), (132, _), (133, _), (162, _)] ⟨rfl, rfl, rfl, rfl, rfl, rfl, rfl, rfl, rfl, trivial⟩ ?_
            refine XC.cond_d rfl (fun hc12 => ?_) (fun hc12 => ?_)
            · refine XC.seq fun K44 hK44 => ?_
              refine XC.region ?_
              refine x_v (r_mv rfl) rfl ?_
              refine x_v (r_as rfl) rfl ?_
              refine x_v (r_as rfl) rfl ?_
              refine x_v (r_as rfl) rfl ?_
              refine x_v (r_as rfl) rfl ?_
              refine XL.nil ?_
              refine hK44 _ _ ?_
              refine XC.keep [(2, _), (3, _), (4, _), (5, _)] ⟨rfl, rfl, rfl, rfl, trivial⟩ ?_
              refine XC.ret ?_
              unfold OpenV
              have hcc : cleanL first n N D = removeD D2 x := by rw [hcl, hdr, cleanL, if_pos (by omega), if_pos (by assumption)]
              rw [hcc, if_pos (by assumption)] at hO
              rw [hO]
              exact fin4 rfl rfl rfl rfl (⟨rfl, rfl⟩) gS
            · refine XC.skip ?_
              refine hK38 _ _ ?_
              refine XC.keep [(0, _), (2, _), (3, _), (4, _), (131, _), (132, _), (133, _)] ⟨rfl, rfl, rfl, rfl, rfl, rfl, rfl, trivial⟩ ?_
              refine XC.region ?_
              refine x_v (r_add rfl rfl (by omega)) rfl ?_
              refine x_v (r_mv rfl) rfl ?_
              refine XL.nil ?_
              refine ⟨(i + 1, (removeD D2 x).2), ?_, ?_, ⟨rfl, rfl, rfl, rfl, rfl, rfl, rfl, trivial⟩, gS⟩
              · exact ⟨by dsimp only; omega, by dsimp only; rw [hcl, hdr, cleanL, if_pos (by omega), if_neg (by assumption)], by dsimp only; omega⟩
              · dsimp only; omega
          · refine x_want rfl rfl rfl ?_
            refine x_v (r_mv rfl) rfl ?_
            refine x_want rfl rfl rfl ?_
            refine x_v (r_mv rfl) rfl ?_
            refine x_want rfl rfl rfl ?_
            refine x_v (r_nc rfl) rfl ?_
            refine x_want rfl rfl rfl ?_
            refine x_v (r_fa fo56_2 rfl) rfl ?_
            refine x_want rfl rfl rfl ?_
            refine x_v (r_ld ty3 rfl pK (by rfl)) rfl ?_
            refine x_want rfl rfl rfl ?_
            refine x_v (r_lt rfl rfl) rfl ?_
            refine x_v (r_pk_f rfl rfl) rfl ?_
            refine x_v (r_mv rfl) rfl ?_
            refine XL.splitd 149 rfl (fun hg149 => ?_) (fun hg149 => ?_)
            · refine x_unwant rfl rfl rfl rfl rfl ?_
              refine x_unwant rfl rfl rfl rfl rfl ?_
              refine x_unwant rfl rfl rfl rfl rfl ?_
              refine x_unwant rfl rfl rfl rfl rfl ?_
              refine x_unwant rfl rfl rfl rfl rfl ?_
              refine x_unwant rfl rfl rfl rfl rfl ?_
              refine x_unwant rfl rfl rfl rfl rfl ?_
              refine x_v (r_pk_t rfl rfl) rfl ?_
              refine XL.nil ?_
              refine hK41 _ _ ?_
              refine XC.keep [(0, _), (2, _), (3, _), (4, _), (18, _), (131, _), (132, _), (133, _), (157, _)] ⟨rfl, rfl, rfl, rfl, rfl, rfl, rfl, rfl, rfl, trivial⟩ ?_
              refine XC.cond_t rfl ?_
              refine XC.seq fun K45 hK45 => ?_
              refine XC.region ?_
              refine x_v (r_mv rfl) rfl ?_
              refine x_v (r_mv rfl) rfl ?_
              refine x_c (r_call0 (args := [_, _]) ⟨rfl, rfl, rfl⟩ (remove_tr d D2 x (blk b27 56 [.int .i64 (n : Int), .int .i64 (gd : Int), .bool tn, .pointer (some ⟨d, 0, none⟩), .int .i64 (first : Int)] :: sl A rc.length c 9 1 (cells sv rc) :: sl (some ⟨g, 0, none⟩) N.length c29 9 1 (cells sv N) :: Fr) (by omega)) gS) rfl ?_
              rintro _ _ ⟨rfl, hRs⟩
              rw [hRs]
              refine x_v (r_as rfl) rfl ?_
              refine XL.nil ?_
              refine hK45 _ _ ?_
              refine XC.keep [(0, _), (2, _), (3, _), (4, _), (20, _), (131, _), (132, _), (133, _)] ⟨rfl, rfl, rfl, rfl, rfl, rfl, rfl, rfl, trivial⟩ ?_
              refine XC.seq fun K46 hK46 => ?_
              refine XC.region ?_
              refine x_v (r_mv rfl) rfl ?_
              refine x_v (r_ne rfl rfl) rfl ?_
              refine XL.nil ?_
              refine hK46 _ _ ?_
              refine XC.keep [(0, _), (2, _), (3, _), (4, _), (20, _), (131, _), (132, _), (133, _), (162, _)] ⟨rfl, rfl, rfl, rfl, rfl, rfl, rfl, rfl, rfl, trivial⟩ ?_
              refine XC.cond_d rfl (fun hc14 => ?_) (fun hc14 => ?_)
              · refine XC.seq fun K47 hK47 => ?_
                refine XC.region ?_
                refine x_v (r_mv rfl) rfl ?_
                refine x_v (r_as rfl) rfl ?_
                refine x_v (r_as rfl) rfl ?_
                refine x_v (r_as rfl) rfl ?_
                refine x_v (r_as rfl) rfl ?_
                refine XL.nil ?_
                refine hK47 _ _ ?_
                refine XC.keep [(2, _), (3, _), (4, _), (5, _)] ⟨rfl, rfl, rfl, rfl, trivial⟩ ?_
                refine XC.ret ?_
                unfold OpenV
                have hcc : cleanL first n N D = removeD D2 x := by rw [hcl, hdr, cleanL, if_pos (by omega), if_pos (by assumption)]
                rw [hcc, if_pos (by assumption)] at hO
                rw [hO]
                exact fin4 rfl rfl rfl rfl (⟨rfl, rfl⟩) gS
              · refine XC.skip ?_
                refine hK38 _ _ ?_
                refine XC.keep [(0, _), (2, _), (3, _), (4, _), (131, _), (132, _), (133, _)] ⟨rfl, rfl, rfl, rfl, rfl, rfl, rfl, trivial⟩ ?_
                refine XC.region ?_
                refine x_v (r_add rfl rfl (by omega)) rfl ?_
                refine x_v (r_mv rfl) rfl ?_
                refine XL.nil ?_
                refine ⟨(i + 1, (removeD D2 x).2), ?_, ?_, ⟨rfl, rfl, rfl, rfl, rfl, rfl, rfl, trivial⟩, gS⟩
                · exact ⟨by dsimp only; omega, by dsimp only; rw [hcl, hdr, cleanL, if_pos (by omega), if_neg (by assumption)], by dsimp only; omega⟩
                · dsimp only; omega
            · refine x_want rfl rfl rfl ?_
              refine x_v (r_mv rfl) rfl ?_
              refine x_want rfl rfl rfl ?_
              refine x_v (r_mv rfl) rfl ?_
              refine x_want rfl rfl rfl ?_
              refine x_v (r_nc rfl) rfl ?_
              refine x_want rfl rfl rfl ?_
              refine x_v (r_fa fo56_0 rfl) rfl ?_
              refine x_want rfl rfl rfl ?_
              refine x_v (r_fa fo54_0 rfl) rfl ?_
              refine x_want rfl rfl rfl ?_
              refine x_v (r_ld ty3 rfl pK (by rfl)) rfl ?_
              refine x_want rfl rfl rfl ?_
              refine x_v (r_gt rfl rfl) rfl ?_
              refine x_v (r_pk_f rfl rfl) rfl ?_
              refine XL.nil ?_
              refine hK41 _ _ ?_
              refine XC.keep [(0, _), (2, _), (3, _), (4, _), (18, _), (131, _), (132, _), (133, _), (157, _)] ⟨rfl, rfl, rfl, rfl, rfl, rfl, rfl, rfl, rfl, trivial⟩ ?_
              refine XC.cond_d rfl (fun hc15 => ?_) (fun hc15 => ?_)
              · refine XC.seq fun K48 hK48 => ?_
                refine XC.region ?_
                refine x_v (r_mv rfl) rfl ?_
                refine x_v (r_mv rfl) rfl ?_
                refine x_c (r_call0 (args := [_, _]) ⟨rfl, rfl, rfl⟩ (remove_tr d D2 x (blk b27 56 [.int .i64 (n : Int), .int .i64 (gd : Int), .bool tn, .pointer (some ⟨d, 0, none⟩), .int .i64 (first : Int)] :: sl A rc.length c 9 1 (cells sv rc) :: sl (some ⟨g, 0, none⟩) N.length c29 9 1 (cells sv N) :: Fr) (by omega)) gS) rfl ?_
                rintro _ _ ⟨rfl, hRs⟩
                rw [hRs]
                refine x_v (r_as rfl) rfl ?_
                refine XL.nil ?_
                refine hK48 _ _ ?_
                refine XC.keep [(0, _), (2, _), (3, _), (4, _), (20, _), (131, _), (132, _), (133, _)] ⟨rfl, rfl, rfl, rfl, rfl, rfl, rfl, rfl, trivial⟩ ?_
                refine XC.seq fun K49 hK49 => ?_
                refine XC.region ?_
                refine x_v (r_mv rfl) rfl ?_
                refine x_v (r_ne rfl rfl) rfl ?_
                refine XL.nil ?_
                refine hK49 _ _ ?_
                refine XC.keep [(0, _), (2, _), (3, _), (4, _), (20, _), (131, _), (132, _), (133, _), (162, _)] ⟨rfl, rfl, rfl, rfl, rfl, rfl, rfl, rfl, rfl, trivial⟩ ?_
                refine XC.cond_d rfl (fun hc16 => ?_) (fun hc16 => ?_)
                · refine XC.seq fun K50 hK50 => ?_
                  refine XC.region ?_
                  refine x_v (r_mv rfl) rfl ?_
                  refine x_v (r_as rfl) rfl ?_
                  refine x_v (r_as rfl) rfl ?_
                  refine x_v (r_as rfl) rfl ?_
                  refine x_v (r_as rfl) rfl ?_
                  refine XL.nil ?_
                  refine hK50 _ _ ?_
                  refine XC.keep [(2, _), (3, _), (4, _), (5, _)] ⟨rfl, rfl, rfl, rfl, trivial⟩ ?_
                  refine XC.ret ?_
                  unfold OpenV
                  have hcc : cleanL first n N D = removeD D2 x := by rw [hcl, hdr, cleanL, if_pos (by omega), if_pos (by assumption)]
                  rw [hcc, if_pos (by assumption)] at hO
                  rw [hO]
                  exact fin4 rfl rfl rfl rfl (⟨rfl, rfl⟩) gS
                · refine XC.skip ?_
                  refine hK38 _ _ ?_
                  refine XC.keep [(0, _), (2, _), (3, _), (4, _), (131, _), (132, _), (133, _)] ⟨rfl, rfl, rfl, rfl, rfl, rfl, rfl, trivial⟩ ?_
                  refine XC.region ?_
                  refine x_v (r_add rfl rfl (by omega)) rfl ?_
                  refine x_v (r_mv rfl) rfl ?_
                  refine XL.nil ?_
                  refine ⟨(i + 1, (removeD D2 x).2), ?_, ?_, ⟨rfl, rfl, rfl, rfl, rfl, rfl, rfl, trivial⟩, gS⟩
                  · exact ⟨by dsimp only; omega, by dsimp only; rw [hcl, hdr, cleanL, if_pos (by omega), if_neg (by assumption)], by dsimp only; omega⟩
                  · dsimp only; omega
              · refine XC.skip ?_
                refine hK38 _ _ ?_
                refine XC.keep [(0, _), (2, _), (3, _), (4, _), (131, _), (132, _), (133, _)] ⟨rfl, rfl, rfl, rfl, rfl, rfl, rfl, trivial⟩ ?_
                refine XC.region ?_
                refine x_v (r_add rfl rfl (by omega)) rfl ?_
                refine x_v (r_mv rfl) rfl ?_
                refine XL.nil ?_
                refine ⟨(i + 1, D2), ?_, ?_, ⟨rfl, rfl, rfl, rfl, rfl, rfl, rfl, trivial⟩, gS⟩
                · exact ⟨by dsimp only; omega, by dsimp only; rw [hcl, hdr, cleanL, if_neg (by omega)], hph⟩
                · dsimp only; omega
        · refine XC.exit rfl ?_
          refine hK34 _ _ ?_
          refine XC.keep [(2, _), (3, _), (4, _)] ⟨rfl, rfl, rfl, trivial⟩ ?_
          refine XC.seq fun K51 hK51 => ?_
          obtain rfl : i = N.length := by omega
          rw [hcl, List.drop_of_length_le (Nat.le_refl _), cleanL] at hO
          rw [if_neg (fun h => h rfl)] at hO
          refine XC.region ?_
          refine x_v (r_mv rfl) rfl ?_
          refine x_v (r_mv rfl) rfl ?_
          refine x_v (r_mv rfl) rfl ?_
          refine x_v (r_as rfl) rfl ?_
          refine x_v (r_as rfl) rfl ?_
          refine x_v (r_as rfl) rfl ?_
          refine x_v (r_as rfl) rfl ?_
          refine XL.nil ?_
          refine hK51 _ _ ?_
          refine XC.keep [(2, _), (3, _), (4, _), (5, _)] ⟨rfl, rfl, rfl, rfl, trivial⟩ ?_
          refine XC.ret ?_
          unfold OpenV
          rw [hO]
          exact fin4 rfl rfl rfl rfl (⟨b27, A, c, rfl, rfl⟩) gS
end Go.Proofs.YtcmdmhmgffjknaaGreatDoor

/- Letters: the law function PostApart. -/
import Derived.Test.YtdppjmdjmbbclaaPost13
namespace Go.Proofs.Ytdppjmdjmbbclaa
open Go.Sx
set_option linter.unusedVariables false

theorem apart_tr {W0 : World} {Fr : List HP} (m : Int) (SA : Option Addr) (sc : Nat) (S : List Od) (h : OkS W0 SA S) (SB : Option Addr) (sd : Nat) (S' : List Od) (h' : OkS W0 SB S') :
    Tr W0 Try.prog 5 [.int .i64 m, .slice SA S.length sc, .slice SB S'.length sd] Fr (fun v _ => v = .bool true) := by
  obtain ⟨hS, hok, hle⟩ := h
  obtain ⟨hS', hok', hle'⟩ := h'
  by_cases hm : 1 ≤ m ∧ m ≤ 512
  · refine Entry.tr (N := 87) (rs := [.tmp 6]) ⟨_, Try.func5, rfl, by kernel_rfl, rfl, rfl⟩ rfl ?_
    refine XC.seq fun K1 hK1 => ?_
    refine XC.region ?_
    refine x_v (r_as rfl) rfl ?_
    refine XL.nil ?_
    refine hK1 _ _ ?_
    refine XC.keep [(0, _), (1, _), (2, _)] ⟨rfl, rfl, rfl, trivial⟩ ?_
    refine XC.seq fun K2 hK2 => ?_
    refine XC.region ?_
    refine x_v (r_mv rfl) rfl ?_
    refine x_c (r_call0 (args := [_]) ⟨rfl, rfl⟩ (newq_tr m) (by repeat (first | exact Gets.done _ | exact Gets.all _ | (apply Gets.step; focus ((repeat (first | exact Pick.head _ _ | apply Pick.tail)); done)) | apply Gets.drop))) rfl ?_
    rintro _ _ hq
    rcases hq with ⟨h, _⟩ | ⟨_, b, rfl, rfl⟩
    · omega
    refine x_v (r_mv rfl) rfl ?_
    refine x_v (r_ex rfl rfl) rfl ?_
    refine x_v (r_ex rfl rfl) rfl ?_
    refine x_v (r_as rfl) rfl ?_
    refine x_v (r_as rfl) rfl ?_
    refine XL.nil ?_
    refine hK2 _ _ ?_
    refine XC.keep [(0, _), (1, _), (2, _), (7, _), (8, _)] ⟨rfl, rfl, rfl, rfl, rfl, trivial⟩ ?_
    refine XC.seq fun K3 hK3 => ?_
    refine XC.region ?_
    refine x_v (r_mv rfl) rfl ?_
    refine x_c (r_call0 (args := [_]) ⟨rfl, rfl⟩ (rnewq_tr m) (by repeat (first | exact Gets.done _ | exact Gets.all _ | (apply Gets.step; focus ((repeat (first | exact Pick.head _ _ | apply Pick.tail)); done)) | apply Gets.drop))) rfl ?_
    rintro _ _ hq
    rcases hq with ⟨h, _⟩ | ⟨_, bw, rfl, rfl⟩
    · omega
    refine x_v (r_mv rfl) rfl ?_
    refine x_v (r_ex rfl rfl) rfl ?_
    refine x_v (r_ex rfl rfl) rfl ?_
    refine x_v (r_as rfl) rfl ?_
    refine x_v (r_as rfl) rfl ?_
    refine XL.nil ?_
    refine hK3 _ _ ?_
    refine XC.keep [(1, _), (2, _), (7, _), (8, _), (9, _)] ⟨rfl, rfl, rfl, rfl, rfl, trivial⟩ ?_
    refine XC.seq fun K4 hK4 => ?_
    refine XC.seq fun K5 hK5 => ?_
    refine XC.region ?_
    refine x_c (r_call0 (args := []) rfl (awake_tr) (by repeat (first | exact Gets.done _ | exact Gets.all _ | (apply Gets.step; focus ((repeat (first | exact Pick.head _ _ | apply Pick.tail)); done)) | apply Gets.drop))) rfl ?_
    rintro _ _ ⟨rfl, rfl⟩
    refine x_v (r_not rfl) rfl ?_
    refine x_v (r_mv rfl) rfl ?_
    refine x_want rfl rfl rfl ?_
    refine x_v (r_mv rfl) rfl ?_
    refine x_want rfl rfl rfl ?_
    refine x_v (r_ne rfl rfl) rfl ?_
    refine x_v (r_pk_f rfl rfl) rfl ?_
    refine x_v (r_mv rfl) rfl ?_
    refine x_want rfl rfl rfl ?_
    refine x_v (r_mv rfl) rfl ?_
    refine x_want rfl rfl rfl ?_
    refine x_c (r_call0 (args := [_]) ⟨rfl, rfl⟩ (great_tr SA sc S hS hok hle) (by repeat (first | exact Gets.done _ | exact Gets.all _ | (apply Gets.step; focus ((repeat (first | exact Pick.head _ _ | apply Pick.tail)); done)) | apply Gets.drop))) rfl ?_
    rintro _ _ ⟨⟨g1, rfl, hgr1⟩, rfl⟩
    refine x_v (r_pk_f rfl rfl) rfl ?_
    refine x_v (r_mv rfl) rfl ?_
    refine XL.split 37 rfl (fun hg37 => ?_) (fun hg37 => ?_)
    · refine x_unwant rfl rfl rfl rfl rfl ?_
      refine x_unwant rfl rfl rfl rfl rfl ?_
      refine x_v (r_pk_t rfl rfl) rfl ?_
      refine XL.nil ?_
      refine hK5 _ _ ?_
      refine XC.keep [(1, _), (2, _), (7, _), (9, _), (40, _)] ⟨rfl, rfl, rfl, rfl, rfl, trivial⟩ ?_
      refine XC.cond_t rfl ?_
      refine XC.seq fun K6 hK6 => ?_
      refine XC.region ?_
      refine x_c (r_call0 (args := []) rfl (awake_tr) (by repeat (first | exact Gets.done _ | exact Gets.all _ | (apply Gets.step; focus ((repeat (first | exact Pick.head _ _ | apply Pick.tail)); done)) | apply Gets.drop))) rfl ?_
      rintro _ _ ⟨rfl, rfl⟩
      refine x_v (r_as rfl) rfl ?_
      refine XL.nil ?_
      refine hK6 _ _ ?_
      refine XC.keep [(6, _)] ⟨rfl, trivial⟩ ?_
      refine XC.ret ?_
      exact fin1 rfl (rfl) (by repeat (first | exact Gets.done _ | exact Gets.all _ | (apply Gets.step; focus ((repeat (first | exact Pick.head _ _ | apply Pick.tail)); done)) | apply Gets.drop))
    · refine x_want rfl rfl rfl ?_
      refine x_v (r_mv rfl) rfl ?_
      refine x_want rfl rfl rfl ?_
      refine x_c (r_call0 (args := [_]) ⟨rfl, rfl⟩ (great_tr SB sd S' hS' hok' hle') (by repeat (first | exact Gets.done _ | exact Gets.all _ | (apply Gets.step; focus ((repeat (first | exact Pick.head _ _ | apply Pick.tail)); done)) | apply Gets.drop))) rfl ?_
      rintro _ _ ⟨⟨g2, rfl, hgr2⟩, rfl⟩
      refine x_v (r_pk_f rfl rfl) rfl ?_
      refine XL.nil ?_
      refine hK5 _ _ ?_
      refine XC.keep [(1, _), (2, _), (7, _), (9, _), (40, _)] ⟨rfl, rfl, rfl, rfl, rfl, trivial⟩ ?_
      refine XC.cond rfl (fun hc2 => ?_) (fun hc2 => ?_)
      · refine XC.seq fun K7 hK7 => ?_
        refine XC.region ?_
        refine x_c (r_call0 (args := []) rfl (awake_tr) (by repeat (first | exact Gets.done _ | exact Gets.all _ | (apply Gets.step; focus ((repeat (first | exact Pick.head _ _ | apply Pick.tail)); done)) | apply Gets.drop))) rfl ?_
        rintro _ _ ⟨rfl, rfl⟩
        refine x_v (r_as rfl) rfl ?_
        refine XL.nil ?_
        refine hK7 _ _ ?_
        refine XC.keep [(6, _)] ⟨rfl, trivial⟩ ?_
        refine XC.ret ?_
        exact fin1 rfl (rfl) (by repeat (first | exact Gets.done _ | exact Gets.all _ | (apply Gets.step; focus ((repeat (first | exact Pick.head _ _ | apply Pick.tail)); done)) | apply Gets.drop))
      · refine XC.skip ?_
        refine hK4 _ _ ?_
        refine XC.keep [(1, _), (2, _), (7, _), (9, _)] ⟨rfl, rfl, rfl, rfl, trivial⟩ ?_
        refine XC.seq fun K8 hK8 => ?_
        refine XC.seq fun K9 hK9 => ?_
        refine XC.region ?_
        refine x_v (r_mv rfl) rfl ?_
        refine x_v (r_lensl Try.underlying35 rfl) rfl ?_
        refine x_v (r_mv rfl) rfl ?_
        refine XL.nil ?_
        refine hK9 _ _ ?_
        refine XC.keep [(2, _), (7, _), (9, _), (42, _), (43, _), (44, _)] ⟨rfl, rfl, rfl, rfl, rfl, rfl, trivial⟩ ?_
        refine XC.block ?_
        refine XC.loop (σ := Nat × List Lt × (Option Addr × Nat × Option Addr × Nat)) (fun s => [(2, .slice SB S'.length sd), (7, .pointer (some ⟨b, 0, none⟩)), (9, .pointer (some ⟨bw, 0, none⟩)), (42, .slice SA S.length sc), (43, .int .i64 S.length), (44, .int .i64 (s.1 : Int))]) (fun s => PL b 71 s.2.2.1 s.2.2.2.1 m s.2.1 (PL bw 48 s.2.2.2.2.1 s.2.2.2.2.2 m s.2.1 Fr)) (fun s => s.1 ≤ S.length ∧ Fit m s.2.1) (fun s => S.length - s.1) (0, [], none, 0, none, 0) ?_ ⟨rfl, rfl, rfl, rfl, rfl, rfl, trivial⟩ (by repeat (first | exact Gets.done _ | exact Gets.all _ | (apply Gets.step; focus ((repeat (first | exact Pick.head _ _ | apply Pick.tail)); done)) | apply Gets.drop)) ?_
        · exact ⟨Nat.zero_le _, fit_nil hm⟩
        rintro ⟨i, L, A, c, A2, c2⟩ ⟨hi, hF⟩
        dsimp only at hi hF ⊢
        refine XC.seq fun K10 hK10 => ?_
        refine XC.region ?_
        refine x_v (r_lt rfl rfl) rfl ?_
        refine XL.nil ?_
        refine hK10 _ _ ?_
        refine XC.keep [(2, _), (7, _), (9, _), (42, _), (43, _), (44, _), (45, _)] ⟨rfl, rfl, rfl, rfl, rfl, rfl, rfl, trivial⟩ ?_
        refine XC.seq fun K11 hK11 => ?_
        refine XC.cond_d rfl (fun hc3 => ?_) (fun hc3 => ?_)
        · refine XC.skip ?_
          refine hK11 _ _ ?_
          refine XC.keep [(2, _), (7, _), (9, _), (42, _), (43, _), (44, _)] ⟨rfl, rfl, rfl, rfl, rfl, rfl, trivial⟩ ?_
          refine XC.seq fun K12 hK12 => ?_
          refine XC.block ?_
          refine XC.seq fun K13 hK13 => ?_
          refine XC.region ?_
          obtain ⟨o, ho⟩ : ∃ o, S[i]? = some o := ⟨_, List.getElem?_eq_getElem (by omega)⟩
          have hoo := hok o (List.mem_of_getElem? ho)
          obtain ⟨sb, so, rfl, hat⟩ := (hS _).at_ (by omega)
          refine x_v (r_ia (k := i) Try.underlying35 ty42 rfl rfl (by omega) (by omega)) rfl ?_
          refine x_v (r_ldar (l' := oc o) ty42 rfl rfl (fun w hw j u hu => by rw [Nat.add_assoc]; exact hat w hw _ u (cells_get oc_len S i o ho j u hu))) rfl ?_
          refine x_a (r_al ty42 rfl) rfl fun b12 => ?_
          refine x_e (r_st ty42 rfl rfl rfl rfl rfl (by repeat (first | exact Upd.head _ _ _ | apply Upd.tail)) (by repeat (first | exact Over.nil _ | apply Over.put | apply Over.skip))) ?_
          refine XL.nil ?_
          refine hK13 _ _ ?_
          refine XC.keep [(2, _), (7, _), (9, _), (12, _), (42, _), (43, _), (44, _)] ⟨rfl, rfl, rfl, rfl, rfl, rfl, rfl, trivial⟩ ?_
          refine XC.region ?_
          refine x_v (r_mv rfl) rfl ?_
          refine x_v (r_mv rfl) rfl ?_
          refine x_v (r_lda (l' := [_, _, _, _, _, _]) ty42 rfl (by repeat (first | exact Pick.head _ _ | apply Pick.tail)) rfl (Sub.get (by repeat (first | exact Sub.nil _ | apply Sub.take | apply Sub.skip)))) rfl ?_
          refine x_c (r_call0 (args := [_, _, _]) ⟨rfl, rfl, rfl, rfl⟩ (done_tr b bw A c A2 c2 m L o hoo (hF.len hm) ((hF.step o).len hm) hF.2 (by have := (hgr1 (by assumption)).2 o (List.mem_of_getElem? ho); omega)) (by repeat (first | exact Gets.done _ | exact Gets.all _ | (apply Gets.step; focus ((repeat (first | exact Pick.head _ _ | apply Pick.tail)); done)) | apply Gets.drop))) rfl ?_
          rintro _ _ ⟨rfl, A1, c1, A3, c3, rfl⟩
          refine XL.nil ?_
          refine hK12 _ _ ?_
          refine XC.keep [(2, _), (7, _), (9, _), (42, _), (43, _), (44, _)] ⟨rfl, rfl, rfl, rfl, rfl, rfl, trivial⟩ ?_
          refine XC.region ?_
          refine x_v (r_add rfl rfl (by omega)) rfl ?_
          refine x_v (r_mv rfl) rfl ?_
          refine XL.nil ?_
          refine ⟨(i + 1, stepL m L o, A1, c1, A3, c3), ?_, ?_, ⟨rfl, rfl, rfl, rfl, rfl, rfl, trivial⟩, (by repeat (first | exact Gets.done _ | exact Gets.all _ | (apply Gets.step; focus ((repeat (first | exact Pick.head _ _ | apply Pick.tail)); done)) | apply Gets.drop))⟩
          · exact ⟨by dsimp only; omega, hF.step o⟩
          · dsimp only; omega
        · refine XC.exit rfl ?_
          refine hK8 _ _ ?_
          refine XC.keep [(2, _), (7, _), (9, _)] ⟨rfl, rfl, rfl, trivial⟩ ?_
          refine XC.seq fun K14 hK14 => ?_
          refine XC.region ?_
          refine x_v (r_mv rfl) rfl ?_
          refine x_c (r_call0 (args := [_]) ⟨rfl, rfl⟩ (copy_tr b A c m L (hF.len hm)) (by repeat (first | exact Gets.done _ | exact Gets.all _ | (apply Gets.step; focus ((repeat (first | exact Pick.head _ _ | apply Pick.tail)); done)) | apply Gets.drop))) rfl ?_
          rintro _ _ ⟨bq, Aq, cq, rfl, rfl⟩
          refine x_v (r_as rfl) rfl ?_
          refine XL.nil ?_
          refine hK14 _ _ ?_
          refine XC.keep [(2, _), (7, _), (9, _), (13, _)] ⟨rfl, rfl, rfl, rfl, trivial⟩ ?_
          refine XC.seq fun K15 hK15 => ?_
          have hLn := hF.len hm
          unfold PL
          refine XC.slnn (A := A2) (by repeat (first | exact Pick.head _ _ | apply Pick.tail)) fun hl hA => ?_
          refine XC.draw [blk bw 48 [.slice A2 L.length c2, .int .i64 m]] false [(1, false), (2, false), (3, false), (4, false), (6, false), (7, false), (8, false), (9, false), (0, true), (5, true), (10, false), (11, true), (12, false)] (by kernel_rfl) (by kernel_rfl) ?_
          refine y_v rfl (r_mv rfl) (fun _ h => Gets.own (by repeat (first | exact Gets.done _ | exact Gets.all _ | (apply Gets.step; focus ((repeat (first | exact Pick.head _ _ | apply Pick.tail)); done)) | apply Gets.drop)) h) rfl ?_
          refine y_v rfl (r_nc rfl) (fun _ h => Gets.own (by repeat (first | exact Gets.done _ | exact Gets.all _ | (apply Gets.step; focus ((repeat (first | exact Pick.head _ _ | apply Pick.tail)); done)) | apply Gets.drop)) h) rfl ?_
          refine y_v rfl (r_fa fo48_0 rfl) (fun _ h => Gets.own (by repeat (first | exact Gets.done _ | exact Gets.all _ | (apply Gets.step; focus ((repeat (first | exact Pick.head _ _ | apply Pick.tail)); done)) | apply Gets.drop)) h) rfl ?_
          refine y_v rfl (r_ld ty22 rfl (by repeat (first | exact Pick.head _ _ | apply Pick.tail)) (by rfl)) (fun _ h => Gets.own (by repeat (first | exact Gets.done _ | exact Gets.all _ | (apply Gets.step; focus ((repeat (first | exact Pick.head _ _ | apply Pick.tail)); done)) | apply Gets.drop)) h) rfl ?_
          refine y_v rfl (r_mv rfl) (fun _ h => Gets.own (by repeat (first | exact Gets.done _ | exact Gets.all _ | (apply Gets.step; focus ((repeat (first | exact Pick.head _ _ | apply Pick.tail)); done)) | apply Gets.drop)) h) rfl ?_
          refine y_v rfl (r_nc rfl) (fun _ h => Gets.own (by repeat (first | exact Gets.done _ | exact Gets.all _ | (apply Gets.step; focus ((repeat (first | exact Pick.head _ _ | apply Pick.tail)); done)) | apply Gets.drop)) h) rfl ?_
          refine y_v rfl (r_fa fo48_1 rfl) (fun _ h => Gets.own (by repeat (first | exact Gets.done _ | exact Gets.all _ | (apply Gets.step; focus ((repeat (first | exact Pick.head _ _ | apply Pick.tail)); done)) | apply Gets.drop)) h) rfl ?_
          refine y_v rfl (r_ld ty3 rfl (by repeat (first | exact Pick.head _ _ | apply Pick.tail)) (by rfl)) (fun _ h => Gets.own (by repeat (first | exact Gets.done _ | exact Gets.all _ | (apply Gets.step; focus ((repeat (first | exact Pick.head _ _ | apply Pick.tail)); done)) | apply Gets.drop)) h) rfl ?_
          refine y_a rfl (r_bs (vs := []) rfl rfl bs22_0_) (fun _ _ _ h => Gets.own (by repeat (first | exact Gets.done _ | exact Gets.all _ | (apply Gets.step; focus ((repeat (first | exact Pick.head _ _ | apply Pick.tail)); done)) | apply Gets.drop)) h) rfl fun b55 => ?_
          refine XH.shut_ (n := 0) (c := 0) (sz := 3) (xs := []) (by repeat (first | exact Pick.head _ _ | apply Pick.tail)) (Nat.le_refl _) (Nat.zero_le _) rfl rfl ?_
          refine y_a rfl (r_app Try.underlying22 ty29 rfl (by decide) rfl rfl (by repeat (first | exact Pick.head _ _ | apply Pick.tail)) (Rdb.of_sl (by repeat (first | exact Pick.head _ _ | apply Pick.tail)) hl hA) (cells_one' lc_one L) (by unfold maxLen; omega) (by omega)) (fun _ _ _ h => Gets.own (by repeat (first | exact Gets.done _ | exact Gets.all _ | (apply Gets.step; focus ((repeat (first | exact Pick.head _ _ | apply Pick.tail)); done)) | apply Gets.drop)) h) rfl fun ⟨A60, c60⟩ => ?_
          rw [Nat.zero_add, List.nil_append]
          refine y_v rfl (r_bd (vs := [_, _]) rfl ⟨rfl, rfl, rfl⟩ (bd48_0_1 _ _ _ _)) (fun _ h => Gets.own (by repeat (first | exact Gets.done _ | exact Gets.all _ | (apply Gets.step; focus ((repeat (first | exact Pick.head _ _ | apply Pick.tail)); done)) | apply Gets.drop)) h) rfl ?_
          refine y_a rfl (r_bx rfl rfl) (fun _ _ _ h => Gets.own (by repeat (first | exact Gets.done _ | exact Gets.all _ | (apply Gets.step; focus ((repeat (first | exact Pick.head _ _ | apply Pick.tail)); done)) | apply Gets.drop)) h) rfl fun b66 => ?_
          refine y_v rfl (r_as rfl) (fun _ h => Gets.own (by repeat (first | exact Gets.done _ | exact Gets.all _ | (apply Gets.step; focus ((repeat (first | exact Pick.head _ _ | apply Pick.tail)); done)) | apply Gets.drop)) h) rfl ?_
          refine XH.nil ?_
          refine hK15 _ _ ?_
          refine XC.keep [(2, _), (7, _), (9, _), (13, _), (14, _)] ⟨rfl, rfl, rfl, rfl, rfl, trivial⟩ ?_
          refine XC.seq fun K16 hK16 => ?_
          refine XC.seq fun K17 hK17 => ?_
          refine XC.region ?_
          refine x_v (r_mv rfl) rfl ?_
          refine x_v (r_lensl Try.underlying35 rfl) rfl ?_
          refine x_v (r_mv rfl) rfl ?_
          refine XL.nil ?_
          refine hK17 _ _ ?_
          refine XC.keep [(7, _), (9, _), (13, _), (14, _), (67, _), (68, _), (69, _)] ⟨rfl, rfl, rfl, rfl, rfl, rfl, rfl, trivial⟩ ?_
          refine XC.block ?_
          refine XC.loop (σ := Nat × List Lt × (Option Addr × Nat × Option Addr × Nat)) (fun s => [(7, .pointer (some ⟨b, 0, none⟩)), (9, .pointer (some ⟨bw, 0, none⟩)), (13, .pointer (some ⟨bq, 0, none⟩)), (14, .pointer (some ⟨b66, 0, none⟩)), (67, .slice SB S'.length sd), (68, .int .i64 S'.length), (69, .int .i64 (s.1 : Int))]) (fun s => PL bq 71 s.2.2.1 s.2.2.2.1 m s.2.1 (PL b66 48 s.2.2.2.2.1 s.2.2.2.2.2 m s.2.1 (PL b 71 A c m L (PL bw 48 A2 c2 m L Fr)))) (fun s => s.1 ≤ S'.length ∧ Fit m s.2.1) (fun s => S'.length - s.1) (0, L, Aq, cq, A60, c60) ?_ ⟨rfl, rfl, rfl, rfl, rfl, rfl, rfl, trivial⟩ (by repeat (first | exact Gets.done _ | exact Gets.all _ | (apply Gets.step; focus ((repeat (first | exact Pick.head _ _ | apply Pick.tail)); done)) | apply Gets.drop)) ?_
          · exact ⟨Nat.zero_le _, hF⟩
          rintro ⟨j, L2, A4, c4, A5, c5⟩ ⟨hj, hF2⟩
          dsimp only at hj hF2 ⊢
          refine XC.seq fun K18 hK18 => ?_
          refine XC.region ?_
          refine x_v (r_lt rfl rfl) rfl ?_
          refine XL.nil ?_
          refine hK18 _ _ ?_
          refine XC.keep [(7, _), (9, _), (13, _), (14, _), (67, _), (68, _), (69, _), (70, _)] ⟨rfl, rfl, rfl, rfl, rfl, rfl, rfl, rfl, trivial⟩ ?_
          refine XC.seq fun K19 hK19 => ?_
          refine XC.cond_d rfl (fun hc4 => ?_) (fun hc4 => ?_)
          · refine XC.skip ?_
            refine hK19 _ _ ?_
            refine XC.keep [(7, _), (9, _), (13, _), (14, _), (67, _), (68, _), (69, _)] ⟨rfl, rfl, rfl, rfl, rfl, rfl, rfl, trivial⟩ ?_
            refine XC.seq fun K20 hK20 => ?_
            refine XC.block ?_
            refine XC.seq fun K21 hK21 => ?_
            refine XC.region ?_
            obtain ⟨o, ho⟩ : ∃ o, S'[j]? = some o := ⟨_, List.getElem?_eq_getElem (by omega)⟩
            have hoo := hok' o (List.mem_of_getElem? ho)
            obtain ⟨sb, so, rfl, hat⟩ := (hS' _).at_ (by omega)
            refine x_v (r_ia (k := j) Try.underlying35 ty42 rfl rfl (by omega) (by omega)) rfl ?_
            refine x_v (r_ldar (l' := oc o) ty42 rfl rfl (fun w hw j u hu => by rw [Nat.add_assoc]; exact hat w hw _ u (cells_get oc_len S' _ o ho j u hu))) rfl ?_
            refine x_a (r_al ty42 rfl) rfl fun b16 => ?_
            refine x_e (r_st ty42 rfl rfl rfl rfl rfl (by repeat (first | exact Upd.head _ _ _ | apply Upd.tail)) (by repeat (first | exact Over.nil _ | apply Over.put | apply Over.skip))) ?_
            refine XL.nil ?_
            refine hK21 _ _ ?_
            refine XC.keep [(7, _), (9, _), (13, _), (14, _), (16, _), (67, _), (68, _), (69, _)] ⟨rfl, rfl, rfl, rfl, rfl, rfl, rfl, rfl, trivial⟩ ?_
            refine XC.seq fun K22 hK22 => ?_
            refine XC.region ?_
            refine x_v (r_mv rfl) rfl ?_
            refine x_v (r_mv rfl) rfl ?_
            refine x_v (r_lda (l' := [_, _, _, _, _, _]) ty42 rfl (by repeat (first | exact Pick.head _ _ | apply Pick.tail)) rfl (Sub.get (by repeat (first | exact Sub.nil _ | apply Sub.take | apply Sub.skip)))) rfl ?_
            refine x_c (r_call0 (args := [_, _, _]) ⟨rfl, rfl, rfl, rfl⟩ (done_tr bq b66 A4 c4 A5 c5 m L2 o hoo (hF2.len hm) ((hF2.step o).len hm) hF2.2 (by have := (hgr2 (by assumption)).2 o (List.mem_of_getElem? ho); omega)) (by repeat (first | exact Gets.done _ | exact Gets.all _ | (apply Gets.step; focus ((repeat (first | exact Pick.head _ _ | apply Pick.tail)); done)) | apply Gets.drop))) rfl ?_
            rintro _ _ ⟨rfl, A1, c1, A3, c3, rfl⟩
            refine x_v (r_not rfl) rfl ?_
            refine XL.nil ?_
            refine hK22 _ _ ?_
            refine XC.keep [(7, _), (9, _), (13, _), (14, _), (67, _), (68, _), (69, _), (77, _)] ⟨rfl, rfl, rfl, rfl, rfl, rfl, rfl, rfl, trivial⟩ ?_
            refine XC.cond_f rfl ?_
            refine XC.skip ?_
            refine hK20 _ _ ?_
            refine XC.keep [(7, _), (9, _), (13, _), (14, _), (67, _), (68, _), (69, _)] ⟨rfl, rfl, rfl, rfl, rfl, rfl, rfl, trivial⟩ ?_
            refine XC.region ?_
            refine x_v (r_add rfl rfl (by omega)) rfl ?_
            refine x_v (r_mv rfl) rfl ?_
            refine XL.nil ?_
            refine ⟨(j + 1, stepL m L2 o, A1, c1, A3, c3), ?_, ?_, ⟨rfl, rfl, rfl, rfl, rfl, rfl, rfl, trivial⟩, (by repeat (first | exact Gets.done _ | exact Gets.all _ | (apply Gets.step; focus ((repeat (first | exact Pick.head _ _ | apply Pick.tail)); done)) | apply Gets.drop))⟩
            · exact ⟨by dsimp only; omega, hF2.step o⟩
            · dsimp only; omega
          · refine XC.exit rfl ?_
            refine hK16 _ _ ?_
            refine XC.keep [(7, _), (9, _), (13, _), (14, _)] ⟨rfl, rfl, rfl, rfl, trivial⟩ ?_
            refine XC.seq fun K23 hK23 => ?_
            refine XC.region ?_
            refine x_v (r_mv rfl) rfl ?_
            refine x_v (r_mv rfl) rfl ?_
            refine x_c (r_call0 (args := [_, _]) ⟨rfl, rfl, rfl⟩ (alike_tr b bw A c m A2 c2 m L (hF.len hm)) (by repeat (first | exact Gets.done _ | exact Gets.all _ | (apply Gets.step; focus ((repeat (first | exact Pick.head _ _ | apply Pick.tail)); done)) | apply Gets.drop))) rfl ?_
            rintro _ _ ⟨rfl, rfl⟩
            refine x_v (r_mv rfl) rfl ?_
            refine x_want rfl rfl rfl ?_
            refine x_v (r_mv rfl) rfl ?_
            refine x_want rfl rfl rfl ?_
            refine x_v (r_mv rfl) rfl ?_
            refine x_want rfl rfl rfl ?_
            refine x_c (r_call0 (args := [_, _]) ⟨rfl, rfl, rfl⟩ (alike_tr bq b66 A4 c4 m A5 c5 m L2 (hF2.len hm)) (by repeat (first | exact Gets.done _ | exact Gets.all _ | (apply Gets.step; focus ((repeat (first | exact Pick.head _ _ | apply Pick.tail)); done)) | apply Gets.drop))) rfl ?_
            rintro _ _ ⟨rfl, rfl⟩
            refine x_v (r_pk_t rfl rfl) rfl ?_
            refine x_v (r_as rfl) rfl ?_
            refine XL.nil ?_
            refine hK23 _ _ ?_
            refine XC.keep [(6, _)] ⟨rfl, trivial⟩ ?_
            refine XC.ret ?_
            exact fin1 rfl (rfl) (by repeat (first | exact Gets.done _ | exact Gets.all _ | (apply Gets.step; focus ((repeat (first | exact Pick.head _ _ | apply Pick.tail)); done)) | apply Gets.drop))
  · refine Entry.tr (N := 87) (rs := [.tmp 6]) ⟨_, Try.func5, rfl, by kernel_rfl, rfl, rfl⟩ rfl ?_
    refine XC.seq fun K1 hK1 => ?_
    refine XC.region ?_
    refine x_v (r_as rfl) rfl ?_
    refine XL.nil ?_
    refine hK1 _ _ ?_
    refine XC.keep [(0, _), (1, _), (2, _)] ⟨rfl, rfl, rfl, trivial⟩ ?_
    refine XC.seq fun K2 hK2 => ?_
    refine XC.region ?_
    refine x_v (r_mv rfl) rfl ?_
    refine x_c (r_call0 (args := [_]) ⟨rfl, rfl⟩ (newq_tr m) (by repeat (first | exact Gets.done _ | exact Gets.all _ | (apply Gets.step; focus ((repeat (first | exact Pick.head _ _ | apply Pick.tail)); done)) | apply Gets.drop))) rfl ?_
    rintro _ _ hq
    rcases hq with ⟨_, rfl, rfl⟩ | ⟨h, _⟩
    rotate_left
    · omega
    refine x_v (r_mv rfl) rfl ?_
    refine x_v (r_ex rfl rfl) rfl ?_
    refine x_v (r_ex rfl rfl) rfl ?_
    refine x_v (r_as rfl) rfl ?_
    refine x_v (r_as rfl) rfl ?_
    refine XL.nil ?_
    refine hK2 _ _ ?_
    refine XC.keep [(0, _), (1, _), (2, _), (7, _), (8, _)] ⟨rfl, rfl, rfl, rfl, rfl, trivial⟩ ?_
    refine XC.seq fun K3 hK3 => ?_
    refine XC.region ?_
    refine x_v (r_mv rfl) rfl ?_
    refine x_c (r_call0 (args := [_]) ⟨rfl, rfl⟩ (rnewq_tr m) (by repeat (first | exact Gets.done _ | exact Gets.all _ | (apply Gets.step; focus ((repeat (first | exact Pick.head _ _ | apply Pick.tail)); done)) | apply Gets.drop))) rfl ?_
    rintro _ _ hq
    rcases hq with ⟨_, rfl, rfl⟩ | ⟨h, _⟩
    rotate_left
    · omega
    refine x_v (r_mv rfl) rfl ?_
    refine x_v (r_ex rfl rfl) rfl ?_
    refine x_v (r_ex rfl rfl) rfl ?_
    refine x_v (r_as rfl) rfl ?_
    refine x_v (r_as rfl) rfl ?_
    refine XL.nil ?_
    refine hK3 _ _ ?_
    refine XC.keep [(1, _), (2, _), (7, _), (8, _), (9, _)] ⟨rfl, rfl, rfl, rfl, rfl, trivial⟩ ?_
    refine XC.seq fun K4 hK4 => ?_
    refine XC.seq fun K5 hK5 => ?_
    refine XC.region ?_
    refine x_c (r_call0 (args := []) rfl (awake_tr) (by repeat (first | exact Gets.done _ | exact Gets.all _ | (apply Gets.step; focus ((repeat (first | exact Pick.head _ _ | apply Pick.tail)); done)) | apply Gets.drop))) rfl ?_
    rintro _ _ ⟨rfl, rfl⟩
    refine x_v (r_not rfl) rfl ?_
    refine x_v (r_mv rfl) rfl ?_
    refine x_want rfl rfl rfl ?_
    refine x_v (r_mv rfl) rfl ?_
    refine x_want rfl rfl rfl ?_
    refine x_v (r_ne rfl rfl) rfl ?_
    refine x_v (r_pk_f rfl rfl) rfl ?_
    refine x_v (r_mv rfl) rfl ?_
    refine x_unwant rfl rfl rfl rfl rfl ?_
    refine x_unwant rfl rfl rfl rfl rfl ?_
    refine x_v (r_pk_t rfl rfl) rfl ?_
    refine x_v (r_mv rfl) rfl ?_
    refine x_unwant rfl rfl rfl rfl rfl ?_
    refine x_unwant rfl rfl rfl rfl rfl ?_
    refine x_v (r_pk_t rfl rfl) rfl ?_
    refine XL.nil ?_
    refine hK5 _ _ ?_
    refine XC.keep [(1, _), (2, _), (7, _), (9, _), (40, _)] ⟨rfl, rfl, rfl, rfl, rfl, trivial⟩ ?_
    refine XC.cond_t rfl ?_
    refine XC.seq fun K6 hK6 => ?_
    refine XC.region ?_
    refine x_c (r_call0 (args := []) rfl (awake_tr) (by repeat (first | exact Gets.done _ | exact Gets.all _ | (apply Gets.step; focus ((repeat (first | exact Pick.head _ _ | apply Pick.tail)); done)) | apply Gets.drop))) rfl ?_
    rintro _ _ ⟨rfl, rfl⟩
    refine x_v (r_as rfl) rfl ?_
    refine XL.nil ?_
    refine hK6 _ _ ?_
    refine XC.keep [(6, _)] ⟨rfl, trivial⟩ ?_
    refine XC.ret ?_
    exact fin1 rfl (rfl) (by repeat (first | exact Gets.done _ | exact Gets.all _ | (apply Gets.step; focus ((repeat (first | exact Pick.head _ _ | apply Pick.tail)); done)) | apply Gets.drop))
end Go.Proofs.Ytdppjmdjmbbclaa

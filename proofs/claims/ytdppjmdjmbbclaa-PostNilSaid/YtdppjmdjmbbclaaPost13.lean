/- Letters: the law function PostPlays. -/
import Derived.Test.YtdppjmdjmbbclaaPost12
namespace Go.Proofs.Ytdppjmdjmbbclaa
open Go.Sx
set_option linter.unusedVariables false

def Fit (m : Int) (L : List Lt) : Prop := (L.length : Int) ≤ m ∧ ∀ l ∈ L, okL l
theorem Fit.len {m : Int} {L : List Lt} (h : Fit m L) (hm : 1 ≤ m ∧ m ≤ 512) : L.length ≤ 100000 := by have := h.1; omega
theorem fit_nil {m : Int} (hm : 1 ≤ m ∧ m ≤ 512) : Fit m [] := ⟨by simp; omega, by simp⟩
theorem Fit.snoc {m : Int} {L : List Lt} {l : Lt} (h : Fit m L) (hl : okL l) (hc : ¬ m ≤ L.length) : Fit m (L ++ [l]) := by
  refine ⟨by simp only [List.length_append, List.length_singleton]; omega, fun q hq => ?_⟩
  rcases List.mem_append.1 hq with h' | h'
  · exact h.2 q h'
  · rw [List.mem_singleton.1 h']; exact hl
theorem Fit.sub {m : Int} {L L' : List Lt} (h : Fit m L) (hl : L'.length ≤ L.length) (hm : ∀ l ∈ L', l ∈ L) : Fit m L' := ⟨by have := h.1; omega, fun l hl' => h.2 l (hm l hl')⟩
theorem Fit.step {m : Int} {L : List Lt} (h : Fit m L) (o : Od) : Fit m (stepL m L o) := by
  unfold stepL sendL takeL twinL takeX
  split
  · split
    · exact h
    · split
      · exact h
      · exact h.snoc (by assumption) (by assumption)
  · split
    · split
      · exact h.sub (List.length_eraseIdx_le _ _) fun l hl => List.mem_of_mem_eraseIdx hl
      · exact h
    · split
      · split
        · rename_i hs
          split
          · exact h
          · obtain ⟨l, hl⟩ := Option.isSome_iff_exists.1 hs
            rw [hl]
            exact h.snoc (h.2 l (List.mem_of_getElem? (kth_eq hl).2.2)) (by assumption)
        · exact h
      · split
        · exact h.sub (stay_len_le _ _) fun l hl => (List.mem_filter.1 hl).1
        · exact h

/-- What the world holds at a script. -/
structure OkS (W0 : World) (SA : Option Addr) (S : List Od) : Prop where
  rd : ∀ Fr, Rdb W0 Fr SA S.length 6 (cells oc S)
  ok : ∀ o ∈ S, OkOd W0 o
  le : S.length ≤ 140737488355328

theorem plays_tr {W0 : World} {Fr : List HP} (m : Int) (SA : Option Addr) (sc : Nat) (S : List Od) (h : OkS W0 SA S) :
    Tr W0 Try.prog 4 [.int .i64 m, .slice SA S.length sc] Fr (fun v _ => v = .bool true) := by
  obtain ⟨hS, hok, hle⟩ := h
  by_cases hm : 1 ≤ m ∧ m ≤ 512
  · refine Entry.tr (N := 56) (rs := [.tmp 4]) ⟨_, Try.func4, rfl, by kernel_rfl, rfl, rfl⟩ rfl ?_
    refine XC.seq fun K1 hK1 => ?_
    refine XC.region ?_
    refine x_v (r_as rfl) rfl ?_
    refine XL.nil ?_
    refine hK1 _ _ ?_
    refine XC.keep [(0, _), (1, _)] ⟨rfl, rfl, trivial⟩ ?_
    refine XC.seq fun K2 hK2 => ?_
    refine XC.region ?_
    refine x_v (r_mv rfl) rfl ?_
    refine x_c (r_call0 (args := [_]) ⟨rfl, rfl⟩ (newq_tr m) (by repeat (first | exact Gets.done _ | exact Gets.all _ | (apply Gets.step; focus ((repeat (first | exact Pick.head _ _ | apply Pick.tail)); done)) | apply Gets.drop))) rfl ?_
    rintro _ _ hq
    rcases hq with ⟨h, _⟩ | ⟨_, b, rfl, rfl⟩
    · omega
    refine x_v (r_mv rfl) rfl ?_
    refine x_v (r_ex rfl rfl) rfl ?_
    refine x_v (r_ex rfl rfl) rfl ?_
    refine x_v (r_as rfl) rfl ?_
    refine x_v (r_as rfl) rfl ?_
    refine XL.nil ?_
    refine hK2 _ _ ?_
    refine XC.keep [(0, _), (1, _), (5, _), (6, _)] ⟨rfl, rfl, rfl, rfl, trivial⟩ ?_
    refine XC.seq fun K3 hK3 => ?_
    refine XC.region ?_
    refine x_v (r_mv rfl) rfl ?_
    refine x_c (r_call0 (args := [_]) ⟨rfl, rfl⟩ (rnewq_tr m) (by repeat (first | exact Gets.done _ | exact Gets.all _ | (apply Gets.step; focus ((repeat (first | exact Pick.head _ _ | apply Pick.tail)); done)) | apply Gets.drop))) rfl ?_
    rintro _ _ hq
    rcases hq with ⟨h, _⟩ | ⟨_, bw, rfl, rfl⟩
    · omega
    refine x_v (r_mv rfl) rfl ?_
    refine x_v (r_ex rfl rfl) rfl ?_
    refine x_v (r_ex rfl rfl) rfl ?_
    refine x_v (r_as rfl) rfl ?_
    refine x_v (r_as rfl) rfl ?_
    refine XL.nil ?_
    refine hK3 _ _ ?_
    refine XC.keep [(1, _), (5, _), (6, _), (7, _), (8, _)] ⟨rfl, rfl, rfl, rfl, rfl, trivial⟩ ?_
    refine XC.seq fun K4 hK4 => ?_
    refine XC.seq fun K5 hK5 => ?_
    refine XC.region ?_
    refine x_c (r_call0 (args := []) rfl (awake_tr) (by repeat (first | exact Gets.done _ | exact Gets.all _ | (apply Gets.step; focus ((repeat (first | exact Pick.head _ _ | apply Pick.tail)); done)) | apply Gets.drop))) rfl ?_
    rintro _ _ ⟨rfl, rfl⟩
    refine x_v (r_not rfl) rfl ?_
    refine x_v (r_mv rfl) rfl ?_
    refine x_want rfl rfl rfl ?_
    refine x_v (r_mv rfl) rfl ?_
    refine x_want rfl rfl rfl ?_
    refine x_v (r_mv rfl) rfl ?_
    refine x_want rfl rfl rfl ?_
    refine x_v (r_ne rfl rfl) rfl ?_
    refine x_v (r_pk_f rfl rfl) rfl ?_
    refine x_v (r_mv rfl) rfl ?_
    refine x_want rfl rfl rfl ?_
    refine x_v (r_mv rfl) rfl ?_
    refine x_want rfl rfl rfl ?_
    refine x_v (r_peq_some Try.underlying23 rfl rfl) rfl ?_
    refine x_want rfl rfl rfl ?_
    refine x_v (r_mv rfl) rfl ?_
    refine x_want rfl rfl rfl ?_
    refine x_v (r_ne rfl rfl) rfl ?_
    refine x_want rfl rfl rfl ?_
    refine x_v (r_bne Try.underlying4 rfl rfl) rfl ?_
    refine x_v (r_pk_f rfl rfl) rfl ?_
    refine XL.nil ?_
    refine hK5 _ _ ?_
    refine XC.keep [(1, _), (5, _), (7, _), (34, _)] ⟨rfl, rfl, rfl, rfl, trivial⟩ ?_
    refine XC.cond_f rfl ?_
    refine XC.skip ?_
    refine hK4 _ _ ?_
    refine XC.keep [(1, _), (5, _), (7, _)] ⟨rfl, rfl, rfl, trivial⟩ ?_
    refine XC.seq fun K6 hK6 => ?_
    refine XC.seq fun K7 hK7 => ?_
    refine XC.region ?_
    refine x_v (r_mv rfl) rfl ?_
    refine x_v (r_peq_some Try.underlying23 rfl rfl) rfl ?_
    refine x_v (r_mv rfl) rfl ?_
    refine x_want rfl rfl rfl ?_
    refine x_v (r_mv rfl) rfl ?_
    refine x_want rfl rfl rfl ?_
    refine x_c (r_call0 (args := [_]) ⟨rfl, rfl⟩ (great_tr SA sc S hS hok hle) (by repeat (first | exact Gets.done _ | exact Gets.all _ | (apply Gets.step; focus ((repeat (first | exact Pick.head _ _ | apply Pick.tail)); done)) | apply Gets.drop))) rfl ?_
    rintro _ _ ⟨⟨g, rfl, hgr⟩, rfl⟩
    refine x_v (r_pk_f rfl rfl) rfl ?_
    refine XL.nil ?_
    refine hK7 _ _ ?_
    refine XC.keep [(1, _), (5, _), (7, _), (40, _)] ⟨rfl, rfl, rfl, rfl, trivial⟩ ?_
    refine XC.cond rfl (fun hc2 => ?_) (fun hc2 => ?_)
    · refine XC.seq fun K8 hK8 => ?_
      refine XC.region ?_
      refine x_v (r_as rfl) rfl ?_
      refine XL.nil ?_
      refine hK8 _ _ ?_
      refine XC.keep [(4, _)] ⟨rfl, trivial⟩ ?_
      refine XC.ret ?_
      exact fin1 rfl (rfl) (by repeat (first | exact Gets.done _ | exact Gets.all _ | (apply Gets.step; focus ((repeat (first | exact Pick.head _ _ | apply Pick.tail)); done)) | apply Gets.drop))
    · refine XC.skip ?_
      refine hK6 _ _ ?_
      refine XC.keep [(1, _), (5, _), (7, _)] ⟨rfl, rfl, rfl, trivial⟩ ?_
      refine XC.seq fun K9 hK9 => ?_
      refine XC.seq fun K10 hK10 => ?_
      refine XC.region ?_
      refine x_v (r_mv rfl) rfl ?_
      refine x_v (r_lensl Try.underlying35 rfl) rfl ?_
      refine x_v (r_mv rfl) rfl ?_
      refine XL.nil ?_
      refine hK10 _ _ ?_
      refine XC.keep [(5, _), (7, _), (41, _), (42, _), (43, _)] ⟨rfl, rfl, rfl, rfl, rfl, trivial⟩ ?_
      refine XC.block ?_
      refine XC.loop (σ := Nat × List Lt × (Option Addr × Nat × Option Addr × Nat)) (fun s => [(5, .pointer (some ⟨b, 0, none⟩)), (7, .pointer (some ⟨bw, 0, none⟩)), (41, .slice SA S.length sc), (42, .int .i64 S.length), (43, .int .i64 (s.1 : Int))]) (fun s => PL b 71 s.2.2.1 s.2.2.2.1 m s.2.1 (PL bw 48 s.2.2.2.2.1 s.2.2.2.2.2 m s.2.1 Fr)) (fun s => s.1 ≤ S.length ∧ Fit m s.2.1) (fun s => S.length - s.1) (0, [], none, 0, none, 0) ?_ ⟨rfl, rfl, rfl, rfl, rfl, trivial⟩ (by repeat (first | exact Gets.done _ | exact Gets.all _ | (apply Gets.step; focus ((repeat (first | exact Pick.head _ _ | apply Pick.tail)); done)) | apply Gets.drop)) ?_
      · exact ⟨Nat.zero_le _, fit_nil hm⟩
      rintro ⟨i, L, A, c, A2, c2⟩ ⟨hi, hF⟩
      dsimp only at hi hF ⊢
      refine XC.seq fun K11 hK11 => ?_
      refine XC.region ?_
      refine x_v (r_lt rfl rfl) rfl ?_
      refine XL.nil ?_
      refine hK11 _ _ ?_
      refine XC.keep [(5, _), (7, _), (41, _), (42, _), (43, _), (44, _)] ⟨rfl, rfl, rfl, rfl, rfl, rfl, trivial⟩ ?_
      refine XC.seq fun K12 hK12 => ?_
      refine XC.cond_d rfl (fun hc3 => ?_) (fun hc3 => ?_)
      · refine XC.skip ?_
        refine hK12 _ _ ?_
        refine XC.keep [(5, _), (7, _), (41, _), (42, _), (43, _)] ⟨rfl, rfl, rfl, rfl, rfl, trivial⟩ ?_
        refine XC.seq fun K13 hK13 => ?_
        refine XC.block ?_
        refine XC.seq fun K14 hK14 => ?_
        refine XC.region ?_
        obtain ⟨o, ho⟩ : ∃ o, S[i]? = some o := ⟨_, List.getElem?_eq_getElem (by omega)⟩
        have hoo := hok o (List.mem_of_getElem? ho)
        obtain ⟨sb, so, rfl, hat⟩ := (hS _).at_ (by omega)
        refine x_v (r_ia (k := i) Try.underlying35 ty42 rfl rfl (by omega) (by omega)) rfl ?_
        refine x_v (r_ldar (l' := oc o) ty42 rfl rfl (fun w hw j u hu => by rw [Nat.add_assoc]; exact hat w hw _ u (cells_get oc_len S i o ho j u hu))) rfl ?_
        refine x_a (r_al ty42 rfl) rfl fun b10 => ?_
        refine x_e (r_st ty42 rfl rfl rfl rfl rfl (by repeat (first | exact Upd.head _ _ _ | apply Upd.tail)) (by repeat (first | exact Over.nil _ | apply Over.put | apply Over.skip))) ?_
        refine XL.nil ?_
        refine hK14 _ _ ?_
        refine XC.keep [(5, _), (7, _), (10, _), (41, _), (42, _), (43, _)] ⟨rfl, rfl, rfl, rfl, rfl, rfl, trivial⟩ ?_
        refine XC.seq fun K15 hK15 => ?_
        refine XC.region ?_
        refine x_v (r_mv rfl) rfl ?_
        refine x_v (r_mv rfl) rfl ?_
        refine x_v (r_lda (l' := [_, _, _, _, _, _]) ty42 rfl (by repeat (first | exact Pick.head _ _ | apply Pick.tail)) rfl (Sub.get (by repeat (first | exact Sub.nil _ | apply Sub.take | apply Sub.skip)))) rfl ?_
        refine x_c (r_call0 (args := [_, _, _]) ⟨rfl, rfl, rfl, rfl⟩ (done_tr b bw A c A2 c2 m L o hoo (hF.len hm) ((hF.step o).len hm) hF.2 (by have := (hgr (by assumption)).2 o (List.mem_of_getElem? ho); omega)) (by repeat (first | exact Gets.done _ | exact Gets.all _ | (apply Gets.step; focus ((repeat (first | exact Pick.head _ _ | apply Pick.tail)); done)) | apply Gets.drop))) rfl ?_
        rintro _ _ ⟨rfl, A1, c1, A3, c3, rfl⟩
        refine x_v (r_not rfl) rfl ?_
        refine XL.nil ?_
        refine hK15 _ _ ?_
        refine XC.keep [(5, _), (7, _), (41, _), (42, _), (43, _), (51, _)] ⟨rfl, rfl, rfl, rfl, rfl, rfl, trivial⟩ ?_
        refine XC.cond_f rfl ?_
        refine XC.skip ?_
        refine hK13 _ _ ?_
        refine XC.keep [(5, _), (7, _), (41, _), (42, _), (43, _)] ⟨rfl, rfl, rfl, rfl, rfl, trivial⟩ ?_
        refine XC.region ?_
        refine x_v (r_add rfl rfl (by omega)) rfl ?_
        refine x_v (r_mv rfl) rfl ?_
        refine XL.nil ?_
        refine ⟨(i + 1, stepL m L o, A1, c1, A3, c3), ?_, ?_, ⟨rfl, rfl, rfl, rfl, rfl, trivial⟩, (by repeat (first | exact Gets.done _ | exact Gets.all _ | (apply Gets.step; focus ((repeat (first | exact Pick.head _ _ | apply Pick.tail)); done)) | apply Gets.drop))⟩
        · exact ⟨by dsimp only; omega, hF.step o⟩
        · dsimp only; omega
      · refine XC.exit rfl ?_
        refine hK9 _ _ ?_
        refine XC.keep [(5, _), (7, _)] ⟨rfl, rfl, trivial⟩ ?_
        refine XC.seq fun K16 hK16 => ?_
        refine XC.region ?_
        refine x_v (r_mv rfl) rfl ?_
        refine x_v (r_mv rfl) rfl ?_
        refine x_c (r_call0 (args := [_, _]) ⟨rfl, rfl, rfl⟩ (alike_tr b bw A c m A2 c2 m L (hF.len hm)) (by repeat (first | exact Gets.done _ | exact Gets.all _ | (apply Gets.step; focus ((repeat (first | exact Pick.head _ _ | apply Pick.tail)); done)) | apply Gets.drop))) rfl ?_
        rintro _ _ ⟨rfl, rfl⟩
        refine x_v (r_as rfl) rfl ?_
        refine XL.nil ?_
        refine hK16 _ _ ?_
        refine XC.keep [(4, _)] ⟨rfl, trivial⟩ ?_
        refine XC.ret ?_
        exact fin1 rfl (rfl) (by repeat (first | exact Gets.done _ | exact Gets.all _ | (apply Gets.step; focus ((repeat (first | exact Pick.head _ _ | apply Pick.tail)); done)) | apply Gets.drop))
  · refine Entry.tr (N := 56) (rs := [.tmp 4]) ⟨_, Try.func4, rfl, by kernel_rfl, rfl, rfl⟩ rfl ?_
    refine XC.seq fun K1 hK1 => ?_
    refine XC.region ?_
    refine x_v (r_as rfl) rfl ?_
    refine XL.nil ?_
    refine hK1 _ _ ?_
    refine XC.keep [(0, _), (1, _)] ⟨rfl, rfl, trivial⟩ ?_
    refine XC.seq fun K2 hK2 => ?_
    refine XC.region ?_
    refine x_v (r_mv rfl) rfl ?_
    refine x_c (r_call0 (args := [_]) ⟨rfl, rfl⟩ (newq_tr m) (by repeat (first | exact Gets.done _ | exact Gets.all _ | (apply Gets.step; focus ((repeat (first | exact Pick.head _ _ | apply Pick.tail)); done)) | apply Gets.drop))) rfl ?_
    rintro _ _ hq
    rcases hq with ⟨_, rfl, rfl⟩ | ⟨h, _⟩
    rotate_left
    · omega
    refine x_v (r_mv rfl) rfl ?_
    refine x_v (r_ex rfl rfl) rfl ?_
    refine x_v (r_ex rfl rfl) rfl ?_
    refine x_v (r_as rfl) rfl ?_
    refine x_v (r_as rfl) rfl ?_
    refine XL.nil ?_
    refine hK2 _ _ ?_
    refine XC.keep [(0, _), (1, _), (5, _), (6, _)] ⟨rfl, rfl, rfl, rfl, trivial⟩ ?_
    refine XC.seq fun K3 hK3 => ?_
    refine XC.region ?_
    refine x_v (r_mv rfl) rfl ?_
    refine x_c (r_call0 (args := [_]) ⟨rfl, rfl⟩ (rnewq_tr m) (by repeat (first | exact Gets.done _ | exact Gets.all _ | (apply Gets.step; focus ((repeat (first | exact Pick.head _ _ | apply Pick.tail)); done)) | apply Gets.drop))) rfl ?_
    rintro _ _ hq
    rcases hq with ⟨_, rfl, rfl⟩ | ⟨h, _⟩
    rotate_left
    · omega
    refine x_v (r_mv rfl) rfl ?_
    refine x_v (r_ex rfl rfl) rfl ?_
    refine x_v (r_ex rfl rfl) rfl ?_
    refine x_v (r_as rfl) rfl ?_
    refine x_v (r_as rfl) rfl ?_
    refine XL.nil ?_
    refine hK3 _ _ ?_
    refine XC.keep [(1, _), (5, _), (6, _), (7, _), (8, _)] ⟨rfl, rfl, rfl, rfl, rfl, trivial⟩ ?_
    refine XC.seq fun K4 hK4 => ?_
    refine XC.seq fun K5 hK5 => ?_
    refine XC.region ?_
    refine x_c (r_call0 (args := []) rfl (awake_tr) (by repeat (first | exact Gets.done _ | exact Gets.all _ | (apply Gets.step; focus ((repeat (first | exact Pick.head _ _ | apply Pick.tail)); done)) | apply Gets.drop))) rfl ?_
    rintro _ _ ⟨rfl, rfl⟩
    refine x_v (r_not rfl) rfl ?_
    refine x_v (r_mv rfl) rfl ?_
    refine x_want rfl rfl rfl ?_
    refine x_v (r_mv rfl) rfl ?_
    refine x_want rfl rfl rfl ?_
    refine x_v (r_mv rfl) rfl ?_
    refine x_want rfl rfl rfl ?_
    refine x_v (r_ne rfl rfl) rfl ?_
    refine x_v (r_pk_f rfl rfl) rfl ?_
    refine x_v (r_mv rfl) rfl ?_
    refine x_want rfl rfl rfl ?_
    refine x_v (r_mv rfl) rfl ?_
    refine x_want rfl rfl rfl ?_
    refine x_v (r_peq_nil Try.underlying23 rfl rfl) rfl ?_
    refine x_want rfl rfl rfl ?_
    refine x_v (r_mv rfl) rfl ?_
    refine x_want rfl rfl rfl ?_
    refine x_v (r_ne rfl rfl) rfl ?_
    refine x_want rfl rfl rfl ?_
    refine x_v (r_bne Try.underlying4 rfl rfl) rfl ?_
    refine x_v (r_pk_f rfl rfl) rfl ?_
    refine XL.nil ?_
    refine hK5 _ _ ?_
    refine XC.keep [(1, _), (5, _), (7, _), (34, _)] ⟨rfl, rfl, rfl, rfl, trivial⟩ ?_
    refine XC.cond_f rfl ?_
    refine XC.skip ?_
    refine hK4 _ _ ?_
    refine XC.keep [(1, _), (5, _), (7, _)] ⟨rfl, rfl, rfl, trivial⟩ ?_
    refine XC.seq fun K6 hK6 => ?_
    refine XC.seq fun K7 hK7 => ?_
    refine XC.region ?_
    refine x_v (r_mv rfl) rfl ?_
    refine x_v (r_peq_nil Try.underlying23 rfl rfl) rfl ?_
    refine x_v (r_mv rfl) rfl ?_
    refine x_unwant rfl rfl rfl rfl rfl ?_
    refine x_unwant rfl rfl rfl rfl rfl ?_
    refine x_v (r_pk_t rfl rfl) rfl ?_
    refine XL.nil ?_
    refine hK7 _ _ ?_
    refine XC.keep [(1, _), (5, _), (7, _), (40, _)] ⟨rfl, rfl, rfl, rfl, trivial⟩ ?_
    refine XC.cond_t rfl ?_
    refine XC.seq fun K8 hK8 => ?_
    refine XC.region ?_
    refine x_v (r_as rfl) rfl ?_
    refine XL.nil ?_
    refine hK8 _ _ ?_
    refine XC.keep [(4, _)] ⟨rfl, trivial⟩ ?_
    refine XC.ret ?_
    exact fin1 rfl (rfl) (by repeat (first | exact Gets.done _ | exact Gets.all _ | (apply Gets.step; focus ((repeat (first | exact Pick.head _ _ | apply Pick.tail)); done)) | apply Gets.drop))
end Go.Proofs.Ytdppjmdjmbbclaa

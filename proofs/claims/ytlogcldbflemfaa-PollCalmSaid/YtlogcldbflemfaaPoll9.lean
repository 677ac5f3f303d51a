/- Polls: which mails are not let go. -/
import Derived.Test.YtlogcldbflemfaaPoll8
namespace Go.Proofs.Ytlogcldbflemfaa
open Go.Sx Go.Rf
set_option linter.unusedVariables false

theorem fits_iff (p : Pl) (f : Int) (m : Ml) : fits p f m = true ↔ (inR f 0 2 = true ∧ f ≠ p.me ∧ inR m.kind 1 5 = true ∧ inR m.term 1 1099511627776 = true ∧ (inR m.index 0 1099511627776 = true ∧ inR m.prev 0 1099511627776 = true ∧ inR m.commit 0 1099511627776 = true) ∧ (m.kind = 5 → m.index ≠ 0 ∧ inR m.prev 1 m.term = true) ∧ m.es.length ≤ 8 ∧ m.data.length ≤ 100000 ∧ rising m.prev m.term m.es = true) := by
  unfold fits most
  simp only [Bool.and_eq_true, decide_eq_true_eq, Bool.or_eq_true, ne_eq]
  constructor
  · rintro ⟨⟨⟨⟨⟨⟨⟨⟨⟨⟨a1, a2⟩, a3⟩, a4⟩, a5⟩, a6⟩, a7⟩, a8⟩, a9⟩, a10⟩, a11⟩
    exact ⟨a1, a2, a3, a4, ⟨a5, a6, a7⟩, fun h => a8.resolve_left (fun h2 => h2 h), by omega, by omega, a11⟩
  · rintro ⟨a1, a2, a3, a4, ⟨a5, a6, a7⟩, a8, a9, a10, a11⟩
    refine ⟨⟨⟨⟨⟨⟨⟨⟨⟨⟨a1, a2⟩, a3⟩, a4⟩, a5⟩, a6⟩, a7⟩, ?_⟩, by omega⟩, by omega⟩, a11⟩
    by_cases h : m.kind = 5
    · exact .inr (a8 h)
    · exact .inl h
theorem not_fits {p : Pl} {f : Int} {m : Ml} (h : ¬ (inR f 0 2 = true ∧ f ≠ p.me ∧ inR m.kind 1 5 = true ∧ inR m.term 1 1099511627776 = true ∧ (inR m.index 0 1099511627776 = true ∧ inR m.prev 0 1099511627776 = true ∧ inR m.commit 0 1099511627776 = true) ∧ (m.kind = 5 → m.index ≠ 0 ∧ inR m.prev 1 m.term = true) ∧ m.es.length ≤ 8 ∧ m.data.length ≤ 100000 ∧ rising m.prev m.term m.es = true)) : fits p f m = false :=
  Bool.eq_false_iff.2 fun h2 => h ((fits_iff p f m).1 h2)
theorem nf {b : Bool} (h : (!b) = true) (h2 : b = true) : False := by rw [h2] at h; cases h
theorem ft {b : Bool} (h : (!b) = false) : b = true := by cases b <;> first | rfl | cases h

theorem mem3 {u a b c : Int} (h : u ∈ ([a, b, c] : List Int)) : u = a ∨ u = b ∨ u = c := by simpa using h
theorem fits_tr {W0 : World} {Fr : List HP} {k : HP} {p : Pl} {A : Option Addr} {c : Nat} (b : Nat) (M : Option Nat) (f : Int) (x : Mx) (hr : Rdb W0 [k] x.A x.m.es.length 2 (cells ec x.m.es)) (hl : x.m.es.length ≤ 140737488355328) :
    Tr W0 Try.prog 37 [.pointer (some ⟨b, 0, none⟩), .int .i64 f, .agg (mc x).toArray] (blk b 90 (pc p A c M) :: k :: Fr) (fun v Rs' => v = .bool (fits p f x.m) ∧ Rs' = blk b 90 (pc p A c M) :: k :: Fr) := by
  refine Entry.tr (N := 81) (rs := [.tmp 6]) ⟨_, Try.func37, rfl, by kernel_rfl, rfl, rfl⟩ rfl ?_
  refine XC.seq fun K1 hK1 => ?_
  refine XC.region ?_
  refine x_a (r_bx rfl rfl) rfl fun b5 => ?_
  unfold mc
  refine x_v (r_as rfl) rfl ?_
  refine XL.nil ?_
  refine hK1 _ _ ?_
  refine XC.keep [(0, _), (1, _), (5, _)] ⟨rfl, rfl, rfl, trivial⟩ ?_
  refine XC.seq fun K2 hK2 => ?_
  refine XC.seq fun K3 hK3 => ?_
  refine XC.region ?_
  refine x_v (r_mv rfl) rfl ?_
  refine x_c (r_call0 (args := [_, _, _]) ⟨rfl, rfl, rfl, rfl⟩ (within_tr f 0 2) (by repeat (first | exact Gets.done _ | exact Gets.all _ | (apply Gets.step; focus ((repeat (first | exact Pick.head _ _ | apply Pick.tail)); done)) | apply Gets.drop))) rfl ?_
  rintro _ _ ⟨rfl, rfl⟩
  refine x_v (r_not rfl) rfl ?_
  refine x_v (r_mv rfl) rfl ?_
  refine XL.split 12 rfl (fun hg12 => ?_) (fun hg12 => ?_)
  · refine x_unwant rfl rfl rfl rfl rfl ?_
    refine x_unwant rfl rfl rfl rfl rfl ?_
    refine x_unwant rfl rfl rfl rfl rfl ?_
    refine x_unwant rfl rfl rfl rfl rfl ?_
    refine x_unwant rfl rfl rfl rfl rfl ?_
    refine x_unwant rfl rfl rfl rfl rfl ?_
    refine x_v (r_pk_t rfl rfl) rfl ?_
    refine x_v (r_mv rfl) rfl ?_
    refine x_unwant rfl rfl rfl rfl rfl ?_
    refine x_unwant rfl rfl rfl rfl rfl ?_
    refine x_unwant rfl rfl rfl rfl rfl ?_
    refine x_unwant rfl rfl rfl rfl rfl ?_
    refine x_v (r_pk_t rfl rfl) rfl ?_
    refine x_v (r_mv rfl) rfl ?_
    refine x_unwant rfl rfl rfl rfl rfl ?_
    refine x_unwant rfl rfl rfl rfl rfl ?_
    refine x_unwant rfl rfl rfl rfl rfl ?_
    refine x_unwant rfl rfl rfl rfl rfl ?_
    refine x_v (r_pk_t rfl rfl) rfl ?_
    refine XL.nil ?_
    refine hK3 _ _ ?_
    refine XC.keep [(5, _), (31, _)] ⟨rfl, rfl, trivial⟩ ?_
    refine XC.cond_t rfl ?_
    refine XC.seq fun K4 hK4 => ?_
    refine XC.region ?_
    refine x_v (r_as rfl) rfl ?_
    refine XL.nil ?_
    refine hK4 _ _ ?_
    refine XC.keep [(6, _)] ⟨rfl, trivial⟩ ?_
    refine XC.ret ?_
    exact fin1 rfl (⟨congrArg Value.bool (not_fits fun h => nf hg12 h.1).symm, rfl⟩) (by repeat (first | exact Gets.done _ | exact Gets.all _ | (apply Gets.step; focus ((repeat (first | exact Pick.head _ _ | apply Pick.tail)); done)) | apply Gets.drop))
  · refine x_want rfl rfl rfl ?_
    refine x_v (r_mv rfl) rfl ?_
    refine x_want rfl rfl rfl ?_
    refine x_v (r_mv rfl) rfl ?_
    refine x_want rfl rfl rfl ?_
    refine x_v (r_nc rfl) rfl ?_
    refine x_want rfl rfl rfl ?_
    refine x_v (r_fa fo90_1 rfl) rfl ?_
    refine x_want rfl rfl rfl ?_
    refine x_v (r_ld ty3 rfl (by repeat (first | exact Pick.head _ _ | apply Pick.tail)) (by rfl)) rfl ?_
    refine x_want rfl rfl rfl ?_
    refine x_v (r_eq rfl rfl) rfl ?_
    refine x_v (r_pk_f rfl rfl) rfl ?_
    refine x_v (r_mv rfl) rfl ?_
    refine XL.splitd 20 rfl (fun hg20 => ?_) (fun hg20 => ?_)
    · refine x_unwant rfl rfl rfl rfl rfl ?_
      refine x_unwant rfl rfl rfl rfl rfl ?_
      refine x_unwant rfl rfl rfl rfl rfl ?_
      refine x_unwant rfl rfl rfl rfl rfl ?_
      refine x_v (r_pk_t rfl rfl) rfl ?_
      refine x_v (r_mv rfl) rfl ?_
      refine x_unwant rfl rfl rfl rfl rfl ?_
      refine x_unwant rfl rfl rfl rfl rfl ?_
      refine x_unwant rfl rfl rfl rfl rfl ?_
      refine x_unwant rfl rfl rfl rfl rfl ?_
      refine x_v (r_pk_t rfl rfl) rfl ?_
      refine XL.nil ?_
      refine hK3 _ _ ?_
      refine XC.keep [(5, _), (31, _)] ⟨rfl, rfl, trivial⟩ ?_
      refine XC.cond_t rfl ?_
      refine XC.seq fun K5 hK5 => ?_
      refine XC.region ?_
      refine x_v (r_as rfl) rfl ?_
      refine XL.nil ?_
      refine hK5 _ _ ?_
      refine XC.keep [(6, _)] ⟨rfl, trivial⟩ ?_
      refine XC.ret ?_
      exact fin1 rfl (⟨congrArg Value.bool (not_fits fun h => h.2.1 hg20).symm, rfl⟩) (by repeat (first | exact Gets.done _ | exact Gets.all _ | (apply Gets.step; focus ((repeat (first | exact Pick.head _ _ | apply Pick.tail)); done)) | apply Gets.drop))
    · refine x_want rfl rfl rfl ?_
      refine x_v (r_fa fo42_0 rfl) rfl ?_
      refine x_want rfl rfl rfl ?_
      refine x_v (r_ld ty3 rfl (by repeat (first | exact Pick.head _ _ | apply Pick.tail)) (by rfl)) rfl ?_
      refine x_want rfl rfl rfl ?_
      refine x_c (r_call0 (args := [_, _, _]) ⟨rfl, rfl, rfl, rfl⟩ (within_tr x.m.kind 1 5) (by repeat (first | exact Gets.done _ | exact Gets.all _ | (apply Gets.step; focus ((repeat (first | exact Pick.head _ _ | apply Pick.tail)); done)) | apply Gets.drop))) rfl ?_
      rintro _ _ ⟨rfl, rfl⟩
      refine x_want rfl rfl rfl ?_
      refine x_v (r_not rfl) rfl ?_
      refine x_v (r_pk_f rfl rfl) rfl ?_
      refine x_v (r_mv rfl) rfl ?_
      refine XL.split 26 rfl (fun hg26 => ?_) (fun hg26 => ?_)
      · refine x_unwant rfl rfl rfl rfl rfl ?_
        refine x_unwant rfl rfl rfl rfl rfl ?_
        refine x_unwant rfl rfl rfl rfl rfl ?_
        refine x_unwant rfl rfl rfl rfl rfl ?_
        refine x_v (r_pk_t rfl rfl) rfl ?_
        refine XL.nil ?_
        refine hK3 _ _ ?_
        refine XC.keep [(5, _), (31, _)] ⟨rfl, rfl, trivial⟩ ?_
        refine XC.cond_t rfl ?_
        refine XC.seq fun K6 hK6 => ?_
        refine XC.region ?_
        refine x_v (r_as rfl) rfl ?_
        refine XL.nil ?_
        refine hK6 _ _ ?_
        refine XC.keep [(6, _)] ⟨rfl, trivial⟩ ?_
        refine XC.ret ?_
        exact fin1 rfl (⟨congrArg Value.bool (not_fits fun h => nf hg26 h.2.2.1).symm, rfl⟩) (by repeat (first | exact Gets.done _ | exact Gets.all _ | (apply Gets.step; focus ((repeat (first | exact Pick.head _ _ | apply Pick.tail)); done)) | apply Gets.drop))
      · refine x_want rfl rfl rfl ?_
        refine x_v (r_fa fo42_1 rfl) rfl ?_
        refine x_want rfl rfl rfl ?_
        refine x_v (r_ld ty3 rfl (by repeat (first | exact Pick.head _ _ | apply Pick.tail)) (by rfl)) rfl ?_
        refine x_want rfl rfl rfl ?_
        refine x_c (r_call0 (args := [_, _, _]) ⟨rfl, rfl, rfl, rfl⟩ (within_tr x.m.term 1 1099511627776) (by repeat (first | exact Gets.done _ | exact Gets.all _ | (apply Gets.step; focus ((repeat (first | exact Pick.head _ _ | apply Pick.tail)); done)) | apply Gets.drop))) rfl ?_
        rintro _ _ ⟨rfl, rfl⟩
        refine x_want rfl rfl rfl ?_
        refine x_v (r_not rfl) rfl ?_
        refine x_v (r_pk_f rfl rfl) rfl ?_
        refine XL.nil ?_
        refine hK3 _ _ ?_
        refine XC.keep [(5, _), (31, _)] ⟨rfl, rfl, trivial⟩ ?_
        refine XC.cond rfl (fun hc4 => ?_) (fun hc4 => ?_)
        · refine XC.seq fun K7 hK7 => ?_
          refine XC.region ?_
          refine x_v (r_as rfl) rfl ?_
          refine XL.nil ?_
          refine hK7 _ _ ?_
          refine XC.keep [(6, _)] ⟨rfl, trivial⟩ ?_
          refine XC.ret ?_
          exact fin1 rfl (⟨congrArg Value.bool (not_fits fun h => nf hc4 h.2.2.2.1).symm, rfl⟩) (by repeat (first | exact Gets.done _ | exact Gets.all _ | (apply Gets.step; focus ((repeat (first | exact Pick.head _ _ | apply Pick.tail)); done)) | apply Gets.drop))
        · refine XC.skip ?_
          refine hK2 _ _ ?_
          refine XC.keep [(5, _)] ⟨rfl, trivial⟩ ?_
          refine XC.seq fun K8 hK8 => ?_
          refine XC.seq fun K9 hK9 => ?_
          have q1 := ft hg12
          have q3 := ft hg26
          have q4 := ft hc4
          refine XC.region ?_
          refine x_v (r_fa fo42_2 rfl) rfl ?_
          refine x_v (r_ld ty3 rfl (by repeat (first | exact Pick.head _ _ | apply Pick.tail)) (by rfl)) rfl ?_
          refine x_v (r_fa fo42_3 rfl) rfl ?_
          refine x_v (r_ld ty3 rfl (by repeat (first | exact Pick.head _ _ | apply Pick.tail)) (by rfl)) rfl ?_
          refine x_v (r_fa fo42_4 rfl) rfl ?_
          refine x_v (r_ld ty3 rfl (by repeat (first | exact Pick.head _ _ | apply Pick.tail)) (by rfl)) rfl ?_
          refine x_v (r_bd (vs := [_, _, _]) rfl ⟨rfl, rfl, rfl, rfl⟩ (bd88_0_1_2 _ _ _)) rfl ?_
          refine x_v (r_mv rfl) rfl ?_
          refine XL.nil ?_
          refine hK9 _ _ ?_
          refine XC.keep [(5, _), (38, _), (39, _)] ⟨rfl, rfl, rfl, trivial⟩ ?_
          refine XC.block ?_
          refine XC.loop (σ := Nat) (fun s => [(5, .pointer (some ⟨b5, 0, none⟩)), (38, .agg (iv [x.m.index, x.m.prev, x.m.commit]).toArray), (39, .int .i64 (s : Int))]) (fun s => blk b5 42 (mc x) :: blk b 90 (pc p A c M) :: k :: Fr) (fun s => s ≤ 3 ∧ ∀ u ∈ ([x.m.index, x.m.prev, x.m.commit] : List Int).take s, inR u 0 1099511627776 = true) (fun s => 3 - s) 0 ?_ ⟨rfl, rfl, rfl, trivial⟩ (by repeat (first | exact Gets.done _ | exact Gets.all _ | (apply Gets.step; focus ((repeat (first | exact Pick.head _ _ | apply Pick.tail)); done)) | apply Gets.drop)) ?_
          · exact ⟨Nat.zero_le _, by simp⟩
          rintro i ⟨hi, hall⟩
          refine XC.seq fun K10 hK10 => ?_
          refine XC.region ?_
          refine x_v (r_lt rfl rfl) rfl ?_
          refine XL.nil ?_
          refine hK10 _ _ ?_
          refine XC.keep [(5, _), (38, _), (39, _), (40, _)] ⟨rfl, rfl, rfl, rfl, trivial⟩ ?_
          refine XC.seq fun K11 hK11 => ?_
          refine XC.cond_d rfl (fun hc5 => ?_) (fun hc5 => ?_)
          · refine XC.skip ?_
            refine hK11 _ _ ?_
            refine XC.keep [(5, _), (38, _), (39, _)] ⟨rfl, rfl, rfl, trivial⟩ ?_
            refine XC.seq fun K12 hK12 => ?_
            refine XC.block ?_
            refine XC.seq fun K13 hK13 => ?_
            refine XC.region ?_
            obtain ⟨u, hu⟩ : ∃ u, ([x.m.index, x.m.prev, x.m.commit] : List Int)[i]? = some u := ⟨_, List.getElem?_eq_getElem (by simp; omega)⟩
            refine x_v (r_aix (j := i) Try.underlying88 ty3 rfl rfl rfl (by omega) (by rw [List.getElem?_toArray]; exact iv_get hu)) rfl ?_
            refine x_v (r_as rfl) rfl ?_
            refine XL.nil ?_
            refine hK13 _ _ ?_
            refine XC.keep [(5, _), (8, _), (38, _), (39, _)] ⟨rfl, rfl, rfl, rfl, trivial⟩ ?_
            refine XC.seq fun K14 hK14 => ?_
            refine XC.region ?_
            refine x_v (r_mv rfl) rfl ?_
            refine x_c (r_call0 (args := [_, _, _]) ⟨rfl, rfl, rfl, rfl⟩ (within_tr u 0 1099511627776) (by repeat (first | exact Gets.done _ | exact Gets.all _ | (apply Gets.step; focus ((repeat (first | exact Pick.head _ _ | apply Pick.tail)); done)) | apply Gets.drop))) rfl ?_
            rintro _ _ ⟨rfl, rfl⟩
            refine x_v (r_not rfl) rfl ?_
            refine XL.nil ?_
            refine hK14 _ _ ?_
            refine XC.keep [(5, _), (38, _), (39, _), (44, _)] ⟨rfl, rfl, rfl, rfl, trivial⟩ ?_
            refine XC.cond rfl (fun hc6 => ?_) (fun hc6 => ?_)
            · refine XC.seq fun K15 hK15 => ?_
              refine XC.region ?_
              refine x_v (r_as rfl) rfl ?_
              refine XL.nil ?_
              refine hK15 _ _ ?_
              refine XC.keep [(6, _)] ⟨rfl, trivial⟩ ?_
              refine XC.ret ?_
              exact fin1 rfl (⟨congrArg Value.bool (not_fits fun h => nf hc6 ((mem3 (List.mem_of_getElem? hu)).elim (fun e => e ▸ h.2.2.2.2.1.1) fun e => e.elim (fun e => e ▸ h.2.2.2.2.1.2.1) fun e => e ▸ h.2.2.2.2.1.2.2)).symm, rfl⟩) (by repeat (first | exact Gets.done _ | exact Gets.all _ | (apply Gets.step; focus ((repeat (first | exact Pick.head _ _ | apply Pick.tail)); done)) | apply Gets.drop))
            · refine XC.skip ?_
              refine hK12 _ _ ?_
              refine XC.keep [(5, _), (38, _), (39, _)] ⟨rfl, rfl, rfl, trivial⟩ ?_
              refine XC.region ?_
              refine x_v (r_add rfl rfl (by omega)) rfl ?_
              refine x_v (r_mv rfl) rfl ?_
              refine XL.nil ?_
              refine ⟨i + 1, ?_, ?_, ⟨rfl, rfl, rfl, trivial⟩, (by repeat (first | exact Gets.done _ | exact Gets.all _ | (apply Gets.step; focus ((repeat (first | exact Pick.head _ _ | apply Pick.tail)); done)) | apply Gets.drop))⟩
              · exact ⟨by omega, by rw [tk_snoc hu]; intro y hy; rcases List.mem_append.1 hy with h | h; exact hall y h; rw [List.mem_singleton.1 h]; exact ft hc6⟩
              · omega
          · refine XC.exit rfl ?_
            refine hK8 _ _ ?_
            refine XC.keep [(5, _)] ⟨rfl, trivial⟩ ?_
            refine XC.seqcut (σ := PUnit) (fun s => [(5, .pointer (some ⟨b5, 0, none⟩))]) (fun s => blk b5 42 (mc x) :: blk b 90 (pc p A c M) :: k :: Fr) (fun s => (x.m.kind = 5 → x.m.index ≠ 0 ∧ inR x.m.prev 1 x.m.term = true) ∧ inR x.m.index 0 1099511627776 = true ∧ inR x.m.prev 0 1099511627776 = true ∧ inR x.m.commit 0 1099511627776 = true) ?_ ?_
            · refine XC.seq fun K17 hK17 => ?_
              obtain rfl : i = 3 := by omega
              have q5 := hall x.m.index (by simp)
              have q6 := hall x.m.prev (by simp)
              have q7 := hall x.m.commit (by simp)
              unfold mc
              refine XC.region ?_
              refine x_v (r_fa fo42_0 rfl) rfl ?_
              refine x_v (r_ld ty3 rfl (by repeat (first | exact Pick.head _ _ | apply Pick.tail)) (by rfl)) rfl ?_
              refine x_v (r_eq rfl rfl) rfl ?_
              refine x_v (r_mv rfl) rfl ?_
              refine XL.splitd 49 rfl (fun hg49 => ?_) (fun hg49 => ?_)
              · refine x_want rfl rfl rfl ?_
                refine x_v (r_fa fo42_2 rfl) rfl ?_
                refine x_want rfl rfl rfl ?_
                refine x_v (r_ld ty3 rfl (by repeat (first | exact Pick.head _ _ | apply Pick.tail)) (by rfl)) rfl ?_
                refine x_want rfl rfl rfl ?_
                refine x_v (r_eq rfl rfl) rfl ?_
                refine x_want rfl rfl rfl ?_
                refine x_v (r_mv rfl) rfl ?_
                refine XL.splitd 53 rfl (fun hg53 => ?_) (fun hg53 => ?_)
                · refine x_unwant rfl rfl rfl rfl rfl ?_
                  refine x_unwant rfl rfl rfl rfl rfl ?_
                  refine x_unwant rfl rfl rfl rfl rfl ?_
                  refine x_unwant rfl rfl rfl rfl rfl ?_
                  refine x_unwant rfl rfl rfl rfl rfl ?_
                  refine x_unwant rfl rfl rfl rfl rfl ?_
                  refine x_want rfl rfl rfl ?_
                  refine x_v (r_pk_t rfl rfl) rfl ?_
                  refine x_v (r_pk_t rfl rfl) rfl ?_
                  refine XL.nil ?_
                  refine hK17 _ _ ?_
                  refine XC.keep [(5, _), (61, _)] ⟨rfl, rfl, trivial⟩ ?_
                  refine XC.cond_t rfl ?_
                  refine XC.seq fun K18 hK18 => ?_
                  refine XC.region ?_
                  refine x_v (r_as rfl) rfl ?_
                  refine XL.nil ?_
                  refine hK18 _ _ ?_
                  refine XC.keep [(6, _)] ⟨rfl, trivial⟩ ?_
                  refine XC.ret ?_
                  exact fin1 rfl (⟨congrArg Value.bool (not_fits fun h => (h.2.2.2.2.2.1 hg49).1 hg53).symm, rfl⟩) (by repeat (first | exact Gets.done _ | exact Gets.all _ | (apply Gets.step; focus ((repeat (first | exact Pick.head _ _ | apply Pick.tail)); done)) | apply Gets.drop))
                · refine x_want rfl rfl rfl ?_
                  refine x_v (r_fa fo42_3 rfl) rfl ?_
                  refine x_want rfl rfl rfl ?_
                  refine x_v (r_ld ty3 rfl (by repeat (first | exact Pick.head _ _ | apply Pick.tail)) (by rfl)) rfl ?_
                  refine x_want rfl rfl rfl ?_
                  refine x_v (r_fa fo42_1 rfl) rfl ?_
                  refine x_want rfl rfl rfl ?_
                  refine x_v (r_ld ty3 rfl (by repeat (first | exact Pick.head _ _ | apply Pick.tail)) (by rfl)) rfl ?_
                  refine x_want rfl rfl rfl ?_
                  refine x_c (r_call0 (args := [_, _, _]) ⟨rfl, rfl, rfl, rfl⟩ (within_tr x.m.prev 1 x.m.term) (by repeat (first | exact Gets.done _ | exact Gets.all _ | (apply Gets.step; focus ((repeat (first | exact Pick.head _ _ | apply Pick.tail)); done)) | apply Gets.drop))) rfl ?_
                  rintro _ _ ⟨rfl, rfl⟩
                  refine x_want rfl rfl rfl ?_
                  refine x_v (r_not rfl) rfl ?_
                  refine x_want rfl rfl rfl ?_
                  refine x_v (r_pk_f rfl rfl) rfl ?_
                  refine x_v (r_pk_t rfl rfl) rfl ?_
                  refine XL.nil ?_
                  refine hK17 _ _ ?_
                  refine XC.keep [(5, _), (61, _)] ⟨rfl, rfl, trivial⟩ ?_
                  refine XC.cond rfl (fun hc8 => ?_) (fun hc8 => ?_)
                  · refine XC.seq fun K19 hK19 => ?_
                    refine XC.region ?_
                    refine x_v (r_as rfl) rfl ?_
                    refine XL.nil ?_
                    refine hK19 _ _ ?_
                    refine XC.keep [(6, _)] ⟨rfl, trivial⟩ ?_
                    refine XC.ret ?_
                    exact fin1 rfl (⟨congrArg Value.bool (not_fits fun h => nf hc8 (h.2.2.2.2.2.1 hg49).2).symm, rfl⟩) (by repeat (first | exact Gets.done _ | exact Gets.all _ | (apply Gets.step; focus ((repeat (first | exact Pick.head _ _ | apply Pick.tail)); done)) | apply Gets.drop))
                  · refine XC.skip ?_
                    exact ⟨⟨⟩, ⟨fun _ => ⟨hg53, ft hc8⟩, q5, q6, q7⟩, ⟨rfl, trivial⟩, (by repeat (first | exact Gets.done _ | exact Gets.all _ | (apply Gets.step; focus ((repeat (first | exact Pick.head _ _ | apply Pick.tail)); done)) | apply Gets.drop))⟩
              · refine x_unwant rfl rfl rfl rfl rfl ?_
                refine x_unwant rfl rfl rfl rfl rfl ?_
                refine x_unwant rfl rfl rfl rfl rfl ?_
                refine x_unwant rfl rfl rfl rfl rfl ?_
                refine x_unwantu rfl rfl rfl rfl rfl ?_
                refine x_unwantu rfl rfl rfl rfl rfl ?_
                refine x_unwantu rfl rfl rfl rfl rfl ?_
                refine x_unwantu rfl rfl rfl rfl rfl ?_
                refine x_unwantu rfl rfl rfl rfl rfl ?_
                refine x_unwantu rfl rfl rfl rfl rfl ?_
                refine x_unwant rfl rfl rfl rfl rfl ?_
                refine x_v (r_pk_f rfl rfl) rfl ?_
                refine XL.nil ?_
                refine hK17 _ _ ?_
                refine XC.keep [(5, _), (61, _)] ⟨rfl, rfl, trivial⟩ ?_
                refine XC.cond_f rfl ?_
                refine XC.skip ?_
                exact ⟨⟨⟩, ⟨fun h => absurd h hg49, q5, q6, q7⟩, ⟨rfl, trivial⟩, (by repeat (first | exact Gets.done _ | exact Gets.all _ | (apply Gets.step; focus ((repeat (first | exact Pick.head _ _ | apply Pick.tail)); done)) | apply Gets.drop))⟩
            · rintro ⟨⟩ ⟨q8, q5, q6, q7⟩
              unfold mc
              refine XC.seq fun K20 hK20 => ?_
              refine XC.region ?_
              refine x_v (r_fa fo42_6 rfl) rfl ?_
              refine x_v (r_ld ty30 rfl (by repeat (first | exact Pick.head _ _ | apply Pick.tail)) (by rfl)) rfl ?_
              refine x_v (r_lensl Try.underlying30 rfl) rfl ?_
              refine x_v (r_le rfl rfl) rfl ?_
              refine x_v (r_mv rfl) rfl ?_
              refine XL.splitd 66 rfl (fun hg66 => ?_) (fun hg66 => ?_)
              · refine x_want rfl rfl rfl ?_
                refine x_v (r_fa fo42_7 rfl) rfl ?_
                refine x_want rfl rfl rfl ?_
                refine x_v (r_ld ty9 rfl (by repeat (first | exact Pick.head _ _ | apply Pick.tail)) (by rfl)) rfl ?_
                refine x_want rfl rfl rfl ?_
                refine x_v (r_lens Try.underlying9 rfl) rfl ?_
                refine x_want rfl rfl rfl ?_
                refine x_v (r_le rfl rfl) rfl ?_
                refine x_v (r_pk_t rfl rfl) rfl ?_
                refine x_v (r_mv rfl) rfl ?_
                refine XL.splitd 72 rfl (fun hg72 => ?_) (fun hg72 => ?_)
                · refine x_want rfl rfl rfl ?_
                  refine x_v (r_fa fo42_3 rfl) rfl ?_
                  refine x_want rfl rfl rfl ?_
                  refine x_v (r_ld ty3 rfl (by repeat (first | exact Pick.head _ _ | apply Pick.tail)) (by rfl)) rfl ?_
                  refine x_want rfl rfl rfl ?_
                  refine x_v (r_fa fo42_1 rfl) rfl ?_
                  refine x_want rfl rfl rfl ?_
                  refine x_v (r_ld ty3 rfl (by repeat (first | exact Pick.head _ _ | apply Pick.tail)) (by rfl)) rfl ?_
                  refine x_want rfl rfl rfl ?_
                  refine x_v (r_fa fo42_6 rfl) rfl ?_
                  refine x_want rfl rfl rfl ?_
                  refine x_v (r_ld ty30 rfl (by repeat (first | exact Pick.head _ _ | apply Pick.tail)) (by rfl)) rfl ?_
                  refine x_want rfl rfl rfl ?_
                  refine x_c (r_call0 (args := [_, _, _]) ⟨rfl, rfl, rfl, rfl⟩ (rising_tr x.m.prev x.m.term x.A x.c x.m.es hr hl) (by repeat (first | exact Gets.done _ | exact Gets.all _ | (apply Gets.step; focus ((repeat (first | exact Pick.head _ _ | apply Pick.tail)); done)) | apply Gets.drop))) rfl ?_
                  rintro _ _ ⟨rfl, rfl⟩
                  refine x_v (r_pk_t rfl rfl) rfl ?_
                  refine x_v (r_as rfl) rfl ?_
                  refine XL.nil ?_
                  refine hK20 _ _ ?_
                  refine XC.keep [(6, _)] ⟨rfl, trivial⟩ ?_
                  refine XC.ret ?_
                  exact fin1 rfl (⟨congrArg Value.bool (by rw [Bool.eq_iff_iff, fits_iff]; exact ⟨fun h => ⟨q1, hg20, q3, q4, ⟨q5, q6, q7⟩, q8, by omega, by omega, h⟩, fun h => h.2.2.2.2.2.2.2.2⟩), rfl⟩) (by repeat (first | exact Gets.done _ | exact Gets.all _ | (apply Gets.step; focus ((repeat (first | exact Pick.head _ _ | apply Pick.tail)); done)) | apply Gets.drop))
                · refine x_unwant rfl rfl rfl rfl rfl ?_
                  refine x_unwant rfl rfl rfl rfl rfl ?_
                  refine x_unwant rfl rfl rfl rfl rfl ?_
                  refine x_unwant rfl rfl rfl rfl rfl ?_
                  refine x_unwant rfl rfl rfl rfl rfl ?_
                  refine x_unwant rfl rfl rfl rfl rfl ?_
                  refine x_unwant rfl rfl rfl rfl rfl ?_
                  refine x_v (r_pk_f rfl rfl) rfl ?_
                  refine x_v (r_as rfl) rfl ?_
                  refine XL.nil ?_
                  refine hK20 _ _ ?_
                  refine XC.keep [(6, _)] ⟨rfl, trivial⟩ ?_
                  refine XC.ret ?_
                  exact fin1 rfl (⟨congrArg Value.bool (not_fits fun h => hg72 (by have := h.2.2.2.2.2.2.2.1; omega)).symm, rfl⟩) (by repeat (first | exact Gets.done _ | exact Gets.all _ | (apply Gets.step; focus ((repeat (first | exact Pick.head _ _ | apply Pick.tail)); done)) | apply Gets.drop))
              · refine x_unwant rfl rfl rfl rfl rfl ?_
                refine x_unwant rfl rfl rfl rfl rfl ?_
                refine x_unwant rfl rfl rfl rfl rfl ?_
                refine x_unwant rfl rfl rfl rfl rfl ?_
                refine x_v (r_pk_f rfl rfl) rfl ?_
                refine x_v (r_mv rfl) rfl ?_
                refine x_unwant rfl rfl rfl rfl rfl ?_
                refine x_unwant rfl rfl rfl rfl rfl ?_
                refine x_unwant rfl rfl rfl rfl rfl ?_
                refine x_unwant rfl rfl rfl rfl rfl ?_
                refine x_unwant rfl rfl rfl rfl rfl ?_
                refine x_unwant rfl rfl rfl rfl rfl ?_
                refine x_unwant rfl rfl rfl rfl rfl ?_
                refine x_v (r_pk_f rfl rfl) rfl ?_
                refine x_v (r_as rfl) rfl ?_
                refine XL.nil ?_
                refine hK20 _ _ ?_
                refine XC.keep [(6, _)] ⟨rfl, trivial⟩ ?_
                refine XC.ret ?_
                exact fin1 rfl (⟨congrArg Value.bool (not_fits fun h => hg66 (by have := h.2.2.2.2.2.2.1; omega)).symm, rfl⟩) (by repeat (first | exact Gets.done _ | exact Gets.all _ | (apply Gets.step; focus ((repeat (first | exact Pick.head _ _ | apply Pick.tail)); done)) | apply Gets.drop))
end Go.Proofs.Ytlogcldbflemfaa

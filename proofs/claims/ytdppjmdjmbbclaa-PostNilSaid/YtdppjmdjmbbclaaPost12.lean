/- Letters: one call of both (the statements' function 'done'). -/
import Derived.Test.YtdppjmdjmbbclaaPost11
namespace Go.Proofs.Ytdppjmdjmbbclaa
open Go.Sx
set_option linter.unusedVariables false

def okL (l : Lt) : Prop := ¬ bad l.1 l.2.1
instance (f t : Int) : Decidable (bad f t) := by unfold bad; infer_instance
def sendE (m : Int) (L : List Lt) (l : Lt) : Int := if bad l.1 l.2.1 then 1 else if m ≤ L.length then 52 else 0
def sendL (m : Int) (L : List Lt) (l : Lt) : List Lt := if bad l.1 l.2.1 then L else if m ≤ L.length then L else L ++ [l]
def takeX (L : List Lt) (k : Int) : Lt := (kth L k).getD zl
def takeE (L : List Lt) (k : Int) : Int := if (kth L k).isSome then 0 else 51
def takeL (L : List Lt) (k : Int) : List Lt := if (kth L k).isSome then L.eraseIdx k.toNat else L
def twinE (m : Int) (L : List Lt) (k : Int) : Int := if (kth L k).isSome then (if m ≤ L.length then 52 else 0) else 51
def twinL (m : Int) (L : List Lt) (k : Int) : List Lt := if (kth L k).isSome then (if m ≤ L.length then L else L ++ [takeX L k]) else L

theorem SendQ.f {b T : Nat} {m : Int} {L : List Lt} {Fr : List HP} {l : Lt} {v : Value} {Rs' : List HP} (h : SendQ b T m L Fr l v Rs') : v = .int .i64 (sendE m L l) ∧ ∃ A c, Rs' = PL b T A c m (sendL m L l) Fr := by
  unfold sendE sendL
  rcases h with ⟨h1, h2, h3⟩ | ⟨h1, h2, h3, h4⟩ | ⟨h1, h2, h3, h4⟩
  · simp only [if_pos h1]; exact ⟨h2, h3⟩
  · simp only [if_neg h1, if_pos h2]; exact ⟨h3, h4⟩
  · simp only [if_neg h1, if_neg h2]; exact ⟨h3, h4⟩
theorem TakeP.f {b T : Nat} {m : Int} {L : List Lt} {Fr : List HP} {k : Int} {v : Value} {Rs' : List HP} (h : TakeP b T m L Fr k v Rs') : v = .tuple #[.agg (lc (takeX L k)).toArray, .int .i64 (takeE L k)] ∧ ∃ A c, Rs' = PL b T A c m (takeL L k) Fr := by
  unfold takeX takeE takeL
  rcases h with ⟨h1, h2, h3⟩ | ⟨l, h1, h2, h3⟩ <;> simp only [h1] <;> exact ⟨h2, h3⟩
theorem TwinQ.f {b T : Nat} {m : Int} {L : List Lt} {Fr : List HP} {k : Int} {v : Value} {Rs' : List HP} (h : TwinQ b T m L Fr k v Rs') : v = .int .i64 (twinE m L k) ∧ ∃ A c, Rs' = PL b T A c m (twinL m L k) Fr := by
  unfold twinE twinL takeX
  rcases h with ⟨h1, h2, h3⟩ | ⟨l, h1, h2, h3, h4⟩ | ⟨l, h1, h2, h3, h4⟩
  · simp only [h1]; exact ⟨h2, h3⟩
  · simp only [h1, Option.isSome_some, if_true, if_pos h2]; exact ⟨h3, h4⟩
  · simp only [h1, Option.isSome_some, if_true, if_neg h2]; exact ⟨h3, h4⟩
theorem atV_f (L : List Lt) (k : Int) : atV (kth L k) = .tuple #[.agg (lc (takeX L k)).toArray, .bool (kth L k).isSome] := by
  unfold takeX; cases kth L k <;> rfl

/-- What a call does to the letters. -/
def stepL (m : Int) (L : List Lt) (o : Od) : List Lt := if o.kind = 1 then sendL m L o.l else if o.kind = 2 then takeL L o.k else if o.kind = 3 then twinL m L o.k else if o.kind = 4 then stay o.ns L else L

theorem sendf_tr {W0 : World} {Fr : List HP} (b : Nat) (A : Option Addr) (c : Nat) (m : Int) (L : List Lt) (l : Lt) (hn : L.length ≤ 100000) : Tr W0 Try.prog 13 [.pointer (some ⟨b, 0, none⟩), .agg (lc l).toArray] (PL b 71 A c m L Fr) (fun v Rs' => v = .int .i64 (sendE m L l) ∧ ∃ A c, Rs' = PL b 71 A c m (sendL m L l) Fr) := (sendq_tr b A c m L l hn).mono fun _ _ h => h.f
theorem rsendf_tr {W0 : World} {Fr : List HP} (b : Nat) (A : Option Addr) (c : Nat) (m : Int) (L : List Lt) (l : Lt) (hn : L.length ≤ 100000) : Tr W0 Try.prog 35 [.pointer (some ⟨b, 0, none⟩), .agg (lc l).toArray] (PL b 48 A c m L Fr) (fun v Rs' => v = .int .i64 (sendE m L l) ∧ ∃ A c, Rs' = PL b 48 A c m (sendL m L l) Fr) := (rsendq_tr b A c m L l hn).mono fun _ _ h => h.f
theorem takef_tr {W0 : World} {Fr : List HP} (b : Nat) (A : Option Addr) (c : Nat) (m : Int) (L : List Lt) (k : Int) (hn : L.length ≤ 100000) : Tr W0 Try.prog 14 [.pointer (some ⟨b, 0, none⟩), .int .i64 k] (PL b 71 A c m L Fr) (fun v Rs' => v = .tuple #[.agg (lc (takeX L k)).toArray, .int .i64 (takeE L k)] ∧ ∃ A c, Rs' = PL b 71 A c m (takeL L k) Fr) := (take_tr b A c m L k hn).mono fun _ _ h => h.f
theorem rtakef_tr {W0 : World} {Fr : List HP} (b : Nat) (A : Option Addr) (c : Nat) (m : Int) (L : List Lt) (k : Int) (hn : L.length ≤ 100000) : Tr W0 Try.prog 36 [.pointer (some ⟨b, 0, none⟩), .int .i64 k] (PL b 48 A c m L Fr) (fun v Rs' => v = .tuple #[.agg (lc (takeX L k)).toArray, .int .i64 (takeE L k)] ∧ ∃ A c, Rs' = PL b 48 A c m (takeL L k) Fr) := (rtake_tr b A c m L k hn).mono fun _ _ h => h.f
theorem twinf_tr {W0 : World} {Fr : List HP} (b : Nat) (A : Option Addr) (c : Nat) (m : Int) (L : List Lt) (k : Int) (hn : L.length ≤ 100000) : Tr W0 Try.prog 22 [.pointer (some ⟨b, 0, none⟩), .int .i64 k] (PL b 71 A c m L Fr) (fun v Rs' => v = .int .i64 (twinE m L k) ∧ ∃ A c, Rs' = PL b 71 A c m (twinL m L k) Fr) := (twin_tr b A c m L k hn).mono fun _ _ h => h.f
theorem rtwinf_tr {W0 : World} {Fr : List HP} (b : Nat) (A : Option Addr) (c : Nat) (m : Int) (L : List Lt) (k : Int) (hn : L.length ≤ 100000) (hok : ∀ l ∈ L, okL l) : Tr W0 Try.prog 37 [.pointer (some ⟨b, 0, none⟩), .int .i64 k] (PL b 48 A c m L Fr) (fun v Rs' => v = .int .i64 (twinE m L k) ∧ ∃ A c, Rs' = PL b 48 A c m (twinL m L k) Fr) := (rtwin_tr b A c m L k hn hok).mono fun _ _ h => h.f
theorem atf_tr {W0 : World} {Fr : List HP} (b : Nat) (k : Int) (A : Option Addr) (c : Nat) (m : Int) (L : List Lt) : Tr W0 Try.prog 21 [.pointer (some ⟨b, 0, none⟩), .int .i64 k] (PL b 71 A c m L Fr) (fun v Rs' => v = .tuple #[.agg (lc (takeX L k)).toArray, .bool (kth L k).isSome] ∧ Rs' = PL b 71 A c m L Fr) := (at_tr b k A L.length c m L rfl).mono fun _ _ h => ⟨h.1.trans (atV_f L k), h.2⟩
theorem ratf_tr {W0 : World} {Fr : List HP} (b : Nat) (k : Int) (A : Option Addr) (c : Nat) (m : Int) (L : List Lt) (hn : L.length ≤ 100000) : Tr W0 Try.prog 39 [.pointer (some ⟨b, 0, none⟩), .int .i64 k] (PL b 48 A c m L Fr) (fun v Rs' => v = .tuple #[.agg (lc (takeX L k)).toArray, .bool (kth L k).isSome] ∧ Rs' = PL b 48 A c m L Fr) := (rat_tr b k A c m L hn).mono fun _ _ h => ⟨h.1.trans (atV_f L k), h.2⟩

theorem done_tr {W0 : World} {Fr : List HP} (bp bw : Nat) (A : Option Addr) (c : Nat) (A2 : Option Addr) (c2 : Nat) (m : Int) (L : List Lt) (o : Od) (ho : OkOd W0 o) (hL : L.length ≤ 100000) (hL2 : (stepL m L o).length ≤ 100000) (hok : ∀ l ∈ L, okL l) (hon : o.n ≤ 100000) :
    Tr W0 Try.prog 18 [.pointer (some ⟨bp, 0, none⟩), .pointer (some ⟨bw, 0, none⟩), .agg (oc o).toArray] (PL bp 71 A c m L (PL bw 48 A2 c2 m L Fr))
      (fun v Rs' => v = .bool true ∧ ∃ A' c' A2' c2', Rs' = PL bp 71 A' c' m (stepL m L o) (PL bw 48 A2' c2' m (stepL m L o) Fr)) := by
  have hnl : o.ns.length = o.n := by have := (ho.rd []).len; simpa [iv] using this
  unfold PL
  refine Entry.tr (N := 108) (rs := [.tmp 6]) ⟨_, Try.func18, rfl, by kernel_rfl, rfl, rfl⟩ rfl ?_
  refine XC.seq fun K1 hK1 => ?_
  refine XC.region ?_
  refine x_a (r_bx rfl rfl) rfl fun b5 => ?_
  refine x_v (r_as rfl) rfl ?_
  refine XL.nil ?_
  refine hK1 _ _ ?_
  refine XC.keep [(0, _), (1, _), (5, _)] ⟨rfl, rfl, rfl, trivial⟩ ?_
  refine XC.seqcut (σ := Option Addr × Nat × Option Addr × Nat) (fun s => [(0, .pointer (some ⟨bp, 0, none⟩)), (1, .pointer (some ⟨bw, 0, none⟩)), (5, .pointer (some ⟨b5, 0, none⟩))]) (fun s => blk b5 42 (oc o) :: PL bp 71 s.1 s.2.1 m (stepL m L o) (PL bw 48 s.2.2.1 s.2.2.2 m (stepL m L o) Fr)) (fun s => True) ?_ ?_
  · refine XC.seq fun K3 hK3 => ?_
    refine XC.region ?_
    refine x_v (r_fa fo42_0 rfl) rfl ?_
    refine x_v (r_ld ty3 rfl (by repeat (first | exact Pick.head _ _ | apply Pick.tail)) (by rfl)) rfl ?_
    refine XL.nil ?_
    refine hK3 _ _ ?_
    refine XC.keep [(0, _), (1, _), (5, _), (16, _)] ⟨rfl, rfl, rfl, rfl, trivial⟩ ?_
    refine XC.block ?_
    refine XC.seq fun K4 hK4 => ?_
    refine XC.region ?_
    refine x_v (r_eq rfl rfl) rfl ?_
    refine x_v (r_as rfl) rfl ?_
    refine XL.nil ?_
    refine hK4 _ _ ?_
    refine XC.keep [(0, _), (1, _), (5, _), (16, _), (17, _)] ⟨rfl, rfl, rfl, rfl, rfl, trivial⟩ ?_
    refine XC.cond_d rfl (fun hc1 => ?_) (fun hc1 => ?_)
    · refine XC.seq fun K5 hK5 => ?_
      refine XC.draw [blk b5 42 (oc o)] false [(0, false), (1, false), (2, false), (4, false), (5, false), (6, false), (3, true), (7, true), (8, false)] (by kernel_rfl) (by kernel_rfl) ?_
      refine y_v rfl (r_mv rfl) (fun _ h => Gets.own (by repeat (first | exact Gets.done _ | exact Gets.all _ | (apply Gets.step; focus ((repeat (first | exact Pick.head _ _ | apply Pick.tail)); done)) | apply Gets.drop)) h) rfl ?_
      refine y_v rfl (r_fa fo42_2 rfl) (fun _ h => Gets.own (by repeat (first | exact Gets.done _ | exact Gets.all _ | (apply Gets.step; focus ((repeat (first | exact Pick.head _ _ | apply Pick.tail)); done)) | apply Gets.drop)) h) rfl ?_
      refine y_v rfl (r_lda (l' := [_, _, _]) ty29 rfl (by repeat (first | exact Pick.head _ _ | apply Pick.tail)) rfl (Sub.get (by repeat (first | exact Sub.nil _ | apply Sub.take | apply Sub.skip)))) (fun _ h => Gets.own (by repeat (first | exact Gets.done _ | exact Gets.all _ | (apply Gets.step; focus ((repeat (first | exact Pick.head _ _ | apply Pick.tail)); done)) | apply Gets.drop)) h) rfl ?_
      refine y_v rfl (r_mv rfl) (fun _ h => Gets.own (by repeat (first | exact Gets.done _ | exact Gets.all _ | (apply Gets.step; focus ((repeat (first | exact Pick.head _ _ | apply Pick.tail)); done)) | apply Gets.drop)) h) rfl ?_
      refine y_v rfl (r_fa fo42_2 rfl) (fun _ h => Gets.own (by repeat (first | exact Gets.done _ | exact Gets.all _ | (apply Gets.step; focus ((repeat (first | exact Pick.head _ _ | apply Pick.tail)); done)) | apply Gets.drop)) h) rfl ?_
      refine y_v rfl (r_lda (l' := [_, _, _]) ty29 rfl (by repeat (first | exact Pick.head _ _ | apply Pick.tail)) rfl (Sub.get (by repeat (first | exact Sub.nil _ | apply Sub.take | apply Sub.skip)))) (fun _ h => Gets.own (by repeat (first | exact Gets.done _ | exact Gets.all _ | (apply Gets.step; focus ((repeat (first | exact Pick.head _ _ | apply Pick.tail)); done)) | apply Gets.drop)) h) rfl ?_
      refine y_c rfl (r_call0 (args := [_, _]) ⟨rfl, rfl, rfl⟩ (sendf_tr bp A c m L o.l hL) (by repeat (first | exact Gets.done _ | exact Gets.all _ | (apply Gets.step; focus ((repeat (first | exact Pick.head _ _ | apply Pick.tail)); done)) | apply Gets.drop))) (by rintro _ _ _ _ ⟨rfl, A1, c1, rfl⟩ h; exact Gets.own (by repeat (first | exact Gets.done _ | exact Gets.all _ | (apply Gets.step; focus ((repeat (first | exact Pick.head _ _ | apply Pick.tail)); done)) | apply Gets.drop)) h) rfl ?_
      rintro _ _ ⟨rfl, A1, c1, rfl⟩
      refine y_c rfl (r_call0 (args := [_, _]) ⟨rfl, rfl, rfl⟩ (rsendf_tr bw A2 c2 m L o.l hL) (by repeat (first | exact Gets.done _ | exact Gets.all _ | (apply Gets.step; focus ((repeat (first | exact Pick.head _ _ | apply Pick.tail)); done)) | apply Gets.drop))) (by rintro _ _ _ _ ⟨rfl, A3, c3, rfl⟩ h; exact Gets.own (by repeat (first | exact Gets.done _ | exact Gets.all _ | (apply Gets.step; focus ((repeat (first | exact Pick.head _ _ | apply Pick.tail)); done)) | apply Gets.drop)) h) rfl ?_
      rintro _ _ ⟨rfl, A3, c3, rfl⟩
      refine y_v rfl (r_ne rfl rfl) (fun _ h => Gets.own (by repeat (first | exact Gets.done _ | exact Gets.all _ | (apply Gets.step; focus ((repeat (first | exact Pick.head _ _ | apply Pick.tail)); done)) | apply Gets.drop)) h) rfl ?_
      refine XH.nil ?_
      refine hK5 _ _ ?_
      refine XC.keep [(0, _), (1, _), (5, _), (27, _)] ⟨rfl, rfl, rfl, rfl, trivial⟩ ?_
      refine XC.cond_d rfl (fun hc2 => ?_) (fun hc2 => ?_)
      · exfalso; exact hc2 rfl
      · refine XC.skip ?_
        have es : stepL m L o = sendL m L o.l := by unfold stepL; rw [if_pos (by assumption)]
        rw [es]
        exact ⟨(_, _, _, _), trivial, ⟨rfl, rfl, rfl, trivial⟩, (by repeat (first | exact Gets.done _ | exact Gets.all _ | (apply Gets.step; focus ((repeat (first | exact Pick.head _ _ | apply Pick.tail)); done)) | apply Gets.drop))⟩
    · refine XC.seq fun K6 hK6 => ?_
      refine XC.region ?_
      refine x_v (r_eq rfl rfl) rfl ?_
      refine x_v (r_as rfl) rfl ?_
      refine XL.nil ?_
      refine hK6 _ _ ?_
      refine XC.keep [(0, _), (1, _), (5, _), (16, _), (28, _)] ⟨rfl, rfl, rfl, rfl, rfl, trivial⟩ ?_
      refine XC.cond_d rfl (fun hc3 => ?_) (fun hc3 => ?_)
      · refine XC.seq fun K7 hK7 => ?_
        refine XC.region ?_
        refine x_v (r_mv rfl) rfl ?_
        refine x_v (r_fa fo42_1 rfl) rfl ?_
        refine x_v (r_ld ty3 rfl (by repeat (first | exact Pick.head _ _ | apply Pick.tail)) (by rfl)) rfl ?_
        refine x_c (r_call0 (args := [_, _]) ⟨rfl, rfl, rfl⟩ (takef_tr bp A c m L o.k hL) (by repeat (first | exact Gets.done _ | exact Gets.all _ | (apply Gets.step; focus ((repeat (first | exact Pick.head _ _ | apply Pick.tail)); done)) | apply Gets.drop))) rfl ?_
        rintro _ _ ⟨rfl, A1, c1, rfl⟩
        refine x_v (r_mv rfl) rfl ?_
        refine x_v (r_ex rfl rfl) rfl ?_
        refine x_v (r_ex rfl rfl) rfl ?_
        refine x_a (r_al ty29 rfl) rfl fun b7 => ?_
        refine x_e (r_st ty29 rfl rfl rfl rfl rfl (by repeat (first | exact Upd.head _ _ _ | apply Upd.tail)) (by repeat (first | exact Over.nil _ | apply Over.put | apply Over.skip))) ?_
        refine x_v (r_as rfl) rfl ?_
        refine XL.nil ?_
        refine hK7 _ _ ?_
        refine XC.keep [(0, _), (1, _), (5, _), (7, _), (8, _)] ⟨rfl, rfl, rfl, rfl, rfl, trivial⟩ ?_
        refine XC.seq fun K8 hK8 => ?_
        refine XC.region ?_
        refine x_v (r_mv rfl) rfl ?_
        refine x_v (r_fa fo42_1 rfl) rfl ?_
        refine x_v (r_ld ty3 rfl (by repeat (first | exact Pick.head _ _ | apply Pick.tail)) (by rfl)) rfl ?_
        refine x_c (r_call0 (args := [_, _]) ⟨rfl, rfl, rfl⟩ (rtakef_tr bw A2 c2 m L o.k hL) (by repeat (first | exact Gets.done _ | exact Gets.all _ | (apply Gets.step; focus ((repeat (first | exact Pick.head _ _ | apply Pick.tail)); done)) | apply Gets.drop))) rfl ?_
        rintro _ _ ⟨rfl, A3, c3, rfl⟩
        refine x_v (r_mv rfl) rfl ?_
        refine x_v (r_ex rfl rfl) rfl ?_
        refine x_v (r_ex rfl rfl) rfl ?_
        refine x_a (r_al ty29 rfl) rfl fun b9 => ?_
        refine x_e (r_st ty29 rfl rfl rfl rfl rfl (by repeat (first | exact Upd.head _ _ _ | apply Upd.tail)) (by repeat (first | exact Over.nil _ | apply Over.put | apply Over.skip))) ?_
        refine x_v (r_as rfl) rfl ?_
        refine XL.nil ?_
        refine hK8 _ _ ?_
        refine XC.keep [(0, _), (1, _), (5, _), (7, _), (8, _), (9, _), (10, _)] ⟨rfl, rfl, rfl, rfl, rfl, rfl, rfl, trivial⟩ ?_
        refine XC.seq fun K9 hK9 => ?_
        refine XC.region ?_
        refine x_v (r_lda (l' := [_, _, _]) ty29 rfl (by repeat (first | exact Pick.head _ _ | apply Pick.tail)) rfl (Sub.get (by repeat (first | exact Sub.nil _ | apply Sub.take | apply Sub.skip)))) rfl ?_
        refine x_v (r_lda (l' := [_, _, _]) ty29 rfl (by repeat (first | exact Pick.head _ _ | apply Pick.tail)) rfl (Sub.get (by repeat (first | exact Sub.nil _ | apply Sub.take | apply Sub.skip)))) rfl ?_
        refine x_v (r_stne (by kernel_rfl) (fun w => eq29 _ _ _ _ _ _ w) rfl rfl) rfl ?_
        refine x_v (r_mv rfl) rfl ?_
        refine XL.splitd 47 rfl (fun hg47 => ?_) (fun hg47 => ?_)
        · exfalso; exact hg47 ⟨rfl, rfl, rfl⟩
        · refine x_want rfl rfl rfl ?_
          refine x_v (r_mv rfl) rfl ?_
          refine x_want rfl rfl rfl ?_
          refine x_v (r_mv rfl) rfl ?_
          refine x_want rfl rfl rfl ?_
          refine x_v (r_ne rfl rfl) rfl ?_
          refine x_v (r_pk_f rfl rfl) rfl ?_
          refine XL.nil ?_
          refine hK9 _ _ ?_
          refine XC.keep [(0, _), (1, _), (5, _), (51, _)] ⟨rfl, rfl, rfl, rfl, trivial⟩ ?_
          refine XC.cond_d rfl (fun hc4 => ?_) (fun hc4 => ?_)
          · exfalso; exact hc4 rfl
          · refine XC.skip ?_
            have es : stepL m L o = takeL L o.k := by unfold stepL; rw [if_neg (by assumption), if_pos (by assumption)]
            rw [es]
            exact ⟨(_, _, _, _), trivial, ⟨rfl, rfl, rfl, trivial⟩, (by repeat (first | exact Gets.done _ | exact Gets.all _ | (apply Gets.step; focus ((repeat (first | exact Pick.head _ _ | apply Pick.tail)); done)) | apply Gets.drop))⟩
      · refine XC.seq fun K10 hK10 => ?_
        refine XC.region ?_
        refine x_v (r_eq rfl rfl) rfl ?_
        refine x_v (r_as rfl) rfl ?_
        refine XL.nil ?_
        refine hK10 _ _ ?_
        refine XC.keep [(0, _), (1, _), (5, _), (16, _), (52, _)] ⟨rfl, rfl, rfl, rfl, rfl, trivial⟩ ?_
        refine XC.cond_d rfl (fun hc5 => ?_) (fun hc5 => ?_)
        · refine XC.seq fun K11 hK11 => ?_
          refine XC.draw [blk b5 42 (oc o)] false [(0, false), (1, false), (2, false), (4, false), (5, false), (6, false), (3, true), (7, true), (8, false)] (by kernel_rfl) (by kernel_rfl) ?_
          refine y_v rfl (r_mv rfl) (fun _ h => Gets.own (by repeat (first | exact Gets.done _ | exact Gets.all _ | (apply Gets.step; focus ((repeat (first | exact Pick.head _ _ | apply Pick.tail)); done)) | apply Gets.drop)) h) rfl ?_
          refine y_v rfl (r_fa fo42_1 rfl) (fun _ h => Gets.own (by repeat (first | exact Gets.done _ | exact Gets.all _ | (apply Gets.step; focus ((repeat (first | exact Pick.head _ _ | apply Pick.tail)); done)) | apply Gets.drop)) h) rfl ?_
          refine y_v rfl (r_ld ty3 rfl (by repeat (first | exact Pick.head _ _ | apply Pick.tail)) (by rfl)) (fun _ h => Gets.own (by repeat (first | exact Gets.done _ | exact Gets.all _ | (apply Gets.step; focus ((repeat (first | exact Pick.head _ _ | apply Pick.tail)); done)) | apply Gets.drop)) h) rfl ?_
          refine y_v rfl (r_mv rfl) (fun _ h => Gets.own (by repeat (first | exact Gets.done _ | exact Gets.all _ | (apply Gets.step; focus ((repeat (first | exact Pick.head _ _ | apply Pick.tail)); done)) | apply Gets.drop)) h) rfl ?_
          refine y_v rfl (r_fa fo42_1 rfl) (fun _ h => Gets.own (by repeat (first | exact Gets.done _ | exact Gets.all _ | (apply Gets.step; focus ((repeat (first | exact Pick.head _ _ | apply Pick.tail)); done)) | apply Gets.drop)) h) rfl ?_
          refine y_v rfl (r_ld ty3 rfl (by repeat (first | exact Pick.head _ _ | apply Pick.tail)) (by rfl)) (fun _ h => Gets.own (by repeat (first | exact Gets.done _ | exact Gets.all _ | (apply Gets.step; focus ((repeat (first | exact Pick.head _ _ | apply Pick.tail)); done)) | apply Gets.drop)) h) rfl ?_
          refine y_c rfl (r_call0 (args := [_, _]) ⟨rfl, rfl, rfl⟩ (twinf_tr bp A c m L o.k hL) (by repeat (first | exact Gets.done _ | exact Gets.all _ | (apply Gets.step; focus ((repeat (first | exact Pick.head _ _ | apply Pick.tail)); done)) | apply Gets.drop))) (by rintro _ _ _ _ ⟨rfl, A1, c1, rfl⟩ h; exact Gets.own (by repeat (first | exact Gets.done _ | exact Gets.all _ | (apply Gets.step; focus ((repeat (first | exact Pick.head _ _ | apply Pick.tail)); done)) | apply Gets.drop)) h) rfl ?_
          rintro _ _ ⟨rfl, A1, c1, rfl⟩
          refine y_c rfl (r_call0 (args := [_, _]) ⟨rfl, rfl, rfl⟩ (rtwinf_tr bw A2 c2 m L o.k hL hok) (by repeat (first | exact Gets.done _ | exact Gets.all _ | (apply Gets.step; focus ((repeat (first | exact Pick.head _ _ | apply Pick.tail)); done)) | apply Gets.drop))) (by rintro _ _ _ _ ⟨rfl, A3, c3, rfl⟩ h; exact Gets.own (by repeat (first | exact Gets.done _ | exact Gets.all _ | (apply Gets.step; focus ((repeat (first | exact Pick.head _ _ | apply Pick.tail)); done)) | apply Gets.drop)) h) rfl ?_
          rintro _ _ ⟨rfl, A3, c3, rfl⟩
          refine y_v rfl (r_ne rfl rfl) (fun _ h => Gets.own (by repeat (first | exact Gets.done _ | exact Gets.all _ | (apply Gets.step; focus ((repeat (first | exact Pick.head _ _ | apply Pick.tail)); done)) | apply Gets.drop)) h) rfl ?_
          refine XH.nil ?_
          refine hK11 _ _ ?_
          refine XC.keep [(0, _), (1, _), (5, _), (62, _)] ⟨rfl, rfl, rfl, rfl, trivial⟩ ?_
          refine XC.cond_d rfl (fun hc6 => ?_) (fun hc6 => ?_)
          · exfalso; exact hc6 rfl
          · refine XC.skip ?_
            have es : stepL m L o = twinL m L o.k := by unfold stepL; rw [if_neg (by assumption), if_neg (by assumption), if_pos (by assumption)]
            rw [es]
            exact ⟨(_, _, _, _), trivial, ⟨rfl, rfl, rfl, trivial⟩, (by repeat (first | exact Gets.done _ | exact Gets.all _ | (apply Gets.step; focus ((repeat (first | exact Pick.head _ _ | apply Pick.tail)); done)) | apply Gets.drop))⟩
        · refine XC.seq fun K12 hK12 => ?_
          refine XC.region ?_
          refine x_v (r_eq rfl rfl) rfl ?_
          refine x_v (r_as rfl) rfl ?_
          refine XL.nil ?_
          refine hK12 _ _ ?_
          refine XC.keep [(0, _), (1, _), (5, _), (63, _)] ⟨rfl, rfl, rfl, rfl, trivial⟩ ?_
          refine XC.cond_d rfl (fun hc7 => ?_) (fun hc7 => ?_)
          · refine XC.seq fun K13 hK13 => ?_
            refine XC.draw [blk b5 42 (oc o)] false [(0, false), (2, false), (3, false), (6, false), (7, false), (8, false), (1, true), (4, true), (5, true), (9, true), (10, false)] (by kernel_rfl) (by kernel_rfl) ?_
            refine y_v rfl (r_mv rfl) (fun _ h => Gets.own (by repeat (first | exact Gets.done _ | exact Gets.all _ | (apply Gets.step; focus ((repeat (first | exact Pick.head _ _ | apply Pick.tail)); done)) | apply Gets.drop)) h) rfl ?_
            refine y_v rfl (r_fa fo42_3 rfl) (fun _ h => Gets.own (by repeat (first | exact Gets.done _ | exact Gets.all _ | (apply Gets.step; focus ((repeat (first | exact Pick.head _ _ | apply Pick.tail)); done)) | apply Gets.drop)) h) rfl ?_
            refine y_v rfl (r_ld ty40 rfl (by repeat (first | exact Pick.head _ _ | apply Pick.tail)) (by rfl)) (fun _ h => Gets.own (by repeat (first | exact Gets.done _ | exact Gets.all _ | (apply Gets.step; focus ((repeat (first | exact Pick.head _ _ | apply Pick.tail)); done)) | apply Gets.drop)) h) rfl ?_
            refine y_v rfl (r_mv rfl) (fun _ h => Gets.own (by repeat (first | exact Gets.done _ | exact Gets.all _ | (apply Gets.step; focus ((repeat (first | exact Pick.head _ _ | apply Pick.tail)); done)) | apply Gets.drop)) h) rfl ?_
            refine y_v rfl (r_fa fo42_3 rfl) (fun _ h => Gets.own (by repeat (first | exact Gets.done _ | exact Gets.all _ | (apply Gets.step; focus ((repeat (first | exact Pick.head _ _ | apply Pick.tail)); done)) | apply Gets.drop)) h) rfl ?_
            refine y_v rfl (r_ld ty40 rfl (by repeat (first | exact Pick.head _ _ | apply Pick.tail)) (by rfl)) (fun _ h => Gets.own (by repeat (first | exact Gets.done _ | exact Gets.all _ | (apply Gets.step; focus ((repeat (first | exact Pick.head _ _ | apply Pick.tail)); done)) | apply Gets.drop)) h) rfl ?_
            refine y_a rfl (r_bs (vs := []) rfl rfl bs40_0_) (fun _ _ _ h => Gets.own (by repeat (first | exact Gets.done _ | exact Gets.all _ | (apply Gets.step; focus ((repeat (first | exact Pick.head _ _ | apply Pick.tail)); done)) | apply Gets.drop)) h) rfl fun b66 => ?_
            refine XH.shut_ (n := 0) (c := 0) (sz := 1) (xs := []) (by repeat (first | exact Pick.head _ _ | apply Pick.tail)) (Nat.le_refl _) (Nat.zero_le _) rfl rfl ?_
            refine y_a rfl (r_app Try.underlying40 ty3 rfl (by decide) rfl rfl (by repeat (first | exact Pick.head _ _ | apply Pick.tail)) (ho.rd _) (iv_one _) (by unfold maxLen; omega) (by omega)) (fun _ _ _ h => Gets.own (by repeat (first | exact Gets.done _ | exact Gets.all _ | (apply Gets.step; focus ((repeat (first | exact Pick.head _ _ | apply Pick.tail)); done)) | apply Gets.drop)) h) rfl fun ⟨A69, c69⟩ => ?_
            rw [Nat.zero_add, List.nil_append]
            refine XH.slnn (by repeat (first | exact Pick.head _ _ | apply Pick.tail)) fun hl hA => ?_
            refine y_c rfl (r_call0 (args := [_, _]) ⟨rfl, rfl, rfl⟩ (purge_tr (Fr := blk b5 42 (oc o) :: sl A69 o.n c69 3 1 (iv o.ns) :: blk bw 48 [.slice A2 L.length c2, .int .i64 m] :: sl A2 L.length c2 29 3 (cells lc L) :: Fr) bp A69 o.n c69 o.ns A c m L (Rdb.of_sl (by repeat (first | exact Pick.head _ _ | apply Pick.tail)) hl hA) (by omega) hL) (by repeat (first | exact Gets.done _ | exact Gets.all _ | (apply Gets.step; focus ((repeat (first | exact Pick.head _ _ | apply Pick.tail)); done)) | apply Gets.drop))) (by rintro _ _ _ _ ⟨rfl, rfl⟩ h; exact Gets.own (by repeat (first | exact Gets.done _ | exact Gets.all _ | (apply Gets.step; focus ((repeat (first | exact Pick.head _ _ | apply Pick.tail)); done)) | apply Gets.drop)) h) rfl ?_
            rintro _ _ ⟨rfl, rfl⟩
            refine y_c rfl (r_call0 (args := [_, _]) ⟨rfl, rfl, rfl⟩ (rpurge_tr bw o.A o.n o.c o.ns A2 c2 m L (ho.rd _) (by omega) hL) (by repeat (first | exact Gets.done _ | exact Gets.all _ | (apply Gets.step; focus ((repeat (first | exact Pick.head _ _ | apply Pick.tail)); done)) | apply Gets.drop))) (by rintro _ _ _ _ ⟨rfl, A3, c3, rfl⟩ h; exact Gets.own (by repeat (first | exact Gets.done _ | exact Gets.all _ | (apply Gets.step; focus ((repeat (first | exact Pick.head _ _ | apply Pick.tail)); done)) | apply Gets.drop)) h) rfl ?_
            rintro _ _ ⟨rfl, A3, c3, rfl⟩
            refine y_v rfl (r_ne rfl rfl) (fun _ h => Gets.own (by repeat (first | exact Gets.done _ | exact Gets.all _ | (apply Gets.step; focus ((repeat (first | exact Pick.head _ _ | apply Pick.tail)); done)) | apply Gets.drop)) h) rfl ?_
            refine XH.nil ?_
            refine hK13 _ _ ?_
            refine XC.keep [(0, _), (1, _), (5, _), (75, _)] ⟨rfl, rfl, rfl, rfl, trivial⟩ ?_
            refine XC.cond_d rfl (fun hc8 => ?_) (fun hc8 => ?_)
            · exfalso; exact hc8 rfl
            · refine XC.skip ?_
              have es : stepL m L o = stay o.ns L := by unfold stepL; rw [if_neg (by assumption), if_neg (by assumption), if_neg (by assumption), if_pos (by assumption)]
              rw [es]
              exact ⟨(_, _, _, _), trivial, ⟨rfl, rfl, rfl, trivial⟩, (by repeat (first | exact Gets.done _ | exact Gets.all _ | (apply Gets.step; focus ((repeat (first | exact Pick.head _ _ | apply Pick.tail)); done)) | apply Gets.drop))⟩
          · refine XC.skip ?_
            have es : stepL m L o = L := by unfold stepL; rw [if_neg (by assumption), if_neg (by assumption), if_neg (by assumption), if_neg (by assumption)]
            rw [es]
            exact ⟨(_, _, _, _), trivial, ⟨rfl, rfl, rfl, trivial⟩, (by repeat (first | exact Gets.done _ | exact Gets.all _ | (apply Gets.step; focus ((repeat (first | exact Pick.head _ _ | apply Pick.tail)); done)) | apply Gets.drop))⟩
  · rintro ⟨A1, c1, A3, c3⟩ _
    dsimp only
    generalize stepL m L o = L1 at hL2 ⊢
    unfold PL
    refine XC.seq fun K14 hK14 => ?_
    refine XC.region ?_
    refine x_v (r_mv rfl) rfl ?_
    refine x_v (r_fa fo42_1 rfl) rfl ?_
    refine x_v (r_ld ty3 rfl (by repeat (first | exact Pick.head _ _ | apply Pick.tail)) (by rfl)) rfl ?_
    refine x_c (r_call0 (args := [_, _]) ⟨rfl, rfl, rfl⟩ (atf_tr bp o.k A1 c1 m L1) (by repeat (first | exact Gets.done _ | exact Gets.all _ | (apply Gets.step; focus ((repeat (first | exact Pick.head _ _ | apply Pick.tail)); done)) | apply Gets.drop))) rfl ?_
    rintro _ _ ⟨rfl, rfl⟩
    refine x_v (r_mv rfl) rfl ?_
    refine x_v (r_ex rfl rfl) rfl ?_
    refine x_v (r_ex rfl rfl) rfl ?_
    refine x_a (r_al ty29 rfl) rfl fun b11 => ?_
    refine x_e (r_st ty29 rfl rfl rfl rfl rfl (by repeat (first | exact Upd.head _ _ _ | apply Upd.tail)) (by repeat (first | exact Over.nil _ | apply Over.put | apply Over.skip))) ?_
    refine x_v (r_as rfl) rfl ?_
    refine XL.nil ?_
    refine hK14 _ _ ?_
    refine XC.keep [(0, _), (1, _), (5, _), (11, _), (12, _)] ⟨rfl, rfl, rfl, rfl, rfl, trivial⟩ ?_
    refine XC.seq fun K15 hK15 => ?_
    refine XC.region ?_
    refine x_v (r_mv rfl) rfl ?_
    refine x_v (r_fa fo42_1 rfl) rfl ?_
    refine x_v (r_ld ty3 rfl (by repeat (first | exact Pick.head _ _ | apply Pick.tail)) (by rfl)) rfl ?_
    refine x_c (r_call0 (args := [_, _]) ⟨rfl, rfl, rfl⟩ (ratf_tr bw o.k A3 c3 m L1 hL2) (by repeat (first | exact Gets.done _ | exact Gets.all _ | (apply Gets.step; focus ((repeat (first | exact Pick.head _ _ | apply Pick.tail)); done)) | apply Gets.drop))) rfl ?_
    rintro _ _ ⟨rfl, rfl⟩
    refine x_v (r_mv rfl) rfl ?_
    refine x_v (r_ex rfl rfl) rfl ?_
    refine x_v (r_ex rfl rfl) rfl ?_
    refine x_a (r_al ty29 rfl) rfl fun b13 => ?_
    refine x_e (r_st ty29 rfl rfl rfl rfl rfl (by repeat (first | exact Upd.head _ _ _ | apply Upd.tail)) (by repeat (first | exact Over.nil _ | apply Over.put | apply Over.skip))) ?_
    refine x_v (r_as rfl) rfl ?_
    refine XL.nil ?_
    refine hK15 _ _ ?_
    refine XC.keep [(0, _), (1, _), (11, _), (12, _), (13, _), (14, _)] ⟨rfl, rfl, rfl, rfl, rfl, rfl, trivial⟩ ?_
    refine XC.seq fun K16 hK16 => ?_
    refine XC.draw [blk b13 29 (lc (takeX L1 o.k)), blk b11 29 (lc (takeX L1 o.k)), blk bw 48 [.slice A3 L1.length c3, .int .i64 m]] false [(0, false), (1, false), (2, false), (3, false), (4, false), (5, false), (6, false), (7, false), (8, false), (9, false), (11, false), (12, false), (13, false), (14, false), (15, false), (10, true), (16, false), (17, false), (18, false)] (by kernel_rfl) (by kernel_rfl) ?_
    refine y_v rfl (r_lda (l' := [_, _, _]) ty29 rfl (by repeat (first | exact Pick.head _ _ | apply Pick.tail)) rfl (Sub.get (by repeat (first | exact Sub.nil _ | apply Sub.take | apply Sub.skip)))) (fun _ h => Gets.own (by repeat (first | exact Gets.done _ | exact Gets.all _ | (apply Gets.step; focus ((repeat (first | exact Pick.head _ _ | apply Pick.tail)); done)) | apply Gets.drop)) h) rfl ?_
    refine y_v rfl (r_lda (l' := [_, _, _]) ty29 rfl (by repeat (first | exact Pick.head _ _ | apply Pick.tail)) rfl (Sub.get (by repeat (first | exact Sub.nil _ | apply Sub.take | apply Sub.skip)))) (fun _ h => Gets.own (by repeat (first | exact Gets.done _ | exact Gets.all _ | (apply Gets.step; focus ((repeat (first | exact Pick.head _ _ | apply Pick.tail)); done)) | apply Gets.drop)) h) rfl ?_
    refine y_v rfl (r_steq (by kernel_rfl) (fun w => eq29 _ _ _ _ _ _ w) rfl rfl) (fun _ h => Gets.own (by repeat (first | exact Gets.done _ | exact Gets.all _ | (apply Gets.step; focus ((repeat (first | exact Pick.head _ _ | apply Pick.tail)); done)) | apply Gets.drop)) h) rfl ?_
    refine y_v rfl (r_mv rfl) (fun _ h => Gets.own (by repeat (first | exact Gets.done _ | exact Gets.all _ | (apply Gets.step; focus ((repeat (first | exact Pick.head _ _ | apply Pick.tail)); done)) | apply Gets.drop)) h) rfl ?_
    refine XH.splitd 93 rfl (fun hg93 => ?_) (fun hg93 => ?_)
    · refine y_vg rfl rfl rfl (r_mv rfl) (fun _ h => Gets.own (by repeat (first | exact Gets.done _ | exact Gets.all _ | (apply Gets.step; focus ((repeat (first | exact Pick.head _ _ | apply Pick.tail)); done)) | apply Gets.drop)) h) rfl ?_
      refine y_vg rfl rfl rfl (r_mv rfl) (fun _ h => Gets.own (by repeat (first | exact Gets.done _ | exact Gets.all _ | (apply Gets.step; focus ((repeat (first | exact Pick.head _ _ | apply Pick.tail)); done)) | apply Gets.drop)) h) rfl ?_
      refine y_vg rfl rfl rfl (r_beq Try.underlying4 rfl rfl) (fun _ h => Gets.own (by repeat (first | exact Gets.done _ | exact Gets.all _ | (apply Gets.step; focus ((repeat (first | exact Pick.head _ _ | apply Pick.tail)); done)) | apply Gets.drop)) h) rfl ?_
      refine y_v rfl (r_pk_t rfl rfl) (fun _ h => Gets.own (by repeat (first | exact Gets.done _ | exact Gets.all _ | (apply Gets.step; focus ((repeat (first | exact Pick.head _ _ | apply Pick.tail)); done)) | apply Gets.drop)) h) rfl ?_
      refine y_v rfl (r_mv rfl) (fun _ h => Gets.own (by repeat (first | exact Gets.done _ | exact Gets.all _ | (apply Gets.step; focus ((repeat (first | exact Pick.head _ _ | apply Pick.tail)); done)) | apply Gets.drop)) h) rfl ?_
      refine XH.split 98 rfl (fun hg98 => ?_) (fun hg98 => ?_)
      · refine y_vg rfl rfl rfl (r_mv rfl) (fun _ h => Gets.own (by repeat (first | exact Gets.done _ | exact Gets.all _ | (apply Gets.step; focus ((repeat (first | exact Pick.head _ _ | apply Pick.tail)); done)) | apply Gets.drop)) h) rfl ?_
        refine y_vg rfl rfl rfl (r_mv rfl) (fun _ h => Gets.own (by repeat (first | exact Gets.done _ | exact Gets.all _ | (apply Gets.step; focus ((repeat (first | exact Pick.head _ _ | apply Pick.tail)); done)) | apply Gets.drop)) h) rfl ?_
        refine y_vg rfl rfl rfl (r_nc rfl) (fun _ h => Gets.own (by repeat (first | exact Gets.done _ | exact Gets.all _ | (apply Gets.step; focus ((repeat (first | exact Pick.head _ _ | apply Pick.tail)); done)) | apply Gets.drop)) h) rfl ?_
        refine y_vg rfl rfl rfl (r_fa fo48_0 rfl) (fun _ h => Gets.own (by repeat (first | exact Gets.done _ | exact Gets.all _ | (apply Gets.step; focus ((repeat (first | exact Pick.head _ _ | apply Pick.tail)); done)) | apply Gets.drop)) h) rfl ?_
        refine y_vg rfl rfl rfl (r_ld ty22 rfl (by repeat (first | exact Pick.head _ _ | apply Pick.tail)) (by rfl)) (fun _ h => Gets.own (by repeat (first | exact Gets.done _ | exact Gets.all _ | (apply Gets.step; focus ((repeat (first | exact Pick.head _ _ | apply Pick.tail)); done)) | apply Gets.drop)) h) rfl ?_
        refine y_vg rfl rfl rfl (r_lensl Try.underlying22 rfl) (fun _ h => Gets.own (by repeat (first | exact Gets.done _ | exact Gets.all _ | (apply Gets.step; focus ((repeat (first | exact Pick.head _ _ | apply Pick.tail)); done)) | apply Gets.drop)) h) rfl ?_
        refine y_cg rfl rfl rfl (r_call0 (args := [_]) ⟨rfl, rfl⟩ (len_tr bp A1 L1.length c1 m (cells lc L1)) (by repeat (first | exact Gets.done _ | exact Gets.all _ | (apply Gets.step; focus ((repeat (first | exact Pick.head _ _ | apply Pick.tail)); done)) | apply Gets.drop))) (by rintro _ _ _ _ ⟨rfl, rfl⟩ h; exact Gets.own (by repeat (first | exact Gets.done _ | exact Gets.all _ | (apply Gets.step; focus ((repeat (first | exact Pick.head _ _ | apply Pick.tail)); done)) | apply Gets.drop)) h) rfl ?_
        rintro _ _ ⟨rfl, rfl⟩
        refine y_vg rfl rfl rfl (r_eq rfl rfl) (fun _ h => Gets.own (by repeat (first | exact Gets.done _ | exact Gets.all _ | (apply Gets.step; focus ((repeat (first | exact Pick.head _ _ | apply Pick.tail)); done)) | apply Gets.drop)) h) rfl ?_
        refine y_v rfl (r_pk_t rfl rfl) (fun _ h => Gets.own (by repeat (first | exact Gets.done _ | exact Gets.all _ | (apply Gets.step; focus ((repeat (first | exact Pick.head _ _ | apply Pick.tail)); done)) | apply Gets.drop)) h) rfl ?_
        refine y_v rfl (r_as rfl) (fun _ h => Gets.own (by repeat (first | exact Gets.done _ | exact Gets.all _ | (apply Gets.step; focus ((repeat (first | exact Pick.head _ _ | apply Pick.tail)); done)) | apply Gets.drop)) h) rfl ?_
        refine XH.nil ?_
        refine hK16 _ _ ?_
        refine XC.keep [(6, _)] ⟨rfl, trivial⟩ ?_
        refine XC.ret ?_
        exact fin1 rfl (⟨by simp, _, _, _, _, rfl⟩) (by repeat (first | exact Gets.done _ | exact Gets.all _ | (apply Gets.step; focus ((repeat (first | exact Pick.head _ _ | apply Pick.tail)); done)) | apply Gets.drop))
      · exfalso; simp at hg98
    · exfalso; exact hg93 ⟨rfl, rfl, rfl⟩
end Go.Proofs.Ytdppjmdjmbbclaa

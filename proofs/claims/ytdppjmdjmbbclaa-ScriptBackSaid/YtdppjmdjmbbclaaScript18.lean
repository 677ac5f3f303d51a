/- Scripts: the pen's act (function 48). -/
import Derived.Test.YtdppjmdjmbbclaaScript17
namespace Go.Proofs.Ytdppjmdjmbbclaa
open Go.Sx
set_option linter.unusedVariables false

def B8 (i : Int) : Prop := 0 ≤ i ∧ i ≤ 255
instance (i : Int) : Decidable (B8 i) := by unfold B8; infer_instance
/-- Acts that can be written. -/
def Good (a : Av) : Prop :=
  (a.kind = 1 ∧ B8 a.node ∧ B8 a.q.kind ∧ B8 a.q.client ∧ B8 a.q.seq ∧ B8 a.q.mode ∧ B8 a.q.lag ∧ a.q.name.length < 32 ∧ a.q.data.length < 1024 ∧ a.k = 0 ∧ a.draw = 0 ∧ a.ks.length = 0) ∨
  ((a.kind = 2 ∨ a.kind = 3 ∨ a.kind = 4 ∨ a.kind = 9) ∧ B8 a.k ∧ a.node = 0 ∧ a.draw = 0 ∧ a.ks.length = 0 ∧ a.q = zq) ∨
  (a.kind = 5 ∧ B8 a.node ∧ B8 a.draw ∧ a.k = 0 ∧ a.ks.length = 0 ∧ a.q = zq) ∨
  ((a.kind = 6 ∨ a.kind = 7) ∧ B8 a.node ∧ a.ks.length < 8 ∧ (∀ x ∈ a.ks, B8 x) ∧ a.k = 0 ∧ a.draw = 0 ∧ a.q = zq) ∨
  (a.kind = 8 ∧ B8 a.node ∧ B8 a.k ∧ a.draw = 0 ∧ a.ks.length = 0 ∧ a.q = zq) ∨
  (a.kind = 10 ∧ B8 a.node ∧ B8 a.k ∧ (0 ≤ a.draw ∧ a.draw ≤ 65535) ∧ a.ks.length = 0 ∧ a.q = zq)
instance (a : Av) : Decidable (Good a) := by unfold Good; infer_instance
/-- The pen's bytes of an act. -/
def actB (a : Av) : List UInt8 := byteOf a.kind ::
  if a.kind = 1 then [byteOf a.node, byteOf a.q.kind, byteOf a.q.client, byteOf a.q.seq, byteOf a.q.mode, byteOf a.q.lag, byteOf (min (a.q.name.length : Int) 255)] ++ a.q.name ++ [byteOf (min (a.q.data.length : Int) 65535), byteOf (min (a.q.data.length : Int) 65535 / 256)] ++ a.q.data
  else if a.kind = 2 ∨ a.kind = 3 ∨ a.kind = 4 ∨ a.kind = 9 then [byteOf a.k]
  else if a.kind = 5 then [byteOf a.node, byteOf a.draw]
  else if a.kind = 6 ∨ a.kind = 7 then [byteOf a.node, byteOf (min (a.ks.length : Int) 255)] ++ a.ks.map byteOf
  else if a.kind = 8 then [byteOf a.node, byteOf a.k]
  else if a.kind = 10 then [byteOf a.node, byteOf a.k, byteOf a.draw, byteOf (a.draw / 256)]
  else []

theorem putb_tr {W0 : World} {Fr : List HP} (g E : Nat) (xs : List Int) (b : Nat) {A : Option Addr} {c : Nat} {out : List UInt8} {bad : Bool} (hn : xs.length ≤ 100000) (ho : out.length ≤ 70000000000000) {m n : Nat} (hm : n = xs.length) :
    Tr W0 Try.prog 55 [.pointer (some ⟨b, 0, none⟩), .slice (some ⟨g, 0, none⟩) n m] (blk b 94 [.slice A out.length c, .bool bad] :: sl A out.length c 5 1 (bv out) :: blk g E (iv xs) :: Fr) (fun v Rs' => v = .tuple #[] ∧ ∃ A c, Rs' = pn b A c (out ++ xs.map byteOf) (bad || xs.any nb) (blk g E (iv xs) :: Fr)) := by
  subst hm
  have hr : Rdb W0 (blk g E (iv xs) :: Fr) (some ⟨g, 0, none⟩) xs.length 1 (iv xs) := Rdb.of_blk (.head _ _) 0 (by simp [iv]) (fun _ _ h => by rw [Nat.zero_add]; exact h)
  exact put_tr b A c out bad _ _ m xs hr hn ho

theorem nb_iff (i : Int) : nb i = true ↔ ¬ B8 i := by unfold nb B8; rw [decide_eq_true_eq]; omega
theorem any_nb (l : List Int) : l.any nb = true ↔ ¬ ∀ x ∈ l, B8 x := by
  simp only [List.any_eq_true, nb_iff]
  exact ⟨fun ⟨x, h1, h2⟩ h => h2 (h x h1), fun h => Classical.byContradiction fun h2 => h fun x hx => Classical.byContradiction fun h3 => h2 ⟨x, hx, h3⟩⟩
theorem nb2_iff (i : Int) : nb2 i = true ↔ ¬ (0 ≤ i ∧ i ≤ 65535) := by unfold nb2; rw [decide_eq_true_eq]; omega

theorem zq_n : zq.name.length = 0 := rfl
theorem zq_d : zq.data.length = 0 := rfl
/-- The flag that the code makes, and the plain one. -/
theorem flag_is {a : Av} {a2 : Ac} {f : Bool} (h : (f = true ∨ ¬ Bare a2) ↔ ¬ Good a) : (f || !decide (Bare a2)) = !decide (Good a) := by
  rw [Bool.eq_iff_iff, Bool.or_eq_true, Bool.not_eq_true', decide_eq_false_iff_not, Bool.not_eq_true', decide_eq_false_iff_not]
  exact h

theorem pact_tr {W0 : World} {Fr : List HP} (b : Nat) (A : Option Addr) (c : Nat) (out : List UInt8) (a : Ac) (hr : Rdb W0 Fr a.A a.n 1 (iv a.ks)) (hs : Small a) (ho : out.length ≤ 1000000000) :
    Tr W0 Try.prog 48 [.pointer (some ⟨b, 0, none⟩), .agg (ac a).toArray] (pn b A c out false Fr) (fun v Rs' => v = .tuple #[] ∧ ∃ A c, Rs' = pn b A c (out ++ actB a.v) (!decide (Good a.v)) Fr) := by
  obtain ⟨hs1, hs2, hs3⟩ := hs
  have hkn : a.n = a.ks.length := by have := hr.len; simpa [iv] using this.symm
  have hkl : a.ks.length ≤ 32768 := by omega
  unfold pn
  refine Entry.tr (N := 180) (rs := []) ⟨_, Try.func48, rfl, by kernel_rfl, rfl, rfl⟩ rfl ?_
  refine XC.seq fun K1 hK1 => ?_
  refine XC.region ?_
  refine x_a (r_bx rfl rfl) rfl fun b3 => ?_
  unfold ac
  refine XL.nil ?_
  refine hK1 _ _ ?_
  refine XC.keep [(0, _), (3, _)] ⟨rfl, rfl, trivial⟩ ?_
  refine XC.seq fun K2 hK2 => ?_
  refine XC.region ?_
  refine x_v (r_mv rfl) rfl ?_
  refine x_v (r_fa fo83_0 rfl) rfl ?_
  refine x_v (r_ld ty3 rfl (by repeat (first | exact Pick.head _ _ | apply Pick.tail)) (by rfl)) rfl ?_
  refine x_a (r_bs (vs := [_]) rfl ⟨rfl, rfl⟩ (bs40_1_0 _)) rfl fun b9 => ?_
  refine x_c (r_call0 (args := [_, _]) ⟨rfl, rfl, rfl⟩ (putb_tr (out := out) b9 3 [a.kind] b (by simp) (by omega) rfl) (by repeat (first | exact Gets.done _ | exact Gets.all _ | (apply Gets.step; focus ((repeat (first | exact Pick.head _ _ | apply Pick.tail)); done)) | apply Gets.drop))) rfl ?_
  rintro _ _ ⟨rfl, A1, c1, rfl⟩
  unfold pn
  rw [Bool.false_or]
  obtain ⟨o1, ho1⟩ : ∃ o1, o1 = out ++ [a.kind].map byteOf := ⟨_, rfl⟩
  rw [← ho1]
  have hl1 : o1.length = out.length + 1 := by rw [ho1]; simp
  refine XL.nil ?_
  refine hK2 _ _ ?_
  refine XC.keep [(0, _), (3, _)] ⟨rfl, rfl, trivial⟩ ?_
  refine XC.seq fun K3 hK3 => ?_
  refine XC.region ?_
  refine x_v (r_lda (l' := [_, _, _, _, _, _, _, _, _, _, _, _]) ty83 rfl (by repeat (first | exact Pick.head _ _ | apply Pick.tail)) rfl (Sub.get (by repeat (first | exact Sub.nil _ | apply Sub.take | apply Sub.skip)))) rfl ?_
  refine x_a (r_al ty83 rfl) rfl fun b4 => ?_
  refine x_e (r_st ty83 rfl rfl rfl rfl rfl (by repeat (first | exact Upd.head _ _ _ | apply Upd.tail)) (by repeat (first | exact Over.nil _ | apply Over.put | apply Over.skip))) ?_
  refine XL.nil ?_
  refine hK3 _ _ ?_
  refine XC.keep [(0, _), (3, _), (4, _)] ⟨rfl, rfl, rfl, trivial⟩ ?_
  refine XC.seqcut (σ := (Option Addr × Nat) × List UInt8 × Bool × Ac) (fun s => [(0, .pointer (some ⟨b, 0, none⟩)), (4, .pointer (some ⟨b4, 0, none⟩))]) (fun s => blk b4 83 (ac s.2.2.2) :: blk b 94 [.slice s.1.1 s.2.1.length s.1.2, .bool s.2.2.1] :: sl s.1.1 s.2.1.length s.1.2 5 1 (bv s.2.1) :: Fr) (fun s => s.2.1 = out ++ actB a.v ∧ (s.2.2.1 || !decide (Bare s.2.2.2)) = !decide (Good a.v)) ?_ ?_
  · refine XC.seq fun K5 hK5 => ?_
    refine XC.region ?_
    refine x_v (r_fa fo83_0 rfl) rfl ?_
    refine x_v (r_ld ty3 rfl (by repeat (first | exact Pick.head _ _ | apply Pick.tail)) (by rfl)) rfl ?_
    refine XL.nil ?_
    refine hK5 _ _ ?_
    refine XC.keep [(0, _), (3, _), (4, _), (13, _)] ⟨rfl, rfl, rfl, rfl, trivial⟩ ?_
    refine XC.block ?_
    refine XC.seq fun K6 hK6 => ?_
    refine XC.region ?_
    refine x_v (r_eq rfl rfl) rfl ?_
    refine x_v (r_as rfl) rfl ?_
    refine XL.nil ?_
    refine hK6 _ _ ?_
    refine XC.keep [(0, _), (3, _), (4, _), (13, _), (17, _)] ⟨rfl, rfl, rfl, rfl, rfl, trivial⟩ ?_
    refine XC.cond_d rfl (fun hc1 => ?_) (fun hc1 => ?_)
    · have hk : a.kind = 1 := by omega
      refine XC.seq fun K7 hK7 => ?_
      refine XC.region ?_
      refine x_v (r_fa fo83_5 rfl) rfl ?_
      refine x_v (r_lda (l' := [_, _, _, _, _, _, _]) ty81 rfl (by repeat (first | exact Pick.head _ _ | apply Pick.tail)) rfl (Sub.get (by repeat (first | exact Sub.nil _ | apply Sub.take | apply Sub.skip)))) rfl ?_
      refine x_a (r_al ty81 rfl) rfl fun b5 => ?_
      refine x_e (r_st ty81 rfl rfl rfl rfl rfl (by repeat (first | exact Upd.head _ _ _ | apply Upd.tail)) (by repeat (first | exact Over.nil _ | apply Over.put | apply Over.skip))) ?_
      refine XL.nil ?_
      refine hK7 _ _ ?_
      refine XC.keep [(0, _), (3, _), (4, _), (5, _)] ⟨rfl, rfl, rfl, rfl, trivial⟩ ?_
      refine XC.seqcut (σ := Bool) (fun f => [(0, .pointer (some ⟨b, 0, none⟩)), (3, .pointer (some ⟨b3, 0, none⟩)), (4, .pointer (some ⟨b4, 0, none⟩)), (5, .pointer (some ⟨b5, 0, none⟩))]) (fun f => blk b5 81 (qc a.q) :: blk b4 83 (ac a) :: blk b3 83 (ac a) :: blk b 94 [.slice A1 o1.length c1, .bool f] :: sl A1 o1.length c1 5 1 (bv o1) :: Fr) (fun f => f = true ↔ (32 ≤ a.q.name.length ∨ 1024 ≤ a.q.data.length)) ?_ ?_
      · refine XC.region ?_
        refine x_v (r_mv rfl) rfl ?_
        refine x_v (r_mv rfl) rfl ?_
        refine x_v (r_nc rfl) rfl ?_
        refine x_v (r_fa fo94_1 rfl) rfl ?_
        refine x_v (r_ld ty4 rfl (by repeat (first | exact Pick.head _ _ | apply Pick.tail)) (by rfl)) rfl ?_
        refine x_v (r_mv rfl) rfl ?_
        refine XL.split 26 rfl (fun hg26 => ?_) (fun hg26 => ?_)
        · refine x_unwant rfl rfl rfl rfl rfl ?_
          refine x_unwant rfl rfl rfl rfl rfl ?_
          refine x_unwant rfl rfl rfl rfl rfl ?_
          refine x_unwant rfl rfl rfl rfl rfl ?_
          refine x_v (r_pk_t rfl rfl) rfl ?_
          refine x_v (r_mv rfl) rfl ?_
          refine x_unwant rfl rfl rfl rfl rfl ?_
          refine x_unwant rfl rfl rfl rfl rfl ?_
          refine x_unwant rfl rfl rfl rfl rfl ?_
          refine x_unwant rfl rfl rfl rfl rfl ?_
          refine x_v (r_pk_t rfl rfl) rfl ?_
          refine x_v (r_nc rfl) rfl ?_
          refine x_v (r_fa fo94_1 rfl) rfl ?_
          refine x_e (r_st ty4 rfl rfl rfl rfl rfl (by repeat (first | exact Upd.head _ _ _ | apply Upd.tail)) (by repeat (first | exact Over.nil _ | apply Over.put | apply Over.skip))) ?_
          refine XL.nil ?_
          exact ⟨true, by exfalso; simp [hk, nb] at hg26, ⟨rfl, rfl, rfl, rfl, trivial⟩, (by repeat (first | exact Gets.done _ | exact Gets.all _ | (apply Gets.step; focus ((repeat (first | exact Pick.head _ _ | apply Pick.tail)); done)) | apply Gets.drop))⟩
        · refine x_want rfl rfl rfl ?_
          refine x_v (r_fa fo81_3 rfl) rfl ?_
          refine x_want rfl rfl rfl ?_
          refine x_v (r_ld ty9 rfl (by repeat (first | exact Pick.head _ _ | apply Pick.tail)) (by rfl)) rfl ?_
          refine x_want rfl rfl rfl ?_
          refine x_v (r_lens Try.underlying9 rfl) rfl ?_
          refine x_want rfl rfl rfl ?_
          refine x_v (r_ge rfl rfl) rfl ?_
          refine x_v (r_pk_f rfl rfl) rfl ?_
          refine x_v (r_mv rfl) rfl ?_
          refine XL.splitd 32 rfl (fun hg32 => ?_) (fun hg32 => ?_)
          · refine x_unwant rfl rfl rfl rfl rfl ?_
            refine x_unwant rfl rfl rfl rfl rfl ?_
            refine x_unwant rfl rfl rfl rfl rfl ?_
            refine x_unwant rfl rfl rfl rfl rfl ?_
            refine x_v (r_pk_t rfl rfl) rfl ?_
            refine x_v (r_nc rfl) rfl ?_
            refine x_v (r_fa fo94_1 rfl) rfl ?_
            refine x_e (r_st ty4 rfl rfl rfl rfl rfl (by repeat (first | exact Upd.head _ _ _ | apply Upd.tail)) (by repeat (first | exact Over.nil _ | apply Over.put | apply Over.skip))) ?_
            refine XL.nil ?_
            exact ⟨true, by simp only [true_iff]; omega, ⟨rfl, rfl, rfl, rfl, trivial⟩, (by repeat (first | exact Gets.done _ | exact Gets.all _ | (apply Gets.step; focus ((repeat (first | exact Pick.head _ _ | apply Pick.tail)); done)) | apply Gets.drop))⟩
          · refine x_want rfl rfl rfl ?_
            refine x_v (r_fa fo81_4 rfl) rfl ?_
            refine x_want rfl rfl rfl ?_
            refine x_v (r_ld ty9 rfl (by repeat (first | exact Pick.head _ _ | apply Pick.tail)) (by rfl)) rfl ?_
            refine x_want rfl rfl rfl ?_
            refine x_v (r_lens Try.underlying9 rfl) rfl ?_
            refine x_want rfl rfl rfl ?_
            refine x_v (r_ge rfl rfl) rfl ?_
            refine x_v (r_pk_f rfl rfl) rfl ?_
            refine x_v (r_nc rfl) rfl ?_
            refine x_v (r_fa fo94_1 rfl) rfl ?_
            refine x_e (r_st ty4 rfl rfl rfl rfl rfl (by repeat (first | exact Upd.head _ _ _ | apply Upd.tail)) (by repeat (first | exact Over.nil _ | apply Over.put | apply Over.skip))) ?_
            refine XL.nil ?_
            exact ⟨decide (1024 ≤ (a.q.data.length : Int)), by simp only [decide_eq_true_eq]; omega, ⟨rfl, rfl, rfl, rfl, trivial⟩, (by repeat (first | exact Gets.done _ | exact Gets.all _ | (apply Gets.step; focus ((repeat (first | exact Pick.head _ _ | apply Pick.tail)); done)) | apply Gets.drop))⟩
      · rintro f hf
        unfold qc ac
        refine XC.seq fun K9 hK9 => ?_
        refine XC.region ?_
        refine x_v (r_mv rfl) rfl ?_
        refine x_v (r_fa fo83_1 rfl) rfl ?_
        refine x_v (r_ld ty3 rfl (by repeat (first | exact Pick.head _ _ | apply Pick.tail)) (by rfl)) rfl ?_
        refine x_v (r_fa fo81_0 rfl) rfl ?_
        refine x_v (r_ld ty3 rfl (by repeat (first | exact Pick.head _ _ | apply Pick.tail)) (by rfl)) rfl ?_
        refine x_v (r_fa fo81_1 rfl) rfl ?_
        refine x_v (r_ld ty3 rfl (by repeat (first | exact Pick.head _ _ | apply Pick.tail)) (by rfl)) rfl ?_
        refine x_v (r_fa fo81_2 rfl) rfl ?_
        refine x_v (r_ld ty3 rfl (by repeat (first | exact Pick.head _ _ | apply Pick.tail)) (by rfl)) rfl ?_
        refine x_v (r_fa fo81_5 rfl) rfl ?_
        refine x_v (r_ld ty3 rfl (by repeat (first | exact Pick.head _ _ | apply Pick.tail)) (by rfl)) rfl ?_
        refine x_v (r_fa fo81_6 rfl) rfl ?_
        refine x_v (r_ld ty3 rfl (by repeat (first | exact Pick.head _ _ | apply Pick.tail)) (by rfl)) rfl ?_
        refine x_v (r_fa fo81_3 rfl) rfl ?_
        refine x_v (r_ld ty9 rfl (by repeat (first | exact Pick.head _ _ | apply Pick.tail)) (by rfl)) rfl ?_
        refine x_v (r_lens Try.underlying9 rfl) rfl ?_
        refine x_v (r_min rfl rfl) rfl ?_
        refine x_a (r_bs (vs := [_, _, _, _, _, _, _]) rfl ⟨rfl, rfl, rfl, rfl, rfl, rfl, rfl, rfl⟩ (bs40_7_0_1_2_3_4_5_6 _ _ _ _ _ _ _)) rfl fun b57 => ?_
        refine x_c (r_call0 (args := [_, _]) ⟨rfl, rfl, rfl⟩ (putb_tr (out := o1) b57 3 [a.node, a.q.kind, a.q.client, a.q.seq, a.q.mode, a.q.lag, min (a.q.name.length : Int) 255] b (by simp) (by omega) rfl) (by repeat (first | exact Gets.done _ | exact Gets.all _ | (apply Gets.step; focus ((repeat (first | exact Pick.head _ _ | apply Pick.tail)); done)) | apply Gets.drop))) rfl ?_
        rintro _ _ ⟨rfl, A2, c2, rfl⟩
        unfold pn
        obtain ⟨o2, ho2⟩ : ∃ o2, o2 = o1 ++ [a.node, a.q.kind, a.q.client, a.q.seq, a.q.mode, a.q.lag, min (a.q.name.length : Int) 255].map byteOf := ⟨_, rfl⟩
        rw [← ho2]
        have hl2 : o2.length = o1.length + 7 := by rw [ho2]; simp
        obtain ⟨f2, hf2⟩ : ∃ f2, f2 = (f || [a.node, a.q.kind, a.q.client, a.q.seq, a.q.mode, a.q.lag, min (a.q.name.length : Int) 255].any nb) := ⟨_, rfl⟩
        rw [← hf2]
        refine XL.nil ?_
        refine hK9 _ _ ?_
        refine XC.keep [(0, _), (4, _), (5, _)] ⟨rfl, rfl, rfl, trivial⟩ ?_
        refine XC.seq fun K10 hK10 => ?_
        refine XC.draw [blk b 94 [.slice A2 o2.length c2, .bool f2], blk b5 81 [.int .i64 a.q.kind, .int .i64 a.q.client, .int .i64 a.q.seq, str a.q.name, str a.q.data, .int .i64 a.q.mode, .int .i64 a.q.lag]] true [(0, false), (1, false), (2, false), (3, false), (4, false), (5, false), (6, false), (7, true), (8, false), (9, false), (10, true)] (by kernel_rfl) (by kernel_rfl) ?_
        refine y_v rfl (r_mv rfl) (fun _ h => Gets.own (by repeat (first | exact Gets.done _ | exact Gets.all _ | (apply Gets.step; focus ((repeat (first | exact Pick.head _ _ | apply Pick.tail)); done)) | apply Gets.drop)) h) rfl ?_
        refine y_v rfl (r_mv rfl) (fun _ h => Gets.own (by repeat (first | exact Gets.done _ | exact Gets.all _ | (apply Gets.step; focus ((repeat (first | exact Pick.head _ _ | apply Pick.tail)); done)) | apply Gets.drop)) h) rfl ?_
        refine y_v rfl (r_nc rfl) (fun _ h => Gets.own (by repeat (first | exact Gets.done _ | exact Gets.all _ | (apply Gets.step; focus ((repeat (first | exact Pick.head _ _ | apply Pick.tail)); done)) | apply Gets.drop)) h) rfl ?_
        refine y_v rfl (r_fa fo94_0 rfl) (fun _ h => Gets.own (by repeat (first | exact Gets.done _ | exact Gets.all _ | (apply Gets.step; focus ((repeat (first | exact Pick.head _ _ | apply Pick.tail)); done)) | apply Gets.drop)) h) rfl ?_
        refine y_v rfl (r_ld ty92 rfl (by repeat (first | exact Pick.head _ _ | apply Pick.tail)) (by rfl)) (fun _ h => Gets.own (by repeat (first | exact Gets.done _ | exact Gets.all _ | (apply Gets.step; focus ((repeat (first | exact Pick.head _ _ | apply Pick.tail)); done)) | apply Gets.drop)) h) rfl ?_
        refine y_v rfl (r_fa fo81_3 rfl) (fun _ h => Gets.own (by repeat (first | exact Gets.done _ | exact Gets.all _ | (apply Gets.step; focus ((repeat (first | exact Pick.head _ _ | apply Pick.tail)); done)) | apply Gets.drop)) h) rfl ?_
        refine y_v rfl (r_ld ty9 rfl (by repeat (first | exact Pick.head _ _ | apply Pick.tail)) (by rfl)) (fun _ h => Gets.own (by repeat (first | exact Gets.done _ | exact Gets.all _ | (apply Gets.step; focus ((repeat (first | exact Pick.head _ _ | apply Pick.tail)); done)) | apply Gets.drop)) h) rfl ?_
        refine y_a rfl (r_apps Try.underlying92 Try.underlying9 ty5 rfl rfl (by repeat (first | exact Pick.head _ _ | apply Pick.tail)) (by omega)) (fun _ _ _ h => Gets.own (by repeat (first | exact Gets.done _ | exact Gets.all _ | (apply Gets.step; focus ((repeat (first | exact Pick.head _ _ | apply Pick.tail)); done)) | apply Gets.drop)) h) rfl fun ⟨A66, c66⟩ => ?_
        dsimp only
        rw [← bv_app, ← List.length_append]
        obtain ⟨o3, ho3⟩ : ∃ o3, o3 = o2 ++ a.q.name := ⟨_, rfl⟩
        rw [← ho3]
        have hl3 : o3.length = o2.length + a.q.name.length := by rw [ho3]; simp
        refine y_v rfl (r_nc rfl) (fun _ h => Gets.own (by repeat (first | exact Gets.done _ | exact Gets.all _ | (apply Gets.step; focus ((repeat (first | exact Pick.head _ _ | apply Pick.tail)); done)) | apply Gets.drop)) h) rfl ?_
        refine y_v rfl (r_fa fo94_0 rfl) (fun _ h => Gets.own (by repeat (first | exact Gets.done _ | exact Gets.all _ | (apply Gets.step; focus ((repeat (first | exact Pick.head _ _ | apply Pick.tail)); done)) | apply Gets.drop)) h) rfl ?_
        refine y_e rfl (r_st ty92 rfl rfl rfl rfl rfl (by repeat (first | exact Upd.head _ _ _ | apply Upd.tail)) (by repeat (first | exact Over.nil _ | apply Over.put | apply Over.skip))) (fun h => absurd h (by decide)) ?_
        refine XH.nil ?_
        refine hK10 _ _ ?_
        refine XC.keep [(0, _), (4, _), (5, _)] ⟨rfl, rfl, rfl, trivial⟩ ?_
        refine XC.seq fun K11 hK11 => ?_
        refine XC.region ?_
        refine x_v (r_mv rfl) rfl ?_
        refine x_v (r_fa fo81_4 rfl) rfl ?_
        refine x_v (r_ld ty9 rfl (by repeat (first | exact Pick.head _ _ | apply Pick.tail)) (by rfl)) rfl ?_
        refine x_v (r_lens Try.underlying9 rfl) rfl ?_
        refine x_v (r_min rfl rfl) rfl ?_
        refine x_c (r_call0 (args := [_, _]) ⟨rfl, rfl, rfl⟩ (ppair_tr b A66 c66 o3 f2 _ (by omega)) (by repeat (first | exact Gets.done _ | exact Gets.all _ | (apply Gets.step; focus ((repeat (first | exact Pick.head _ _ | apply Pick.tail)); done)) | apply Gets.drop))) rfl ?_
        rintro _ _ ⟨rfl, A4, c4, rfl⟩
        unfold pn
        obtain ⟨o4, ho4⟩ : ∃ o4, o4 = o3 ++ [byteOf (min (a.q.data.length : Int) 65535), byteOf (min (a.q.data.length : Int) 65535 / 256)] := ⟨_, rfl⟩
        rw [← ho4]
        have hl4 : o4.length = o3.length + 2 := by rw [ho4]; simp
        obtain ⟨f4, hf4⟩ : ∃ f4, f4 = (f2 || nb2 (min (a.q.data.length : Int) 65535)) := ⟨_, rfl⟩
        rw [← hf4]
        refine XL.nil ?_
        refine hK11 _ _ ?_
        refine XC.keep [(0, _), (4, _), (5, _)] ⟨rfl, rfl, rfl, trivial⟩ ?_
        refine XC.seq fun K12 hK12 => ?_
        refine XC.draw [blk b 94 [.slice A4 o4.length c4, .bool f4], blk b5 81 [.int .i64 a.q.kind, .int .i64 a.q.client, .int .i64 a.q.seq, str a.q.name, str a.q.data, .int .i64 a.q.mode, .int .i64 a.q.lag]] true [(0, false), (1, false), (2, false), (3, false), (4, false), (5, false), (6, false), (7, true), (8, false), (9, false), (10, true)] (by kernel_rfl) (by kernel_rfl) ?_
        refine y_v rfl (r_mv rfl) (fun _ h => Gets.own (by repeat (first | exact Gets.done _ | exact Gets.all _ | (apply Gets.step; focus ((repeat (first | exact Pick.head _ _ | apply Pick.tail)); done)) | apply Gets.drop)) h) rfl ?_
        refine y_v rfl (r_mv rfl) (fun _ h => Gets.own (by repeat (first | exact Gets.done _ | exact Gets.all _ | (apply Gets.step; focus ((repeat (first | exact Pick.head _ _ | apply Pick.tail)); done)) | apply Gets.drop)) h) rfl ?_
        refine y_v rfl (r_nc rfl) (fun _ h => Gets.own (by repeat (first | exact Gets.done _ | exact Gets.all _ | (apply Gets.step; focus ((repeat (first | exact Pick.head _ _ | apply Pick.tail)); done)) | apply Gets.drop)) h) rfl ?_
        refine y_v rfl (r_fa fo94_0 rfl) (fun _ h => Gets.own (by repeat (first | exact Gets.done _ | exact Gets.all _ | (apply Gets.step; focus ((repeat (first | exact Pick.head _ _ | apply Pick.tail)); done)) | apply Gets.drop)) h) rfl ?_
        refine y_v rfl (r_ld ty92 rfl (by repeat (first | exact Pick.head _ _ | apply Pick.tail)) (by rfl)) (fun _ h => Gets.own (by repeat (first | exact Gets.done _ | exact Gets.all _ | (apply Gets.step; focus ((repeat (first | exact Pick.head _ _ | apply Pick.tail)); done)) | apply Gets.drop)) h) rfl ?_
        refine y_v rfl (r_fa fo81_4 rfl) (fun _ h => Gets.own (by repeat (first | exact Gets.done _ | exact Gets.all _ | (apply Gets.step; focus ((repeat (first | exact Pick.head _ _ | apply Pick.tail)); done)) | apply Gets.drop)) h) rfl ?_
        refine y_v rfl (r_ld ty9 rfl (by repeat (first | exact Pick.head _ _ | apply Pick.tail)) (by rfl)) (fun _ h => Gets.own (by repeat (first | exact Gets.done _ | exact Gets.all _ | (apply Gets.step; focus ((repeat (first | exact Pick.head _ _ | apply Pick.tail)); done)) | apply Gets.drop)) h) rfl ?_
        refine y_a rfl (r_apps Try.underlying92 Try.underlying9 ty5 rfl rfl (by repeat (first | exact Pick.head _ _ | apply Pick.tail)) (by omega)) (fun _ _ _ h => Gets.own (by repeat (first | exact Gets.done _ | exact Gets.all _ | (apply Gets.step; focus ((repeat (first | exact Pick.head _ _ | apply Pick.tail)); done)) | apply Gets.drop)) h) rfl fun ⟨A82, c82⟩ => ?_
        dsimp only
        rw [← bv_app, ← List.length_append]
        refine y_v rfl (r_nc rfl) (fun _ h => Gets.own (by repeat (first | exact Gets.done _ | exact Gets.all _ | (apply Gets.step; focus ((repeat (first | exact Pick.head _ _ | apply Pick.tail)); done)) | apply Gets.drop)) h) rfl ?_
        refine y_v rfl (r_fa fo94_0 rfl) (fun _ h => Gets.own (by repeat (first | exact Gets.done _ | exact Gets.all _ | (apply Gets.step; focus ((repeat (first | exact Pick.head _ _ | apply Pick.tail)); done)) | apply Gets.drop)) h) rfl ?_
        refine y_e rfl (r_st ty92 rfl rfl rfl rfl rfl (by repeat (first | exact Upd.head _ _ _ | apply Upd.tail)) (by repeat (first | exact Over.nil _ | apply Over.put | apply Over.skip))) (fun h => absurd h (by decide)) ?_
        refine XH.nil ?_
        refine hK12 _ _ ?_
        refine XC.keep [(0, _), (4, _)] ⟨rfl, rfl, trivial⟩ ?_
        refine XC.region ?_
        refine x_v (r_bd (vs := []) rfl rfl bd81_z) rfl ?_
        refine x_v (r_fa fo83_1 rfl) rfl ?_
        refine x_e (r_st ty3 rfl rfl rfl rfl rfl (by repeat (first | exact Upd.head _ _ _ | apply Upd.tail)) (by repeat (first | exact Over.nil _ | apply Over.put | apply Over.skip))) ?_
        refine x_v (r_fa fo83_5 rfl) rfl ?_
        refine x_e (r_st ty81 rfl rfl rfl rfl rfl (by repeat (first | exact Upd.head _ _ _ | apply Upd.tail)) (by repeat (first | exact Over.nil _ | apply Over.put | apply Over.skip))) ?_
        refine XL.nil ?_
        exact ⟨((A82, c82), o4 ++ a.q.data, f4, { a with node := 0, q := zq }), ⟨by dsimp only; rw [ho4, ho3, ho2, ho1]; simp [actB, Ac.v, hk], flag_is (by (try rw [hf4]); (try rw [hf2]); simp only [Bool.or_eq_true, List.any_cons, List.any_nil, Bool.or_false, nb_iff, nb2_iff, any_nb, reduceCtorEq, true_or, false_or, hf]; unfold Bare Good B8; dsimp only [Ac.v]; generalize (∀ x ∈ a.ks, 0 ≤ x ∧ x ≤ 255) = P; by_cases hq : a.q = zq <;> by_cases hP : P <;> simp only [hq, hP, and_true, and_false, true_and, false_and, or_false, not_true_eq_false, not_false_eq_true, List.length_nil, eq_self, or_true, true_or, true_iff, false_or, iff_false, zq_n, zq_d] <;> omega)⟩, ⟨rfl, rfl, trivial⟩, (by repeat (first | exact Gets.done _ | exact Gets.all _ | (apply Gets.step; focus ((repeat (first | exact Pick.head _ _ | apply Pick.tail)); done)) | apply Gets.drop))⟩
    · refine XC.seqcut (σ := Bool) (fun p => [(0, .pointer (some ⟨b, 0, none⟩)), (3, .pointer (some ⟨b3, 0, none⟩)), (4, .pointer (some ⟨b4, 0, none⟩)), (13, .int .i64 a.kind), (88, .bool p)]) (fun p => blk b4 83 (ac a) :: blk b3 83 (ac a) :: blk b 94 [.slice A1 o1.length c1, .bool ([a.kind].any nb)] :: sl A1 o1.length c1 5 1 (bv o1) :: Fr) (fun p => p = true ↔ (a.kind = 2 ∨ a.kind = 3 ∨ a.kind = 4 ∨ a.kind = 9)) ?_ ?_
      · refine XC.seq fun K14 hK14 => ?_
        refine XC.region ?_
        refine x_v (r_eq rfl rfl) rfl ?_
        refine x_v (r_as rfl) rfl ?_
        refine XL.nil ?_
        refine hK14 _ _ ?_
        refine XC.keep [(0, _), (3, _), (4, _), (13, _), (88, _)] ⟨rfl, rfl, rfl, rfl, rfl, trivial⟩ ?_
        refine XC.cond_d rfl (fun hc2 => ?_) (fun hc2 => ?_)
        · refine XC.skip ?_
          exact ⟨_, by simp only [decide_eq_true_eq]; omega, ⟨rfl, rfl, rfl, rfl, rfl, trivial⟩, (by repeat (first | exact Gets.done _ | exact Gets.all _ | (apply Gets.step; focus ((repeat (first | exact Pick.head _ _ | apply Pick.tail)); done)) | apply Gets.drop))⟩
        · refine XC.seq fun K15 hK15 => ?_
          refine XC.region ?_
          refine x_v (r_eq rfl rfl) rfl ?_
          refine x_v (r_as rfl) rfl ?_
          refine XL.nil ?_
          refine hK15 _ _ ?_
          refine XC.keep [(0, _), (3, _), (4, _), (13, _), (88, _)] ⟨rfl, rfl, rfl, rfl, rfl, trivial⟩ ?_
          refine XC.cond_d rfl (fun hc3 => ?_) (fun hc3 => ?_)
          · refine XC.skip ?_
            exact ⟨_, by simp only [decide_eq_true_eq]; omega, ⟨rfl, rfl, rfl, rfl, rfl, trivial⟩, (by repeat (first | exact Gets.done _ | exact Gets.all _ | (apply Gets.step; focus ((repeat (first | exact Pick.head _ _ | apply Pick.tail)); done)) | apply Gets.drop))⟩
          · refine XC.seq fun K16 hK16 => ?_
            refine XC.region ?_
            refine x_v (r_eq rfl rfl) rfl ?_
            refine x_v (r_as rfl) rfl ?_
            refine XL.nil ?_
            refine hK16 _ _ ?_
            refine XC.keep [(0, _), (3, _), (4, _), (13, _), (88, _)] ⟨rfl, rfl, rfl, rfl, rfl, trivial⟩ ?_
            refine XC.cond_d rfl (fun hc4 => ?_) (fun hc4 => ?_)
            · refine XC.skip ?_
              exact ⟨_, by simp only [decide_eq_true_eq]; omega, ⟨rfl, rfl, rfl, rfl, rfl, trivial⟩, (by repeat (first | exact Gets.done _ | exact Gets.all _ | (apply Gets.step; focus ((repeat (first | exact Pick.head _ _ | apply Pick.tail)); done)) | apply Gets.drop))⟩
            · refine XC.region ?_
              refine x_v (r_eq rfl rfl) rfl ?_
              refine x_v (r_as rfl) rfl ?_
              refine XL.nil ?_
              exact ⟨_, by simp only [decide_eq_true_eq]; omega, ⟨rfl, rfl, rfl, rfl, rfl, trivial⟩, (by repeat (first | exact Gets.done _ | exact Gets.all _ | (apply Gets.step; focus ((repeat (first | exact Pick.head _ _ | apply Pick.tail)); done)) | apply Gets.drop))⟩
      · rintro p hp
        unfold ac
        refine XC.cond rfl (fun hc5 => ?_) (fun hc5 => ?_)
        · have hk := hp.1 hc5
          refine XC.seq fun K17 hK17 => ?_
          refine XC.region ?_
          refine x_v (r_mv rfl) rfl ?_
          refine x_v (r_fa fo83_2 rfl) rfl ?_
          refine x_v (r_ld ty3 rfl (by repeat (first | exact Pick.head _ _ | apply Pick.tail)) (by rfl)) rfl ?_
          refine x_a (r_bs (vs := [_]) rfl ⟨rfl, rfl⟩ (bs40_1_0 _)) rfl fun b96 => ?_
          refine x_c (r_call0 (args := [_, _]) ⟨rfl, rfl, rfl⟩ (putb_tr (out := o1) b96 3 [a.k] b (by simp) (by omega) rfl) (by repeat (first | exact Gets.done _ | exact Gets.all _ | (apply Gets.step; focus ((repeat (first | exact Pick.head _ _ | apply Pick.tail)); done)) | apply Gets.drop))) rfl ?_
          rintro _ _ ⟨rfl, A2, c2, rfl⟩
          unfold pn
          refine XL.nil ?_
          refine hK17 _ _ ?_
          refine XC.keep [(0, _), (4, _)] ⟨rfl, rfl, trivial⟩ ?_
          refine XC.region ?_
          refine x_v (r_fa fo83_2 rfl) rfl ?_
          refine x_e (r_st ty3 rfl rfl rfl rfl rfl (by repeat (first | exact Upd.head _ _ _ | apply Upd.tail)) (by repeat (first | exact Over.nil _ | apply Over.put | apply Over.skip))) ?_
          refine XL.nil ?_
          exact ⟨((A2, c2), o1 ++ [a.k].map byteOf, [a.kind].any nb || [a.k].any nb, { a with k := 0 }), ⟨by dsimp only; rw [ho1]; unfold actB; rw [if_neg (by dsimp only [Ac.v]; omega), if_pos (by dsimp only [Ac.v]; omega)]; simp [Ac.v], flag_is (by (try rw [hf4]); (try rw [hf2]); simp only [Bool.or_eq_true, List.any_cons, List.any_nil, Bool.or_false, nb_iff, nb2_iff, any_nb, reduceCtorEq, true_or, false_or]; unfold Bare Good B8; dsimp only [Ac.v]; generalize (∀ x ∈ a.ks, 0 ≤ x ∧ x ≤ 255) = P; by_cases hq : a.q = zq <;> by_cases hP : P <;> simp only [hq, hP, and_true, and_false, true_and, false_and, or_false, not_true_eq_false, not_false_eq_true, List.length_nil, eq_self, or_true, true_or, true_iff, false_or, iff_false, zq_n, zq_d] <;> omega)⟩, ⟨rfl, rfl, trivial⟩, (by repeat (first | exact Gets.done _ | exact Gets.all _ | (apply Gets.step; focus ((repeat (first | exact Pick.head _ _ | apply Pick.tail)); done)) | apply Gets.drop))⟩
        · have hnk : ¬ (a.kind = 2 ∨ a.kind = 3 ∨ a.kind = 4 ∨ a.kind = 9) := fun h => Bool.noConfusion (hc5.symm.trans (hp.2 h))
          refine XC.seq fun K18 hK18 => ?_
          refine XC.region ?_
          refine x_v (r_eq rfl rfl) rfl ?_
          refine x_v (r_as rfl) rfl ?_
          refine XL.nil ?_
          refine hK18 _ _ ?_
          refine XC.keep [(0, _), (3, _), (4, _), (13, _), (99, _)] ⟨rfl, rfl, rfl, rfl, rfl, trivial⟩ ?_
          refine XC.cond_d rfl (fun hc6 => ?_) (fun hc6 => ?_)
          · refine XC.seq fun K19 hK19 => ?_
            refine XC.region ?_
            refine x_v (r_mv rfl) rfl ?_
            refine x_v (r_fa fo83_1 rfl) rfl ?_
            refine x_v (r_ld ty3 rfl (by repeat (first | exact Pick.head _ _ | apply Pick.tail)) (by rfl)) rfl ?_
            refine x_v (r_fa fo83_3 rfl) rfl ?_
            refine x_v (r_ld ty3 rfl (by repeat (first | exact Pick.head _ _ | apply Pick.tail)) (by rfl)) rfl ?_
            refine x_a (r_bs (vs := [_, _]) rfl ⟨rfl, rfl, rfl⟩ (bs40_2_0_1 _ _)) rfl fun b106 => ?_
            refine x_c (r_call0 (args := [_, _]) ⟨rfl, rfl, rfl⟩ (putb_tr (out := o1) b106 3 [a.node, a.draw] b (by simp) (by omega) rfl) (by repeat (first | exact Gets.done _ | exact Gets.all _ | (apply Gets.step; focus ((repeat (first | exact Pick.head _ _ | apply Pick.tail)); done)) | apply Gets.drop))) rfl ?_
            rintro _ _ ⟨rfl, A2, c2, rfl⟩
            unfold pn
            refine XL.nil ?_
            refine hK19 _ _ ?_
            refine XC.keep [(0, _), (4, _)] ⟨rfl, rfl, trivial⟩ ?_
            refine XC.region ?_
            refine x_v (r_fa fo83_1 rfl) rfl ?_
            refine x_e (r_st ty3 rfl rfl rfl rfl rfl (by repeat (first | exact Upd.head _ _ _ | apply Upd.tail)) (by repeat (first | exact Over.nil _ | apply Over.put | apply Over.skip))) ?_
            refine x_v (r_fa fo83_3 rfl) rfl ?_
            refine x_e (r_st ty3 rfl rfl rfl rfl rfl (by repeat (first | exact Upd.head _ _ _ | apply Upd.tail)) (by repeat (first | exact Over.nil _ | apply Over.put | apply Over.skip))) ?_
            refine XL.nil ?_
            exact ⟨((A2, c2), o1 ++ [a.node, a.draw].map byteOf, [a.kind].any nb || [a.node, a.draw].any nb, { a with node := 0, draw := 0 }), ⟨by dsimp only; rw [ho1]; unfold actB; rw [if_neg (by dsimp only [Ac.v]; omega), if_neg (by dsimp only [Ac.v]; omega), if_pos (by dsimp only [Ac.v]; omega)]; simp [Ac.v], flag_is (by (try rw [hf4]); (try rw [hf2]); simp only [Bool.or_eq_true, List.any_cons, List.any_nil, Bool.or_false, nb_iff, nb2_iff, any_nb, reduceCtorEq, true_or, false_or]; unfold Bare Good B8; dsimp only [Ac.v]; generalize (∀ x ∈ a.ks, 0 ≤ x ∧ x ≤ 255) = P; by_cases hq : a.q = zq <;> by_cases hP : P <;> simp only [hq, hP, and_true, and_false, true_and, false_and, or_false, not_true_eq_false, not_false_eq_true, List.length_nil, eq_self, or_true, true_or, true_iff, false_or, iff_false, zq_n, zq_d] <;> omega)⟩, ⟨rfl, rfl, trivial⟩, (by repeat (first | exact Gets.done _ | exact Gets.all _ | (apply Gets.step; focus ((repeat (first | exact Pick.head _ _ | apply Pick.tail)); done)) | apply Gets.drop))⟩
          · refine XC.seqcut (σ := Bool) (fun p => [(0, .pointer (some ⟨b, 0, none⟩)), (3, .pointer (some ⟨b3, 0, none⟩)), (4, .pointer (some ⟨b4, 0, none⟩)), (13, .int .i64 a.kind), (110, .bool p)]) (fun p => blk b4 83 (ac a) :: blk b3 83 (ac a) :: blk b 94 [.slice A1 o1.length c1, .bool ([a.kind].any nb)] :: sl A1 o1.length c1 5 1 (bv o1) :: Fr) (fun p => p = true ↔ (a.kind = 6 ∨ a.kind = 7)) ?_ ?_
            · refine XC.seq fun K21 hK21 => ?_
              refine XC.region ?_
              refine x_v (r_eq rfl rfl) rfl ?_
              refine x_v (r_as rfl) rfl ?_
              refine XL.nil ?_
              refine hK21 _ _ ?_
              refine XC.keep [(0, _), (3, _), (4, _), (13, _), (110, _)] ⟨rfl, rfl, rfl, rfl, rfl, trivial⟩ ?_
              refine XC.cond_d rfl (fun hc7 => ?_) (fun hc7 => ?_)
              · refine XC.skip ?_
                exact ⟨_, by simp only [decide_eq_true_eq]; omega, ⟨rfl, rfl, rfl, rfl, rfl, trivial⟩, (by repeat (first | exact Gets.done _ | exact Gets.all _ | (apply Gets.step; focus ((repeat (first | exact Pick.head _ _ | apply Pick.tail)); done)) | apply Gets.drop))⟩
              · refine XC.region ?_
                refine x_v (r_eq rfl rfl) rfl ?_
                refine x_v (r_as rfl) rfl ?_
                refine XL.nil ?_
                exact ⟨_, by simp only [decide_eq_true_eq]; omega, ⟨rfl, rfl, rfl, rfl, rfl, trivial⟩, (by repeat (first | exact Gets.done _ | exact Gets.all _ | (apply Gets.step; focus ((repeat (first | exact Pick.head _ _ | apply Pick.tail)); done)) | apply Gets.drop))⟩
            · rintro p hp
              unfold ac
              refine XC.cond rfl (fun hc8 => ?_) (fun hc8 => ?_)
              · have hk := hp.1 hc8
                refine XC.seqcut (σ := Bool) (fun f => [(0, .pointer (some ⟨b, 0, none⟩)), (3, .pointer (some ⟨b3, 0, none⟩)), (4, .pointer (some ⟨b4, 0, none⟩))]) (fun f => blk b4 83 (ac a) :: blk b3 83 (ac a) :: blk b 94 [.slice A1 o1.length c1, .bool f] :: sl A1 o1.length c1 5 1 (bv o1) :: Fr) (fun f => f = true ↔ 8 ≤ a.ks.length) ?_ ?_
                · refine XC.region ?_
                  refine x_v (r_mv rfl) rfl ?_
                  refine x_v (r_mv rfl) rfl ?_
                  refine x_v (r_nc rfl) rfl ?_
                  refine x_v (r_fa fo94_1 rfl) rfl ?_
                  refine x_v (r_ld ty4 rfl (by repeat (first | exact Pick.head _ _ | apply Pick.tail)) (by rfl)) rfl ?_
                  refine x_v (r_mv rfl) rfl ?_
                  refine XL.split 118 rfl (fun hg118 => ?_) (fun hg118 => ?_)
                  · refine x_unwant rfl rfl rfl rfl rfl ?_
                    refine x_unwant rfl rfl rfl rfl rfl ?_
                    refine x_unwant rfl rfl rfl rfl rfl ?_
                    refine x_unwant rfl rfl rfl rfl rfl ?_
                    refine x_v (r_pk_t rfl rfl) rfl ?_
                    refine x_v (r_nc rfl) rfl ?_
                    refine x_v (r_fa fo94_1 rfl) rfl ?_
                    refine x_e (r_st ty4 rfl rfl rfl rfl rfl (by repeat (first | exact Upd.head _ _ _ | apply Upd.tail)) (by repeat (first | exact Over.nil _ | apply Over.put | apply Over.skip))) ?_
                    refine XL.nil ?_
                    exact ⟨true, by exfalso; rcases hk with h | h <;> simp [h, nb] at hg118, ⟨rfl, rfl, rfl, trivial⟩, (by repeat (first | exact Gets.done _ | exact Gets.all _ | (apply Gets.step; focus ((repeat (first | exact Pick.head _ _ | apply Pick.tail)); done)) | apply Gets.drop))⟩
                  · refine x_want rfl rfl rfl ?_
                    refine x_v (r_fa fo83_4 rfl) rfl ?_
                    refine x_want rfl rfl rfl ?_
                    refine x_v (r_ld ty40 rfl (by repeat (first | exact Pick.head _ _ | apply Pick.tail)) (by rfl)) rfl ?_
                    refine x_want rfl rfl rfl ?_
                    refine x_v (r_lensl Try.underlying40 rfl) rfl ?_
                    refine x_want rfl rfl rfl ?_
                    refine x_v (r_ge rfl rfl) rfl ?_
                    refine x_v (r_pk_f rfl rfl) rfl ?_
                    refine x_v (r_nc rfl) rfl ?_
                    refine x_v (r_fa fo94_1 rfl) rfl ?_
                    refine x_e (r_st ty4 rfl rfl rfl rfl rfl (by repeat (first | exact Upd.head _ _ _ | apply Upd.tail)) (by repeat (first | exact Over.nil _ | apply Over.put | apply Over.skip))) ?_
                    refine XL.nil ?_
                    exact ⟨decide (8 ≤ (a.n : Int)), by simp only [decide_eq_true_eq]; omega, ⟨rfl, rfl, rfl, trivial⟩, (by repeat (first | exact Gets.done _ | exact Gets.all _ | (apply Gets.step; focus ((repeat (first | exact Pick.head _ _ | apply Pick.tail)); done)) | apply Gets.drop))⟩
                · rintro f hf
                  unfold ac
                  refine XC.seq fun K23 hK23 => ?_
                  refine XC.region ?_
                  refine x_v (r_mv rfl) rfl ?_
                  refine x_v (r_fa fo83_1 rfl) rfl ?_
                  refine x_v (r_ld ty3 rfl (by repeat (first | exact Pick.head _ _ | apply Pick.tail)) (by rfl)) rfl ?_
                  refine x_v (r_fa fo83_4 rfl) rfl ?_
                  refine x_v (r_ld ty40 rfl (by repeat (first | exact Pick.head _ _ | apply Pick.tail)) (by rfl)) rfl ?_
                  refine x_v (r_lensl Try.underlying40 rfl) rfl ?_
                  refine x_v (r_min rfl rfl) rfl ?_
                  refine x_a (r_bs (vs := [_, _]) rfl ⟨rfl, rfl, rfl⟩ (bs40_2_0_1 _ _)) rfl fun b133 => ?_
                  refine x_c (r_call0 (args := [_, _]) ⟨rfl, rfl, rfl⟩ (putb_tr (out := o1) b133 3 [a.node, min (a.n : Int) 255] b (by simp) (by omega) rfl) (by repeat (first | exact Gets.done _ | exact Gets.all _ | (apply Gets.step; focus ((repeat (first | exact Pick.head _ _ | apply Pick.tail)); done)) | apply Gets.drop))) rfl ?_
                  rintro _ _ ⟨rfl, A2, c2, rfl⟩
                  unfold pn
                  obtain ⟨o2, ho2⟩ : ∃ o2, o2 = o1 ++ [a.node, min (a.n : Int) 255].map byteOf := ⟨_, rfl⟩
                  rw [← ho2]
                  have hl2 : o2.length = o1.length + 2 := by rw [ho2]; simp
                  obtain ⟨f2, hf2⟩ : ∃ f2, f2 = (f || [a.node, min (a.n : Int) 255].any nb) := ⟨_, rfl⟩
                  rw [← hf2]
                  refine XL.nil ?_
                  refine hK23 _ _ ?_
                  refine XC.keep [(0, _), (3, _), (4, _)] ⟨rfl, rfl, rfl, trivial⟩ ?_
                  refine XC.seq fun K24 hK24 => ?_
                  refine XC.region ?_
                  refine x_v (r_mv rfl) rfl ?_
                  refine x_v (r_fa fo83_4 rfl) rfl ?_
                  refine x_v (r_ld ty40 rfl (by repeat (first | exact Pick.head _ _ | apply Pick.tail)) (by rfl)) rfl ?_
                  refine x_c (r_call0 (args := [_, _]) ⟨rfl, rfl, rfl⟩ (put_tr (Fr := blk b4 83 (ac a) :: blk b3 83 (ac a) :: Fr) b A2 c2 o2 f2 a.A a.n a.c a.ks (hr.suf (.cons _ (.cons _ (.refl _)))) (by omega) (by omega)) (by repeat (first | exact Gets.done _ | exact Gets.all _ | (apply Gets.step; focus ((repeat (first | exact Pick.head _ _ | apply Pick.tail)); done)) | apply Gets.drop))) rfl ?_
                  rintro _ _ ⟨rfl, A3, c3, rfl⟩
                  unfold pn ac
                  refine XL.nil ?_
                  refine hK24 _ _ ?_
                  refine XC.keep [(0, _), (4, _)] ⟨rfl, rfl, trivial⟩ ?_
                  refine XC.region ?_
                  refine x_v (r_fa fo83_1 rfl) rfl ?_
                  refine x_e (r_st ty3 rfl rfl rfl rfl rfl (by repeat (first | exact Upd.head _ _ _ | apply Upd.tail)) (by repeat (first | exact Over.nil _ | apply Over.put | apply Over.skip))) ?_
                  refine x_v (r_fa fo83_4 rfl) rfl ?_
                  refine x_e (r_st ty40 rfl rfl rfl rfl rfl (by repeat (first | exact Upd.head _ _ _ | apply Upd.tail)) (by repeat (first | exact Over.nil _ | apply Over.put | apply Over.skip))) ?_
                  refine XL.nil ?_
                  exact ⟨((A3, c3), o2 ++ a.ks.map byteOf, f2 || a.ks.any nb, { a with node := 0, A := none, n := 0, c := 0, ks := [] }), ⟨by dsimp only; rw [ho2, ho1]; unfold actB; rw [if_neg (by dsimp only [Ac.v]; omega), if_neg (by dsimp only [Ac.v]; omega), if_neg (by dsimp only [Ac.v]; omega), if_pos (by dsimp only [Ac.v]; omega)]; simp [Ac.v, hkn], flag_is (by (try rw [hf4]); (try rw [hf2]); simp only [Bool.or_eq_true, List.any_cons, List.any_nil, Bool.or_false, nb_iff, nb2_iff, any_nb, reduceCtorEq, true_or, false_or, hf]; unfold Bare Good B8; dsimp only [Ac.v]; generalize (∀ x ∈ a.ks, 0 ≤ x ∧ x ≤ 255) = P; by_cases hq : a.q = zq <;> by_cases hP : P <;> simp only [hq, hP, and_true, and_false, true_and, false_and, or_false, not_true_eq_false, not_false_eq_true, List.length_nil, eq_self, or_true, true_or, true_iff, false_or, iff_false, zq_n, zq_d] <;> omega)⟩, ⟨rfl, rfl, trivial⟩, (by repeat (first | exact Gets.done _ | exact Gets.all _ | (apply Gets.step; focus ((repeat (first | exact Pick.head _ _ | apply Pick.tail)); done)) | apply Gets.drop))⟩
              · have hnk2 : ¬ (a.kind = 6 ∨ a.kind = 7) := fun h => Bool.noConfusion (hc8.symm.trans (hp.2 h))
                refine XC.seq fun K25 hK25 => ?_
                refine XC.region ?_
                refine x_v (r_eq rfl rfl) rfl ?_
                refine x_v (r_as rfl) rfl ?_
                refine XL.nil ?_
                refine hK25 _ _ ?_
                refine XC.keep [(0, _), (3, _), (4, _), (13, _), (141, _)] ⟨rfl, rfl, rfl, rfl, rfl, trivial⟩ ?_
                refine XC.cond_d rfl (fun hc9 => ?_) (fun hc9 => ?_)
                · refine XC.seq fun K26 hK26 => ?_
                  refine XC.region ?_
                  refine x_v (r_mv rfl) rfl ?_
                  refine x_v (r_fa fo83_1 rfl) rfl ?_
                  refine x_v (r_ld ty3 rfl (by repeat (first | exact Pick.head _ _ | apply Pick.tail)) (by rfl)) rfl ?_
                  refine x_v (r_fa fo83_2 rfl) rfl ?_
                  refine x_v (r_ld ty3 rfl (by repeat (first | exact Pick.head _ _ | apply Pick.tail)) (by rfl)) rfl ?_
                  refine x_a (r_bs (vs := [_, _]) rfl ⟨rfl, rfl, rfl⟩ (bs40_2_0_1 _ _)) rfl fun b148 => ?_
                  refine x_c (r_call0 (args := [_, _]) ⟨rfl, rfl, rfl⟩ (putb_tr (out := o1) b148 3 [a.node, a.k] b (by simp) (by omega) rfl) (by repeat (first | exact Gets.done _ | exact Gets.all _ | (apply Gets.step; focus ((repeat (first | exact Pick.head _ _ | apply Pick.tail)); done)) | apply Gets.drop))) rfl ?_
                  rintro _ _ ⟨rfl, A2, c2, rfl⟩
                  unfold pn
                  refine XL.nil ?_
                  refine hK26 _ _ ?_
                  refine XC.keep [(0, _), (4, _)] ⟨rfl, rfl, trivial⟩ ?_
                  refine XC.region ?_
                  refine x_v (r_fa fo83_1 rfl) rfl ?_
                  refine x_e (r_st ty3 rfl rfl rfl rfl rfl (by repeat (first | exact Upd.head _ _ _ | apply Upd.tail)) (by repeat (first | exact Over.nil _ | apply Over.put | apply Over.skip))) ?_
                  refine x_v (r_fa fo83_2 rfl) rfl ?_
                  refine x_e (r_st ty3 rfl rfl rfl rfl rfl (by repeat (first | exact Upd.head _ _ _ | apply Upd.tail)) (by repeat (first | exact Over.nil _ | apply Over.put | apply Over.skip))) ?_
                  refine XL.nil ?_
                  exact ⟨((A2, c2), o1 ++ [a.node, a.k].map byteOf, [a.kind].any nb || [a.node, a.k].any nb, { a with node := 0, k := 0 }), ⟨by dsimp only; rw [ho1]; unfold actB; (repeat rw [if_neg (by dsimp only [Ac.v]; omega)]); rw [if_pos (by dsimp only [Ac.v]; omega)]; simp [Ac.v], flag_is (by (try rw [hf4]); (try rw [hf2]); simp only [Bool.or_eq_true, List.any_cons, List.any_nil, Bool.or_false, nb_iff, nb2_iff, any_nb, reduceCtorEq, true_or, false_or]; unfold Bare Good B8; dsimp only [Ac.v]; generalize (∀ x ∈ a.ks, 0 ≤ x ∧ x ≤ 255) = P; by_cases hq : a.q = zq <;> by_cases hP : P <;> simp only [hq, hP, and_true, and_false, true_and, false_and, or_false, not_true_eq_false, not_false_eq_true, List.length_nil, eq_self, or_true, true_or, true_iff, false_or, iff_false, zq_n, zq_d] <;> omega)⟩, ⟨rfl, rfl, trivial⟩, (by repeat (first | exact Gets.done _ | exact Gets.all _ | (apply Gets.step; focus ((repeat (first | exact Pick.head _ _ | apply Pick.tail)); done)) | apply Gets.drop))⟩
                · refine XC.seq fun K27 hK27 => ?_
                  refine XC.region ?_
                  refine x_v (r_eq rfl rfl) rfl ?_
                  refine x_v (r_as rfl) rfl ?_
                  refine XL.nil ?_
                  refine hK27 _ _ ?_
                  refine XC.keep [(0, _), (3, _), (4, _), (152, _)] ⟨rfl, rfl, rfl, rfl, trivial⟩ ?_
                  refine XC.cond_d rfl (fun hc10 => ?_) (fun hc10 => ?_)
                  · refine XC.seq fun K28 hK28 => ?_
                    refine XC.region ?_
                    refine x_v (r_mv rfl) rfl ?_
                    refine x_v (r_fa fo83_1 rfl) rfl ?_
                    refine x_v (r_ld ty3 rfl (by repeat (first | exact Pick.head _ _ | apply Pick.tail)) (by rfl)) rfl ?_
                    refine x_v (r_fa fo83_2 rfl) rfl ?_
                    refine x_v (r_ld ty3 rfl (by repeat (first | exact Pick.head _ _ | apply Pick.tail)) (by rfl)) rfl ?_
                    refine x_a (r_bs (vs := [_, _]) rfl ⟨rfl, rfl, rfl⟩ (bs40_2_0_1 _ _)) rfl fun b159 => ?_
                    refine x_c (r_call0 (args := [_, _]) ⟨rfl, rfl, rfl⟩ (putb_tr (out := o1) b159 3 [a.node, a.k] b (by simp) (by omega) rfl) (by repeat (first | exact Gets.done _ | exact Gets.all _ | (apply Gets.step; focus ((repeat (first | exact Pick.head _ _ | apply Pick.tail)); done)) | apply Gets.drop))) rfl ?_
                    rintro _ _ ⟨rfl, A2, c2, rfl⟩
                    unfold pn
                    obtain ⟨o2, ho2⟩ : ∃ o2, o2 = o1 ++ [a.node, a.k].map byteOf := ⟨_, rfl⟩
                    rw [← ho2]
                    have hl2 : o2.length = o1.length + 2 := by rw [ho2]; simp
                    obtain ⟨f2, hf2⟩ : ∃ f2, f2 = ([a.kind].any nb || [a.node, a.k].any nb) := ⟨_, rfl⟩
                    rw [← hf2]
                    refine XL.nil ?_
                    refine hK28 _ _ ?_
                    refine XC.keep [(0, _), (3, _), (4, _)] ⟨rfl, rfl, rfl, trivial⟩ ?_
                    refine XC.seq fun K29 hK29 => ?_
                    refine XC.region ?_
                    refine x_v (r_mv rfl) rfl ?_
                    refine x_v (r_fa fo83_3 rfl) rfl ?_
                    refine x_v (r_ld ty3 rfl (by repeat (first | exact Pick.head _ _ | apply Pick.tail)) (by rfl)) rfl ?_
                    refine x_c (r_call0 (args := [_, _]) ⟨rfl, rfl, rfl⟩ (ppair_tr b A2 c2 o2 f2 _ (by omega)) (by repeat (first | exact Gets.done _ | exact Gets.all _ | (apply Gets.step; focus ((repeat (first | exact Pick.head _ _ | apply Pick.tail)); done)) | apply Gets.drop))) rfl ?_
                    rintro _ _ ⟨rfl, A3, c3, rfl⟩
                    unfold pn
                    refine XL.nil ?_
                    refine hK29 _ _ ?_
                    refine XC.keep [(0, _), (4, _)] ⟨rfl, rfl, trivial⟩ ?_
                    refine XC.region ?_
                    refine x_v (r_fa fo83_1 rfl) rfl ?_
                    refine x_e (r_st ty3 rfl rfl rfl rfl rfl (by repeat (first | exact Upd.head _ _ _ | apply Upd.tail)) (by repeat (first | exact Over.nil _ | apply Over.put | apply Over.skip))) ?_
                    refine x_v (r_fa fo83_2 rfl) rfl ?_
                    refine x_e (r_st ty3 rfl rfl rfl rfl rfl (by repeat (first | exact Upd.head _ _ _ | apply Upd.tail)) (by repeat (first | exact Over.nil _ | apply Over.put | apply Over.skip))) ?_
                    refine x_v (r_fa fo83_3 rfl) rfl ?_
                    refine x_e (r_st ty3 rfl rfl rfl rfl rfl (by repeat (first | exact Upd.head _ _ _ | apply Upd.tail)) (by repeat (first | exact Over.nil _ | apply Over.put | apply Over.skip))) ?_
                    refine XL.nil ?_
                    exact ⟨((A3, c3), o2 ++ [byteOf a.draw, byteOf (a.draw / 256)], f2 || nb2 a.draw, { a with node := 0, k := 0, draw := 0 }), ⟨by dsimp only; rw [ho2, ho1]; unfold actB; (repeat rw [if_neg (by dsimp only [Ac.v]; omega)]); rw [if_pos (by dsimp only [Ac.v]; omega)]; simp [Ac.v], flag_is (by (try rw [hf4]); (try rw [hf2]); simp only [Bool.or_eq_true, List.any_cons, List.any_nil, Bool.or_false, nb_iff, nb2_iff, any_nb, reduceCtorEq, true_or, false_or]; unfold Bare Good B8; dsimp only [Ac.v]; generalize (∀ x ∈ a.ks, 0 ≤ x ∧ x ≤ 255) = P; by_cases hq : a.q = zq <;> by_cases hP : P <;> simp only [hq, hP, and_true, and_false, true_and, false_and, or_false, not_true_eq_false, not_false_eq_true, List.length_nil, eq_self, or_true, true_or, true_iff, false_or, iff_false, zq_n, zq_d] <;> omega)⟩, ⟨rfl, rfl, trivial⟩, (by repeat (first | exact Gets.done _ | exact Gets.all _ | (apply Gets.step; focus ((repeat (first | exact Pick.head _ _ | apply Pick.tail)); done)) | apply Gets.drop))⟩
                  · refine XC.region ?_
                    refine x_v (r_mv rfl) rfl ?_
                    refine x_v (r_nc rfl) rfl ?_
                    refine x_v (r_fa fo94_1 rfl) rfl ?_
                    refine x_e (r_st ty4 rfl rfl rfl rfl rfl (by repeat (first | exact Upd.head _ _ _ | apply Upd.tail)) (by repeat (first | exact Over.nil _ | apply Over.put | apply Over.skip))) ?_
                    refine XL.nil ?_
                    exact ⟨((A1, c1), o1, true, a), ⟨by dsimp only; rw [ho1]; unfold actB; (repeat rw [if_neg (by dsimp only [Ac.v]; omega)]); simp [Ac.v], flag_is (by unfold Good; dsimp only [Ac.v]; simp only [eq_self, true_or, true_iff]; omega)⟩, ⟨rfl, rfl, trivial⟩, (by repeat (first | exact Gets.done _ | exact Gets.all _ | (apply Gets.step; focus ((repeat (first | exact Pick.head _ _ | apply Pick.tail)); done)) | apply Gets.drop))⟩
  · rintro ⟨⟨A9, c9⟩, o9, f9, a9⟩ ⟨ho9, hf9⟩
    dsimp only at ho9 hf9 ⊢
    subst ho9
    unfold ac
    refine XC.region ?_
    refine x_v (r_mv rfl) rfl ?_
    refine x_v (r_mv rfl) rfl ?_
    refine x_v (r_nc rfl) rfl ?_
    refine x_v (r_fa fo94_1 rfl) rfl ?_
    refine x_v (r_ld ty4 rfl (by repeat (first | exact Pick.head _ _ | apply Pick.tail)) (by rfl)) rfl ?_
    refine x_v (r_mv rfl) rfl ?_
    refine XL.split 173 rfl (fun hg173 => ?_) (fun hg173 => ?_)
    · refine x_unwant rfl rfl rfl rfl rfl ?_
      refine x_unwant rfl rfl rfl rfl rfl ?_
      refine x_unwant rfl rfl rfl rfl rfl ?_
      refine x_v (r_pk_t rfl rfl) rfl ?_
      refine x_v (r_nc rfl) rfl ?_
      refine x_v (r_fa fo94_1 rfl) rfl ?_
      refine x_e (r_st ty4 rfl rfl rfl rfl rfl (by repeat (first | exact Upd.head _ _ _ | apply Upd.tail)) (by repeat (first | exact Over.nil _ | apply Over.put | apply Over.skip))) ?_
      refine XL.nil ?_
      rw [← hf9, hg173, Bool.true_or]
      exact fin0 (⟨rfl, _, _, rfl⟩) (by repeat (first | exact Gets.done _ | exact Gets.all _ | (apply Gets.step; focus ((repeat (first | exact Pick.head _ _ | apply Pick.tail)); done)) | apply Gets.drop))
    · refine x_want rfl rfl rfl ?_
      refine x_v (r_lda (l' := [_, _, _, _, _, _, _, _, _, _, _, _]) ty83 rfl (by repeat (first | exact Pick.head _ _ | apply Pick.tail)) rfl (Sub.get (by repeat (first | exact Sub.nil _ | apply Sub.take | apply Sub.skip)))) rfl ?_
      refine x_want rfl rfl rfl ?_
      refine x_c (r_call0 (args := [_]) ⟨rfl, rfl⟩ (bare_tr a9) (by repeat (first | exact Gets.done _ | exact Gets.all _ | (apply Gets.step; focus ((repeat (first | exact Pick.head _ _ | apply Pick.tail)); done)) | apply Gets.drop))) rfl ?_
      rintro _ _ ⟨rfl, hRs⟩
      rw [hRs]
      refine x_want rfl rfl rfl ?_
      refine x_v (r_not rfl) rfl ?_
      refine x_v (r_pk_f rfl rfl) rfl ?_
      refine x_v (r_nc rfl) rfl ?_
      refine x_v (r_fa fo94_1 rfl) rfl ?_
      refine x_e (r_st ty4 rfl rfl rfl rfl rfl (by repeat (first | exact Upd.head _ _ _ | apply Upd.tail)) (by repeat (first | exact Over.nil _ | apply Over.put | apply Over.skip))) ?_
      refine XL.nil ?_
      rw [← hf9, hg173, Bool.false_or, ← decide_not]
      exact fin0 (⟨rfl, _, _, rfl⟩) (by repeat (first | exact Gets.done _ | exact Gets.all _ | (apply Gets.step; focus ((repeat (first | exact Pick.head _ _ | apply Pick.tail)); done)) | apply Gets.drop))
end Go.Proofs.Ytdppjmdjmbbclaa

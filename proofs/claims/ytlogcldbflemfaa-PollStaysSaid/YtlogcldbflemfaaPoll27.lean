/- Polls: what is played; a mail of its own; a node that cannot be. -/
import Derived.Test.YtlogcldbflemfaaPoll23
import Derived.Test.YtlogcldbflemfaaPoll17
import Derived.Test.YtlogcldbflemfaaRow3
namespace Go.Proofs.Ytlogcldbflemfaa
open Go.Sx Go.Rf
set_option linter.unusedVariables false

theorem heavy_tr {W0 : World} {Fr : List HP} (x : Mx) (hx : OkMx W0 x) : Tr W0 Try.prog 35 [.agg (mc x).toArray] Fr (fun v Rs' => (∃ n : Int, v = .int .i64 n ∧ 0 ≤ n ∧ n ≤ 40000000) ∧ Rs' = Fr) := by
  obtain ⟨⟨kd, tm, ix, pv, cm, gd, es, dt⟩, A, c, hA, hn, hc, ep, si, a1, a2, w1, w2, oA, on, oc, pA, pn, pc⟩ := x
  obtain ⟨hr, hl⟩ := hx
  dsimp only at hr hl
  refine Entry.tr (N := 30) (rs := [.tmp 2]) ⟨_, Try.func35, rfl, by kernel_rfl, rfl, rfl⟩ rfl ?_
  refine XC.seq fun K1 hK1 => ?_
  refine XC.region ?_
  refine x_a (r_bx rfl rfl) rfl fun b1 => ?_
  unfold mc
  dsimp only
  refine x_v (r_as rfl) rfl ?_
  refine XL.nil ?_
  refine hK1 _ _ ?_
  refine XC.keep [(1, _)] ⟨rfl, trivial⟩ ?_
  refine XC.seq fun K2 hK2 => ?_
  refine XC.region ?_
  refine x_v (r_fa fo42_7 rfl) rfl ?_
  refine x_v (r_ld ty9 rfl (by repeat (first | exact Pick.head _ _ | apply Pick.tail)) (by rfl)) rfl ?_
  refine x_v (r_lens Try.underlying9 rfl) rfl ?_
  refine x_v (r_min rfl rfl) rfl ?_
  refine x_v (r_add rfl rfl (by omega)) rfl ?_
  refine x_v (r_as rfl) rfl ?_
  refine XL.nil ?_
  refine hK2 _ _ ?_
  refine XC.keep [(1, _), (3, _)] ⟨rfl, rfl, trivial⟩ ?_
  refine XC.seq fun K3 hK3 => ?_
  refine XC.seq fun K4 hK4 => ?_
  refine XC.region ?_
  refine x_v (r_fa fo42_6 rfl) rfl ?_
  refine x_v (r_ld ty30 rfl (by repeat (first | exact Pick.head _ _ | apply Pick.tail)) (by rfl)) rfl ?_
  refine x_v (r_lensl Try.underlying30 rfl) rfl ?_
  refine x_v (r_mv rfl) rfl ?_
  refine XL.nil ?_
  refine hK4 _ _ ?_
  refine XC.keep [(3, _), (12, _), (13, _), (14, _)] ⟨rfl, rfl, rfl, rfl, trivial⟩ ?_
  refine XC.block ?_
  refine XC.loop (σ := Nat × Int) (fun s => [(3, .int .i64 s.2), (12, .slice A es.length c), (13, .int .i64 (es.length : Int)), (14, .int .i64 (s.1 : Int))]) (fun s => Fr) (fun s => s.1 ≤ es.length ∧ s.1 ≤ 21 ∧ 0 ≤ s.2 ∧ s.2 ≤ 1048580 + 1048578 * s.1) (fun s => es.length - s.1) (0, 4 + min (dt.length : Int) 1048576) ?_ ⟨rfl, rfl, rfl, rfl, trivial⟩ (by repeat (first | exact Gets.done _ | exact Gets.all _ | (apply Gets.step; focus ((repeat (first | exact Pick.head _ _ | apply Pick.tail)); done)) | apply Gets.drop)) ?_
  · dsimp only; omega
  rintro ⟨i, n⟩ ⟨hi, hi2, hn0, hn1⟩
  dsimp only at hi hi2 hn0 hn1 ⊢
  refine XC.seq fun K5 hK5 => ?_
  refine XC.region ?_
  refine x_v (r_lt rfl rfl) rfl ?_
  refine XL.nil ?_
  refine hK5 _ _ ?_
  refine XC.keep [(3, _), (12, _), (13, _), (14, _), (15, _)] ⟨rfl, rfl, rfl, rfl, rfl, trivial⟩ ?_
  refine XC.seq fun K6 hK6 => ?_
  refine XC.cond_d rfl (fun hc1 => ?_) (fun hc1 => ?_)
  · refine XC.skip ?_
    refine hK6 _ _ ?_
    refine XC.keep [(3, _), (12, _), (13, _), (14, _)] ⟨rfl, rfl, rfl, rfl, trivial⟩ ?_
    refine XC.seq fun K7 hK7 => ?_
    refine XC.block ?_
    refine XC.seq fun K8 hK8 => ?_
    obtain ⟨e, he⟩ : ∃ e, es[i]? = some e := ⟨_, List.getElem?_eq_getElem (by omega)⟩
    obtain ⟨ob, oo, rfl, hat⟩ := (hr []).at_ (by omega)
    refine XC.region ?_
    refine x_v (r_mv rfl) rfl ?_
    refine x_v (r_ia (k := i) Try.underlying30 ty48 rfl rfl (by omega) (by omega)) rfl ?_
    refine x_v (r_ldar (l' := ec e) ty48 rfl rfl (fun w hw j u hu => by rw [Nat.add_assoc]; exact hat w (Gets.own (by repeat (first | exact Gets.done _ | exact Gets.all _ | (apply Gets.step; focus ((repeat (first | exact Pick.head _ _ | apply Pick.tail)); done)) | apply Gets.drop)) hw) _ u (cells_get ec_len es _ _ he j u hu))) rfl ?_
    unfold ec
    refine x_a (r_al ty48 rfl) rfl fun b5 => ?_
    refine x_v (r_as rfl) rfl ?_
    refine x_e (r_st ty48 rfl rfl rfl rfl rfl (by repeat (first | exact Upd.head _ _ _ | apply Upd.tail)) (by repeat (first | exact Over.nil _ | apply Over.put | apply Over.skip))) ?_
    refine XL.nil ?_
    refine hK8 _ _ ?_
    refine XC.keep [(3, _), (4, _), (5, _), (12, _), (13, _), (14, _)] ⟨rfl, rfl, rfl, rfl, rfl, rfl, trivial⟩ ?_
    refine XC.seq fun K9 hK9 => ?_
    refine XC.seq fun K10 hK10 => ?_
    refine XC.region ?_
    refine x_v (r_mv rfl) rfl ?_
    refine x_v (r_gt rfl rfl) rfl ?_
    refine XL.nil ?_
    refine hK10 _ _ ?_
    refine XC.keep [(3, _), (5, _), (12, _), (13, _), (14, _), (20, _)] ⟨rfl, rfl, rfl, rfl, rfl, rfl, trivial⟩ ?_
    refine XC.cond_d rfl (fun hc2 => ?_) (fun hc2 => ?_)
    · refine XC.exit rfl ?_
      refine hK3 _ _ ?_
      refine XC.keep [(3, _)] ⟨rfl, trivial⟩ ?_
      refine XC.seq fun K11 hK11 => ?_
      refine XC.region ?_
      refine x_v (r_mv rfl) rfl ?_
      refine x_v (r_as rfl) rfl ?_
      refine XL.nil ?_
      refine hK11 _ _ ?_
      refine XC.keep [(2, _)] ⟨rfl, trivial⟩ ?_
      refine XC.ret ?_
      exact fin1 rfl (⟨⟨_, rfl, by omega, by omega⟩, rfl⟩) (by repeat (first | exact Gets.done _ | exact Gets.all _ | (apply Gets.step; focus ((repeat (first | exact Pick.head _ _ | apply Pick.tail)); done)) | apply Gets.drop))
    · refine XC.skip ?_
      refine hK9 _ _ ?_
      refine XC.keep [(3, _), (5, _), (12, _), (13, _), (14, _)] ⟨rfl, rfl, rfl, rfl, rfl, trivial⟩ ?_
      refine XC.region ?_
      refine x_v (r_mv rfl) rfl ?_
      refine x_v (r_fa fo48_1 rfl) rfl ?_
      refine x_v (r_ld ty9 rfl (by repeat (first | exact Pick.head _ _ | apply Pick.tail)) (by rfl)) rfl ?_
      refine x_v (r_lens Try.underlying9 rfl) rfl ?_
      refine x_v (r_min rfl rfl) rfl ?_
      refine x_v (r_add rfl rfl (by omega)) rfl ?_
      refine x_v (r_add rfl rfl (by omega)) rfl ?_
      refine x_v (r_as rfl) rfl ?_
      refine XL.nil ?_
      refine hK7 _ _ ?_
      refine XC.keep [(3, _), (12, _), (13, _), (14, _)] ⟨rfl, rfl, rfl, rfl, trivial⟩ ?_
      refine XC.region ?_
      refine x_v (r_add rfl rfl (by omega)) rfl ?_
      refine x_v (r_mv rfl) rfl ?_
      refine XL.nil ?_
      refine ⟨(i + 1, n + (2 + min (e.data.length : Int) 1048576)), ?_, ?_, ⟨rfl, rfl, rfl, rfl, trivial⟩, (by repeat (first | exact Gets.done _ | exact Gets.all _ | (apply Gets.step; focus ((repeat (first | exact Pick.head _ _ | apply Pick.tail)); done)) | apply Gets.drop))⟩
      · dsimp only; omega
      · dsimp only; omega
  · refine XC.exit rfl ?_
    refine hK3 _ _ ?_
    refine XC.keep [(3, _)] ⟨rfl, trivial⟩ ?_
    refine XC.seq fun K12 hK12 => ?_
    refine XC.region ?_
    refine x_v (r_mv rfl) rfl ?_
    refine x_v (r_as rfl) rfl ?_
    refine XL.nil ?_
    refine hK12 _ _ ?_
    refine XC.keep [(2, _)] ⟨rfl, trivial⟩ ?_
    refine XC.ret ?_
    exact fin1 rfl (⟨⟨_, rfl, by omega, by omega⟩, rfl⟩) (by repeat (first | exact Gets.done _ | exact Gets.all _ | (apply Gets.step; focus ((repeat (first | exact Pick.head _ _ | apply Pick.tail)); done)) | apply Gets.drop))

/-- A kept thing that is none. -/
def zk : List Value := [.int .i64 0, .int .i64 0, .int .i64 0, .int .i64 0, str [], .slice none 0 0]
theorem great_tr {W0 : World} {Fr : List HP} (XA : Option Addr) (xc : Nat) (T : List Ox) (hr : ∀ Fr, Rdb W0 Fr XA T.length 21 (cells oc T)) (hok : ∀ o ∈ T, OkMx W0 o.x) : Tr W0 Try.prog 12 [.agg zk.toArray, .slice XA T.length xc] Fr (fun v Rs' => (∃ g : Bool, v = .bool g ∧ (g = false → T.length ≤ 150)) ∧ Rs' = Fr) := by
  refine Entry.tr (N := 57) (rs := [.tmp 4]) ⟨_, Try.func12, rfl, by kernel_rfl, rfl, rfl⟩ rfl ?_
  refine XC.seq fun K1 hK1 => ?_
  refine XC.region ?_
  refine x_a (r_bx rfl rfl) rfl fun b2 => ?_
  unfold zk
  refine x_v (r_as rfl) rfl ?_
  refine XL.nil ?_
  refine hK1 _ _ ?_
  refine XC.keep [(1, _), (2, _)] ⟨rfl, rfl, trivial⟩ ?_
  refine XC.seq fun K2 hK2 => ?_
  refine XC.region ?_
  refine x_v (r_fa fo32_5 rfl) rfl ?_
  refine x_v (r_ld ty30 rfl (by repeat (first | exact Pick.head _ _ | apply Pick.tail)) (by rfl)) rfl ?_
  refine x_v (r_lensl Try.underlying30 rfl) rfl ?_
  refine x_v (r_fa fo32_4 rfl) rfl ?_
  refine x_v (r_ld ty9 rfl (by repeat (first | exact Pick.head _ _ | apply Pick.tail)) (by rfl)) rfl ?_
  refine x_v (r_lens Try.underlying9 rfl) rfl ?_
  refine x_v (r_min rfl rfl) rfl ?_
  refine x_v (r_add rfl rfl (by omega)) rfl ?_
  refine x_v (r_as rfl) rfl ?_
  refine XL.nil ?_
  refine hK2 _ _ ?_
  refine XC.keep [(1, _), (2, _), (5, _)] ⟨rfl, rfl, rfl, trivial⟩ ?_
  refine XC.seq fun K3 hK3 => ?_
  refine XC.seq fun K4 hK4 => ?_
  refine XC.region ?_
  refine x_v (r_fa fo32_5 rfl) rfl ?_
  refine x_v (r_ld ty30 rfl (by repeat (first | exact Pick.head _ _ | apply Pick.tail)) (by rfl)) rfl ?_
  refine x_v (r_lensl Try.underlying30 rfl) rfl ?_
  refine x_v (r_mv rfl) rfl ?_
  refine XL.nil ?_
  refine hK4 _ _ ?_
  refine XC.keep [(1, _), (5, _), (19, _), (20, _), (21, _)] ⟨rfl, rfl, rfl, rfl, rfl, trivial⟩ ?_
  refine XC.block ?_
  refine XC.loop (σ := Unit) (fun s => [(1, .slice XA T.length xc), (5, .int .i64 0), (19, .slice none 0 0), (20, .int .i64 0), (21, .int .i64 0)]) (fun s => Fr) (fun s => True) (fun s => 0) () ?_ ⟨rfl, rfl, rfl, rfl, rfl, trivial⟩ (by repeat (first | exact Gets.done _ | exact Gets.all _ | (apply Gets.step; focus ((repeat (first | exact Pick.head _ _ | apply Pick.tail)); done)) | apply Gets.drop)) ?_
  · trivial
  rintro _ _
  refine XC.seq fun K5 hK5 => ?_
  refine XC.region ?_
  refine x_v (r_lt rfl rfl) rfl ?_
  refine XL.nil ?_
  refine hK5 _ _ ?_
  refine XC.keep [(1, _), (5, _), (19, _), (20, _), (21, _), (22, _)] ⟨rfl, rfl, rfl, rfl, rfl, rfl, trivial⟩ ?_
  refine XC.seq fun K6 hK6 => ?_
  refine XC.cond_d rfl (fun hc1 => ?_) (fun hc1 => ?_)
  · exfalso; omega
  · refine XC.exit rfl ?_
    refine hK3 _ _ ?_
    refine XC.keep [(1, _), (5, _)] ⟨rfl, rfl, trivial⟩ ?_
    refine XC.seq fun K7 hK7 => ?_
    refine XC.seq fun K8 hK8 => ?_
    refine XC.region ?_
    refine x_v (r_mv rfl) rfl ?_
    refine x_v (r_lensl Try.underlying22 rfl) rfl ?_
    refine x_v (r_mv rfl) rfl ?_
    refine XL.nil ?_
    refine hK8 _ _ ?_
    refine XC.keep [(1, _), (5, _), (34, _), (35, _), (36, _)] ⟨rfl, rfl, rfl, rfl, rfl, trivial⟩ ?_
    refine XC.block ?_
    refine XC.loop (σ := Nat × Int) (fun s => [(1, .slice XA T.length xc), (5, .int .i64 s.2), (34, .slice XA T.length xc), (35, .int .i64 (T.length : Int)), (36, .int .i64 (s.1 : Int))]) (fun s => Fr) (fun s => s.1 ≤ T.length ∧ 4 * (s.1 : Int) ≤ s.2 ∧ s.2 ≤ 32768) (fun s => T.length - s.1) (0, 0) ?_ ⟨rfl, rfl, rfl, rfl, rfl, trivial⟩ (by repeat (first | exact Gets.done _ | exact Gets.all _ | (apply Gets.step; focus ((repeat (first | exact Pick.head _ _ | apply Pick.tail)); done)) | apply Gets.drop)) ?_
    · dsimp only; omega
    rintro ⟨i, n⟩ ⟨hi, hn0, hn1⟩
    dsimp only at hi hn0 hn1 ⊢
    refine XC.seq fun K9 hK9 => ?_
    refine XC.region ?_
    refine x_v (r_lt rfl rfl) rfl ?_
    refine XL.nil ?_
    refine hK9 _ _ ?_
    refine XC.keep [(1, _), (5, _), (34, _), (35, _), (36, _), (37, _)] ⟨rfl, rfl, rfl, rfl, rfl, rfl, trivial⟩ ?_
    refine XC.seq fun K10 hK10 => ?_
    refine XC.cond_d rfl (fun hc2 => ?_) (fun hc2 => ?_)
    · refine XC.skip ?_
      refine hK10 _ _ ?_
      refine XC.keep [(1, _), (5, _), (34, _), (35, _), (36, _)] ⟨rfl, rfl, rfl, rfl, rfl, trivial⟩ ?_
      refine XC.seq fun K11 hK11 => ?_
      refine XC.block ?_
      refine XC.seq fun K12 hK12 => ?_
      obtain ⟨o, ho⟩ : ∃ o, T[i]? = some o := ⟨_, List.getElem?_eq_getElem (by omega)⟩
      obtain ⟨ob, oo, rfl, hat⟩ := (hr []).at_ (by omega)
      refine XC.region ?_
      refine x_v (r_ia (k := i) Try.underlying22 ty44 rfl rfl (by omega) (by omega)) rfl ?_
      refine x_v (r_ldar (l' := oc o) ty44 rfl rfl (fun w hw j u hu => by rw [Nat.add_assoc]; exact hat w (Gets.own (by repeat (first | exact Gets.done _ | exact Gets.all _ | (apply Gets.step; focus ((repeat (first | exact Pick.head _ _ | apply Pick.tail)); done)) | apply Gets.drop)) hw) _ u (cells_get oc_len T _ _ ho j u hu))) rfl ?_
      unfold oc
      refine x_a (r_al ty44 rfl) rfl fun b9 => ?_
      refine x_e (r_st ty44 rfl rfl rfl rfl rfl (by repeat (first | exact Upd.head _ _ _ | apply Upd.tail)) (by repeat (first | exact Over.nil _ | apply Over.put | apply Over.skip))) ?_
      refine XL.nil ?_
      refine hK12 _ _ ?_
      refine XC.keep [(1, _), (5, _), (9, _), (34, _), (35, _), (36, _)] ⟨rfl, rfl, rfl, rfl, rfl, rfl, trivial⟩ ?_
      refine XC.seq fun K13 hK13 => ?_
      refine XC.draw [blk b9 44 (oc o)] false [(0, false), (1, false), (2, false), (3, false), (4, false), (5, false), (6, false), (7, false), (8, true), (9, false), (10, false), (11, false)] (by kernel_rfl) (by kernel_rfl) ?_
      refine y_v rfl (r_mv rfl) (fun _ h => Gets.own (by repeat (first | exact Gets.done _ | exact Gets.all _ | (apply Gets.step; focus ((repeat (first | exact Pick.head _ _ | apply Pick.tail)); done)) | apply Gets.drop)) h) rfl ?_
      refine y_v rfl (r_fa fo44_3 rfl) (fun _ h => Gets.own (by repeat (first | exact Gets.done _ | exact Gets.all _ | (apply Gets.step; focus ((repeat (first | exact Pick.head _ _ | apply Pick.tail)); done)) | apply Gets.drop)) h) rfl ?_
      refine y_v rfl (r_ld ty9 rfl (Pick.head _ _) (by rfl)) (fun _ h => Gets.own (by repeat (first | exact Gets.done _ | exact Gets.all _ | (apply Gets.step; focus ((repeat (first | exact Pick.head _ _ | apply Pick.tail)); done)) | apply Gets.drop)) h) rfl ?_
      refine y_v rfl (r_lens Try.underlying9 rfl) (fun _ h => Gets.own (by repeat (first | exact Gets.done _ | exact Gets.all _ | (apply Gets.step; focus ((repeat (first | exact Pick.head _ _ | apply Pick.tail)); done)) | apply Gets.drop)) h) rfl ?_
      refine y_v rfl (r_min rfl rfl) (fun _ h => Gets.own (by repeat (first | exact Gets.done _ | exact Gets.all _ | (apply Gets.step; focus ((repeat (first | exact Pick.head _ _ | apply Pick.tail)); done)) | apply Gets.drop)) h) rfl ?_
      refine y_v rfl (r_add rfl rfl (by omega)) (fun _ h => Gets.own (by repeat (first | exact Gets.done _ | exact Gets.all _ | (apply Gets.step; focus ((repeat (first | exact Pick.head _ _ | apply Pick.tail)); done)) | apply Gets.drop)) h) rfl ?_
      refine y_v rfl (r_fa fo44_4 rfl) (fun _ h => Gets.own (by repeat (first | exact Gets.done _ | exact Gets.all _ | (apply Gets.step; focus ((repeat (first | exact Pick.head _ _ | apply Pick.tail)); done)) | apply Gets.drop)) h) rfl ?_
      refine y_v rfl (r_lda (l' := mc o.x) ty42 rfl (Pick.head _ _) rfl (fun j u hu => by rw [← hu]; match j with | 0 | 1 | 2 | 3 | 4 | 5 | 6 | 7 | 8 | 9 | 10 | 11 | 12 | 13 | 14 | 15 | 16 => rfl | j + 17 => (exact absurd hu (by simp [mc])))) (fun _ h => Gets.own (by repeat (first | exact Gets.done _ | exact Gets.all _ | (apply Gets.step; focus ((repeat (first | exact Pick.head _ _ | apply Pick.tail)); done)) | apply Gets.drop)) h) rfl ?_
      refine y_c rfl (r_call0 (args := [_]) ⟨rfl, rfl⟩ (heavy_tr o.x (hok o (List.mem_of_getElem? ho))) (by repeat (first | exact Gets.done _ | exact Gets.all _ | (apply Gets.step; focus ((repeat (first | exact Pick.head _ _ | apply Pick.tail)); done)) | apply Gets.drop))) (by rintro _ _ _ _ ⟨⟨hv, rfl, hv0, hv1⟩, rfl⟩ h; exact Gets.own (by repeat (first | exact Gets.done _ | exact Gets.all _ | (apply Gets.step; focus ((repeat (first | exact Pick.head _ _ | apply Pick.tail)); done)) | apply Gets.drop)) h) rfl ?_
      rintro _ _ ⟨⟨hv, rfl, hv0, hv1⟩, rfl⟩
      refine y_v rfl (r_add rfl rfl (by omega)) (fun _ h => Gets.own (by repeat (first | exact Gets.done _ | exact Gets.all _ | (apply Gets.step; focus ((repeat (first | exact Pick.head _ _ | apply Pick.tail)); done)) | apply Gets.drop)) h) rfl ?_
      refine y_v rfl (r_add rfl rfl (by omega)) (fun _ h => Gets.own (by repeat (first | exact Gets.done _ | exact Gets.all _ | (apply Gets.step; focus ((repeat (first | exact Pick.head _ _ | apply Pick.tail)); done)) | apply Gets.drop)) h) rfl ?_
      refine y_v rfl (r_as rfl) (fun _ h => Gets.own (by repeat (first | exact Gets.done _ | exact Gets.all _ | (apply Gets.step; focus ((repeat (first | exact Pick.head _ _ | apply Pick.tail)); done)) | apply Gets.drop)) h) rfl ?_
      refine XH.nil ?_
      refine hK13 _ _ ?_
      refine XC.keep [(1, _), (5, _), (34, _), (35, _), (36, _)] ⟨rfl, rfl, rfl, rfl, rfl, trivial⟩ ?_
      refine XC.seq fun K14 hK14 => ?_
      refine XC.region ?_
      refine x_v (r_mv rfl) rfl ?_
      refine x_v (r_gt rfl rfl) rfl ?_
      refine XL.nil ?_
      refine hK14 _ _ ?_
      refine XC.keep [(1, _), (5, _), (34, _), (35, _), (36, _), (52, _)] ⟨rfl, rfl, rfl, rfl, rfl, rfl, trivial⟩ ?_
      refine XC.cond_d rfl (fun hc3 => ?_) (fun hc3 => ?_)
      · refine XC.seq fun K15 hK15 => ?_
        refine XC.region ?_
        refine x_v (r_as rfl) rfl ?_
        refine XL.nil ?_
        refine hK15 _ _ ?_
        refine XC.keep [(4, _)] ⟨rfl, trivial⟩ ?_
        refine XC.ret ?_
        exact fin1 rfl (⟨⟨true, rfl, fun h => by cases h⟩, rfl⟩) (by repeat (first | exact Gets.done _ | exact Gets.all _ | (apply Gets.step; focus ((repeat (first | exact Pick.head _ _ | apply Pick.tail)); done)) | apply Gets.drop))
      · refine XC.skip ?_
        refine hK11 _ _ ?_
        refine XC.keep [(1, _), (5, _), (34, _), (35, _), (36, _)] ⟨rfl, rfl, rfl, rfl, rfl, trivial⟩ ?_
        refine XC.region ?_
        refine x_v (r_add rfl rfl (by omega)) rfl ?_
        refine x_v (r_mv rfl) rfl ?_
        refine XL.nil ?_
        refine ⟨(i + 1, n + (4 + min (o.data.length : Int) 1048576 + hv)), ?_, ?_, ⟨rfl, rfl, rfl, rfl, rfl, trivial⟩, (by repeat (first | exact Gets.done _ | exact Gets.all _ | (apply Gets.step; focus ((repeat (first | exact Pick.head _ _ | apply Pick.tail)); done)) | apply Gets.drop))⟩
        · dsimp only; omega
        · dsimp only; omega
    · refine XC.exit rfl ?_
      refine hK7 _ _ ?_
      refine XC.keep [(1, _)] ⟨rfl, trivial⟩ ?_
      refine XC.seq fun K16 hK16 => ?_
      refine XC.region ?_
      refine x_v (r_mv rfl) rfl ?_
      refine x_v (r_lensl Try.underlying22 rfl) rfl ?_
      refine x_v (r_gt rfl rfl) rfl ?_
      refine x_v (r_as rfl) rfl ?_
      refine XL.nil ?_
      refine hK16 _ _ ?_
      refine XC.keep [(4, _)] ⟨rfl, trivial⟩ ?_
      refine XC.ret ?_
      exact fin1 rfl (⟨⟨_, rfl, fun h => by have := of_decide_eq_false h; omega⟩, rfl⟩) (by repeat (first | exact Gets.done _ | exact Gets.all _ | (apply Gets.step; focus ((repeat (first | exact Pick.head _ _ | apply Pick.tail)); done)) | apply Gets.drop))

theorem own_tr {W0 : World} {Fr : List HP} {k : HP} (x : Mx) (hx : OkMx W0 x) : Tr W0 Try.prog 19 [.agg (mc x).toArray] (k :: Fr) (fun v Rs' => ∃ A2 c2 k2, v = .agg (mc { x with A := A2, c := c2 }).toArray ∧ Rs' = k2 :: Fr ∧ Ex W0 k k2 ∧ Rdb W0 [k2] A2 x.m.es.length 2 (cells ec x.m.es) ∧ x.m.es.length ≤ c2) := by
  obtain ⟨hr, hl⟩ := hx
  refine Entry.tr (N := 9) (rs := [.cell 2 42]) ⟨_, Try.func19, rfl, by kernel_rfl, rfl, rfl⟩ rfl ?_
  refine XC.seq fun K1 hK1 => ?_
  refine XC.region ?_
  refine x_a (r_bx rfl rfl) rfl fun b1 => ?_
  unfold mc
  refine x_a (r_al ty42 rfl) rfl fun b2 => ?_
  refine XL.nil ?_
  refine hK1 _ _ ?_
  refine XC.keep [(1, _), (2, _)] ⟨rfl, rfl, trivial⟩ ?_
  refine XC.seq fun K2 hK2 => ?_
  refine XC.region ?_
  refine x_a (r_bs (vs := []) rfl rfl bs30_0_) rfl fun b3 => ?_
  refine XL.shut_ (n := 0) (c := 0) (sz := 2) (xs := []) (by repeat (first | exact Pick.head _ _ | apply Pick.tail)) (Nat.le_refl _) (Nat.zero_le _) rfl rfl ?_
  refine x_v (r_fa fo42_6 rfl) rfl ?_
  refine x_v (r_ld ty30 rfl (by repeat (first | exact Pick.head _ _ | apply Pick.tail)) (by rfl)) rfl ?_
  refine x_a (r_app Try.underlying30 ty48 rfl (by decide) rfl rfl (by repeat (first | exact Pick.head _ _ | apply Pick.tail)) (hr _) (cells_one' ec_one x.m.es) (by unfold maxLen; omega) (by omega)) rfl fun ⟨A6, c6⟩ => ?_
  dsimp only
  rw [Nat.zero_add, List.nil_append]
  refine x_v (r_fa fo42_6 rfl) rfl ?_
  refine x_e (r_st ty30 rfl rfl rfl rfl rfl (by repeat (first | exact Upd.head _ _ _ | apply Upd.tail)) (by repeat (first | exact Over.nil _ | apply Over.put | apply Over.skip))) ?_
  refine XL.nil ?_
  refine hK2 _ _ ?_
  refine XC.keep [(1, _), (2, _)] ⟨rfl, rfl, trivial⟩ ?_
  refine XC.seq fun K3 hK3 => ?_
  refine XC.slnn (A := A6) (by repeat (first | exact Pick.head _ _ | apply Pick.tail)) fun _ hA => ?_
  refine XC.sllen (A := A6) (by repeat (first | exact Pick.head _ _ | apply Pick.tail)) fun _ hcap _ => ?_
  refine XC.stash (x := sl A6 x.m.es.length c6 48 2 (cells ec x.m.es)) (k := k) (by repeat (first | exact Pick.head _ _ | apply Pick.tail)) (by repeat (first | exact Pick.head _ _ | apply Pick.tail)) ?_
  refine XC.region ?_
  refine x_v (r_lda (l' := [_, _, _, _, _, _, _, _, _, _, _, _, _, _, _, _, _]) ty42 rfl (by repeat (first | exact Pick.head _ _ | apply Pick.tail)) rfl (Sub.get (by repeat (first | exact Sub.nil _ | apply Sub.take | apply Sub.skip)))) rfl ?_
  refine x_e (r_st ty42 rfl rfl rfl rfl rfl (by repeat (first | exact Upd.head _ _ _ | apply Upd.tail)) (by repeat (first | exact Over.nil _ | apply Over.put | apply Over.skip))) ?_
  refine XL.nil ?_
  refine hK3 _ _ ?_
  refine XC.keep [(2, _)] ⟨rfl, trivial⟩ ?_
  refine XC.ret ?_
  exact finc1 ty42 rfl (by repeat (first | exact Pick.head _ _ | apply Pick.tail)) (by rfl) (⟨A6, c6, _, rfl, rfl, Ex.on W0 _ k, Rdb.laid k (by rw [cells_len ec_len]) hA, hcap⟩) (by repeat (first | exact Gets.done _ | exact Gets.all _ | (apply Gets.step; focus ((repeat (first | exact Pick.head _ _ | apply Pick.tail)); done)) | apply Gets.drop))

theorem newbad_tr {W0 : World} {Fr : List HP} (n : Int) (hn : inR n 0 2 = false) : Tr W0 Try.prog 9 [.agg cf.toArray, .int .i64 n, .agg (kc 0 (-1) 0 0 [] none 0 []).toArray] Fr (fun v Rs' => v = .tuple #[.pointer none, .int .i64 1] ∧ Rs' = Fr) := by
  refine Entry.tr (N := 45) (rs := [.tmp 6, .tmp 7]) ⟨_, Try.func9, rfl, by kernel_rfl, rfl, rfl⟩ rfl ?_
  refine XC.seq fun K1 hK1 => ?_
  refine XC.region ?_
  refine x_a (r_bx rfl rfl) rfl fun b3 => ?_
  unfold cf
  refine x_a (r_bx rfl rfl) rfl fun b5 => ?_
  unfold kc
  refine x_v (r_as rfl) rfl ?_
  refine x_v (r_as rfl) rfl ?_
  refine XL.nil ?_
  refine hK1 _ _ ?_
  refine XC.keep [(1, _), (3, _), (5, _)] ⟨rfl, rfl, rfl, trivial⟩ ?_
  refine XC.seq fun K2 hK2 => ?_
  refine XC.block ?_
  refine XC.seq fun K3 hK3 => ?_
  refine XC.region ?_
  refine x_v (r_fa fo28_5 rfl) rfl ?_
  refine x_v (r_ld ty3 rfl (by repeat (first | exact Pick.head _ _ | apply Pick.tail)) (by rfl)) rfl ?_
  refine x_c (r_call0 (args := [_, _, _]) ⟨rfl, rfl, rfl, rfl⟩ (within_tr 2 2 64) (by repeat (first | exact Gets.done _ | exact Gets.all _ | (apply Gets.step; focus ((repeat (first | exact Pick.head _ _ | apply Pick.tail)); done)) | apply Gets.drop))) rfl ?_
  rintro _ _ ⟨rfl, rfl⟩
  refine x_v (r_not rfl) rfl ?_
  refine x_v (r_mv rfl) rfl ?_
  refine XL.split 13 rfl (fun hg13 => ?_) (fun hg13 => ?_)
  · exfalso; exact absurd hg13 (by decide)
  · refine x_want rfl rfl rfl ?_
    refine x_v (r_fa fo28_6 rfl) rfl ?_
    refine x_want rfl rfl rfl ?_
    refine x_v (r_ld ty3 rfl (by repeat (first | exact Pick.head _ _ | apply Pick.tail)) (by rfl)) rfl ?_
    refine x_want rfl rfl rfl ?_
    refine x_c (r_call0 (args := [_, _, _]) ⟨rfl, rfl, rfl, rfl⟩ (within_tr 3 1 64) (by repeat (first | exact Gets.done _ | exact Gets.all _ | (apply Gets.step; focus ((repeat (first | exact Pick.head _ _ | apply Pick.tail)); done)) | apply Gets.drop))) rfl ?_
    rintro _ _ ⟨rfl, rfl⟩
    refine x_want rfl rfl rfl ?_
    refine x_v (r_not rfl) rfl ?_
    refine x_v (r_pk_f rfl rfl) rfl ?_
    refine x_v (r_mv rfl) rfl ?_
    refine XL.split 19 rfl (fun hg19 => ?_) (fun hg19 => ?_)
    · exfalso; exact absurd hg19 (by decide)
    · refine x_want rfl rfl rfl ?_
      refine x_v (r_mv rfl) rfl ?_
      refine x_want rfl rfl rfl ?_
      refine x_c (r_call0 (args := [_, _, _]) ⟨rfl, rfl, rfl, rfl⟩ (within_tr n 0 2) (by repeat (first | exact Gets.done _ | exact Gets.all _ | (apply Gets.step; focus ((repeat (first | exact Pick.head _ _ | apply Pick.tail)); done)) | apply Gets.drop))) rfl ?_
      rintro _ _ ⟨rfl, rfl⟩
      refine x_want rfl rfl rfl ?_
      refine x_v (r_not rfl) rfl ?_
      refine x_v (r_pk_f rfl rfl) rfl ?_
      refine x_v (r_as rfl) rfl ?_
      refine XL.nil ?_
      refine hK3 _ _ ?_
      refine XC.keep [(1, _), (3, _), (5, _), (8, _)] ⟨rfl, rfl, rfl, rfl, trivial⟩ ?_
      refine XC.cond rfl (fun hc1 => ?_) (fun hc1 => ?_)
      · refine XC.seq fun K4 hK4 => ?_
        refine XC.region ?_
        refine x_v (r_as rfl) rfl ?_
        refine x_v (r_as rfl) rfl ?_
        refine XL.nil ?_
        refine hK4 _ _ ?_
        refine XC.keep [(6, _), (7, _)] ⟨rfl, rfl, trivial⟩ ?_
        refine XC.ret ?_
        exact fin2 rfl rfl (⟨rfl, rfl⟩) (by repeat (first | exact Gets.done _ | exact Gets.all _ | (apply Gets.step; focus ((repeat (first | exact Pick.head _ _ | apply Pick.tail)); done)) | apply Gets.drop))
      · exfalso; rw [hn] at hc1; cases hc1
end Go.Proofs.Ytlogcldbflemfaa

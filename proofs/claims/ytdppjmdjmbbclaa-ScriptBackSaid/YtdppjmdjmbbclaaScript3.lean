/- Scripts: two lists of acts held against each other (function 25). -/
import Derived.Test.YtdppjmdjmbbclaaScript2
namespace Go.Proofs.Ytdppjmdjmbbclaa
open Go.Sx
set_option linter.unusedVariables false

theorem tk_snoc {α : Type} {L : List α} {k : Nat} {l : α} (h : L[k]? = some l) : L.take (k + 1) = L.take k ++ [l] := by
  rw [List.take_add_one, h]; rfl
theorem same_no {x y : List Ac} {i : Nat} {a b : Ac} (hx : x[i]? = some a) (hy : y[i]? = some b) (h : a.v ≠ b.v) : decide (x.map Ac.v = y.map Ac.v) = false := by
  rw [decide_eq_false_iff_not]
  intro e
  have h1 : (x.map Ac.v)[i]? = some a.v := by rw [List.getElem?_map, hx]; rfl
  rw [e, List.getElem?_map, hy] at h1
  exact h (Option.some.inj h1).symm
theorem iv_len (l : List Int) : (iv l).length = l.length := by simp [iv]

theorem same_tr {W0 : World} {Fr : List HP} (A B : Option Addr) (c d : Nat) (x y : List Ac) (hx : RdA W0 Fr A x) (hy : RdA W0 Fr B y) :
    Tr W0 Try.prog 25 [.slice A x.length c, .slice B y.length d] Fr (fun v Rs' => v = .bool (decide (x.map Ac.v = y.map Ac.v)) ∧ Rs' = Fr) := by
  have hxl := hx.le
  have hyl := hy.le
  refine Entry.tr (N := 88) (rs := [.tmp 4]) ⟨_, Try.func25, rfl, by kernel_rfl, rfl, rfl⟩ rfl ?_
  refine XC.seq fun K1 hK1 => ?_
  refine XC.region ?_
  refine x_v (r_as rfl) rfl ?_
  refine XL.nil ?_
  refine hK1 _ _ ?_
  refine XC.keep [(0, _), (1, _)] ⟨rfl, rfl, trivial⟩ ?_
  refine XC.seq fun K2 hK2 => ?_
  refine XC.seq fun K3 hK3 => ?_
  refine XC.region ?_
  refine x_v (r_mv rfl) rfl ?_
  refine x_v (r_lensl Try.underlying56 rfl) rfl ?_
  refine x_v (r_mv rfl) rfl ?_
  refine x_v (r_lensl Try.underlying56 rfl) rfl ?_
  refine x_v (r_ne rfl rfl) rfl ?_
  refine XL.nil ?_
  refine hK3 _ _ ?_
  refine XC.keep [(0, _), (1, _), (13, _)] ⟨rfl, rfl, rfl, trivial⟩ ?_
  refine XC.cond_d rfl (fun hc1 => ?_) (fun hc1 => ?_)
  · refine XC.seq fun K4 hK4 => ?_
    refine XC.region ?_
    refine x_v (r_as rfl) rfl ?_
    refine XL.nil ?_
    refine hK4 _ _ ?_
    refine XC.keep [(4, _)] ⟨rfl, trivial⟩ ?_
    refine XC.ret ?_
    exact fin1 rfl (⟨by rw [decide_eq_false (by intro e; have := congrArg List.length e; simp at this; omega)], rfl⟩) (by repeat (first | exact Gets.done _ | exact Gets.all _ | (apply Gets.step; focus ((repeat (first | exact Pick.head _ _ | apply Pick.tail)); done)) | apply Gets.drop))
  · refine XC.skip ?_
    refine hK2 _ _ ?_
    refine XC.keep [(0, _), (1, _)] ⟨rfl, rfl, trivial⟩ ?_
    refine XC.seq fun K5 hK5 => ?_
    refine XC.seq fun K6 hK6 => ?_
    refine XC.region ?_
    refine x_v (r_as rfl) rfl ?_
    refine XL.nil ?_
    refine hK6 _ _ ?_
    refine XC.keep [(0, _), (1, _), (5, _)] ⟨rfl, rfl, rfl, trivial⟩ ?_
    refine XC.block ?_
    refine XC.loop (σ := Nat) (fun i => [(0, .slice A x.length c), (1, .slice B y.length d), (5, .int .i64 i)]) (fun i => Fr) (fun i => i ≤ x.length ∧ (x.take i).map Ac.v = (y.take i).map Ac.v) (fun i => x.length - i) 0 ?_ ⟨rfl, rfl, rfl, trivial⟩ (by repeat (first | exact Gets.done _ | exact Gets.all _ | (apply Gets.step; focus ((repeat (first | exact Pick.head _ _ | apply Pick.tail)); done)) | apply Gets.drop)) ?_
    · exact ⟨Nat.zero_le _, by simp⟩
    rintro i ⟨hi, hI⟩
    refine XC.seq fun K7 hK7 => ?_
    refine XC.seq fun K8 hK8 => ?_
    refine XC.region ?_
    refine x_v (r_mv rfl) rfl ?_
    refine x_v (r_mv rfl) rfl ?_
    refine x_v (r_lensl Try.underlying56 rfl) rfl ?_
    refine x_v (r_lt rfl rfl) rfl ?_
    refine XL.nil ?_
    refine hK8 _ _ ?_
    refine XC.keep [(0, _), (1, _), (5, _), (17, _)] ⟨rfl, rfl, rfl, rfl, trivial⟩ ?_
    refine XC.cond_d rfl (fun hc2 => ?_) (fun hc2 => ?_)
    · refine XC.skip ?_
      refine hK7 _ _ ?_
      refine XC.keep [(0, _), (1, _), (5, _)] ⟨rfl, rfl, rfl, trivial⟩ ?_
      refine XC.seq fun K9 hK9 => ?_
      refine XC.block ?_
      refine XC.seq fun K10 hK10 => ?_
      refine XC.region ?_
      refine x_v (r_mv rfl) rfl ?_
      refine x_v (r_mv rfl) rfl ?_
      obtain ⟨a, ha⟩ : ∃ a, x[i]? = some a := ⟨_, List.getElem?_eq_getElem (by omega)⟩
      obtain ⟨b, hb⟩ : ∃ b, y[i]? = some b := ⟨_, List.getElem?_eq_getElem (by omega)⟩
      have hak := hx.ks a (List.mem_of_getElem? ha)
      have hbk := hy.ks b (List.mem_of_getElem? hb)
      have hal := hx.kl a (List.mem_of_getElem? ha)
      have hbl := hy.kl b (List.mem_of_getElem? hb)
      obtain ⟨ak, an, akk, ad, aA, am, acp, aks, aq⟩ := a
      obtain ⟨bk, bn, bkk, bd, bA, bm, bcp, bks, bq⟩ := b
      dsimp only at hak hbk hal hbl
      have hakl : aks.length = am := by have := hak.len; simpa [iv] using this
      have hbkl : bks.length = bm := by have := hbk.len; simpa [iv] using this
      obtain ⟨sb, so, rfl, hat⟩ := hx.rd.at_ (by omega)
      obtain ⟨tb, to, rfl, hbt⟩ := hy.rd.at_ (by omega)
      refine x_v (r_ia (k := i) Try.underlying56 ty83 rfl rfl (by omega) (by omega)) rfl ?_
      refine x_v (r_ldar (l' := [.int .i64 ak, .int .i64 an, .int .i64 akk, .int .i64 ad, .slice aA am acp, .int .i64 aq.kind, .int .i64 aq.client, .int .i64 aq.seq, str aq.name, str aq.data, .int .i64 aq.mode, .int .i64 aq.lag]) ty83 rfl rfl (fun w hw j u hu => by rw [Nat.add_assoc]; exact hat w hw _ u (cells_get ac_len x i _ ha j u hu))) rfl ?_
      refine x_a (r_al ty83 rfl) rfl fun b6 => ?_
      refine x_e (r_st (vs := [.int .i64 ak, .int .i64 an, .int .i64 akk, .int .i64 ad, .slice aA am acp, .int .i64 aq.kind, .int .i64 aq.client, .int .i64 aq.seq, str aq.name, str aq.data, .int .i64 aq.mode, .int .i64 aq.lag]) ty83 rfl rfl rfl rfl rfl (by repeat (first | exact Upd.head _ _ _ | apply Upd.tail)) (by repeat (first | exact Over.nil _ | apply Over.put | apply Over.skip))) ?_
      refine XL.nil ?_
      refine hK10 _ _ ?_
      refine XC.keep [(0, _), (1, _), (5, _), (6, _)] ⟨rfl, rfl, rfl, rfl, trivial⟩ ?_
      refine XC.seq fun K11 hK11 => ?_
      refine XC.region ?_
      refine x_v (r_mv rfl) rfl ?_
      refine x_v (r_mv rfl) rfl ?_
      refine x_v (r_ia (k := i) Try.underlying56 ty83 rfl rfl (by omega) (by omega)) rfl ?_
      refine x_v (r_ldar (l' := [.int .i64 bk, .int .i64 bn, .int .i64 bkk, .int .i64 bd, .slice bA bm bcp, .int .i64 bq.kind, .int .i64 bq.client, .int .i64 bq.seq, str bq.name, str bq.data, .int .i64 bq.mode, .int .i64 bq.lag]) ty83 rfl rfl (fun w hw j u hu => by rw [Nat.add_assoc]; exact hbt w hw.tail _ u (cells_get ac_len y i _ hb j u hu))) rfl ?_
      refine x_a (r_al ty83 rfl) rfl fun b7 => ?_
      refine x_e (r_st (vs := [.int .i64 bk, .int .i64 bn, .int .i64 bkk, .int .i64 bd, .slice bA bm bcp, .int .i64 bq.kind, .int .i64 bq.client, .int .i64 bq.seq, str bq.name, str bq.data, .int .i64 bq.mode, .int .i64 bq.lag]) ty83 rfl rfl rfl rfl rfl (by repeat (first | exact Upd.head _ _ _ | apply Upd.tail)) (by repeat (first | exact Over.nil _ | apply Over.put | apply Over.skip))) ?_
      refine XL.nil ?_
      refine hK11 _ _ ?_
      refine XC.keep [(0, _), (1, _), (5, _), (6, _), (7, _)] ⟨rfl, rfl, rfl, rfl, rfl, trivial⟩ ?_
      refine XC.seq fun K12 hK12 => ?_
      refine XC.seq fun K13 hK13 => ?_
      refine XC.region ?_
      refine x_v (r_fa fo83_0 rfl) rfl ?_
      refine x_v (r_ld ty3 rfl (by repeat (first | exact Pick.head _ _ | apply Pick.tail)) (by rfl)) rfl ?_
      refine x_v (r_fa fo83_0 rfl) rfl ?_
      refine x_v (r_ld ty3 rfl (by repeat (first | exact Pick.head _ _ | apply Pick.tail)) (by rfl)) rfl ?_
      refine x_v (r_ne rfl rfl) rfl ?_
      refine x_v (r_mv rfl) rfl ?_
      refine XL.splitd 33 rfl (fun hg33 => ?_) (fun hg33 => ?_)
      · refine x_unwant rfl rfl rfl rfl rfl ?_
        refine x_unwant rfl rfl rfl rfl rfl ?_
        refine x_unwant rfl rfl rfl rfl rfl ?_
        refine x_unwant rfl rfl rfl rfl rfl ?_
        refine x_unwant rfl rfl rfl rfl rfl ?_
        refine x_v (r_pk_t rfl rfl) rfl ?_
        refine x_v (r_mv rfl) rfl ?_
        refine x_unwant rfl rfl rfl rfl rfl ?_
        refine x_unwant rfl rfl rfl rfl rfl ?_
        refine x_unwant rfl rfl rfl rfl rfl ?_
        refine x_unwant rfl rfl rfl rfl rfl ?_
        refine x_unwant rfl rfl rfl rfl rfl ?_
        refine x_v (r_pk_t rfl rfl) rfl ?_
        refine x_v (r_mv rfl) rfl ?_
        refine x_unwant rfl rfl rfl rfl rfl ?_
        refine x_unwant rfl rfl rfl rfl rfl ?_
        refine x_unwant rfl rfl rfl rfl rfl ?_
        refine x_unwant rfl rfl rfl rfl rfl ?_
        refine x_unwant rfl rfl rfl rfl rfl ?_
        refine x_v (r_pk_t rfl rfl) rfl ?_
        refine x_v (r_mv rfl) rfl ?_
        refine x_unwant rfl rfl rfl rfl rfl ?_
        refine x_unwant rfl rfl rfl rfl rfl ?_
        refine x_unwant rfl rfl rfl rfl rfl ?_
        refine x_unwant rfl rfl rfl rfl rfl ?_
        refine x_unwant rfl rfl rfl rfl rfl ?_
        refine x_v (r_pk_t rfl rfl) rfl ?_
        refine x_v (r_mv rfl) rfl ?_
        refine x_unwant rfl rfl rfl rfl rfl ?_
        refine x_unwant rfl rfl rfl rfl rfl ?_
        refine x_unwant rfl rfl rfl rfl rfl ?_
        refine x_unwant rfl rfl rfl rfl rfl ?_
        refine x_unwant rfl rfl rfl rfl rfl ?_
        refine x_unwant rfl rfl rfl rfl rfl ?_
        refine x_unwant rfl rfl rfl rfl rfl ?_
        refine x_v (r_pk_t rfl rfl) rfl ?_
        refine XL.nil ?_
        refine hK13 _ _ ?_
        refine XC.keep [(0, _), (1, _), (5, _), (6, _), (7, _), (69, _)] ⟨rfl, rfl, rfl, rfl, rfl, rfl, trivial⟩ ?_
        refine XC.cond_t rfl ?_
        refine XC.seq fun K14 hK14 => ?_
        refine XC.region ?_
        refine x_v (r_as rfl) rfl ?_
        refine XL.nil ?_
        refine hK14 _ _ ?_
        refine XC.keep [(4, _)] ⟨rfl, trivial⟩ ?_
        refine XC.ret ?_
        have hne : Ac.v ⟨ak, an, akk, ad, aA, am, acp, aks, aq⟩ ≠ Ac.v ⟨bk, bn, bkk, bd, bA, bm, bcp, bks, bq⟩ := by (intro e; simp only [Ac.v, Av.mk.injEq] at e; obtain ⟨e1, e2, e3, e4, e5, e6⟩ := e; first | exact absurd e1 (by assumption) | exact absurd e2 (by assumption) | exact absurd e3 (by assumption) | exact absurd e4 (by assumption) | exact absurd (show _ ∧ _ ∧ _ ∧ _ ∧ _ ∧ _ ∧ _ from ⟨congrArg Qs.kind e6, congrArg Qs.client e6, congrArg Qs.seq e6, congrArg Qs.name e6, congrArg Qs.data e6, congrArg Qs.mode e6, congrArg Qs.lag e6⟩) (by assumption) | (have := congrArg List.length e5; omega) | (rw [e5] at hu; rw [hu] at hu2; have := Option.some.inj hu2; omega))
        exact fin1 rfl (⟨by rw [same_no ha hb hne], rfl⟩) (by repeat (first | exact Gets.done _ | exact Gets.all _ | (apply Gets.step; focus ((repeat (first | exact Pick.head _ _ | apply Pick.tail)); done)) | apply Gets.drop))
      · refine x_want rfl rfl rfl ?_
        refine x_v (r_fa fo83_1 rfl) rfl ?_
        refine x_want rfl rfl rfl ?_
        refine x_v (r_ld ty3 rfl (by repeat (first | exact Pick.head _ _ | apply Pick.tail)) (by rfl)) rfl ?_
        refine x_want rfl rfl rfl ?_
        refine x_v (r_fa fo83_1 rfl) rfl ?_
        refine x_want rfl rfl rfl ?_
        refine x_v (r_ld ty3 rfl (by repeat (first | exact Pick.head _ _ | apply Pick.tail)) (by rfl)) rfl ?_
        refine x_want rfl rfl rfl ?_
        refine x_v (r_ne rfl rfl) rfl ?_
        refine x_v (r_pk_f rfl rfl) rfl ?_
        refine x_v (r_mv rfl) rfl ?_
        refine XL.splitd 40 rfl (fun hg40 => ?_) (fun hg40 => ?_)
        · refine x_unwant rfl rfl rfl rfl rfl ?_
          refine x_unwant rfl rfl rfl rfl rfl ?_
          refine x_unwant rfl rfl rfl rfl rfl ?_
          refine x_unwant rfl rfl rfl rfl rfl ?_
          refine x_unwant rfl rfl rfl rfl rfl ?_
          refine x_v (r_pk_t rfl rfl) rfl ?_
          refine x_v (r_mv rfl) rfl ?_
          refine x_unwant rfl rfl rfl rfl rfl ?_
          refine x_unwant rfl rfl rfl rfl rfl ?_
          refine x_unwant rfl rfl rfl rfl rfl ?_
          refine x_unwant rfl rfl rfl rfl rfl ?_
          refine x_unwant rfl rfl rfl rfl rfl ?_
          refine x_v (r_pk_t rfl rfl) rfl ?_
          refine x_v (r_mv rfl) rfl ?_
          refine x_unwant rfl rfl rfl rfl rfl ?_
          refine x_unwant rfl rfl rfl rfl rfl ?_
          refine x_unwant rfl rfl rfl rfl rfl ?_
          refine x_unwant rfl rfl rfl rfl rfl ?_
          refine x_unwant rfl rfl rfl rfl rfl ?_
          refine x_v (r_pk_t rfl rfl) rfl ?_
          refine x_v (r_mv rfl) rfl ?_
          refine x_unwant rfl rfl rfl rfl rfl ?_
          refine x_unwant rfl rfl rfl rfl rfl ?_
          refine x_unwant rfl rfl rfl rfl rfl ?_
          refine x_unwant rfl rfl rfl rfl rfl ?_
          refine x_unwant rfl rfl rfl rfl rfl ?_
          refine x_unwant rfl rfl rfl rfl rfl ?_
          refine x_unwant rfl rfl rfl rfl rfl ?_
          refine x_v (r_pk_t rfl rfl) rfl ?_
          refine XL.nil ?_
          refine hK13 _ _ ?_
          refine XC.keep [(0, _), (1, _), (5, _), (6, _), (7, _), (69, _)] ⟨rfl, rfl, rfl, rfl, rfl, rfl, trivial⟩ ?_
          refine XC.cond_t rfl ?_
          refine XC.seq fun K15 hK15 => ?_
          refine XC.region ?_
          refine x_v (r_as rfl) rfl ?_
          refine XL.nil ?_
          refine hK15 _ _ ?_
          refine XC.keep [(4, _)] ⟨rfl, trivial⟩ ?_
          refine XC.ret ?_
          have hne : Ac.v ⟨ak, an, akk, ad, aA, am, acp, aks, aq⟩ ≠ Ac.v ⟨bk, bn, bkk, bd, bA, bm, bcp, bks, bq⟩ := by (intro e; simp only [Ac.v, Av.mk.injEq] at e; obtain ⟨e1, e2, e3, e4, e5, e6⟩ := e; first | exact absurd e1 (by assumption) | exact absurd e2 (by assumption) | exact absurd e3 (by assumption) | exact absurd e4 (by assumption) | exact absurd (show _ ∧ _ ∧ _ ∧ _ ∧ _ ∧ _ ∧ _ from ⟨congrArg Qs.kind e6, congrArg Qs.client e6, congrArg Qs.seq e6, congrArg Qs.name e6, congrArg Qs.data e6, congrArg Qs.mode e6, congrArg Qs.lag e6⟩) (by assumption) | (have := congrArg List.length e5; omega) | (rw [e5] at hu; rw [hu] at hu2; have := Option.some.inj hu2; omega))
          exact fin1 rfl (⟨by rw [same_no ha hb hne], rfl⟩) (by repeat (first | exact Gets.done _ | exact Gets.all _ | (apply Gets.step; focus ((repeat (first | exact Pick.head _ _ | apply Pick.tail)); done)) | apply Gets.drop))
        · refine x_want rfl rfl rfl ?_
          refine x_v (r_fa fo83_2 rfl) rfl ?_
          refine x_want rfl rfl rfl ?_
          refine x_v (r_ld ty3 rfl (by repeat (first | exact Pick.head _ _ | apply Pick.tail)) (by rfl)) rfl ?_
          refine x_want rfl rfl rfl ?_
          refine x_v (r_fa fo83_2 rfl) rfl ?_
          refine x_want rfl rfl rfl ?_
          refine x_v (r_ld ty3 rfl (by repeat (first | exact Pick.head _ _ | apply Pick.tail)) (by rfl)) rfl ?_
          refine x_want rfl rfl rfl ?_
          refine x_v (r_ne rfl rfl) rfl ?_
          refine x_v (r_pk_f rfl rfl) rfl ?_
          refine x_v (r_mv rfl) rfl ?_
          refine XL.splitd 47 rfl (fun hg47 => ?_) (fun hg47 => ?_)
          · refine x_unwant rfl rfl rfl rfl rfl ?_
            refine x_unwant rfl rfl rfl rfl rfl ?_
            refine x_unwant rfl rfl rfl rfl rfl ?_
            refine x_unwant rfl rfl rfl rfl rfl ?_
            refine x_unwant rfl rfl rfl rfl rfl ?_
            refine x_v (r_pk_t rfl rfl) rfl ?_
            refine x_v (r_mv rfl) rfl ?_
            refine x_unwant rfl rfl rfl rfl rfl ?_
            refine x_unwant rfl rfl rfl rfl rfl ?_
            refine x_unwant rfl rfl rfl rfl rfl ?_
            refine x_unwant rfl rfl rfl rfl rfl ?_
            refine x_unwant rfl rfl rfl rfl rfl ?_
            refine x_v (r_pk_t rfl rfl) rfl ?_
            refine x_v (r_mv rfl) rfl ?_
            refine x_unwant rfl rfl rfl rfl rfl ?_
            refine x_unwant rfl rfl rfl rfl rfl ?_
            refine x_unwant rfl rfl rfl rfl rfl ?_
            refine x_unwant rfl rfl rfl rfl rfl ?_
            refine x_unwant rfl rfl rfl rfl rfl ?_
            refine x_unwant rfl rfl rfl rfl rfl ?_
            refine x_unwant rfl rfl rfl rfl rfl ?_
            refine x_v (r_pk_t rfl rfl) rfl ?_
            refine XL.nil ?_
            refine hK13 _ _ ?_
            refine XC.keep [(0, _), (1, _), (5, _), (6, _), (7, _), (69, _)] ⟨rfl, rfl, rfl, rfl, rfl, rfl, trivial⟩ ?_
            refine XC.cond_t rfl ?_
            refine XC.seq fun K16 hK16 => ?_
            refine XC.region ?_
            refine x_v (r_as rfl) rfl ?_
            refine XL.nil ?_
            refine hK16 _ _ ?_
            refine XC.keep [(4, _)] ⟨rfl, trivial⟩ ?_
            refine XC.ret ?_
            have hne : Ac.v ⟨ak, an, akk, ad, aA, am, acp, aks, aq⟩ ≠ Ac.v ⟨bk, bn, bkk, bd, bA, bm, bcp, bks, bq⟩ := by (intro e; simp only [Ac.v, Av.mk.injEq] at e; obtain ⟨e1, e2, e3, e4, e5, e6⟩ := e; first | exact absurd e1 (by assumption) | exact absurd e2 (by assumption) | exact absurd e3 (by assumption) | exact absurd e4 (by assumption) | exact absurd (show _ ∧ _ ∧ _ ∧ _ ∧ _ ∧ _ ∧ _ from ⟨congrArg Qs.kind e6, congrArg Qs.client e6, congrArg Qs.seq e6, congrArg Qs.name e6, congrArg Qs.data e6, congrArg Qs.mode e6, congrArg Qs.lag e6⟩) (by assumption) | (have := congrArg List.length e5; omega) | (rw [e5] at hu; rw [hu] at hu2; have := Option.some.inj hu2; omega))
            exact fin1 rfl (⟨by rw [same_no ha hb hne], rfl⟩) (by repeat (first | exact Gets.done _ | exact Gets.all _ | (apply Gets.step; focus ((repeat (first | exact Pick.head _ _ | apply Pick.tail)); done)) | apply Gets.drop))
          · refine x_want rfl rfl rfl ?_
            refine x_v (r_fa fo83_3 rfl) rfl ?_
            refine x_want rfl rfl rfl ?_
            refine x_v (r_ld ty3 rfl (by repeat (first | exact Pick.head _ _ | apply Pick.tail)) (by rfl)) rfl ?_
            refine x_want rfl rfl rfl ?_
            refine x_v (r_fa fo83_3 rfl) rfl ?_
            refine x_want rfl rfl rfl ?_
            refine x_v (r_ld ty3 rfl (by repeat (first | exact Pick.head _ _ | apply Pick.tail)) (by rfl)) rfl ?_
            refine x_want rfl rfl rfl ?_
            refine x_v (r_ne rfl rfl) rfl ?_
            refine x_v (r_pk_f rfl rfl) rfl ?_
            refine x_v (r_mv rfl) rfl ?_
            refine XL.splitd 54 rfl (fun hg54 => ?_) (fun hg54 => ?_)
            · refine x_unwant rfl rfl rfl rfl rfl ?_
              refine x_unwant rfl rfl rfl rfl rfl ?_
              refine x_unwant rfl rfl rfl rfl rfl ?_
              refine x_unwant rfl rfl rfl rfl rfl ?_
              refine x_unwant rfl rfl rfl rfl rfl ?_
              refine x_v (r_pk_t rfl rfl) rfl ?_
              refine x_v (r_mv rfl) rfl ?_
              refine x_unwant rfl rfl rfl rfl rfl ?_
              refine x_unwant rfl rfl rfl rfl rfl ?_
              refine x_unwant rfl rfl rfl rfl rfl ?_
              refine x_unwant rfl rfl rfl rfl rfl ?_
              refine x_unwant rfl rfl rfl rfl rfl ?_
              refine x_unwant rfl rfl rfl rfl rfl ?_
              refine x_unwant rfl rfl rfl rfl rfl ?_
              refine x_v (r_pk_t rfl rfl) rfl ?_
              refine XL.nil ?_
              refine hK13 _ _ ?_
              refine XC.keep [(0, _), (1, _), (5, _), (6, _), (7, _), (69, _)] ⟨rfl, rfl, rfl, rfl, rfl, rfl, trivial⟩ ?_
              refine XC.cond_t rfl ?_
              refine XC.seq fun K17 hK17 => ?_
              refine XC.region ?_
              refine x_v (r_as rfl) rfl ?_
              refine XL.nil ?_
              refine hK17 _ _ ?_
              refine XC.keep [(4, _)] ⟨rfl, trivial⟩ ?_
              refine XC.ret ?_
              have hne : Ac.v ⟨ak, an, akk, ad, aA, am, acp, aks, aq⟩ ≠ Ac.v ⟨bk, bn, bkk, bd, bA, bm, bcp, bks, bq⟩ := by (intro e; simp only [Ac.v, Av.mk.injEq] at e; obtain ⟨e1, e2, e3, e4, e5, e6⟩ := e; first | exact absurd e1 (by assumption) | exact absurd e2 (by assumption) | exact absurd e3 (by assumption) | exact absurd e4 (by assumption) | exact absurd (show _ ∧ _ ∧ _ ∧ _ ∧ _ ∧ _ ∧ _ from ⟨congrArg Qs.kind e6, congrArg Qs.client e6, congrArg Qs.seq e6, congrArg Qs.name e6, congrArg Qs.data e6, congrArg Qs.mode e6, congrArg Qs.lag e6⟩) (by assumption) | (have := congrArg List.length e5; omega) | (rw [e5] at hu; rw [hu] at hu2; have := Option.some.inj hu2; omega))
              exact fin1 rfl (⟨by rw [same_no ha hb hne], rfl⟩) (by repeat (first | exact Gets.done _ | exact Gets.all _ | (apply Gets.step; focus ((repeat (first | exact Pick.head _ _ | apply Pick.tail)); done)) | apply Gets.drop))
            · refine x_want rfl rfl rfl ?_
              refine x_v (r_fa fo83_5 rfl) rfl ?_
              refine x_want rfl rfl rfl ?_
              refine x_v (r_lda (l' := [_, _, _, _, _, _, _]) ty81 rfl (by repeat (first | exact Pick.head _ _ | apply Pick.tail)) rfl (Sub.get (by repeat (first | exact Sub.nil _ | apply Sub.take | apply Sub.skip)))) rfl ?_
              refine x_want rfl rfl rfl ?_
              refine x_v (r_fa fo83_5 rfl) rfl ?_
              refine x_want rfl rfl rfl ?_
              refine x_v (r_lda (l' := [_, _, _, _, _, _, _]) ty81 rfl (by repeat (first | exact Pick.head _ _ | apply Pick.tail)) rfl (Sub.get (by repeat (first | exact Sub.nil _ | apply Sub.take | apply Sub.skip)))) rfl ?_
              refine x_want rfl rfl rfl ?_
              refine x_v (r_stne (by kernel_rfl) (fun w => eq81 _ _ _ _ _ _ _ _ _ _ _ _ _ _ w) rfl rfl) rfl ?_
              refine x_v (r_pk_f rfl rfl) rfl ?_
              refine x_v (r_mv rfl) rfl ?_
              refine XL.splitd 61 rfl (fun hg61 => ?_) (fun hg61 => ?_)
              · refine x_unwant rfl rfl rfl rfl rfl ?_
                refine x_unwant rfl rfl rfl rfl rfl ?_
                refine x_unwant rfl rfl rfl rfl rfl ?_
                refine x_unwant rfl rfl rfl rfl rfl ?_
                refine x_unwant rfl rfl rfl rfl rfl ?_
                refine x_unwant rfl rfl rfl rfl rfl ?_
                refine x_unwant rfl rfl rfl rfl rfl ?_
                refine x_v (r_pk_t rfl rfl) rfl ?_
                refine XL.nil ?_
                refine hK13 _ _ ?_
                refine XC.keep [(0, _), (1, _), (5, _), (6, _), (7, _), (69, _)] ⟨rfl, rfl, rfl, rfl, rfl, rfl, trivial⟩ ?_
                refine XC.cond_t rfl ?_
                refine XC.seq fun K18 hK18 => ?_
                refine XC.region ?_
                refine x_v (r_as rfl) rfl ?_
                refine XL.nil ?_
                refine hK18 _ _ ?_
                refine XC.keep [(4, _)] ⟨rfl, trivial⟩ ?_
                refine XC.ret ?_
                have hne : Ac.v ⟨ak, an, akk, ad, aA, am, acp, aks, aq⟩ ≠ Ac.v ⟨bk, bn, bkk, bd, bA, bm, bcp, bks, bq⟩ := by (intro e; simp only [Ac.v, Av.mk.injEq] at e; obtain ⟨e1, e2, e3, e4, e5, e6⟩ := e; first | exact absurd e1 (by assumption) | exact absurd e2 (by assumption) | exact absurd e3 (by assumption) | exact absurd e4 (by assumption) | exact absurd (show _ ∧ _ ∧ _ ∧ _ ∧ _ ∧ _ ∧ _ from ⟨congrArg Qs.kind e6, congrArg Qs.client e6, congrArg Qs.seq e6, congrArg Qs.name e6, congrArg Qs.data e6, congrArg Qs.mode e6, congrArg Qs.lag e6⟩) (by assumption) | (have := congrArg List.length e5; omega) | (rw [e5] at hu; rw [hu] at hu2; have := Option.some.inj hu2; omega))
                exact fin1 rfl (⟨by rw [same_no ha hb hne], rfl⟩) (by repeat (first | exact Gets.done _ | exact Gets.all _ | (apply Gets.step; focus ((repeat (first | exact Pick.head _ _ | apply Pick.tail)); done)) | apply Gets.drop))
              · refine x_want rfl rfl rfl ?_
                refine x_v (r_fa fo83_4 rfl) rfl ?_
                refine x_want rfl rfl rfl ?_
                refine x_v (r_ld ty40 rfl (by repeat (first | exact Pick.head _ _ | apply Pick.tail)) (by rfl)) rfl ?_
                refine x_want rfl rfl rfl ?_
                refine x_v (r_lensl Try.underlying40 rfl) rfl ?_
                refine x_want rfl rfl rfl ?_
                refine x_v (r_fa fo83_4 rfl) rfl ?_
                refine x_want rfl rfl rfl ?_
                refine x_v (r_ld ty40 rfl (by repeat (first | exact Pick.head _ _ | apply Pick.tail)) (by rfl)) rfl ?_
                refine x_want rfl rfl rfl ?_
                refine x_v (r_lensl Try.underlying40 rfl) rfl ?_
                refine x_want rfl rfl rfl ?_
                refine x_v (r_ne rfl rfl) rfl ?_
                refine x_v (r_pk_f rfl rfl) rfl ?_
                refine XL.nil ?_
                refine hK13 _ _ ?_
                refine XC.keep [(0, _), (1, _), (5, _), (6, _), (7, _), (69, _)] ⟨rfl, rfl, rfl, rfl, rfl, rfl, trivial⟩ ?_
                refine XC.cond_d rfl (fun hc8 => ?_) (fun hc8 => ?_)
                · refine XC.seq fun K19 hK19 => ?_
                  refine XC.region ?_
                  refine x_v (r_as rfl) rfl ?_
                  refine XL.nil ?_
                  refine hK19 _ _ ?_
                  refine XC.keep [(4, _)] ⟨rfl, trivial⟩ ?_
                  refine XC.ret ?_
                  have hne : Ac.v ⟨ak, an, akk, ad, aA, am, acp, aks, aq⟩ ≠ Ac.v ⟨bk, bn, bkk, bd, bA, bm, bcp, bks, bq⟩ := by (intro e; simp only [Ac.v, Av.mk.injEq] at e; obtain ⟨e1, e2, e3, e4, e5, e6⟩ := e; first | exact absurd e1 (by assumption) | exact absurd e2 (by assumption) | exact absurd e3 (by assumption) | exact absurd e4 (by assumption) | exact absurd (show _ ∧ _ ∧ _ ∧ _ ∧ _ ∧ _ ∧ _ from ⟨congrArg Qs.kind e6, congrArg Qs.client e6, congrArg Qs.seq e6, congrArg Qs.name e6, congrArg Qs.data e6, congrArg Qs.mode e6, congrArg Qs.lag e6⟩) (by assumption) | (have := congrArg List.length e5; omega) | (rw [e5] at hu; rw [hu] at hu2; have := Option.some.inj hu2; omega))
                  exact fin1 rfl (⟨by rw [same_no ha hb hne], rfl⟩) (by repeat (first | exact Gets.done _ | exact Gets.all _ | (apply Gets.step; focus ((repeat (first | exact Pick.head _ _ | apply Pick.tail)); done)) | apply Gets.drop))
                · refine XC.skip ?_
                  refine hK12 _ _ ?_
                  refine XC.keep [(0, _), (1, _), (5, _), (6, _), (7, _)] ⟨rfl, rfl, rfl, rfl, rfl, trivial⟩ ?_
                  refine XC.seq fun K20 hK20 => ?_
                  refine XC.region ?_
                  refine x_v (r_as rfl) rfl ?_
                  refine XL.nil ?_
                  refine hK20 _ _ ?_
                  refine XC.keep [(0, _), (1, _), (5, _), (6, _), (7, _), (8, _)] ⟨rfl, rfl, rfl, rfl, rfl, rfl, trivial⟩ ?_
                  refine XC.block ?_
                  refine XC.loop (σ := Nat) (fun k => [(0, .slice (some ⟨sb, so, none⟩) x.length c), (1, .slice (some ⟨tb, to, none⟩) y.length d), (5, .int .i64 i), (6, .pointer (some ⟨b6, 0, none⟩)), (7, .pointer (some ⟨b7, 0, none⟩)), (8, .int .i64 k)]) (fun k => blk b7 83 ([.int .i64 bk, .int .i64 bn, .int .i64 bkk, .int .i64 bd, .slice bA bm bcp, .int .i64 bq.kind, .int .i64 bq.client, .int .i64 bq.seq, str bq.name, str bq.data, .int .i64 bq.mode, .int .i64 bq.lag]) :: blk b6 83 ([.int .i64 ak, .int .i64 an, .int .i64 akk, .int .i64 ad, .slice aA am acp, .int .i64 aq.kind, .int .i64 aq.client, .int .i64 aq.seq, str aq.name, str aq.data, .int .i64 aq.mode, .int .i64 aq.lag]) :: Fr) (fun k => k ≤ am ∧ aks.take k = bks.take k) (fun k => am - k) 0 ?_ ⟨rfl, rfl, rfl, rfl, rfl, rfl, trivial⟩ (by repeat (first | exact Gets.done _ | exact Gets.all _ | (apply Gets.step; focus ((repeat (first | exact Pick.head _ _ | apply Pick.tail)); done)) | apply Gets.drop)) ?_
                  · exact ⟨Nat.zero_le _, by simp⟩
                  rintro k ⟨hk, hI2⟩
                  refine XC.seq fun K21 hK21 => ?_
                  refine XC.seq fun K22 hK22 => ?_
                  refine XC.region ?_
                  refine x_v (r_mv rfl) rfl ?_
                  refine x_v (r_fa fo83_4 rfl) rfl ?_
                  refine x_v (r_ld ty40 rfl (by repeat (first | exact Pick.head _ _ | apply Pick.tail)) (by rfl)) rfl ?_
                  refine x_v (r_lensl Try.underlying40 rfl) rfl ?_
                  refine x_v (r_lt rfl rfl) rfl ?_
                  refine XL.nil ?_
                  refine hK22 _ _ ?_
                  refine XC.keep [(0, _), (1, _), (5, _), (6, _), (7, _), (8, _), (74, _)] ⟨rfl, rfl, rfl, rfl, rfl, rfl, rfl, trivial⟩ ?_
                  refine XC.cond_d rfl (fun hc9 => ?_) (fun hc9 => ?_)
                  · refine XC.skip ?_
                    refine hK21 _ _ ?_
                    refine XC.keep [(0, _), (1, _), (5, _), (6, _), (7, _), (8, _)] ⟨rfl, rfl, rfl, rfl, rfl, rfl, trivial⟩ ?_
                    refine XC.seq fun K23 hK23 => ?_
                    refine XC.block ?_
                    refine XC.seq fun K24 hK24 => ?_
                    obtain ⟨kb, ko, rfl, hkt⟩ := hak.at_ (by omega)
                    obtain ⟨lb, lo, rfl, hlt⟩ := hbk.at_ (by omega)
                    obtain ⟨u, hu⟩ : ∃ u, aks[k]? = some u := ⟨_, List.getElem?_eq_getElem (by omega)⟩
                    obtain ⟨u2, hu2⟩ : ∃ u, bks[k]? = some u := ⟨_, List.getElem?_eq_getElem (by omega)⟩
                    refine XC.draw (blk b7 83 [.int .i64 bk, .int .i64 bn, .int .i64 bkk, .int .i64 bd, .slice (some ⟨lb, lo, none⟩) bm bcp, .int .i64 bq.kind, .int .i64 bq.client, .int .i64 bq.seq, str bq.name, str bq.data, .int .i64 bq.mode, .int .i64 bq.lag] :: blk b6 83 [.int .i64 ak, .int .i64 an, .int .i64 akk, .int .i64 ad, .slice (some ⟨kb, ko, none⟩) am acp, .int .i64 aq.kind, .int .i64 aq.client, .int .i64 aq.seq, str aq.name, str aq.data, .int .i64 aq.mode, .int .i64 aq.lag] :: Fr) false [(0, false), (1, false), (2, false), (3, false), (4, false), (5, false), (6, false), (7, false), (8, false), (9, false), (10, false)] (by kernel_rfl) (by kernel_rfl) ?_
                    refine y_v rfl (r_fa fo83_4 rfl) (fun _ h => Gets.own (by repeat (first | exact Gets.done _ | exact Gets.all _ | (apply Gets.step; focus ((repeat (first | exact Pick.head _ _ | apply Pick.tail)); done)) | apply Gets.drop)) h) rfl ?_
                    refine y_v rfl (r_ld ty40 rfl (by repeat (first | exact Pick.head _ _ | apply Pick.tail)) (by rfl)) (fun _ h => Gets.own (by repeat (first | exact Gets.done _ | exact Gets.all _ | (apply Gets.step; focus ((repeat (first | exact Pick.head _ _ | apply Pick.tail)); done)) | apply Gets.drop)) h) rfl ?_
                    refine y_v rfl (r_mv rfl) (fun _ h => Gets.own (by repeat (first | exact Gets.done _ | exact Gets.all _ | (apply Gets.step; focus ((repeat (first | exact Pick.head _ _ | apply Pick.tail)); done)) | apply Gets.drop)) h) rfl ?_
                    refine y_v rfl (r_ia (k := k) Try.underlying40 ty3 rfl rfl (by omega) (by omega)) (fun _ h => Gets.own (by repeat (first | exact Gets.done _ | exact Gets.all _ | (apply Gets.step; focus ((repeat (first | exact Pick.head _ _ | apply Pick.tail)); done)) | apply Gets.drop)) h) rfl ?_
                    refine y_v rfl (r_ldr ty3 rfl (fun w hw => hkt w (Gets.own (by repeat (first | exact Gets.done _ | exact Gets.all _ | (apply Gets.step; focus ((repeat (first | exact Pick.head _ _ | apply Pick.tail)); done)) | apply Gets.drop)) hw) (k * 1) _ (by rw [Nat.mul_one]; exact iv_get hu))) (fun _ h => Gets.own (by repeat (first | exact Gets.done _ | exact Gets.all _ | (apply Gets.step; focus ((repeat (first | exact Pick.head _ _ | apply Pick.tail)); done)) | apply Gets.drop)) h) rfl ?_
                    refine y_v rfl (r_fa fo83_4 rfl) (fun _ h => Gets.own (by repeat (first | exact Gets.done _ | exact Gets.all _ | (apply Gets.step; focus ((repeat (first | exact Pick.head _ _ | apply Pick.tail)); done)) | apply Gets.drop)) h) rfl ?_
                    refine y_v rfl (r_ld ty40 rfl (by repeat (first | exact Pick.head _ _ | apply Pick.tail)) (by rfl)) (fun _ h => Gets.own (by repeat (first | exact Gets.done _ | exact Gets.all _ | (apply Gets.step; focus ((repeat (first | exact Pick.head _ _ | apply Pick.tail)); done)) | apply Gets.drop)) h) rfl ?_
                    refine y_v rfl (r_mv rfl) (fun _ h => Gets.own (by repeat (first | exact Gets.done _ | exact Gets.all _ | (apply Gets.step; focus ((repeat (first | exact Pick.head _ _ | apply Pick.tail)); done)) | apply Gets.drop)) h) rfl ?_
                    refine y_v rfl (r_ia (k := k) Try.underlying40 ty3 rfl rfl (by omega) (by omega)) (fun _ h => Gets.own (by repeat (first | exact Gets.done _ | exact Gets.all _ | (apply Gets.step; focus ((repeat (first | exact Pick.head _ _ | apply Pick.tail)); done)) | apply Gets.drop)) h) rfl ?_
                    refine y_v rfl (r_ldr ty3 rfl (fun w hw => hlt w (Gets.own (by repeat (first | exact Gets.done _ | exact Gets.all _ | (apply Gets.step; focus ((repeat (first | exact Pick.head _ _ | apply Pick.tail)); done)) | apply Gets.drop)) hw) (k * 1) _ (by rw [Nat.mul_one]; exact iv_get hu2))) (fun _ h => Gets.own (by repeat (first | exact Gets.done _ | exact Gets.all _ | (apply Gets.step; focus ((repeat (first | exact Pick.head _ _ | apply Pick.tail)); done)) | apply Gets.drop)) h) rfl ?_
                    refine y_v rfl (r_ne rfl rfl) (fun _ h => Gets.own (by repeat (first | exact Gets.done _ | exact Gets.all _ | (apply Gets.step; focus ((repeat (first | exact Pick.head _ _ | apply Pick.tail)); done)) | apply Gets.drop)) h) rfl ?_
                    refine XH.nil ?_
                    refine hK24 _ _ ?_
                    refine XC.keep [(0, _), (1, _), (5, _), (6, _), (7, _), (8, _), (87, _)] ⟨rfl, rfl, rfl, rfl, rfl, rfl, rfl, trivial⟩ ?_
                    refine XC.cond_d rfl (fun hc10 => ?_) (fun hc10 => ?_)
                    · refine XC.seq fun K25 hK25 => ?_
                      refine XC.region ?_
                      refine x_v (r_as rfl) rfl ?_
                      refine XL.nil ?_
                      refine hK25 _ _ ?_
                      refine XC.keep [(4, _)] ⟨rfl, trivial⟩ ?_
                      refine XC.ret ?_
                      have hne : Ac.v ⟨ak, an, akk, ad, some ⟨kb, ko, none⟩, am, acp, aks, aq⟩ ≠ Ac.v ⟨bk, bn, bkk, bd, some ⟨lb, lo, none⟩, bm, bcp, bks, bq⟩ := by (intro e; simp only [Ac.v, Av.mk.injEq] at e; obtain ⟨e1, e2, e3, e4, e5, e6⟩ := e; first | exact absurd e1 (by assumption) | exact absurd e2 (by assumption) | exact absurd e3 (by assumption) | exact absurd e4 (by assumption) | exact absurd (show _ ∧ _ ∧ _ ∧ _ ∧ _ ∧ _ ∧ _ from ⟨congrArg Qs.kind e6, congrArg Qs.client e6, congrArg Qs.seq e6, congrArg Qs.name e6, congrArg Qs.data e6, congrArg Qs.mode e6, congrArg Qs.lag e6⟩) (by assumption) | (have := congrArg List.length e5; omega) | (rw [e5] at hu; rw [hu] at hu2; have := Option.some.inj hu2; omega))
                      exact fin1 rfl (⟨by rw [same_no ha hb hne], rfl⟩) (by repeat (first | exact Gets.done _ | exact Gets.all _ | (apply Gets.step; focus ((repeat (first | exact Pick.head _ _ | apply Pick.tail)); done)) | apply Gets.drop))
                    · refine XC.skip ?_
                      refine hK23 _ _ ?_
                      refine XC.keep [(0, _), (1, _), (5, _), (6, _), (7, _), (8, _)] ⟨rfl, rfl, rfl, rfl, rfl, rfl, trivial⟩ ?_
                      refine XC.region ?_
                      refine x_v (r_mv rfl) rfl ?_
                      refine x_v (r_add rfl rfl (by omega)) rfl ?_
                      refine x_v (r_as rfl) rfl ?_
                      refine XL.nil ?_
                      refine ⟨k + 1, ?_, ?_, ⟨rfl, rfl, rfl, rfl, rfl, rfl, trivial⟩, (by repeat (first | exact Gets.done _ | exact Gets.all _ | (apply Gets.step; focus ((repeat (first | exact Pick.head _ _ | apply Pick.tail)); done)) | apply Gets.drop))⟩
                      · exact ⟨by omega, by rw [tk_snoc hu, tk_snoc hu2, hI2]; simp; omega⟩
                      · omega
                  · refine XC.exit rfl ?_
                    refine hK9 _ _ ?_
                    refine XC.keep [(0, _), (1, _), (5, _)] ⟨rfl, rfl, rfl, trivial⟩ ?_
                    have hks : aks = bks := by rw [List.take_of_length_le (by omega), List.take_of_length_le (by omega)] at hI2; exact hI2
                    have hq : aq = bq := by (have h6 := Decidable.not_not.1 hg61; cases aq; cases bq; simp only at h6; obtain ⟨r1, r2, r3, r4, r5, r6, r7⟩ := h6; subst r1 r2 r3 r4 r5 r6 r7; rfl)
                    refine XC.region ?_
                    refine x_v (r_mv rfl) rfl ?_
                    refine x_v (r_add rfl rfl (by omega)) rfl ?_
                    refine x_v (r_as rfl) rfl ?_
                    refine XL.nil ?_
                    refine ⟨i + 1, ?_, ?_, ⟨rfl, rfl, rfl, trivial⟩, (by repeat (first | exact Gets.done _ | exact Gets.all _ | (apply Gets.step; focus ((repeat (first | exact Pick.head _ _ | apply Pick.tail)); done)) | apply Gets.drop))⟩
                    · exact ⟨by omega, by rw [tk_snoc ha, tk_snoc hb, List.map_append, List.map_append, hI]; simp [Ac.v]; exact ⟨by omega, by omega, by omega, by omega, hks, hq⟩⟩
                    · omega
    · refine XC.exit rfl ?_
      refine hK5 _ _ ?_
      refine XC.keep [] trivial ?_
      refine XC.seq fun K26 hK26 => ?_
      refine XC.region ?_
      refine x_v (r_as rfl) rfl ?_
      refine XL.nil ?_
      refine hK26 _ _ ?_
      refine XC.keep [(4, _)] ⟨rfl, trivial⟩ ?_
      refine XC.ret ?_
      rw [List.take_of_length_le (by omega), List.take_of_length_le (by omega)] at hI
      exact fin1 rfl (⟨by rw [decide_eq_true hI], rfl⟩) (by repeat (first | exact Gets.done _ | exact Gets.all _ | (apply Gets.step; focus ((repeat (first | exact Pick.head _ _ | apply Pick.tail)); done)) | apply Gets.drop))
end Go.Proofs.Ytdppjmdjmbbclaa

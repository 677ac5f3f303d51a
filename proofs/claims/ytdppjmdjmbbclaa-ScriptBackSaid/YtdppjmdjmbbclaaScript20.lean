/- Scripts: the program's printing (function 29). -/
import Derived.Test.YtdppjmdjmbbclaaScript19
namespace Go.Proofs.Ytdppjmdjmbbclaa
open Go.Sx
set_option linter.unusedVariables false

theorem actB_len {a : Av} (h1 : a.ks.length ≤ 32768) (h2 : a.q.name.length ≤ 32768) (h3 : a.q.data.length ≤ 32768) : (actB a).length ≤ 100000 := by
  unfold actB
  rw [List.length_cons]
  split
  · simp; omega
  split
  · simp
  split
  · simp
  split
  · simp; omega
  split
  · simp
  split
  · simp
  · simp

/-- A text and a number are returned; memory stays. -/
def Said (W0 : World) (Fr : List HP) (r : List UInt8 × Int) (v : Value) (Rs' : List HP) : Prop := v = .tuple #[str r.1, .int .i64 r.2] ∧ Rs' = Fr

theorem print_tr {W0 : World} {Fr : List HP} (A : Option Addr) (c : Nat) (L : List Ac) (hL : RdA W0 Fr A L) (hs : ∀ a ∈ L, Small a) :
    Tr W0 Try.prog 29 [.slice A L.length c] Fr (Said W0 Fr (printF (L.map Ac.v))) := by
  have hle := hL.le
  refine Entry.tr (N := 28) (rs := [.tmp 2, .tmp 3]) ⟨_, Try.func29, rfl, by kernel_rfl, rfl, rfl⟩ rfl ?_
  refine XC.seq fun K1 hK1 => ?_
  refine XC.region ?_
  refine x_v (r_as rfl) rfl ?_
  refine x_v (r_as rfl) rfl ?_
  refine XL.nil ?_
  refine hK1 _ _ ?_
  refine XC.keep [(0, _)] ⟨rfl, trivial⟩ ?_
  refine XC.seq fun K2 hK2 => ?_
  refine XC.region ?_
  refine x_a (r_al ty94 rfl) rfl fun b4 => ?_
  refine XL.nil ?_
  refine hK2 _ _ ?_
  refine XC.keep [(0, _), (4, _)] ⟨rfl, rfl, trivial⟩ ?_
  refine XC.seq fun K3 hK3 => ?_
  refine XC.seq fun K4 hK4 => ?_
  refine XC.region ?_
  refine x_v (r_mv rfl) rfl ?_
  refine x_v (r_lensl Try.underlying56 rfl) rfl ?_
  refine x_v (r_gt rfl rfl) rfl ?_
  refine XL.nil ?_
  refine hK4 _ _ ?_
  refine XC.keep [(0, _), (4, _), (9, _)] ⟨rfl, rfl, rfl, trivial⟩ ?_
  refine XC.cond_d rfl (fun hc1 => ?_) (fun hc1 => ?_)
  · have hp : printF (L.map Ac.v) = ([], 1) := by unfold printF; rw [if_pos (by simp; omega)]
    rw [hp]
    refine XC.seq fun K5 hK5 => ?_
    refine XC.region ?_
    refine x_v (r_as rfl) rfl ?_
    refine x_v (r_as rfl) rfl ?_
    refine XL.nil ?_
    refine hK5 _ _ ?_
    refine XC.keep [(2, _), (3, _)] ⟨rfl, rfl, trivial⟩ ?_
    refine XC.ret ?_
    exact fin2 rfl rfl (⟨rfl, rfl⟩) (by repeat (first | exact Gets.done _ | exact Gets.all _ | (apply Gets.step; focus ((repeat (first | exact Pick.head _ _ | apply Pick.tail)); done)) | apply Gets.drop))
  · refine XC.skip ?_
    refine hK3 _ _ ?_
    refine XC.keep [(0, _), (4, _)] ⟨rfl, rfl, trivial⟩ ?_
    refine XC.seq fun K6 hK6 => ?_
    refine XC.seq fun K7 hK7 => ?_
    refine XC.nil_ 5 1 ?_
    refine XC.region ?_
    refine x_v (r_mv rfl) rfl ?_
    refine x_v (r_lensl Try.underlying56 rfl) rfl ?_
    refine x_v (r_mv rfl) rfl ?_
    refine XL.nil ?_
    refine hK7 _ _ ?_
    refine XC.keep [(4, _), (10, _), (11, _), (12, _)] ⟨rfl, rfl, rfl, rfl, trivial⟩ ?_
    refine XC.block ?_
    refine XC.loop (σ := Nat × List UInt8 × Option Addr × Nat) (fun s => [(4, .pointer (some ⟨b4, 0, none⟩)), (10, .slice A L.length c), (11, .int .i64 (L.length : Int)), (12, .int .i64 (s.1 : Int))]) (fun s => pn b4 s.2.2.1 s.2.2.2 s.2.1 false Fr) (fun s => s.1 ≤ L.length ∧ s.2.1 = ((L.take s.1).map Ac.v).flatMap actB ∧ (∀ a ∈ (L.take s.1).map Ac.v, Good a) ∧ s.2.1.length ≤ 100000 * s.1) (fun s => L.length - s.1) (0, [], none, 0) ?_ ⟨rfl, rfl, rfl, rfl, trivial⟩ (by repeat (first | exact Gets.done _ | exact Gets.all _ | (apply Gets.step; focus ((repeat (first | exact Pick.head _ _ | apply Pick.tail)); done)) | apply Gets.drop)) ?_
    · exact ⟨Nat.zero_le _, by simp, by simp, Nat.zero_le _⟩
    rintro ⟨i, out, A1, c1⟩ ⟨hi, hout, hall, hol⟩
    dsimp only at hi hout hall hol ⊢
    refine XC.seq fun K8 hK8 => ?_
    refine XC.region ?_
    refine x_v (r_lt rfl rfl) rfl ?_
    refine XL.nil ?_
    refine hK8 _ _ ?_
    refine XC.keep [(4, _), (10, _), (11, _), (12, _), (13, _)] ⟨rfl, rfl, rfl, rfl, rfl, trivial⟩ ?_
    refine XC.seq fun K9 hK9 => ?_
    refine XC.cond_d rfl (fun hc2 => ?_) (fun hc2 => ?_)
    · refine XC.skip ?_
      refine hK9 _ _ ?_
      refine XC.keep [(4, _), (10, _), (11, _), (12, _)] ⟨rfl, rfl, rfl, rfl, trivial⟩ ?_
      refine XC.seq fun K10 hK10 => ?_
      refine XC.block ?_
      refine XC.seq fun K11 hK11 => ?_
      refine XC.region ?_
      obtain ⟨a, ho⟩ : ∃ a, L[i]? = some a := ⟨_, List.getElem?_eq_getElem (by omega)⟩
      have hsa := hs a (List.mem_of_getElem? ho)
      have hka := hL.ks a (List.mem_of_getElem? ho)
      have hna : a.n = a.ks.length := by have := hka.len; simpa [iv] using this.symm
      obtain ⟨sb, so, rfl, hat⟩ := hL.rd.at_ (by omega)
      unfold pn
      refine x_v (r_ia (k := i) Try.underlying56 ty83 rfl rfl (by omega) (by omega)) rfl ?_
      refine x_v (r_ldar (l' := ac a) ty83 rfl rfl (fun w hw j u hu => by rw [Nat.add_assoc]; exact hat w (Gets.own (by repeat (first | exact Gets.done _ | exact Gets.all _ | (apply Gets.step; focus ((repeat (first | exact Pick.head _ _ | apply Pick.tail)); done)) | apply Gets.drop)) hw) _ u (cells_get ac_len L i _ ho j u hu))) rfl ?_
      refine x_a (r_al ty83 rfl) rfl fun b6 => ?_
      refine x_e (r_st (vs := ac a) ty83 rfl rfl rfl rfl rfl (by repeat (first | exact Upd.head _ _ _ | apply Upd.tail)) (by repeat (first | exact Over.nil _ | apply Over.put | apply Over.skip))) ?_
      refine XL.nil ?_
      refine hK11 _ _ ?_
      refine XC.keep [(4, _), (6, _), (10, _), (11, _), (12, _)] ⟨rfl, rfl, rfl, rfl, rfl, trivial⟩ ?_
      refine XC.seq fun K12 hK12 => ?_
      refine XC.region ?_
      refine x_v (r_lda (l' := ac a) ty83 rfl (by repeat (first | exact Pick.head _ _ | apply Pick.tail)) rfl (Sub.get (by repeat (first | exact Sub.nil _ | apply Sub.take | apply Sub.skip)))) rfl ?_
      refine x_c (r_call0 (args := [_, _]) ⟨rfl, rfl, rfl⟩ (pact_tr (Fr := Fr) b4 A1 c1 out a hka hsa (by omega)) (by repeat (first | exact Gets.done _ | exact Gets.all _ | (apply Gets.step; focus ((repeat (first | exact Pick.head _ _ | apply Pick.tail)); done)) | apply Gets.drop))) rfl ?_
      rintro _ _ ⟨rfl, A2, c2, rfl⟩
      unfold pn
      refine XL.nil ?_
      refine hK12 _ _ ?_
      refine XC.keep [(4, _), (10, _), (11, _), (12, _)] ⟨rfl, rfl, rfl, rfl, trivial⟩ ?_
      refine XC.seq fun K13 hK13 => ?_
      refine XC.region ?_
      refine x_v (r_fa fo94_1 rfl) rfl ?_
      refine x_v (r_ld ty4 rfl (by repeat (first | exact Pick.head _ _ | apply Pick.tail)) (by rfl)) rfl ?_
      refine XL.nil ?_
      refine hK13 _ _ ?_
      refine XC.keep [(4, _), (10, _), (11, _), (12, _), (19, _)] ⟨rfl, rfl, rfl, rfl, rfl, trivial⟩ ?_
      refine XC.cond rfl (fun hc3 => ?_) (fun hc3 => ?_)
      · have hg : ¬ Good a.v := by simpa using hc3
        rw [printF_bad (List.mem_map.2 ⟨a, List.mem_of_getElem? ho, rfl⟩) hg]
        refine XC.seq fun K14 hK14 => ?_
        refine XC.region ?_
        refine x_v (r_as rfl) rfl ?_
        refine x_v (r_as rfl) rfl ?_
        refine XL.nil ?_
        refine hK14 _ _ ?_
        refine XC.keep [(2, _), (3, _)] ⟨rfl, rfl, trivial⟩ ?_
        refine XC.ret ?_
        exact fin2 rfl rfl (⟨rfl, rfl⟩) (by repeat (first | exact Gets.done _ | exact Gets.all _ | (apply Gets.step; focus ((repeat (first | exact Pick.head _ _ | apply Pick.tail)); done)) | apply Gets.drop))
      · have hg : Good a.v := by simpa using hc3
        rw [hc3]
        refine XC.skip ?_
        refine hK10 _ _ ?_
        refine XC.keep [(4, _), (10, _), (11, _), (12, _)] ⟨rfl, rfl, rfl, rfl, trivial⟩ ?_
        refine XC.region ?_
        refine x_v (r_add rfl rfl (by omega)) rfl ?_
        refine x_v (r_mv rfl) rfl ?_
        refine XL.nil ?_
        refine ⟨(i + 1, out ++ actB a.v, A2, c2), ?_, ?_, ⟨rfl, rfl, rfl, rfl, trivial⟩, (by repeat (first | exact Gets.done _ | exact Gets.all _ | (apply Gets.step; focus ((repeat (first | exact Pick.head _ _ | apply Pick.tail)); done)) | apply Gets.drop))⟩
        · exact ⟨by dsimp only; omega, by dsimp only; rw [tk_snoc ho, hout]; simp, by dsimp only; rw [tk_snoc ho]; intro q hq; rw [List.map_append] at hq; rcases List.mem_append.1 hq with h | h; exact hall q h; simp only [List.map_cons, List.map_nil, List.mem_singleton] at h; rw [h]; exact hg, by (have := actB_len (a := a.v) (by rw [← show a.n = a.v.ks.length from hna]; exact hsa.1) hsa.2.1 hsa.2.2); simp; omega⟩
        · dsimp only; omega
    · refine XC.exit rfl ?_
      refine hK6 _ _ ?_
      refine XC.keep [(4, _)] ⟨rfl, trivial⟩ ?_
      refine XC.seq fun K15 hK15 => ?_
      refine XC.seq fun K16 hK16 => ?_
      obtain rfl : i = L.length := by omega
      rw [List.take_length] at hout hall
      unfold pn
      refine XC.slnn (A := A1) (by repeat (first | exact Pick.head _ _ | apply Pick.tail)) fun hla hA => ?_
      refine XC.region ?_
      refine x_v (r_fa fo94_0 rfl) rfl ?_
      refine x_v (r_ld ty92 rfl (by repeat (first | exact Pick.head _ _ | apply Pick.tail)) (by rfl)) rfl ?_
      refine x_v (r_lensl Try.underlying92 rfl) rfl ?_
      refine x_v (r_gt rfl rfl) rfl ?_
      refine XL.nil ?_
      refine hK16 _ _ ?_
      refine XC.keep [(4, _), (24, _)] ⟨rfl, rfl, trivial⟩ ?_
      refine XC.cond_d rfl (fun hc4 => ?_) (fun hc4 => ?_)
      · have hp : printF (L.map Ac.v) = ([], 4) := by unfold printF; rw [if_neg (by simp; omega), if_pos hall, ← hout, if_pos (by omega)]
        rw [hp]
        refine XC.seq fun K17 hK17 => ?_
        refine XC.region ?_
        refine x_v (r_as rfl) rfl ?_
        refine x_v (r_as rfl) rfl ?_
        refine XL.nil ?_
        refine hK17 _ _ ?_
        refine XC.keep [(2, _), (3, _)] ⟨rfl, rfl, trivial⟩ ?_
        refine XC.ret ?_
        exact fin2 rfl rfl (⟨rfl, rfl⟩) (by repeat (first | exact Gets.done _ | exact Gets.all _ | (apply Gets.step; focus ((repeat (first | exact Pick.head _ _ | apply Pick.tail)); done)) | apply Gets.drop))
      · have hp : printF (L.map Ac.v) = (out, 0) := by unfold printF; rw [if_neg (by simp; omega), if_pos hall, ← hout, if_neg (by omega)]
        refine XC.skip ?_
        refine hK15 _ _ ?_
        refine XC.keep [(4, _)] ⟨rfl, trivial⟩ ?_
        refine XC.seq fun K18 hK18 => ?_
        refine XC.region ?_
        refine x_v (r_fa fo94_0 rfl) rfl ?_
        refine x_v (r_ld ty92 rfl (by repeat (first | exact Pick.head _ _ | apply Pick.tail)) (by rfl)) rfl ?_
        refine x_v (r_text Try.underlying92 Try.underlying5 Try.underlying9 rfl (Rdb.of_sl (by repeat (first | exact Pick.head _ _ | apply Pick.tail)) hla hA)) rfl ?_
        refine x_v (r_as rfl) rfl ?_
        refine x_v (r_as rfl) rfl ?_
        refine XL.nil ?_
        refine hK18 _ _ ?_
        refine XC.keep [(2, _), (3, _)] ⟨rfl, rfl, trivial⟩ ?_
        refine XC.ret ?_
        rw [hp]
        exact fin2 rfl rfl (⟨rfl, rfl⟩) (by repeat (first | exact Gets.done _ | exact Gets.all _ | (apply Gets.step; focus ((repeat (first | exact Pick.head _ _ | apply Pick.tail)); done)) | apply Gets.drop))
end Go.Proofs.Ytdppjmdjmbbclaa

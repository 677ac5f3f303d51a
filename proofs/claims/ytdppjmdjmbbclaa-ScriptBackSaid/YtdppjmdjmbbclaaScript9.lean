/- Scripts: the statements' bound on acts (function 28). -/
import Derived.Test.YtdppjmdjmbbclaaScript8
namespace Go.Proofs.Ytdppjmdjmbbclaa
open Go.Sx
set_option linter.unusedVariables false

def Small (a : Ac) : Prop := a.n ≤ 32768 ∧ a.q.name.length ≤ 32768 ∧ a.q.data.length ≤ 32768
theorem great28_tr {W0 : World} {Fr : List HP} (A : Option Addr) (c : Nat) (L : List Ac) (hL : RdA W0 Fr A L) :
    Tr W0 Try.prog 28 [.slice A L.length c] Fr (fun v Rs' => (∃ g, v = .bool g ∧ (g = false → L.length ≤ 16384 ∧ ∀ a ∈ L, Small a)) ∧ Rs' = Fr) := by
  have hle := hL.le
  refine Entry.tr (N := 33) (rs := [.tmp 2]) ⟨_, Try.func28, rfl, by kernel_rfl, rfl, rfl⟩ rfl ?_
  refine XC.seq fun K1 hK1 => ?_
  refine XC.region ?_
  refine x_v (r_as rfl) rfl ?_
  refine XL.nil ?_
  refine hK1 _ _ ?_
  refine XC.keep [(0, _)] ⟨rfl, trivial⟩ ?_
  refine XC.seq fun K2 hK2 => ?_
  refine XC.region ?_
  refine x_v (r_as rfl) rfl ?_
  refine XL.nil ?_
  refine hK2 _ _ ?_
  refine XC.keep [(0, _), (3, _)] ⟨rfl, rfl, trivial⟩ ?_
  refine XC.seq fun K3 hK3 => ?_
  refine XC.seq fun K4 hK4 => ?_
  refine XC.region ?_
  refine x_v (r_mv rfl) rfl ?_
  refine x_v (r_lensl Try.underlying56 rfl) rfl ?_
  refine x_v (r_mv rfl) rfl ?_
  refine XL.nil ?_
  refine hK4 _ _ ?_
  refine XC.keep [(3, _), (6, _), (7, _), (8, _)] ⟨rfl, rfl, rfl, rfl, trivial⟩ ?_
  refine XC.block ?_
  refine XC.loop (σ := Nat × Nat) (fun s => [(3, .int .i64 (s.2 : Int)), (6, .slice A L.length c), (7, .int .i64 L.length), (8, .int .i64 (s.1 : Int))]) (fun s => Fr) (fun s => s.1 ≤ L.length ∧ 2 * s.1 ≤ s.2 ∧ s.2 ≤ 32768 ∧ ∀ o ∈ L.take s.1, Small o) (fun s => L.length - s.1) (0, 0) ?_ ⟨rfl, rfl, rfl, rfl, trivial⟩ (by repeat (first | exact Gets.done _ | exact Gets.all _ | (apply Gets.step; focus ((repeat (first | exact Pick.head _ _ | apply Pick.tail)); done)) | apply Gets.drop)) ?_
  · exact ⟨Nat.zero_le _, Nat.le_refl _, Nat.zero_le _, by simp⟩
  rintro ⟨i, n⟩ ⟨hi, hin, hn2, hall⟩
  dsimp only at hi hin hn2 hall ⊢
  refine XC.seq fun K5 hK5 => ?_
  refine XC.region ?_
  refine x_v (r_lt rfl rfl) rfl ?_
  refine XL.nil ?_
  refine hK5 _ _ ?_
  refine XC.keep [(3, _), (6, _), (7, _), (8, _), (9, _)] ⟨rfl, rfl, rfl, rfl, rfl, trivial⟩ ?_
  refine XC.seq fun K6 hK6 => ?_
  refine XC.cond_d rfl (fun hc1 => ?_) (fun hc1 => ?_)
  · refine XC.skip ?_
    refine hK6 _ _ ?_
    refine XC.keep [(3, _), (6, _), (7, _), (8, _)] ⟨rfl, rfl, rfl, rfl, trivial⟩ ?_
    refine XC.seq fun K7 hK7 => ?_
    refine XC.block ?_
    refine XC.seq fun K8 hK8 => ?_
    refine XC.region ?_
    obtain ⟨a, ho⟩ : ∃ a, L[i]? = some a := ⟨_, List.getElem?_eq_getElem (by omega)⟩
    have hal := hL.kl a (List.mem_of_getElem? ho)
    obtain ⟨ak, an, akk, ad, aA, am, acp, aks, aq⟩ := a
    dsimp only at hal
    obtain ⟨sb, so, rfl, hat⟩ := hL.rd.at_ (by omega)
    refine x_v (r_ia (k := i) Try.underlying56 ty83 rfl rfl (by omega) (by omega)) rfl ?_
    refine x_v (r_ldar (l' := [.int .i64 ak, .int .i64 an, .int .i64 akk, .int .i64 ad, .slice aA am acp, .int .i64 aq.kind, .int .i64 aq.client, .int .i64 aq.seq, str aq.name, str aq.data, .int .i64 aq.mode, .int .i64 aq.lag]) ty83 rfl rfl (fun w hw j u hu => by rw [Nat.add_assoc]; exact hat w hw _ u (cells_get ac_len L i _ ho j u hu))) rfl ?_
    refine x_a (r_al ty83 rfl) rfl fun b5 => ?_
    refine x_e (r_st ty83 rfl rfl rfl rfl rfl (by repeat (first | exact Upd.head _ _ _ | apply Upd.tail)) (by repeat (first | exact Over.nil _ | apply Over.put | apply Over.skip))) ?_
    refine XL.nil ?_
    refine hK8 _ _ ?_
    refine XC.keep [(3, _), (5, _), (6, _), (7, _), (8, _)] ⟨rfl, rfl, rfl, rfl, rfl, trivial⟩ ?_
    refine XC.seq fun K9 hK9 => ?_
    refine XC.region ?_
    refine x_v (r_mv rfl) rfl ?_
    refine x_v (r_fa fo83_4 rfl) rfl ?_
    refine x_v (r_ld ty40 rfl (by repeat (first | exact Pick.head _ _ | apply Pick.tail)) (by rfl)) rfl ?_
    refine x_v (r_lensl Try.underlying40 rfl) rfl ?_
    refine x_v (r_add rfl rfl (by omega)) rfl ?_
    refine x_v (r_fa fo83_5 rfl) rfl ?_
    refine x_v (r_fa fo81_3 rfl) rfl ?_
    refine x_v (r_ld ty9 rfl (by repeat (first | exact Pick.head _ _ | apply Pick.tail)) (by rfl)) rfl ?_
    refine x_v (r_lens Try.underlying9 rfl) rfl ?_
    refine x_v (r_min rfl rfl) rfl ?_
    refine x_v (r_add rfl rfl (by omega)) rfl ?_
    refine x_v (r_fa fo83_5 rfl) rfl ?_
    refine x_v (r_fa fo81_4 rfl) rfl ?_
    refine x_v (r_ld ty9 rfl (by repeat (first | exact Pick.head _ _ | apply Pick.tail)) (by rfl)) rfl ?_
    refine x_v (r_lens Try.underlying9 rfl) rfl ?_
    refine x_v (r_min rfl rfl) rfl ?_
    refine x_v (r_add rfl rfl (by omega)) rfl ?_
    refine x_v (r_add rfl rfl (by omega)) rfl ?_
    refine x_v (r_as rfl) rfl ?_
    refine XL.nil ?_
    refine hK9 _ _ ?_
    refine XC.keep [(3, _), (6, _), (7, _), (8, _)] ⟨rfl, rfl, rfl, rfl, trivial⟩ ?_
    refine XC.seq fun K10 hK10 => ?_
    refine XC.region ?_
    refine x_v (r_mv rfl) rfl ?_
    refine x_v (r_gt rfl rfl) rfl ?_
    refine XL.nil ?_
    refine hK10 _ _ ?_
    refine XC.keep [(3, _), (6, _), (7, _), (8, _), (31, _)] ⟨rfl, rfl, rfl, rfl, rfl, trivial⟩ ?_
    refine XC.cond_d rfl (fun hc2 => ?_) (fun hc2 => ?_)
    · refine XC.seq fun K11 hK11 => ?_
      refine XC.region ?_
      refine x_v (r_as rfl) rfl ?_
      refine XL.nil ?_
      refine hK11 _ _ ?_
      refine XC.keep [(2, _)] ⟨rfl, trivial⟩ ?_
      refine XC.ret ?_
      exact fin1 rfl (⟨⟨_, rfl, fun h => by cases h⟩, rfl⟩) (by repeat (first | exact Gets.done _ | exact Gets.all _ | (apply Gets.step; focus ((repeat (first | exact Pick.head _ _ | apply Pick.tail)); done)) | apply Gets.drop))
    · refine XC.skip ?_
      refine hK7 _ _ ?_
      refine XC.keep [(3, _), (6, _), (7, _), (8, _)] ⟨rfl, rfl, rfl, rfl, trivial⟩ ?_
      refine XC.region ?_
      refine x_v (r_add rfl rfl (by omega)) rfl ?_
      refine x_v (r_mv rfl) rfl ?_
      refine XL.nil ?_
      obtain ⟨nn, hnn⟩ : ∃ nn : Nat, (n : Int) + (2 + (am : Int) + min (aq.name.length : Int) 1048576 + min (aq.data.length : Int) 1048576) = (nn : Int) := ⟨n + (2 + am + min aq.name.length 1048576 + min aq.data.length 1048576), by omega⟩
      rw [hnn]
      refine ⟨(i + 1, nn), ?_, ?_, ⟨rfl, rfl, rfl, rfl, trivial⟩, (by repeat (first | exact Gets.done _ | exact Gets.all _ | (apply Gets.step; focus ((repeat (first | exact Pick.head _ _ | apply Pick.tail)); done)) | apply Gets.drop))⟩
      · exact ⟨by dsimp only; omega, by dsimp only; omega, by dsimp only; omega, by dsimp only; rw [tk_snoc ho]; intro q hq; rcases List.mem_append.1 hq with h | h; exact hall q h; rw [List.mem_singleton.1 h]; exact ⟨by dsimp only; omega, by dsimp only; omega, by dsimp only; omega⟩⟩
      · dsimp only; omega
  · refine XC.exit rfl ?_
    refine hK3 _ _ ?_
    refine XC.keep [] trivial ?_
    refine XC.seq fun K12 hK12 => ?_
    refine XC.region ?_
    refine x_v (r_as rfl) rfl ?_
    refine XL.nil ?_
    refine hK12 _ _ ?_
    refine XC.keep [(2, _)] ⟨rfl, trivial⟩ ?_
    refine XC.ret ?_
    rw [List.take_of_length_le (by omega)] at hall
    exact fin1 rfl (⟨⟨_, rfl, fun _ => ⟨by omega, hall⟩⟩, rfl⟩) (by repeat (first | exact Gets.done _ | exact Gets.all _ | (apply Gets.step; focus ((repeat (first | exact Pick.head _ _ | apply Pick.tail)); done)) | apply Gets.drop))
end Go.Proofs.Ytdppjmdjmbbclaa

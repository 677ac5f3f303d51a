/- Scripts: acts in new memory (function 30). -/
import Derived.Test.YtdppjmdjmbbclaaScript13
namespace Go.Proofs.Ytdppjmdjmbbclaa
open Go.Sx
set_option linter.unusedVariables false

theorem own_map {Lo : List Ac} {i : Nat} {a a2 : Ac} (ho : Lo[i]? = some a) (he : a2.v = a.v) : (Lo.set i a2).map Ac.v = Lo.map Ac.v := by
  apply List.ext_getElem?
  intro k
  rw [List.getElem?_map, List.getElem?_map, List.getElem?_set]
  split
  · rename_i h; subst h
    have := (List.getElem?_eq_some_iff.1 ho).1
    rw [if_pos this, ho]; simp [he]
  · rfl
theorem own_tr {W0 : World} {Fr : List HP} (A : Option Addr) (c : Nat) (L : List Ac) (hL : RdA W0 Fr A L) (hn : L.length ≤ 16384) (hs : ∀ a ∈ L, a.n ≤ 32768) :
    Tr W0 Try.prog 30 [.slice A L.length c] Fr (fun v Rs' => ∃ A2 c2 L2, v = .slice A2 L2.length c2 ∧ RdA W0 Rs' A2 L2 ∧ L2.map Ac.v = L.map Ac.v ∧ ∀ w, Own W0 w Rs' → Own W0 w Fr) := by
  refine Entry.tr (N := 26) (rs := [.tmp 2]) ⟨_, Try.func30, rfl, by kernel_rfl, rfl, rfl⟩ rfl ?_
  refine XC.seq fun K1 hK1 => ?_
  refine XC.region ?_
  refine x_v (r_as rfl) rfl ?_
  refine XL.nil ?_
  refine hK1 _ _ ?_
  refine XC.keep [(0, _)] ⟨rfl, trivial⟩ ?_
  refine XC.seq fun K2 hK2 => ?_
  refine XC.region ?_
  refine x_a (r_bs (vs := []) rfl rfl bs56_0_) rfl fun b5 => ?_
  refine XL.shut_ (n := 0) (c := 0) (sz := 12) (xs := []) (by repeat (first | exact Pick.head _ _ | apply Pick.tail)) (Nat.le_refl _) (Nat.zero_le _) rfl rfl ?_
  refine x_v (r_mv rfl) rfl ?_
  refine x_a (r_app Try.underlying56 ty83 rfl (by decide) rfl rfl (by repeat (first | exact Pick.head _ _ | apply Pick.tail)) (hL.rd.suf (.cons _ (.refl _))) (cells_one' ac_one L) (by unfold maxLen; omega) (by omega)) rfl fun ⟨A7, c7⟩ => ?_
  dsimp only
  rw [Nat.zero_add, List.nil_append]
  refine x_v (r_as rfl) rfl ?_
  refine XL.nil ?_
  refine hK2 _ _ ?_
  refine XC.keep [(3, _)] ⟨rfl, trivial⟩ ?_
  refine XC.seq fun K3 hK3 => ?_
  refine XC.seq fun K4 hK4 => ?_
  refine XC.region ?_
  refine x_v (r_mv rfl) rfl ?_
  refine x_v (r_lensl Try.underlying56 rfl) rfl ?_
  refine x_v (r_mv rfl) rfl ?_
  refine XL.nil ?_
  refine hK4 _ _ ?_
  refine XC.keep [(3, _), (9, _), (10, _)] ⟨rfl, rfl, rfl, trivial⟩ ?_
  refine XC.block ?_
  refine XC.loop (σ := Nat × List Ac × List HP) (fun s => [(3, .slice A7 L.length c7), (9, .int .i64 L.length), (10, .int .i64 (s.1 : Int))]) (fun s => sl A7 L.length c7 83 12 (cells ac s.2.1) :: s.2.2) (fun s => s.1 ≤ L.length ∧ s.2.1.length = L.length ∧ s.2.1.map Ac.v = L.map Ac.v ∧ (∀ w, Own W0 w s.2.2 → Own W0 w Fr) ∧ (∀ a ∈ s.2.1, Rdb W0 s.2.2 a.A a.n 1 (iv a.ks)) ∧ ∀ a ∈ s.2.1, a.n ≤ 32768) (fun s => L.length - s.1) (0, L, Fr) ?_ ⟨rfl, rfl, rfl, trivial⟩ (by repeat (first | exact Gets.done _ | exact Gets.all _ | (apply Gets.step; focus ((repeat (first | exact Pick.head _ _ | apply Pick.tail)); done)) | apply Gets.drop)) ?_
  · exact ⟨Nat.zero_le _, rfl, rfl, fun _ h => h, hL.ks, hs⟩
  rintro ⟨i, Lo, F2⟩ ⟨hi, hlo, hmv, hF, hks, hkn⟩
  dsimp only at hi hlo hmv hF hks hkn ⊢
  refine XC.seq fun K5 hK5 => ?_
  refine XC.region ?_
  refine x_v (r_lt rfl rfl) rfl ?_
  refine XL.nil ?_
  refine hK5 _ _ ?_
  refine XC.keep [(3, _), (9, _), (10, _), (11, _)] ⟨rfl, rfl, rfl, rfl, trivial⟩ ?_
  refine XC.seq fun K6 hK6 => ?_
  refine XC.cond_d rfl (fun hc1 => ?_) (fun hc1 => ?_)
  · refine XC.skip ?_
    refine hK6 _ _ ?_
    refine XC.keep [(3, _), (9, _), (10, _)] ⟨rfl, rfl, rfl, trivial⟩ ?_
    refine XC.seq fun K7 hK7 => ?_
    refine XC.block ?_
    refine XC.seq fun K8 hK8 => ?_
    refine XC.region ?_
    refine x_v (r_mv rfl) rfl ?_
    refine x_v (r_as rfl) rfl ?_
    refine XL.nil ?_
    refine hK8 _ _ ?_
    refine XC.keep [(3, _), (4, _), (9, _), (10, _)] ⟨rfl, rfl, rfl, rfl, trivial⟩ ?_
    obtain ⟨a, ho⟩ : ∃ a, Lo[i]? = some a := ⟨_, List.getElem?_eq_getElem (by omega)⟩
    have hka := hks a (List.mem_of_getElem? ho)
    have hna := hkn a (List.mem_of_getElem? ho)
    rw [← hlo]
    refine XC.openp (A := A7) (by repeat (first | exact Pick.head _ _ | apply Pick.tail)) (by omega) fun g cur hA h1 h2 h3 h4 => ?_
    subst hA
    refine XC.region ?_
    refine x_v (r_mv rfl) rfl ?_
    refine x_v (r_mv rfl) rfl ?_
    refine x_a (r_bs (vs := []) rfl rfl bs40_0_) rfl fun b15 => ?_
    refine XL.shut_ (n := 0) (c := 0) (sz := 1) (xs := []) (by repeat (first | exact Pick.head _ _ | apply Pick.tail)) (Nat.le_refl _) (Nat.zero_le _) rfl rfl ?_
    refine x_v (r_mv rfl) rfl ?_
    refine x_v (r_mv rfl) rfl ?_
    refine x_v (r_ia (k := i) Try.underlying56 ty83 rfl rfl (by omega) (by omega)) rfl ?_
    refine x_v (r_fa fo83_4 rfl) rfl ?_
    refine x_v (r_ld ty40 rfl (by repeat (first | exact Pick.head _ _ | apply Pick.tail)) (elem_at ac_len h4 ho 4 _ rfl)) rfl ?_
    refine x_a (r_app Try.underlying40 ty3 rfl (by decide) rfl rfl (by repeat (first | exact Pick.head _ _ | apply Pick.tail)) (hka.mono (fun w h => Gets.own (by repeat (first | exact Gets.done _ | exact Gets.all _ | (apply Gets.step; focus ((repeat (first | exact Pick.head _ _ | apply Pick.tail)); done)) | apply Gets.drop)) h)) (iv_one _) (by unfold maxLen; omega) (by omega)) rfl fun ⟨A21, c21⟩ => ?_
    dsimp only
    rw [Nat.zero_add, List.nil_append]
    refine x_v (r_ia (k := i) Try.underlying56 ty83 rfl rfl (by omega) (by omega)) rfl ?_
    refine x_v (r_fa fo83_4 rfl) rfl ?_
    refine x_e (r_st (vs := [.slice A21 a.n c21]) ty40 rfl rfl rfl rfl rfl (by repeat (first | exact Upd.head _ _ _ | apply Upd.tail)) (Over.set (by omega) _)) ?_
    refine XL.nil ?_
    refine hK7 _ _ ?_
    refine XC.keep [(3, _), (9, _), (10, _)] ⟨rfl, rfl, rfl, trivial⟩ ?_
    simp only [Nat.zero_add]
    refine XC.slnn (A := A21) (by repeat (first | exact Pick.head _ _ | apply Pick.tail)) fun hl hA => ?_
    have hset : (cur.set (i * 12 + 4) (.slice A21 a.n c21)).take (Lo.length * 12) = cells ac (Lo.set i { a with A := A21, c := c21 }) := by rw [List.take_set, h4]; exact cells_set ac_len (by decide) Lo i a _ ho rfl
    refine XC.shut_ (n := Lo.length) (by repeat (first | exact Pick.head _ _ | apply Pick.tail)) h1 h2 (by rw [List.length_set]; exact h3) hset ?_
    rw [hlo]
    refine XC.region ?_
    refine x_v (r_add rfl rfl (by omega)) rfl ?_
    refine x_v (r_mv rfl) rfl ?_
    refine XL.nil ?_
    refine ⟨(i + 1, Lo.set i { a with A := A21, c := c21 }, sl A21 a.n c21 3 1 (iv a.ks) :: F2), ?_, ?_, ⟨rfl, rfl, rfl, trivial⟩, (by repeat (first | exact Gets.done _ | exact Gets.all _ | (apply Gets.step; focus ((repeat (first | exact Pick.head _ _ | apply Pick.tail)); done)) | apply Gets.drop))⟩
    · exact ⟨by dsimp only; omega, by dsimp only; rw [List.length_set]; exact hlo, by dsimp only; rw [← hmv]; exact own_map ho rfl, fun w h => hF w h.tail, fun q hq => by (rcases List.mem_or_eq_of_mem_set hq with h | h; exact (hks q h).mono fun w h => h.tail; subst h; exact Rdb.of_sl (.head _ _) hl hA), fun q hq => by (rcases List.mem_or_eq_of_mem_set hq with h | h; exact hkn q h; subst h; exact hna)⟩
    · dsimp only; omega
  · refine XC.exit rfl ?_
    refine hK3 _ _ ?_
    refine XC.keep [(3, _)] ⟨rfl, trivial⟩ ?_
    refine XC.seq fun K9 hK9 => ?_
    refine XC.slnn (A := A7) (by repeat (first | exact Pick.head _ _ | apply Pick.tail)) fun hl7 hA7 => ?_
    refine XC.region ?_
    refine x_v (r_mv rfl) rfl ?_
    refine x_v (r_as rfl) rfl ?_
    refine XL.nil ?_
    refine hK9 _ _ ?_
    refine XC.keep [(2, _)] ⟨rfl, trivial⟩ ?_
    refine XC.ret ?_
    rw [← hlo]
    exact fin1 rfl (⟨A7, c7, Lo, rfl, ⟨Rdb.of_sl (.head _ _) (by rw [hlo]; exact hl7) (by rw [hlo]; exact hA7), fun a ha => (hks a ha).mono fun w h => h.tail, by omega, fun a ha => by have := hkn a ha; omega⟩, hmv, fun w h => hF w h.tail⟩) (by repeat (first | exact Gets.done _ | exact Gets.all _ | (apply Gets.step; focus ((repeat (first | exact Pick.head _ _ | apply Pick.tail)); done)) | apply Gets.drop))
end Go.Proofs.Ytdppjmdjmbbclaa

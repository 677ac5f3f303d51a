/- Packed numbers and texts, written: functions 34, 37. -/
import Derived.Test.YtcmdmhmgffjknaaGreatDoorFacts
import Derived.Test.YtcmdmhmgffjknaaGreatDoorWal3
namespace Go.Proofs.YtcmdmhmgffjknaaGreatDoor
open Go.Sx
set_option linter.unusedVariables false

def numsB (ns : List Nat) : List UInt8 := ns.flatMap fun n => vb (2 * n)
def textB (ps : List (List UInt8)) : List UInt8 := ps.flatMap fun p => vb (2 * p.length) ++ p
theorem flat_snoc {α : Type} (f : α → List UInt8) (l : List α) (k : Nat) (x : α) (h : l[k]? = some x) : (l.take (k + 1)).flatMap f = (l.take k).flatMap f ++ f x := by
  rw [List.take_add_one, h]; simp
theorem flat_le {α : Type} (f : α → List UInt8) (l : List α) (k : Nat) : ((l.take k).flatMap f).length ≤ (l.flatMap f).length := by
  have : l.flatMap f = (l.take k).flatMap f ++ (l.drop k).flatMap f := by rw [← List.flatMap_append, List.take_append_drop]
  rw [this, List.length_append]; omega

theorem nums_tr0 {W0 : World} (A0 : Option Addr) (c0 : Nat) (ns : List Nat) (hr : Rdb W0 [] A0 ns.length 1 (iv (ns.map (fun n : Nat => (n : Int))))) (hb : ∀ n ∈ ns, n ≤ maxS) (hl : (numsB ns).length ≤ maxS) (hn : ns.length ≤ maxS) :
    Tr W0 Tryz.prog 34 [.slice A0 ns.length c0] [] (fun u Rs' => u = str (numsB ns) ∧ Rs' = []) := by
  have hmax : maxS = 140737488355328 := rfl
  refine Entry.tr (N := 16) (rs := [.tmp 2]) ⟨_, Tryz.func34, rfl, by kernel_rfl, rfl, rfl⟩ rfl ?_
  refine XC.seq fun K1 hK1 => ?_
  refine XC.region ?_
  refine x_v (r_as rfl) rfl ?_
  refine XL.nil ?_
  refine hK1 _ _ ?_
  refine XC.keep [(0, _)] ⟨rfl, trivial⟩ ?_
  refine XC.seq fun K2 hK2 => ?_
  refine XC.region ?_
  refine x_a (r_al ty111 rfl) rfl fun b3 => ?_
  refine XL.nil_ 5 1 ?_
  refine XL.mem (blk b3 111 [.pointer none, .slice none 0 0] :: sl none 0 0 5 1 [] :: []) gT ?_
  refine XL.nil ?_
  refine hK2 _ _ ?_
  refine XC.keep [(0, _), (3, _)] ⟨rfl, rfl, trivial⟩ ?_
  refine XC.seq fun K3 hK3 => ?_
  refine XC.seq fun K4 hK4 => ?_
  refine XC.region ?_
  refine x_v (r_mv rfl) rfl ?_
  refine x_v (r_lensl Tryz.underlying25 rfl) rfl ?_
  refine x_v (r_mv rfl) rfl ?_
  refine XL.nil ?_
  refine hK4 _ _ ?_
  refine XC.keep [(3, _), (6, _), (7, _), (8, _)] ⟨rfl, rfl, rfl, rfl, trivial⟩ ?_
  refine XC.block ?_
  refine XC.loop (σ := Nat × Option Addr × Option Addr × Nat) (fun s => [(3, .pointer (some ⟨b3, 0, none⟩)), (6, .slice A0 ns.length c0), (7, .int .i64 (ns.length : Int)), (8, .int .i64 (s.1 : Int))]) (fun s => blk b3 111 [.pointer s.2.1, .slice s.2.2.1 (numsB (ns.take s.1)).length s.2.2.2] :: sl s.2.2.1 (numsB (ns.take s.1)).length s.2.2.2 5 1 (bv (numsB (ns.take s.1))) :: []) (fun s => (s.2.1 = none ∨ s.2.1 = some ⟨b3, 0, none⟩) ∧ s.1 ≤ ns.length) (fun s => ns.length - s.1) (0, none, none, 0) ?_ ⟨rfl, rfl, rfl, rfl, trivial⟩ gS ?_
  · exact ⟨.inl rfl, Nat.zero_le _⟩
  rintro ⟨i, p, A, c⟩ ⟨hp, hi⟩
  dsimp only at hp hi ⊢
  refine XC.seq fun K5 hK5 => ?_
  refine XC.region ?_
  refine x_v (r_lt rfl rfl) rfl ?_
  refine XL.nil ?_
  refine hK5 _ _ ?_
  refine XC.keep [(3, _), (6, _), (7, _), (8, _), (9, _)] ⟨rfl, rfl, rfl, rfl, rfl, trivial⟩ ?_
  refine XC.seq fun K6 hK6 => ?_
  refine XC.cond_d rfl (fun hc1 => ?_) (fun hc1 => ?_)
  · refine XC.skip ?_
    refine hK6 _ _ ?_
    refine XC.keep [(3, _), (6, _), (7, _), (8, _)] ⟨rfl, rfl, rfl, rfl, trivial⟩ ?_
    refine XC.seq fun K7 hK7 => ?_
    refine XC.block ?_
    refine XC.seq fun K8 hK8 => ?_
    obtain ⟨x, hx⟩ : ∃ x, ns[i]? = some x := ⟨_, List.getElem?_eq_getElem (by omega)⟩
    have hxb := hb x (List.mem_of_getElem? hx)
    obtain ⟨ob, oo, rfl, hat⟩ := hr.at_ (by omega)
    have hsn : numsB (ns.take i) ++ vb (2 * x) = numsB (ns.take (i + 1)) := (flat_snoc _ ns i x hx).symm
    have hln := flat_le (fun n => vb (2 * n)) ns (i + 1)
    have hlx : (numsB (ns.take i)).length + (vb (2 * x)).length = (numsB (ns.take (i + 1))).length := by rw [← hsn, List.length_append]
    refine XC.region ?_
    refine x_v (r_ia (k := i) Tryz.underlying25 ty3 rfl rfl (by omega) (by omega)) rfl ?_
    refine x_v (r_ldr (v := .int .i64 (x : Int)) ty3 rfl (fun w hw => hat w (Gets.own gS hw) (i * 1) _ (by rw [Nat.mul_one]; exact iv_get (by simp [hx])))) rfl ?_
    refine x_v (r_as rfl) rfl ?_
    refine XL.nil ?_
    refine hK8 _ _ ?_
    refine XC.keep [(3, _), (5, _), (6, _), (7, _), (8, _)] ⟨rfl, rfl, rfl, rfl, rfl, trivial⟩ ?_
    refine XC.region ?_
    refine x_v (r_mv rfl) rfl ?_
    refine x_c (r_call0 (args := [_, _]) ⟨rfl, rfl, rfl⟩ (put_tr b3 p A c _ (numsB (ns.take i)) x [] hp rfl hxb (by unfold numsB at *; omega)) gS) rfl ?_
    rintro _ _ ⟨rfl, A13, c13, hRs⟩
    refine XL.nil ?_
    refine hK7 _ _ ?_
    refine XC.keep [(3, _), (6, _), (7, _), (8, _)] ⟨rfl, rfl, rfl, rfl, trivial⟩ ?_
    refine XC.region ?_
    refine x_v (r_add rfl rfl (by omega)) rfl ?_
    refine x_v (r_mv rfl) rfl ?_
    refine XL.nil ?_
    rw [hRs, hsn]
    refine ⟨(i + 1, some ⟨b3, 0, none⟩, A13, c13), ?_, ?_, ⟨rfl, rfl, rfl, rfl, trivial⟩, gS⟩
    · exact ⟨.inr rfl, by dsimp only; omega⟩
    · dsimp only; omega
  · refine XC.exit rfl ?_
    refine hK3 _ _ ?_
    refine XC.keep [(3, _)] ⟨rfl, trivial⟩ ?_
    refine XC.seq fun K9 hK9 => ?_
    obtain rfl : i = ns.length := by omega
    rw [List.take_of_length_le (Nat.le_refl _)]
    refine XC.region ?_
    refine x_c (r_call0 (args := [_]) ⟨rfl, rfl⟩ (string_tr b3 p A c _ (numsB ns) hp rfl) gS) rfl ?_
    rintro _ _ ⟨rfl, hRs⟩
    rw [hRs]
    refine x_v (r_as rfl) rfl ?_
    refine XL.nil ?_
    refine hK9 _ _ ?_
    refine XC.keep [(2, _)] ⟨rfl, trivial⟩ ?_
    refine XC.ret ?_
    exact fin1 rfl (⟨rfl, rfl⟩) gS
theorem nums_th : ∃ fn c, Tryz.prog.funcs[34]? = some fn ∧ (fn.name == "runtime.NumGoroutine") = false ∧ fn.body = some c := ⟨_, _, Tryz.func34, by kernel_rfl, rfl⟩
theorem nums_tr {W0 : World} {Fr : List HP} (A0 : Option Addr) (c0 : Nat) (ns : List Nat) (hr : Rdb W0 Fr A0 ns.length 1 (iv (ns.map (fun n : Nat => (n : Int))))) (hb : ∀ n ∈ ns, n ≤ maxS) (hl : (numsB ns).length ≤ maxS) (hn : ns.length ≤ maxS) :
    Tr W0 Tryz.prog 34 [.slice A0 ns.length c0] Fr (fun u Rs' => u = str (numsB ns) ∧ Rs' = Fr) :=
  (Tr.frame nums_th fun w hw => nums_tr0 A0 c0 ns (hr.later Nat.one_pos hw []) hb hl hn).mono fun v Rs' ⟨R1, ⟨h1, h2⟩, h3⟩ => ⟨h1, by rw [h3, h2]; rfl⟩
theorem text_tr0 {W0 : World} (A0 : Option Addr) (c0 : Nat) (ps : List (List UInt8)) (hr : Rdb W0 [] A0 ps.length 1 (cells sv ps)) (hl : (textB ps).length ≤ maxS) (hn : ps.length ≤ maxS) :
    Tr W0 Tryz.prog 37 [.slice A0 ps.length c0] [] (fun u Rs' => u = str (textB ps) ∧ Rs' = []) := by
  have hmax : maxS = 140737488355328 := rfl
  refine Entry.tr (N := 19) (rs := [.tmp 2]) ⟨_, Tryz.func37, rfl, by kernel_rfl, rfl, rfl⟩ rfl ?_
  refine XC.seq fun K1 hK1 => ?_
  refine XC.region ?_
  refine x_v (r_as rfl) rfl ?_
  refine XL.nil ?_
  refine hK1 _ _ ?_
  refine XC.keep [(0, _)] ⟨rfl, trivial⟩ ?_
  refine XC.seq fun K2 hK2 => ?_
  refine XC.region ?_
  refine x_a (r_al ty111 rfl) rfl fun b3 => ?_
  refine XL.nil_ 5 1 ?_
  refine XL.mem (blk b3 111 [.pointer none, .slice none 0 0] :: sl none 0 0 5 1 [] :: []) gT ?_
  refine XL.nil ?_
  refine hK2 _ _ ?_
  refine XC.keep [(0, _), (3, _)] ⟨rfl, rfl, trivial⟩ ?_
  refine XC.seq fun K3 hK3 => ?_
  refine XC.seq fun K4 hK4 => ?_
  refine XC.region ?_
  refine x_v (r_mv rfl) rfl ?_
  refine x_v (r_lensl Tryz.underlying22 rfl) rfl ?_
  refine x_v (r_mv rfl) rfl ?_
  refine XL.nil ?_
  refine hK4 _ _ ?_
  refine XC.keep [(3, _), (6, _), (7, _), (8, _)] ⟨rfl, rfl, rfl, rfl, trivial⟩ ?_
  refine XC.block ?_
  refine XC.loop (σ := Nat × Option Addr × Option Addr × Nat) (fun s => [(3, .pointer (some ⟨b3, 0, none⟩)), (6, .slice A0 ps.length c0), (7, .int .i64 (ps.length : Int)), (8, .int .i64 (s.1 : Int))]) (fun s => blk b3 111 [.pointer s.2.1, .slice s.2.2.1 (textB (ps.take s.1)).length s.2.2.2] :: sl s.2.2.1 (textB (ps.take s.1)).length s.2.2.2 5 1 (bv (textB (ps.take s.1))) :: []) (fun s => (s.2.1 = none ∨ s.2.1 = some ⟨b3, 0, none⟩) ∧ s.1 ≤ ps.length) (fun s => ps.length - s.1) (0, none, none, 0) ?_ ⟨rfl, rfl, rfl, rfl, trivial⟩ gS ?_
  · exact ⟨.inl rfl, Nat.zero_le _⟩
  rintro ⟨i, p, A, c⟩ ⟨hp, hi⟩
  dsimp only at hp hi ⊢
  refine XC.seq fun K5 hK5 => ?_
  refine XC.region ?_
  refine x_v (r_lt rfl rfl) rfl ?_
  refine XL.nil ?_
  refine hK5 _ _ ?_
  refine XC.keep [(3, _), (6, _), (7, _), (8, _), (9, _)] ⟨rfl, rfl, rfl, rfl, rfl, trivial⟩ ?_
  refine XC.seq fun K6 hK6 => ?_
  refine XC.cond_d rfl (fun hc1 => ?_) (fun hc1 => ?_)
  · refine XC.skip ?_
    refine hK6 _ _ ?_
    refine XC.keep [(3, _), (6, _), (7, _), (8, _)] ⟨rfl, rfl, rfl, rfl, trivial⟩ ?_
    refine XC.seq fun K7 hK7 => ?_
    refine XC.block ?_
    refine XC.seq fun K8 hK8 => ?_
    obtain ⟨x, hx⟩ : ∃ x, ps[i]? = some x := ⟨_, List.getElem?_eq_getElem (by omega)⟩
    obtain ⟨ob, oo, rfl, hat⟩ := hr.at_ (by omega)
    have hsn : textB (ps.take i) ++ (vb (2 * x.length) ++ x) = textB (ps.take (i + 1)) := (flat_snoc _ ps i x hx).symm
    have hln := flat_le (fun p : List UInt8 => vb (2 * p.length) ++ p) ps (i + 1)
    have hlx : (textB (ps.take i)).length + ((vb (2 * x.length)).length + x.length) = (textB (ps.take (i + 1))).length := by rw [← hsn, List.length_append, List.length_append]
    have hlx2 : (textB (ps.take i) ++ vb (2 * x.length)).length + x.length = (textB (ps.take (i + 1))).length := by rw [← hlx, List.length_append]; omega
    refine XC.region ?_
    refine x_v (r_ia (k := i) Tryz.underlying22 ty9 rfl rfl (by omega) (by omega)) rfl ?_
    refine x_v (r_ldr (v := str x) ty9 rfl (fun w hw => hat w (Gets.own gS hw) (i * 1) _ (by rw [Nat.mul_one]; exact sv_get hx))) rfl ?_
    refine x_v (r_as rfl) rfl ?_
    refine XL.nil ?_
    refine hK8 _ _ ?_
    refine XC.keep [(3, _), (5, _), (6, _), (7, _), (8, _)] ⟨rfl, rfl, rfl, rfl, rfl, trivial⟩ ?_
    refine XC.seq fun K9 hK9 => ?_
    refine XC.region ?_
    refine x_v (r_mv rfl) rfl ?_
    refine x_v (r_lens Tryz.underlying9 rfl) rfl ?_
    refine x_c (r_call0 (args := [_, _]) ⟨rfl, rfl, rfl⟩ (put_tr b3 p A c _ (textB (ps.take i)) x.length [] hp rfl (by unfold textB at *; omega) (by unfold textB at *; omega)) gS) rfl ?_
    rintro _ _ ⟨rfl, A14, c14, hRs⟩
    rw [hRs]
    refine XL.nil ?_
    refine hK9 _ _ ?_
    refine XC.keep [(3, _), (5, _), (6, _), (7, _), (8, _)] ⟨rfl, rfl, rfl, rfl, rfl, trivial⟩ ?_
    refine XC.region ?_
    refine x_v (r_mv rfl) rfl ?_
    refine x_c (r_call0 (args := [_, _]) ⟨rfl, rfl, rfl⟩ (wstr_tr b3 (some ⟨b3, 0, none⟩) A14 c14 (textB (ps.take i) ++ vb (2 * x.length)).length (bv (textB (ps.take i) ++ vb (2 * x.length))) x [] (.inr rfl) (by unfold textB at *; omega)) gS) rfl ?_
    rintro _ _ ⟨rfl, A16, c16, hRs⟩
    refine XL.nil ?_
    refine hK7 _ _ ?_
    refine XC.keep [(3, _), (6, _), (7, _), (8, _)] ⟨rfl, rfl, rfl, rfl, trivial⟩ ?_
    refine XC.region ?_
    refine x_v (r_add rfl rfl (by omega)) rfl ?_
    refine x_v (r_mv rfl) rfl ?_
    refine XL.nil ?_
    rw [← bv_app, List.append_assoc, hsn, hlx2] at hRs
    rw [hRs]
    refine ⟨(i + 1, some ⟨b3, 0, none⟩, A16, c16), ?_, ?_, ⟨rfl, rfl, rfl, rfl, trivial⟩, gS⟩
    · exact ⟨.inr rfl, by dsimp only; omega⟩
    · dsimp only; omega
  · refine XC.exit rfl ?_
    refine hK3 _ _ ?_
    refine XC.keep [(3, _)] ⟨rfl, trivial⟩ ?_
    refine XC.seq fun K10 hK10 => ?_
    obtain rfl : i = ps.length := by omega
    rw [List.take_of_length_le (Nat.le_refl _)]
    refine XC.region ?_
    refine x_c (r_call0 (args := [_]) ⟨rfl, rfl⟩ (string_tr b3 p A c _ (textB ps) hp rfl) gS) rfl ?_
    rintro _ _ ⟨rfl, hRs⟩
    rw [hRs]
    refine x_v (r_as rfl) rfl ?_
    refine XL.nil ?_
    refine hK10 _ _ ?_
    refine XC.keep [(2, _)] ⟨rfl, trivial⟩ ?_
    refine XC.ret ?_
    exact fin1 rfl (⟨rfl, rfl⟩) gS
theorem text_th : ∃ fn c, Tryz.prog.funcs[37]? = some fn ∧ (fn.name == "runtime.NumGoroutine") = false ∧ fn.body = some c := ⟨_, _, Tryz.func37, by kernel_rfl, rfl⟩
theorem text_tr {W0 : World} {Fr : List HP} (A0 : Option Addr) (c0 : Nat) (ps : List (List UInt8)) (hr : Rdb W0 Fr A0 ps.length 1 (cells sv ps)) (hl : (textB ps).length ≤ maxS) (hn : ps.length ≤ maxS) :
    Tr W0 Tryz.prog 37 [.slice A0 ps.length c0] Fr (fun u Rs' => u = str (textB ps) ∧ Rs' = Fr) :=
  (Tr.frame text_th fun w hw => text_tr0 A0 c0 ps (hr.later Nat.one_pos hw []) hl hn).mono fun v Rs' ⟨R1, ⟨h1, h2⟩, h3⟩ => ⟨h1, by rw [h3, h2]; rfl⟩
end Go.Proofs.YtcmdmhmgffjknaaGreatDoor

/- The builder of strings: functions 103, 105, 64, 66, 67. -/
import Derived.Test.YtcmdmhmgffjknaaGreatDoorFacts
import Derived.Test.YtcmdmhmgffjknaaGreatDoorYOps11
import Derived.Test.YtcmdmhmgffjknaaGreatDoorWal1
import Derived.Test.YtcmdmhmgffjknaaGreatDoorShelf
namespace Go.Proofs.YtcmdmhmgffjknaaGreatDoor
open Go.Sx
set_option linter.unusedVariables false

/-- What copyCheck leaves: the builder knows itself. -/
theorem check_tr {W0 : World} (b : Nat) (p : Option Addr) (v : Value) (Fr : List HP) (hp : p = none ∨ p = some ⟨b, 0, none⟩) :
    Tr W0 Tryz.prog 103 [.pointer (some ⟨b, 0, none⟩)] (blk b 111 [.pointer p, v] :: Fr) (fun u Rs' => u = .tuple #[] ∧ Rs' = blk b 111 [.pointer (some ⟨b, 0, none⟩), v] :: Fr) := by
  obtain ⟨j, i1, i2, _, _⟩ := ty111.get
  rcases hp with rfl | rfl
  ·
    refine Entry.tr (N := 20) (rs := []) ⟨_, Tryz.func103, rfl, by kernel_rfl, rfl, rfl⟩ rfl ?_
    refine XC.seq fun K1 hK1 => ?_
    refine XC.region ?_
    refine x_v (r_mv rfl) rfl ?_
    refine x_v (r_nc rfl) rfl ?_
    refine x_v (r_fa fo111_0 rfl) rfl ?_
    refine x_v (r_ld ty109 rfl pK (by rfl)) rfl ?_
    refine x_v (r_peq_nil Tryz.underlying109 rfl rfl) rfl ?_
    refine XL.nil ?_
    refine hK1 _ _ ?_
    refine XC.keep [(0, _), (6, _)] ⟨rfl, rfl, trivial⟩ ?_
    refine XC.cond_t rfl ?_
    refine XC.region ?_
    refine x_v (r_mv rfl) rfl ?_
    refine x_v (r_mv rfl) rfl ?_
    refine x_v (r_cvw (v := .pointer (some ⟨b, 0, none⟩)) rfl (fun w hw => Lib.run_to_unsafe w ⟨b, 0, none⟩ Tryz.underlying109 Tryz.underlying158 i1 (by rw [i2]; decide) (shape_blk (cs := [.pointer none, v]) hw pK) (Nat.zero_lt_succ 1))) rfl ?_
    refine x_v (r_ext (v := .pointer (some ⟨b, 0, none⟩)) (args := [.pointer (some ⟨b, 0, none⟩)]) Extern.AbiNoEscape.same Tryz.func121 (by kernel_rfl) (by kernel_rfl) (by kernel_rfl) (by kernel_rfl) ⟨rfl, rfl⟩ (fun w => Lib.run_noEscape w _)) rfl ?_
    refine x_v (r_cvw (v := .pointer (some ⟨b, 0, none⟩)) rfl (fun w hw => Lib.run_from_unsafe w ⟨b, 0, none⟩ Tryz.underlying158 Tryz.underlying109 i1 (shape_blk (cs := [.pointer none, v]) hw pK) (by kernel_rfl))) rfl ?_
    refine x_v (r_nc rfl) rfl ?_
    refine x_v (r_fa fo111_0 rfl) rfl ?_
    refine x_e (r_st ty109 rfl rfl rfl rfl rfl uD oV) ?_
    refine XL.nil ?_
    exact fin0 (⟨rfl, rfl⟩) gS
  ·
    refine Entry.tr (N := 20) (rs := []) ⟨_, Tryz.func103, rfl, by kernel_rfl, rfl, rfl⟩ rfl ?_
    refine XC.seq fun K1 hK1 => ?_
    refine XC.region ?_
    refine x_v (r_mv rfl) rfl ?_
    refine x_v (r_nc rfl) rfl ?_
    refine x_v (r_fa fo111_0 rfl) rfl ?_
    refine x_v (r_ld ty109 rfl pK (by rfl)) rfl ?_
    refine x_v (r_peq_some Tryz.underlying109 rfl rfl) rfl ?_
    refine XL.nil ?_
    refine hK1 _ _ ?_
    refine XC.keep [(0, _), (6, _)] ⟨rfl, rfl, trivial⟩ ?_
    refine XC.cond_f rfl ?_
    refine XC.seq fun K2 hK2 => ?_
    refine XC.region ?_
    refine x_v (r_mv rfl) rfl ?_
    refine x_v (r_nc rfl) rfl ?_
    refine x_v (r_fa fo111_0 rfl) rfl ?_
    refine x_v (r_ld ty109 rfl pK (by rfl)) rfl ?_
    refine x_v (r_mv rfl) rfl ?_
    refine x_v (r_pne_same Tryz.underlying109 ty111 rfl rfl) rfl ?_
    refine XL.nil ?_
    refine hK2 _ _ ?_
    refine XC.keep [(19, _)] ⟨rfl, trivial⟩ ?_
    refine XC.cond_f rfl ?_
    refine XC.skip ?_
    exact fin0 (⟨rfl, rfl⟩) gS
/-- WriteByte -/
theorem wbyte_tr {W0 : World} (b : Nat) (p A : Option Addr) (c n : Nat) (xs : List Value) (x : Int) (Fr : List HP) (hp : p = none ∨ p = some ⟨b, 0, none⟩) (hn : n + 1 ≤ maxS) :
    Tr W0 Tryz.prog 105 [.pointer (some ⟨b, 0, none⟩), .int .u8 x] (blk b 111 [.pointer p, .slice A n c] :: sl A n c 5 1 xs :: Fr) (fun u Rs' => u = .nilIface ∧ ∃ A' c', Rs' = blk b 111 [.pointer (some ⟨b, 0, none⟩), .slice A' (n + 1) c'] :: sl A' (n + 1) c' 5 1 (xs ++ [.int .u8 x]) :: Fr) := by
  have hmax : maxS = 140737488355328 := rfl
  refine Entry.tr (N := 17) (rs := [.tmp 4]) ⟨_, Tryz.func105, rfl, by kernel_rfl, rfl, rfl⟩ rfl ?_
  refine XC.seq fun K1 hK1 => ?_
  refine XC.region ?_
  refine x_v (r_as rfl) rfl ?_
  refine XL.nil ?_
  refine hK1 _ _ ?_
  refine XC.keep [(0, _), (1, _)] ⟨rfl, rfl, trivial⟩ ?_
  refine XC.seq fun K2 hK2 => ?_
  refine XC.region ?_
  refine x_v (r_mv rfl) rfl ?_
  refine x_c (r_call0 (args := [_]) ⟨rfl, rfl⟩ (check_tr b p _ _ hp) gS) rfl ?_
  rintro _ _ ⟨rfl, hRs⟩
  rw [hRs]
  refine XL.nil ?_
  refine hK2 _ _ ?_
  refine XC.keep [(0, _), (1, _)] ⟨rfl, rfl, trivial⟩ ?_
  refine XC.seq fun K3 hK3 => ?_
  refine XC.region ?_
  refine x_v (r_mv rfl) rfl ?_
  refine x_v (r_mv rfl) rfl ?_
  refine x_v (r_nc rfl) rfl ?_
  refine x_v (r_fa fo111_1 rfl) rfl ?_
  refine x_v (r_ld ty80 rfl pK (by rfl)) rfl ?_
  refine x_v (r_mv rfl) rfl ?_
  refine x_a (r_bs (vs := [_]) rfl ⟨rfl, rfl⟩ (bs80_1_0 _)) rfl fun b13 => ?_
  refine x_a (r_app Tryz.underlying80 ty5 rfl (by decide) rfl rfl pK (Rdb.of_blk (xs := [.int .u8 x]) pK 0 (by rfl) (fun j u hu => by simpa using hu)) rfl (by unfold maxLen; omega) (by omega)) rfl fun ⟨A14, c14⟩ => ?_
  refine x_v (r_nc rfl) rfl ?_
  refine x_v (r_fa fo111_1 rfl) rfl ?_
  refine x_e (r_st ty80 rfl rfl rfl rfl rfl uD oV) ?_
  refine XL.nil ?_
  refine hK3 _ _ ?_
  refine XC.keep [] trivial ?_
  refine XC.seq fun K4 hK4 => ?_
  refine XC.region ?_
  refine x_v (r_as rfl) rfl ?_
  refine XL.nil ?_
  refine hK4 _ _ ?_
  refine XC.keep [(4, _)] ⟨rfl, trivial⟩ ?_
  refine XC.ret ?_
  exact fin1 rfl (⟨rfl, _, _, rfl⟩) gS
/-- WriteString -/
theorem wstr_tr {W0 : World} (b : Nat) (p A : Option Addr) (c n : Nat) (xs : List Value) (s : List UInt8) (Fr : List HP) (hp : p = none ∨ p = some ⟨b, 0, none⟩) (hn : n + s.length ≤ maxS) :
    Tr W0 Tryz.prog 64 [.pointer (some ⟨b, 0, none⟩), str s] (blk b 111 [.pointer p, .slice A n c] :: sl A n c 5 1 xs :: Fr) (fun u Rs' => u = .tuple #[.int .i64 (s.length : Int), .nilIface] ∧ ∃ A' c', Rs' = blk b 111 [.pointer (some ⟨b, 0, none⟩), .slice A' (n + s.length) c'] :: sl A' (n + s.length) c' 5 1 (xs ++ bv s) :: Fr) := by
  have hmax : maxS = 140737488355328 := rfl
  refine Entry.tr (N := 19) (rs := [.tmp 4, .tmp 5]) ⟨_, Tryz.func64, rfl, by kernel_rfl, rfl, rfl⟩ rfl ?_
  refine XC.seq fun K1 hK1 => ?_
  refine XC.region ?_
  refine x_v (r_as rfl) rfl ?_
  refine x_v (r_as rfl) rfl ?_
  refine XL.nil ?_
  refine hK1 _ _ ?_
  refine XC.keep [(0, _), (1, _)] ⟨rfl, rfl, trivial⟩ ?_
  refine XC.seq fun K2 hK2 => ?_
  refine XC.region ?_
  refine x_v (r_mv rfl) rfl ?_
  refine x_c (r_call0 (args := [_]) ⟨rfl, rfl⟩ (check_tr b p _ _ hp) gS) rfl ?_
  rintro _ _ ⟨rfl, hRs⟩
  rw [hRs]
  refine XL.nil ?_
  refine hK2 _ _ ?_
  refine XC.keep [(0, _), (1, _)] ⟨rfl, rfl, trivial⟩ ?_
  refine XC.seq fun K3 hK3 => ?_
  refine XC.region ?_
  refine x_v (r_mv rfl) rfl ?_
  refine x_v (r_mv rfl) rfl ?_
  refine x_v (r_nc rfl) rfl ?_
  refine x_v (r_fa fo111_1 rfl) rfl ?_
  refine x_v (r_ld ty80 rfl pK (by rfl)) rfl ?_
  refine x_v (r_mv rfl) rfl ?_
  refine x_a (r_apps Tryz.underlying80 Tryz.underlying9 ty5 rfl rfl pK (by omega)) rfl fun ⟨A14, c14⟩ => ?_
  refine x_v (r_nc rfl) rfl ?_
  refine x_v (r_fa fo111_1 rfl) rfl ?_
  refine x_e (r_st ty80 rfl rfl rfl rfl rfl uD oV) ?_
  refine XL.nil ?_
  refine hK3 _ _ ?_
  refine XC.keep [(1, _)] ⟨rfl, trivial⟩ ?_
  refine XC.seq fun K4 hK4 => ?_
  refine XC.region ?_
  refine x_v (r_mv rfl) rfl ?_
  refine x_v (r_lens Tryz.underlying9 rfl) rfl ?_
  refine x_v (r_as rfl) rfl ?_
  refine x_v (r_as rfl) rfl ?_
  refine XL.nil ?_
  refine hK4 _ _ ?_
  refine XC.keep [(4, _), (5, _)] ⟨rfl, rfl, trivial⟩ ?_
  refine XC.ret ?_
  exact fin2 rfl rfl (⟨rfl, _, _, rfl⟩) gS
/-- Write -/
theorem write_tr {W0 : World} (b : Nat) (p A A2 : Option Addr) (c n m c2 : Nat) (xs ys : List Value) (Fr : List HP) (hp : p = none ∨ p = some ⟨b, 0, none⟩) (hn : n + m ≤ maxS) (hy : ys.all (·.oneCell') = true) (hr : Rdb W0 (blk b 111 [.pointer (some ⟨b, 0, none⟩), .slice A n c] :: sl A n c 5 1 xs :: Fr) A2 m 1 ys) :
    Tr W0 Tryz.prog 66 [.pointer (some ⟨b, 0, none⟩), .slice A2 m c2] (blk b 111 [.pointer p, .slice A n c] :: sl A n c 5 1 xs :: Fr) (fun u Rs' => u = .tuple #[.int .i64 (m : Int), .nilIface] ∧ ∃ A' c', Rs' = blk b 111 [.pointer (some ⟨b, 0, none⟩), .slice A' (n + m) c'] :: sl A' (n + m) c' 5 1 (xs ++ ys) :: Fr) := by
  have hmax : maxS = 140737488355328 := rfl
  refine Entry.tr (N := 19) (rs := [.tmp 4, .tmp 5]) ⟨_, Tryz.func66, rfl, by kernel_rfl, rfl, rfl⟩ rfl ?_
  refine XC.seq fun K1 hK1 => ?_
  refine XC.region ?_
  refine x_v (r_as rfl) rfl ?_
  refine x_v (r_as rfl) rfl ?_
  refine XL.nil ?_
  refine hK1 _ _ ?_
  refine XC.keep [(0, _), (1, _)] ⟨rfl, rfl, trivial⟩ ?_
  refine XC.seq fun K2 hK2 => ?_
  refine XC.region ?_
  refine x_v (r_mv rfl) rfl ?_
  refine x_c (r_call0 (args := [_]) ⟨rfl, rfl⟩ (check_tr b p _ _ hp) gS) rfl ?_
  rintro _ _ ⟨rfl, hRs⟩
  rw [hRs]
  refine XL.nil ?_
  refine hK2 _ _ ?_
  refine XC.keep [(0, _), (1, _)] ⟨rfl, rfl, trivial⟩ ?_
  refine XC.seq fun K3 hK3 => ?_
  refine XC.region ?_
  refine x_v (r_mv rfl) rfl ?_
  refine x_v (r_mv rfl) rfl ?_
  refine x_v (r_nc rfl) rfl ?_
  refine x_v (r_fa fo111_1 rfl) rfl ?_
  refine x_v (r_ld ty80 rfl pK (by rfl)) rfl ?_
  refine x_v (r_mv rfl) rfl ?_
  refine x_a (r_app Tryz.underlying80 ty5 rfl (by decide) rfl rfl pK hr hy (by unfold maxLen; omega) (by omega)) rfl fun ⟨A14, c14⟩ => ?_
  refine x_v (r_nc rfl) rfl ?_
  refine x_v (r_fa fo111_1 rfl) rfl ?_
  refine x_e (r_st ty80 rfl rfl rfl rfl rfl uD oV) ?_
  refine XL.nil ?_
  refine hK3 _ _ ?_
  refine XC.keep [(1, _)] ⟨rfl, trivial⟩ ?_
  refine XC.seq fun K4 hK4 => ?_
  refine XC.region ?_
  refine x_v (r_mv rfl) rfl ?_
  refine x_v (r_lensl Tryz.underlying80 rfl) rfl ?_
  refine x_v (r_as rfl) rfl ?_
  refine x_v (r_as rfl) rfl ?_
  refine XL.nil ?_
  refine hK4 _ _ ?_
  refine XC.keep [(4, _), (5, _)] ⟨rfl, rfl, trivial⟩ ?_
  refine XC.ret ?_
  exact fin2 rfl rfl (⟨rfl, _, _, rfl⟩) gS
theorem string_th : ∃ fn c, Tryz.prog.funcs[67]? = some fn ∧ (fn.name == "runtime.NumGoroutine") = false ∧ fn.body = some c := ⟨_, _, Tryz.func67, by kernel_rfl, rfl⟩
/-- String: what was written; of what the builder had nothing is kept. -/
theorem string_tr {W0 : World} (b : Nat) (p A : Option Addr) (c n : Nat) (l : List UInt8) (hp : p = none ∨ p = some ⟨b, 0, none⟩) (hn : n = l.length) :
    Tr W0 Tryz.prog 67 [.pointer (some ⟨b, 0, none⟩)] (blk b 111 [.pointer p, .slice A n c] :: sl A n c 5 1 (bv l) :: []) (fun u Rs' => u = str l ∧ Rs' = []) := by
  subst hn
  refine ⟨string_th, fun w hw => ?_⟩
  have hb := hw.cells
  have hs := hw.size
  have h1 := hw.tail
  have hown := h1.sl_owns
  have hb0 : W0.heap.size ≤ b := by
    have h := hw; simp only [blk] at h; exact h.head.1
  have hne : (Value.slice A l.length c).ownBlock ≠ some b := by
    rcases h1.sl_open with ⟨rfl, _⟩ | ⟨g, cur, rfl, _, _, _, _, _⟩
    · simp [Value.ownBlock]
    · simp only [Value.ownBlock, ne_eq, Option.some.injEq]
      have h2 := (hw.perm (.swap _ _ _))
      rcases h2.sl_open with ⟨h, _⟩ | ⟨g', cur', h, _, _, _, _, h3⟩
      · cases h
      · injection h with h; injection h with h; subst h
        simp only [blk] at h3
        exact h3.ne
  have hlen : (Lib.byteCells l).length = l.length := by simp [Lib.byteCells]
  have hB : Lib.BuilderAt 111 5 W0.heap.size b (.pointer p) (Lib.byteCells l) w := ⟨hb0, _, hb, by rw [hlen]; exact hown, hne⟩
  have hI : Lib.IsBuilder 111 5 W0.heap.size b (Lib.byteCells l) w := by
    rcases hp with rfl | rfl
    · exact .inl hB
    · exact .inr hB
  refine (Tryz.Builder_String_any W0.heap.size b l w hI hs).mono ?_
  rintro e w' ⟨rfl, hbel⟩
  exact ⟨_, [], ⟨rfl, rfl⟩, rfl, hbel.os.trans hw.os, hbel.tape.trans hw.tape, hbel.output.trans hw.output, Nat.le_trans hs hbel.size, fun k hk => (hbel.block k hk).trans (hw.old k hk), fun _ => none, fun _ => rfl, fun _ _ h => by cases h⟩
end Go.Proofs.YtcmdmhmgffjknaaGreatDoor

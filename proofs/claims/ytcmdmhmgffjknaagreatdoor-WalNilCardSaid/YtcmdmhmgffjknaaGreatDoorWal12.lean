/- The drive's functions: 14, 15, 22, 25, 24, 84, 85. -/
import Derived.Test.YtcmdmhmgffjknaaGreatDoorFacts
import Derived.Test.YtcmdmhmgffjknaaGreatDoorWal11
namespace Go.Proofs.YtcmdmhmgffjknaaGreatDoor
open Go.Sx
set_option linter.unusedVariables false

theorem isKey_str (n : List UInt8) : MapKept.IsKey .string (str n) := trivial
theorem new_tr {W0 : World} (Fr : List HP) : Tr W0 Tryz.prog 14 [] Fr (fun v Rs' => ∃ d, v = .pointer (some ⟨d, 0, none⟩) ∧ Rs' = dsk d emptyD :: Fr) := by
  have h : Tr W0 Tryz.prog 14 [] Fr (fun v Rs' => ∃ d mb, v = .pointer (some ⟨d, 0, none⟩) ∧ Rs' = blk d 74 (dcells mb emptyD) :: mpf mb .string (fun _ => none) :: Fr) := by
    refine Entry.tr (N := 4) (rs := [.tmp 0]) ⟨_, Tryz.func14, rfl, by kernel_rfl, rfl, rfl⟩ rfl ?_
    refine XC.seq fun K1 hK1 => ?_
    refine XC.region ?_
    refine x_v (r_as rfl) rfl ?_
    refine XL.nil ?_
    refine hK1 _ _ ?_
    refine XC.keep [] trivial ?_
    refine XC.seq fun K2 hK2 => ?_
    refine XC.region ?_
    refine x_a (r_mm (.string)) rfl fun b1 => ?_
    refine x_v (r_bd (vs := [_, _]) rfl ⟨rfl, rfl, rfl⟩ (bd74_0_1 _ _)) rfl ?_
    refine x_a (r_bx rfl rfl) rfl fun b3 => ?_
    refine x_v (r_as rfl) rfl ?_
    refine XL.nil ?_
    refine hK2 _ _ ?_
    refine XC.keep [(0, _)] ⟨rfl, trivial⟩ ?_
    refine XC.ret ?_
    exact fin1 rfl (⟨_, _, rfl, rfl⟩) gS
  refine h.out ?_
  rintro v Rs' w ⟨d, mb, rfl, rfl⟩ ho
  refine ⟨_, ⟨d, rfl, rfl⟩, dsk_shut (mb := mb) (f := fun _ => none) (T := []) ⟨rfl, by simp, ⟨.nil, by simp [emptyD], by simp [emptyD]⟩⟩ ?_⟩
  have h1 : Own W0 w (emp :: blk d 74 (dcells mb emptyD) :: mpf mb .string (fun _ => none) :: Fr) := ⟨ho.os, ho.tape, ho.output, ho.size, ho.old, let ⟨g, a, b⟩ := ho.own; ⟨g, ⟨fun _ => none, g, fun _ => rfl, a, fun _ => .inl rfl, fun k => by simp⟩, b⟩⟩
  exact h1.perm ((List.perm_append_comm (l₁ := [_]) (l₂ := [_, _])).append_right Fr)
theorem fuse_th : ∃ fn c, Tryz.prog.funcs[15]? = some fn ∧ (fn.name == "runtime.NumGoroutine") = false ∧ fn.body = some c := ⟨_, _, Tryz.func15, by kernel_rfl, rfl⟩
theorem fuse_tr {W0 : World} (d : Nat) (D : Dk) (n : Int) (Fr : List HP) (hn : n < 9223372036854775808) : Tr W0 Tryz.prog 15 [.pointer (some ⟨d, 0, none⟩), .int .i64 n] (dsk d D :: Fr) (fun v Rs' => v = .tuple #[] ∧ Rs' = dsk d (fuseD D n) :: Fr) := by
  refine Tr.opn _ fuse_th (fun w => dsk_open) fun ⟨mb, f, T⟩ hD => ?_
  dsimp only at hD ⊢
  have h : Tr W0 Tryz.prog 15 [.pointer (some ⟨d, 0, none⟩), .int .i64 n] (blk d 74 (dcells mb D) :: mpf mb .string f :: filesM T :: Fr) (fun v Rs' => v = .tuple #[] ∧ Rs' = blk d 74 (dcells mb (fuseD D n)) :: mpf mb .string f :: filesM T :: Fr) := by
    unfold dcells fuseD
    refine Entry.tr (N := 11) (rs := []) ⟨_, Tryz.func15, rfl, by kernel_rfl, rfl, rfl⟩ rfl ?_
    refine XC.seq fun K1 hK1 => ?_
    refine XC.region ?_
    refine x_v (r_mv rfl) rfl ?_
    refine x_v (r_pne_some Tryz.underlying38 rfl rfl) rfl ?_
    refine XL.nil ?_
    refine hK1 _ _ ?_
    refine XC.keep [(0, _), (1, _), (5, _)] ⟨rfl, rfl, rfl, trivial⟩ ?_
    refine XC.cond_t rfl ?_
    refine XC.region ?_
    refine x_v (r_mv rfl) rfl ?_
    refine x_v (r_mv rfl) rfl ?_
    refine x_v (r_max rfl rfl) rfl ?_
    refine x_v (r_nc rfl) rfl ?_
    refine x_v (r_fa fo74_1 rfl) rfl ?_
    refine x_e (r_st ty3 rfl rfl rfl rfl rfl uD oV) ?_
    refine XL.nil ?_
    exact fin0 (⟨rfl, rfl⟩) gS
  refine h.out ?_
  rintro v Rs' w ⟨rfl, rfl⟩ ho
  exact ⟨_, ⟨rfl, rfl⟩, dsk_shut ⟨hD.files, hD.tab, ⟨hD.ok.srt, hD.ok.fi, by simp only [fuseD]; omega⟩⟩ ho⟩
theorem steps_th : ∃ fn c, Tryz.prog.funcs[22]? = some fn ∧ (fn.name == "runtime.NumGoroutine") = false ∧ fn.body = some c := ⟨_, _, Tryz.func22, by kernel_rfl, rfl⟩
theorem steps_tr {W0 : World} (d : Nat) (D : Dk) (Fr : List HP) : Tr W0 Tryz.prog 22 [.pointer (some ⟨d, 0, none⟩)] (dsk d D :: Fr) (fun v Rs' => v = .int .i64 (D.steps : Int) ∧ Rs' = dsk d D :: Fr) := by
  refine Tr.opn _ steps_th (fun w => dsk_open) fun ⟨mb, f, T⟩ hD => ?_
  dsimp only at hD ⊢
  have h : Tr W0 Tryz.prog 22 [.pointer (some ⟨d, 0, none⟩)] (blk d 74 (dcells mb D) :: mpf mb .string f :: filesM T :: Fr) (fun v Rs' => v = .int .i64 (D.steps : Int) ∧ Rs' = blk d 74 (dcells mb D) :: mpf mb .string f :: filesM T :: Fr) := by
    unfold dcells
    refine Entry.tr (N := 9) (rs := [.tmp 2]) ⟨_, Tryz.func22, rfl, by kernel_rfl, rfl, rfl⟩ rfl ?_
    refine XC.seq fun K1 hK1 => ?_
    refine XC.region ?_
    refine x_v (r_as rfl) rfl ?_
    refine XL.nil ?_
    refine hK1 _ _ ?_
    refine XC.keep [(0, _)] ⟨rfl, trivial⟩ ?_
    refine XC.seq fun K2 hK2 => ?_
    refine XC.seq fun K3 hK3 => ?_
    refine XC.region ?_
    refine x_v (r_mv rfl) rfl ?_
    refine x_v (r_peq_some Tryz.underlying38 rfl rfl) rfl ?_
    refine XL.nil ?_
    refine hK3 _ _ ?_
    refine XC.keep [(0, _), (4, _)] ⟨rfl, rfl, trivial⟩ ?_
    refine XC.cond_f rfl ?_
    refine XC.skip ?_
    refine hK2 _ _ ?_
    refine XC.keep [(0, _)] ⟨rfl, trivial⟩ ?_
    refine XC.seq fun K4 hK4 => ?_
    refine XC.region ?_
    refine x_v (r_mv rfl) rfl ?_
    refine x_v (r_nc rfl) rfl ?_
    refine x_v (r_fa fo74_3 rfl) rfl ?_
    refine x_v (r_ld ty3 rfl pK (by rfl)) rfl ?_
    refine x_v (r_as rfl) rfl ?_
    refine XL.nil ?_
    refine hK4 _ _ ?_
    refine XC.keep [(2, _)] ⟨rfl, trivial⟩ ?_
    refine XC.ret ?_
    exact fin1 rfl (⟨rfl, rfl⟩) gS
  refine h.out ?_
  rintro v Rs' w ⟨rfl, rfl⟩ ho
  exact ⟨_, ⟨rfl, rfl⟩, dsk_shut hD ho⟩
theorem down_th : ∃ fn c, Tryz.prog.funcs[25]? = some fn ∧ (fn.name == "runtime.NumGoroutine") = false ∧ fn.body = some c := ⟨_, _, Tryz.func25, by kernel_rfl, rfl⟩
theorem down_tr {W0 : World} (d : Nat) (D : Dk) (Fr : List HP) : Tr W0 Tryz.prog 25 [.pointer (some ⟨d, 0, none⟩)] (dsk d D :: Fr) (fun v Rs' => v = .bool D.off ∧ Rs' = dsk d D :: Fr) := by
  refine Tr.opn _ down_th (fun w => dsk_open) fun ⟨mb, f, T⟩ hD => ?_
  dsimp only at hD ⊢
  have h : Tr W0 Tryz.prog 25 [.pointer (some ⟨d, 0, none⟩)] (blk d 74 (dcells mb D) :: mpf mb .string f :: filesM T :: Fr) (fun v Rs' => v = .bool D.off ∧ Rs' = blk d 74 (dcells mb D) :: mpf mb .string f :: filesM T :: Fr) := by
    unfold dcells
    refine Entry.tr (N := 11) (rs := [.tmp 2]) ⟨_, Tryz.func25, rfl, by kernel_rfl, rfl, rfl⟩ rfl ?_
    refine XC.seq fun K1 hK1 => ?_
    refine XC.region ?_
    refine x_v (r_as rfl) rfl ?_
    refine XL.nil ?_
    refine hK1 _ _ ?_
    refine XC.keep [(0, _)] ⟨rfl, trivial⟩ ?_
    refine XC.seq fun K2 hK2 => ?_
    refine XC.region ?_
    refine x_v (r_mv rfl) rfl ?_
    refine x_v (r_pne_some Tryz.underlying38 rfl rfl) rfl ?_
    refine x_v (r_mv rfl) rfl ?_
    refine x_want rfl rfl rfl ?_
    refine x_v (r_mv rfl) rfl ?_
    refine x_want rfl rfl rfl ?_
    refine x_v (r_nc rfl) rfl ?_
    refine x_want rfl rfl rfl ?_
    refine x_v (r_fa fo74_2 rfl) rfl ?_
    refine x_want rfl rfl rfl ?_
    refine x_v (r_ld ty4 rfl pK (by rfl)) rfl ?_
    refine x_v (r_pk_t rfl rfl) rfl ?_
    refine x_v (r_as rfl) rfl ?_
    refine XL.nil ?_
    refine hK2 _ _ ?_
    refine XC.keep [(2, _)] ⟨rfl, trivial⟩ ?_
    refine XC.ret ?_
    exact fin1 rfl (⟨rfl, rfl⟩) gS
  refine h.out ?_
  rintro v Rs' w ⟨rfl, rfl⟩ ho
  exact ⟨_, ⟨rfl, rfl⟩, dsk_shut hD ho⟩
theorem read_th : ∃ fn c, Tryz.prog.funcs[24]? = some fn ∧ (fn.name == "runtime.NumGoroutine") = false ∧ fn.body = some c := ⟨_, _, Tryz.func24, by kernel_rfl, rfl⟩
theorem dread_tr {W0 : World} (d : Nat) (D : Dk) (n : List UInt8) (Fr : List HP) : Tr W0 Tryz.prog 24 [.pointer (some ⟨d, 0, none⟩), str n] (dsk d D :: Fr) (fun v Rs' => v = .tuple #[str (readD D n).1, .bool (readD D n).2] ∧ Rs' = dsk d D :: Fr) := by
  refine Tr.opn _ read_th (fun w => dsk_open) fun ⟨mb, f, T⟩ hD => ?_
  dsimp only at hD ⊢
  have h : Tr W0 Tryz.prog 24 [.pointer (some ⟨d, 0, none⟩), str n] (blk d 74 (dcells mb D) :: mpf mb .string f :: filesM T :: Fr) (fun v Rs' => v = .tuple #[str (readD D n).1, .bool (readD D n).2] ∧ Rs' = blk d 74 (dcells mb D) :: mpf mb .string f :: filesM T :: Fr) := by
    rcases hD.at n with ⟨h1, h2, _⟩ | ⟨T1, b, x, T2, rfl, h1, h2⟩
    · unfold dcells
      refine Entry.tr (N := 33) (rs := [.tmp 4, .tmp 5]) ⟨_, Tryz.func24, rfl, by kernel_rfl, rfl, rfl⟩ rfl ?_
      refine XC.seq fun K1 hK1 => ?_
      refine XC.region ?_
      refine x_v (r_as rfl) rfl ?_
      refine x_v (r_as rfl) rfl ?_
      refine XL.nil ?_
      refine hK1 _ _ ?_
      refine XC.keep [(0, _), (1, _)] ⟨rfl, rfl, trivial⟩ ?_
      refine XC.seq fun K2 hK2 => ?_
      refine XC.seq fun K3 hK3 => ?_
      refine XC.region ?_
      refine x_v (r_mv rfl) rfl ?_
      refine x_v (r_peq_some Tryz.underlying38 rfl rfl) rfl ?_
      refine x_v (r_mv rfl) rfl ?_
      refine x_want rfl rfl rfl ?_
      refine x_v (r_mv rfl) rfl ?_
      refine x_want rfl rfl rfl ?_
      refine x_v (r_nc rfl) rfl ?_
      refine x_want rfl rfl rfl ?_
      refine x_v (r_fa fo74_2 rfl) rfl ?_
      refine x_want rfl rfl rfl ?_
      refine x_v (r_ld ty4 rfl pK (by rfl)) rfl ?_
      refine x_v (r_pk_f rfl rfl) rfl ?_
      refine XL.nil ?_
      refine hK3 _ _ ?_
      refine XC.keep [(0, _), (1, _), (15, _)] ⟨rfl, rfl, rfl, trivial⟩ ?_
      refine XC.cond rfl (fun hc1 => ?_) (fun hc1 => ?_)
      · refine XC.seq fun K4 hK4 => ?_
        refine XC.region ?_
        refine x_v (r_as rfl) rfl ?_
        refine x_v (r_as rfl) rfl ?_
        refine XL.nil ?_
        refine hK4 _ _ ?_
        refine XC.keep [(4, _), (5, _)] ⟨rfl, rfl, trivial⟩ ?_
        refine XC.ret ?_
        exact fin2 rfl rfl (⟨by unfold readD; simp_all, rfl⟩) gS
      · refine XC.skip ?_
        refine hK2 _ _ ?_
        refine XC.keep [(0, _), (1, _)] ⟨rfl, rfl, trivial⟩ ?_
        refine XC.seq fun K5 hK5 => ?_
        refine XC.region ?_
        refine x_v (r_mv rfl) rfl ?_
        refine x_v (r_nc rfl) rfl ?_
        refine x_v (r_fa fo74_0 rfl) rfl ?_
        refine x_v (r_ld ty72 rfl pK (by rfl)) rfl ?_
        refine x_v (r_mv rfl) rfl ?_
        refine x_v (r_lk Tryz.underlying72 Tryz.underlying9 ty79 rfl rfl (isKey_str n) pK) rfl ?_
        rw [h2]
        refine x_v (r_mv rfl) rfl ?_
        refine x_v (r_ex rfl rfl) rfl ?_
        refine x_v (r_ex rfl rfl) rfl ?_
        refine x_v (r_as rfl) rfl ?_
        refine x_v (r_as rfl) rfl ?_
        refine XL.nil ?_
        refine hK5 _ _ ?_
        refine XC.keep [(6, _), (7, _)] ⟨rfl, rfl, trivial⟩ ?_
        refine XC.seq fun K6 hK6 => ?_
        refine XC.seq fun K7 hK7 => ?_
        refine XC.region ?_
        refine x_v (r_mv rfl) rfl ?_
        refine x_v (r_not rfl) rfl ?_
        refine XL.nil ?_
        refine hK7 _ _ ?_
        refine XC.keep [(6, _), (26, _)] ⟨rfl, rfl, trivial⟩ ?_
        refine XC.cond_t rfl ?_
        refine XC.seq fun K8 hK8 => ?_
        refine XC.region ?_
        refine x_v (r_as rfl) rfl ?_
        refine x_v (r_as rfl) rfl ?_
        refine XL.nil ?_
        refine hK8 _ _ ?_
        refine XC.keep [(4, _), (5, _)] ⟨rfl, rfl, trivial⟩ ?_
        refine XC.ret ?_
        exact fin2 rfl rfl (⟨by unfold readD; simp_all, rfl⟩) gS
    · refine (Tr.pre (Gets.step (.tail _ (.tail _ (.head _ _))) (.done _)) (Tr.opn (p := fun _ => True) (fun q : Option Addr × Nat => blk b 84 (fcells q.1 q.2 x) :: sl q.1 x.bytes.length q.2 5 1 (bv x.bytes) :: filesM (T1 ++ T2) :: blk d 74 (dcells mb D) :: mpf mb .string f :: Fr) read_th (fun w => file_open) fun ⟨A, c⟩ _ => ?_))
      dsimp only
      have h3 : Tr W0 Tryz.prog 24 [.pointer (some ⟨d, 0, none⟩), str n] (blk b 84 (fcells A c x) :: sl A x.bytes.length c 5 1 (bv x.bytes) :: filesM (T1 ++ T2) :: blk d 74 (dcells mb D) :: mpf mb .string f :: Fr) (fun v Rs' => v = .tuple #[str (readD D n).1, .bool (readD D n).2] ∧ Rs' = blk b 84 (fcells A c x) :: sl A x.bytes.length c 5 1 (bv x.bytes) :: filesM (T1 ++ T2) :: blk d 74 (dcells mb D) :: mpf mb .string f :: Fr) := by
        unfold dcells fcells
        refine Entry.tr (N := 33) (rs := [.tmp 4, .tmp 5]) ⟨_, Tryz.func24, rfl, by kernel_rfl, rfl, rfl⟩ rfl ?_
        refine XC.seq fun K1 hK1 => ?_
        refine XC.region ?_
        refine x_v (r_as rfl) rfl ?_
        refine x_v (r_as rfl) rfl ?_
        refine XL.nil ?_
        refine hK1 _ _ ?_
        refine XC.keep [(0, _), (1, _)] ⟨rfl, rfl, trivial⟩ ?_
        refine XC.seq fun K2 hK2 => ?_
        refine XC.seq fun K3 hK3 => ?_
        refine XC.region ?_
        refine x_v (r_mv rfl) rfl ?_
        refine x_v (r_peq_some Tryz.underlying38 rfl rfl) rfl ?_
        refine x_v (r_mv rfl) rfl ?_
        refine x_want rfl rfl rfl ?_
        refine x_v (r_mv rfl) rfl ?_
        refine x_want rfl rfl rfl ?_
        refine x_v (r_nc rfl) rfl ?_
        refine x_want rfl rfl rfl ?_
        refine x_v (r_fa fo74_2 rfl) rfl ?_
        refine x_want rfl rfl rfl ?_
        refine x_v (r_ld ty4 rfl pK (by rfl)) rfl ?_
        refine x_v (r_pk_f rfl rfl) rfl ?_
        refine XL.nil ?_
        refine hK3 _ _ ?_
        refine XC.keep [(0, _), (1, _), (15, _)] ⟨rfl, rfl, rfl, trivial⟩ ?_
        refine XC.cond rfl (fun hc1 => ?_) (fun hc1 => ?_)
        · refine XC.seq fun K4 hK4 => ?_
          refine XC.region ?_
          refine x_v (r_as rfl) rfl ?_
          refine x_v (r_as rfl) rfl ?_
          refine XL.nil ?_
          refine hK4 _ _ ?_
          refine XC.keep [(4, _), (5, _)] ⟨rfl, rfl, trivial⟩ ?_
          refine XC.ret ?_
          exact fin2 rfl rfl (⟨by unfold readD; simp_all, rfl⟩) gS
        · refine XC.skip ?_
          refine hK2 _ _ ?_
          refine XC.keep [(0, _), (1, _)] ⟨rfl, rfl, trivial⟩ ?_
          refine XC.seq fun K5 hK5 => ?_
          refine XC.region ?_
          refine x_v (r_mv rfl) rfl ?_
          refine x_v (r_nc rfl) rfl ?_
          refine x_v (r_fa fo74_0 rfl) rfl ?_
          refine x_v (r_ld ty72 rfl pK (by rfl)) rfl ?_
          refine x_v (r_mv rfl) rfl ?_
          refine x_v (r_lk Tryz.underlying72 Tryz.underlying9 ty79 rfl rfl (isKey_str n) pK) rfl ?_
          rw [h2]
          refine x_v (r_mv rfl) rfl ?_
          refine x_v (r_ex rfl rfl) rfl ?_
          refine x_v (r_ex rfl rfl) rfl ?_
          refine x_v (r_as rfl) rfl ?_
          refine x_v (r_as rfl) rfl ?_
          refine XL.nil ?_
          refine hK5 _ _ ?_
          refine XC.keep [(6, _), (7, _)] ⟨rfl, rfl, trivial⟩ ?_
          refine XC.seq fun K6 hK6 => ?_
          refine XC.seq fun K7 hK7 => ?_
          refine XC.region ?_
          refine x_v (r_mv rfl) rfl ?_
          refine x_v (r_not rfl) rfl ?_
          refine XL.nil ?_
          refine hK7 _ _ ?_
          refine XC.keep [(6, _), (26, _)] ⟨rfl, rfl, trivial⟩ ?_
          refine XC.cond_f rfl ?_
          refine XC.skip ?_
          refine hK6 _ _ ?_
          refine XC.keep [(6, _)] ⟨rfl, trivial⟩ ?_
          refine XC.seq fun K8 hK8 => ?_
          refine XC.slnn pK fun hl hA => ?_
          refine XC.region ?_
          refine x_v (r_mv rfl) rfl ?_
          refine x_v (r_nc rfl) rfl ?_
          refine x_v (r_fa fo84_0 rfl) rfl ?_
          refine x_v (r_fa fo82_0 rfl) rfl ?_
          refine x_v (r_ld ty80 rfl pK (by rfl)) rfl ?_
          refine x_v (r_text Tryz.underlying80 Tryz.underlying5 Tryz.underlying9 rfl (Rdb.of_sl pK hl hA)) rfl ?_
          refine x_v (r_as rfl) rfl ?_
          refine x_v (r_as rfl) rfl ?_
          refine XL.nil ?_
          refine hK8 _ _ ?_
          refine XC.keep [(4, _), (5, _)] ⟨rfl, rfl, trivial⟩ ?_
          refine XC.ret ?_
          exact fin2 rfl rfl (⟨by unfold readD; simp_all, rfl⟩) gS
      refine h3.out ?_
      rintro v Rs' w ⟨rfl, rfl⟩ ho
      refine ⟨_, ⟨rfl, rfl⟩, ?_⟩
      have h4 := file_shut (n := n) ho
      exact h4.perm ((List.perm_append_comm (l₁ := [_]) (l₂ := [_, _])).append_right Fr)
  refine h.out ?_
  rintro v Rs' w ⟨rfl, rfl⟩ ho
  exact ⟨_, ⟨rfl, rfl⟩, dsk_shut hD ho⟩
end Go.Proofs.YtcmdmhmgffjknaaGreatDoor

/- The drive's functions: 53, 26, 41. -/
import Derived.Test.YtcmdmhmgffjknaaGreatDoorFacts
import Derived.Test.YtcmdmhmgffjknaaGreatDoorWal16
namespace Go.Sx
set_option linter.unusedVariables false
section
variable {C : Cx} {ops : Array Oper} {l : List Oper} {κ : Kt} {e : Env} {Rs : List HP}
/-- Memory opened amid code. -/
theorem XC.opn {c : Code} {ι : Type} {p : ι → Prop} (R1 : ι → List HP) (h : ∀ w, Own C.W0 w Rs → ∃ i, p i ∧ Own C.W0 w (R1 i)) (k : ∀ i, p i → XC C c κ e (R1 i)) : XC C c κ e Rs :=
  fun a w ha hw => let ⟨i, hp, ho⟩ := h w hw; k i hp a w ha ho
end
theorem sl_take {A : Option Addr} {n c E sz m : Nat} {xs : List Value} {h : Heap} (hm : m ≤ n) (H : sl A n c E sz xs h) : sl A m c E sz (xs.take (m * sz)) h := by
  obtain ⟨hl, hr⟩ := H
  have hle : m * sz ≤ n * sz := Nat.mul_le_mul_right _ hm
  refine ⟨by rw [List.length_take, hl]; omega, ?_⟩
  rcases hr with ⟨rfl, rfl, rfl, he⟩ | ⟨g, cur, h1, h2, h3, h4, h5, h6⟩
  · exact .inl ⟨rfl, by omega, rfl, he⟩
  · exact .inr ⟨g, cur, h1, by omega, h3, h4, by rw [← h5, List.take_take, Nat.min_eq_left hle], h6⟩
end Go.Sx
namespace Go.Proofs.YtcmdmhmgffjknaaGreatDoor
open Go.Sx
set_option linter.unusedVariables false

theorem prefix_th : ∃ fn c, Tryz.prog.funcs[53]? = some fn ∧ (fn.name == "runtime.NumGoroutine") = false ∧ fn.body = some c := ⟨_, _, Tryz.func53, by kernel_rfl, rfl⟩
theorem prefix_tr {W0 : World} (s p : List UInt8) (Fr : List HP) : Tr W0 Tryz.prog 53 [str s, str p] Fr (fun v Rs' => v = .bool (Lib.hasPrefix s p) ∧ Rs' = Fr) :=
  Tr.of_below (Q := fun v => v = .bool (Lib.hasPrefix s p)) prefix_th fun w hw => (Tryz.strings_HasPrefix ⟨s.toArray⟩ ⟨p.toArray⟩ w).mono fun e w' ⟨h1, h2⟩ => ⟨_, rfl, h1, h2 ▸ RowKit.Below.refl _ _⟩
theorem fineB_len {n : List UInt8} (h : fineB n = true) : n.length ≤ 80 := by unfold fineB at h; rw [decide_eq_true_iff] at h; exact h.2.1
theorem DIs.keys {D : Dk} {f : Value → Option Value} {T : List En} (h : DIs D f T) : (∀ k, (f k).isSome = true ↔ ∃ n ∈ D.files.map (·.1), k = str n) ∧ (D.files.map (·.1)).Pairwise (· < ·) ∧ ∀ n ∈ D.files.map (·.1), n.length ≤ maxLen := by
  refine ⟨fun k => ?_, ?_, fun n hn => ?_⟩
  · rw [Option.isSome_iff_exists, ← h.files]
    constructor
    · rintro ⟨v, hv⟩; obtain ⟨t, ht, h1, h2⟩ := (h.tab k v).1 hv; exact ⟨t.1, by rw [List.map_map]; exact List.mem_map.2 ⟨t, ht, rfl⟩, h1⟩
    · rintro ⟨n, hn, rfl⟩; rw [List.map_map] at hn; obtain ⟨t, ht, rfl⟩ := List.mem_map.1 hn; exact ⟨_, (h.tab _ _).2 ⟨t, ht, rfl, rfl⟩⟩
  · rw [List.pairwise_map]; exact h.ok.srt
  · obtain ⟨t, ht, rfl⟩ := List.mem_map.1 hn
    have := fineB_len (h.ok.fi t ht).2.2
    have : maxLen = 9223372036854775807 := rfl
    omega
theorem names_th : ∃ fn c, Tryz.prog.funcs[26]? = some fn ∧ (fn.name == "runtime.NumGoroutine") = false ∧ fn.body = some c := ⟨_, _, Tryz.func26, by kernel_rfl, rfl⟩
theorem filter_snoc {α : Type} (p : α → Bool) (l : List α) (k : Nat) (x : α) (h : l[k]? = some x) : (l.take (k + 1)).filter p = if p x = true then (l.take k).filter p ++ [x] else (l.take k).filter p := by
  rw [List.take_add_one, h, List.filter_append]
  cases hp : p x <;> simp [hp]
theorem names_tr {W0 : World} (d : Nat) (D : Dk) (p : List UInt8) (Fr : List HP) (hb : D.files.length ≤ 1000000000) : Tr W0 Tryz.prog 26 [.pointer (some ⟨d, 0, none⟩), str p] (dsk d D :: Fr) (fun v Rs' => ∃ A c, v = .slice A (namesD D p).length c ∧ Rs' = sl A (namesD D p).length c 9 1 (cells sv (namesD D p)) :: dsk d D :: Fr) := by
  refine Tr.opn _ names_th (fun w => dsk_open) fun ⟨mb, f, T⟩ hD => ?_
  dsimp only at hD ⊢
  obtain ⟨k1, k2, k3⟩ := hD.keys
  have hNl : (D.files.map (·.1)).length = D.files.length := by simp
  have hnm : namesD D p = if D.off = true then [] else (D.files.map (·.1)).filter (fun n => Lib.hasPrefix n p) := rfl
  generalize hN : D.files.map (·.1) = N at k1 k2 k3 hNl hnm
  have h : Tr W0 Tryz.prog 26 [.pointer (some ⟨d, 0, none⟩), str p] (blk d 74 (dcells mb D) :: mpf mb .string f :: filesM T :: Fr) (fun v Rs' => ∃ A c, v = .slice A (namesD D p).length c ∧ Rs' = sl A (namesD D p).length c 9 1 (cells sv (namesD D p)) :: blk d 74 (dcells mb D) :: mpf mb .string f :: filesM T :: Fr) := by
    refine Tr.nil_ 9 1 ?_
    unfold dcells
    refine Entry.tr (N := 36) (rs := [.tmp 4]) ⟨_, Tryz.func26, rfl, by kernel_rfl, rfl, rfl⟩ rfl ?_
    refine XC.seq fun K1 hK1 => ?_
    refine XC.region ?_
    refine x_v (r_as rfl) rfl ?_
    refine XL.nil ?_
    refine hK1 _ _ ?_
    refine XC.keep [(0, _), (1, _)] ⟨rfl, rfl, trivial⟩ ?_
    refine XC.seq fun K2 hK2 => ?_
    refine XC.seq fun K3 hK3 => ?_
    refine XC.region ?_
    refine x_v (r_mv rfl) rfl ?_
    refine x_v (r_peq_some Tryz.underlying38 rfl rfl) rfl ?_
    refine x_v (r_mv rfl) rfl ?_
    refine x_want rfl rfl rfl ?_
    refine x_v (r_mv rfl) rfl ?_
    refine x_want rfl rfl rfl ?_
    refine x_v (r_nc rfl) rfl ?_
    refine x_want rfl rfl rfl ?_
    refine x_v (r_fa fo74_2 rfl) rfl ?_
    refine x_want rfl rfl rfl ?_
    refine x_v (r_ld ty4 rfl pK (by rfl)) rfl ?_
    refine x_v (r_pk_f rfl rfl) rfl ?_
    refine XL.nil ?_
    refine hK3 _ _ ?_
    refine XC.keep [(0, _), (1, _), (15, _)] ⟨rfl, rfl, rfl, trivial⟩ ?_
    refine XC.cond rfl (fun hc1 => ?_) (fun hc1 => ?_)
    · refine XC.seq fun K4 hK4 => ?_
      refine XC.region ?_
      refine x_v (r_as rfl) rfl ?_
      refine XL.nil ?_
      refine hK4 _ _ ?_
      refine XC.keep [(4, _)] ⟨rfl, trivial⟩ ?_
      refine XC.ret ?_
      exact fin1 rfl (⟨none, 0, by rw [hnm, if_pos (by simp_all)]; rfl, by rw [hnm, if_pos (by simp_all)]⟩) gS
    · refine XC.skip ?_
      refine hK2 _ _ ?_
      refine XC.keep [(0, _), (1, _)] ⟨rfl, rfl, trivial⟩ ?_
      refine XC.seq fun K5 hK5 => ?_
      refine XC.region ?_
      refine x_v (r_as rfl) rfl ?_
      refine XL.nil ?_
      refine hK5 _ _ ?_
      refine XC.keep [(0, _), (1, _), (5, _)] ⟨rfl, rfl, rfl, trivial⟩ ?_
      refine XC.seq fun K6 hK6 => ?_
      refine XC.seq fun K7 hK7 => ?_
      rw [if_neg (by simp_all)] at hnm
      refine XC.region ?_
      refine x_v (r_mv rfl) rfl ?_
      refine x_v (r_nc rfl) rfl ?_
      refine x_v (r_fa fo74_0 rfl) rfl ?_
      refine x_v (r_ld ty72 rfl pK (by rfl)) rfl ?_
      refine x_c (r_call0 (args := [_]) ⟨rfl, rfl⟩ (keys_tr mb (blk d 74 [.map (some mb), .int .i64 D.fuse, .bool D.off, .int .i64 (D.steps : Int)] :: mpf mb .string f :: filesM T :: sl none 0 0 9 1 [] :: Fr)) gS) rfl ?_
      rintro _ _ ⟨bx, rfl, hRs⟩
      rw [hRs]
      refine x_c (r_call0 (args := [_]) ⟨rfl, rfl⟩ (sorted_tr bx mb f N (blk d 74 [.map (some mb), .int .i64 D.fuse, .bool D.off, .int .i64 (D.steps : Int)] :: filesM T :: sl none 0 0 9 1 [] :: Fr) k1 k2 k3 (by omega)) gS) rfl ?_
      rintro _ _ ⟨A21, c21, rfl, hRs⟩
      rw [hRs]
      refine x_v (r_lensl Tryz.underlying22 rfl) rfl ?_
      refine x_v (r_mv rfl) rfl ?_
      refine XL.nil ?_
      refine hK7 _ _ ?_
      refine XC.keep [(1, _), (5, _), (21, _), (22, _), (23, _)] ⟨rfl, rfl, rfl, rfl, rfl, trivial⟩ ?_
      refine XC.block ?_
      refine XC.loop (σ := Nat × List (List UInt8) × Option Addr × Nat) (fun q => [(1, str p), (5, .slice q.2.2.1 q.2.1.length q.2.2.2), (21, .slice A21 N.length c21), (22, .int .i64 (N.length : Int)), (23, .int .i64 (q.1 : Int))]) (fun q => sl q.2.2.1 q.2.1.length q.2.2.2 9 1 (cells sv q.2.1) :: sl A21 N.length c21 9 1 (cells sv N) :: blk d 74 [.map (some mb), .int .i64 D.fuse, .bool D.off, .int .i64 (D.steps : Int)] :: mpf mb .string f :: filesM T :: Fr) (fun q => q.1 ≤ N.length ∧ q.2.1.length ≤ q.1 ∧ q.2.1 = (N.take q.1).filter (fun n => Lib.hasPrefix n p)) (fun q => N.length - q.1) (0, [], none, 0) ?_ ⟨rfl, rfl, rfl, rfl, rfl, trivial⟩ gS ?_
      · exact ⟨Nat.zero_le _, Nat.le_refl _, rfl⟩
      rintro ⟨i, L, A, c⟩ ⟨hi, hL, hg⟩
      dsimp only at hi hL hg ⊢
      refine XC.seq fun K8 hK8 => ?_
      refine XC.region ?_
      refine x_v (r_lt rfl rfl) rfl ?_
      refine XL.nil ?_
      refine hK8 _ _ ?_
      refine XC.keep [(1, _), (5, _), (21, _), (22, _), (23, _), (24, _)] ⟨rfl, rfl, rfl, rfl, rfl, rfl, trivial⟩ ?_
      refine XC.seq fun K9 hK9 => ?_
      refine XC.cond_d rfl (fun hc2 => ?_) (fun hc2 => ?_)
      · refine XC.skip ?_
        refine hK9 _ _ ?_
        refine XC.keep [(1, _), (5, _), (21, _), (22, _), (23, _)] ⟨rfl, rfl, rfl, rfl, rfl, trivial⟩ ?_
        refine XC.seq fun K10 hK10 => ?_
        refine XC.block ?_
        refine XC.seq fun K11 hK11 => ?_
        obtain ⟨x, hx⟩ : ∃ x, N[i]? = some x := ⟨_, List.getElem?_eq_getElem (by omega)⟩
        refine XC.slnn (pK : Pick _ (sl A21 N.length c21 9 1 (cells sv N)) _) fun hl hA => ?_
        obtain ⟨g, rfl⟩ := hA (by omega)
        have hr := Rdb.of_sl (W0 := W0) (pK : Pick (sl A L.length c 9 1 (cells sv L) :: sl (some ⟨g, 0, none⟩) N.length c21 9 1 (cells sv N) :: blk d 74 [.map (some mb), .int .i64 D.fuse, .bool D.off, .int .i64 (D.steps : Int)] :: mpf mb .string f :: filesM T :: Fr) (sl (some ⟨g, 0, none⟩) N.length c21 9 1 (cells sv N)) _) hl (fun _ => ⟨g, rfl⟩)
        obtain ⟨g2, o2, he2, hat⟩ := hr.at_ (by omega)
        injection he2 with he2
        injection he2 with hg2 ho2
        subst hg2
        subst ho2
        refine XC.region ?_
        refine x_v (r_ia (k := i) Tryz.underlying22 ty9 rfl rfl (by omega) (by omega)) rfl ?_
        refine x_v (r_ldr (v := str x) ty9 rfl (fun w hw => hat w (Gets.own gS hw) (i * 1) _ (by rw [Nat.mul_one]; exact sv_get hx))) rfl ?_
        refine x_v (r_as rfl) rfl ?_
        refine XL.nil ?_
        refine hK11 _ _ ?_
        refine XC.keep [(1, _), (5, _), (7, _), (21, _), (22, _), (23, _)] ⟨rfl, rfl, rfl, rfl, rfl, rfl, trivial⟩ ?_
        refine XC.seq fun K12 hK12 => ?_
        refine XC.region ?_
        refine x_v (r_mv rfl) rfl ?_
        refine x_v (r_mv rfl) rfl ?_
        refine x_c (r_call0 (args := [_, _]) ⟨rfl, rfl, rfl⟩ (prefix_tr x p (sl A L.length c 9 1 (cells sv L) :: sl (some ⟨g, 0, none⟩) N.length c21 9 1 (cells sv N) :: blk d 74 [.map (some mb), .int .i64 D.fuse, .bool D.off, .int .i64 (D.steps : Int)] :: mpf mb .string f :: filesM T :: Fr)) gS) rfl ?_
        rintro _ _ ⟨rfl, hRs⟩
        rw [hRs]
        refine XL.nil ?_
        refine hK12 _ _ ?_
        refine XC.keep [(1, _), (5, _), (7, _), (21, _), (22, _), (23, _), (29, _)] ⟨rfl, rfl, rfl, rfl, rfl, rfl, rfl, trivial⟩ ?_
        refine XC.cond rfl (fun hc3 => ?_) (fun hc3 => ?_)
        · refine XC.region ?_
          refine x_v (r_mv rfl) rfl ?_
          refine x_v (r_mv rfl) rfl ?_
          refine x_a (r_bs (vs := [_]) rfl ⟨rfl, rfl⟩ (bs22_1_0 _)) rfl fun b32 => ?_
          refine x_a (r_app Tryz.underlying22 ty9 rfl (by decide) rfl rfl pK (Rdb.of_blk (cs := [str x]) (xs := [str x]) pK 0 (by rfl) (fun j u hu => by simpa using hu)) rfl (by unfold maxLen; omega) (by omega)) rfl fun ⟨A33, c33⟩ => ?_
          refine x_v (r_as rfl) rfl ?_
          refine XL.nil ?_
          refine hK10 _ _ ?_
          refine XC.keep [(1, _), (5, _), (21, _), (22, _), (23, _)] ⟨rfl, rfl, rfl, rfl, rfl, trivial⟩ ?_
          refine XC.region ?_
          refine x_v (r_add rfl rfl (by omega)) rfl ?_
          refine x_v (r_mv rfl) rfl ?_
          refine XL.nil ?_
          rw [show L.length + 1 = (L ++ [x]).length by simp, show cells sv L ++ [str x] = cells sv (L ++ [x]) by rw [cells_app]; rfl]
          refine ⟨(i + 1, L ++ [x], A33, c33), ?_, ?_, ⟨rfl, rfl, rfl, rfl, rfl, trivial⟩, gS⟩
          · exact ⟨by dsimp only; omega, by simp; omega, by dsimp only; rw [filter_snoc _ _ _ _ hx, if_pos hc3, ← hg]⟩
          · dsimp only; omega
        · refine XC.skip ?_
          refine hK10 _ _ ?_
          refine XC.keep [(1, _), (5, _), (21, _), (22, _), (23, _)] ⟨rfl, rfl, rfl, rfl, rfl, trivial⟩ ?_
          refine XC.region ?_
          refine x_v (r_add rfl rfl (by omega)) rfl ?_
          refine x_v (r_mv rfl) rfl ?_
          refine XL.nil ?_
          refine ⟨(i + 1, L, A, c), ?_, ?_, ⟨rfl, rfl, rfl, rfl, rfl, trivial⟩, gS⟩
          · exact ⟨by dsimp only; omega, by dsimp only; omega, by dsimp only; rw [filter_snoc _ _ _ _ hx, if_neg (by simp [hc3]), ← hg]⟩
          · dsimp only; omega
      · refine XC.exit rfl ?_
        refine hK6 _ _ ?_
        refine XC.keep [(5, _)] ⟨rfl, trivial⟩ ?_
        refine XC.seq fun K13 hK13 => ?_
        obtain rfl : i = N.length := by omega
        rw [List.take_of_length_le (Nat.le_refl _)] at hg
        rw [← hnm] at hg
        subst hg
        refine XC.region ?_
        refine x_v (r_mv rfl) rfl ?_
        refine x_v (r_as rfl) rfl ?_
        refine XL.nil ?_
        refine hK13 _ _ ?_
        refine XC.keep [(4, _)] ⟨rfl, trivial⟩ ?_
        refine XC.ret ?_
        exact fin1 rfl (⟨A, c, rfl, rfl⟩) gS
  exact h.out fun v Rs' w ⟨A, c, h1, h2⟩ ho => ⟨_, ⟨A, c, h1, rfl⟩, by
    rw [h2] at ho
    have h3 : Own W0 w (blk d 74 (dcells mb D) :: mpf mb .string f :: filesM T :: sl A (namesD D p).length c 9 1 (cells sv (namesD D p)) :: Fr) := Gets.own gS ho
    exact (dsk_shut hD h3).perm (.swap _ _ _)⟩
end Go.Proofs.YtcmdmhmgffjknaaGreatDoor

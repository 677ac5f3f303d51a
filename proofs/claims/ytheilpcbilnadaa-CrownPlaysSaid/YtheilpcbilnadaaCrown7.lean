/- Crowns: an epoch is put into a ledger. -/
import Derived.Test.YtheilpcbilnadaaCrown6
namespace Go.Proofs.Ytheilpcbilnadaa
open Go.Sx
set_option linter.unusedVariables false

theorem rd_one {W0 : World} {Rs Fr : List HP} {g : Nat} (o : Od) (hp : Pick Rs (blk g 39 (odc o)) Fr) : Rdb W0 Rs (some ⟨g, 0, none⟩) [o].length 9 (cells odc [o]) := by
 rw [cells_one]; exact Rdb.of_blk (n := 1) (sz := 9) (xs := odc o) hp 0 rfl (fun _ _ h => by rw [Nat.zero_add]; exact h)
theorem one_of {L : List Od} {o : Od} (h : fst1 L = fst1 [o]) : ∃ o3, L = [o3] ∧ o3.1 = o.1 := by
 have hl : L.length = 1 := fst_len h
 rcases L with _ | ⟨a, _ | ⟨b, L⟩⟩
 ·cases hl
 ·exact ⟨a, rfl, by unfold fst1 at h; injection h⟩
 ·simp at hl
def opAt (o : Od) (n : Nat) (e s : Int) : Pop := { o.1 with n := (n : Int) + 1, epoch := e, site := s }
theorem putr_tr {W0 : World} {Fr : List HP} {k : HP} {h : Lh} (b : Nat) (o : Od) (e s : Int) (L : List Od) (hLn : L.length = h.n) (hk : o.1.kind = 3) (hro : RdO W0 k o) (hn : h.n ≤ 100000) :
  Tr W0 Try.prog 71 [.pointer (some ⟨b, 0, none⟩), .agg (odc o).toArray, .int .i64 e, .int .i64 s] (blk b 91 (ldc h) :: sl h.A h.n h.c 39 9 (cells odc L) :: k :: Fr) (fun v Rs' => ∃ A2 c2 k2 o3, v = .agg #[.int .i64 0, .int .i64 ((h.n : Int) + 1), .int .i64 e] ∧ Rs' = blk b 91 (ldc { h with A := A2, n := h.n + 1, c := c2, hE := e, hS := s }) :: sl A2 (h.n + 1) c2 39 9 (cells odc (L ++ [o3])) :: k2 :: Fr ∧ Ex W0 k k2 ∧ o3.1 = opAt o h.n e s ∧ RdO W0 k2 o3) := by
 unfold ldc
 obtain ⟨o2, ho2⟩ : ∃ o2 : Od, o2 = (opAt o h.n e s, o.2) := ⟨_, rfl⟩
 have hro2 : RdO W0 k o2 := by rw [ho2]; exact hro
 have ho2c : odc o2 = [.int .i64 ((h.n : Int) + 1), .int .i64 e, .int .i64 o.1.kind, .int .i64 s, .int .i64 o.1.client, .int .i64 o.1.seq, str o.1.name, .int .i64 o.1.size, .slice o.2.1 o.1.hs.length o.2.2] := by rw [ho2]; rfl
 refine Entry.tr (N := 51) (rs := [.cell 8 62]) ⟨_, Try.func71, rfl, by kernel_rfl, rfl, rfl⟩ rfl ?_
 refine XC.seq fun K1 hK1 => ?_
 refine XC.region ?_
 refine x_a (r_bx rfl rfl) rfl fun b5 => ?_
 rw [odc_def o]
 refine x_a (r_al ty62 rfl) rfl fun b8 => ?_
 refine XL.nil ?_
 refine hK1 _ _ ?_
 refine XC.keep [(0, _), (2, _), (3, _), (5, _), (8, _)] ⟨rfl, rfl, rfl, rfl, rfl, trivial⟩ ?_
 refine XC.seq fun K2 hK2 => ?_
 refine XC.region ?_
 refine x_v (r_mv rfl) rfl ?_
 refine x_v (r_nc rfl) rfl ?_
 refine x_v (r_fa fo91_1 rfl) rfl ?_
 refine x_v (r_ld ty33 rfl pK (by rfl)) rfl ?_
 refine x_v (r_lensl Try.underlying33 rfl) rfl ?_
 refine x_v (r_add rfl rfl (by omega)) rfl ?_
 refine x_v (r_mv rfl) rfl ?_
 refine x_v (r_mv rfl) rfl ?_
 refine x_v (r_fa fo39_0 rfl) rfl ?_
 refine x_e (r_st ty3 rfl rfl rfl rfl rfl uD oV) ?_
 refine x_v (r_fa fo39_1 rfl) rfl ?_
 refine x_e (r_st ty3 rfl rfl rfl rfl rfl uD oV) ?_
 refine x_v (r_fa fo39_3 rfl) rfl ?_
 refine x_e (r_st ty3 rfl rfl rfl rfl rfl uD oV) ?_
 refine XL.nil ?_
 refine hK2 _ _ ?_
 refine XC.keep [(0, _), (5, _), (8, _)] ⟨rfl, rfl, rfl, trivial⟩ ?_
 refine XC.seq fun K3 hK3 => ?_
 refine XC.draw [blk b 91 [.map (some h.mL), .int .i64 h.used, .map (some h.mO), .int .i64 h.hE, .int .i64 h.hS, .slice h.A h.n h.c, .slice h.lA h.ln h.lc, .int .i64 h.fence, .int .i64 h.settled, .int .i64 h.quota, .int .i64 h.room], blk b5 39 [.int .i64 ((h.n : Int) + 1), .int .i64 e, .int .i64 o.1.kind, .int .i64 s, .int .i64 o.1.client, .int .i64 o.1.seq, str o.1.name, .int .i64 o.1.size, .slice o.2.1 o.1.hs.length o.2.2]] true [(0, false), (1, false), (2, false), (3, false), (4, false), (5, false), (6, true), (7, true), (8, true), (9, false), (10, false), (11, true)] (by kernel_rfl) (by kernel_rfl) ?_
 refine y_v rfl (r_mv rfl) gT rfl ?_
 refine y_v rfl (r_mv rfl) gT rfl ?_
 refine y_v rfl (r_nc rfl) gT rfl ?_
 refine y_v rfl (r_fa fo91_1 rfl) gT rfl ?_
 refine y_v rfl (r_ld ty33 rfl pK (by rfl)) gT rfl ?_
 refine y_v rfl (r_lda (l' := [_, _, _, _, _, _, _, _, _]) ty39 rfl pK rfl (Sub.get sU)) gT rfl ?_
 refine y_a rfl (r_bs (vs := [_]) rfl ⟨rfl, rfl⟩ (bs33_1_0 _ _ _ _ _ _ _ _ _ _ _)) (fun _ _ _ h => Gets.own gS h) rfl fun b26 => ?_
 rw [← ho2c]
 refine y_c rfl (r_call0 (args := [_]) ⟨rfl, rfl⟩ (own_tr (k := k) (Fr := blk b26 39 (odc o2) :: blk b 91 [.map (some h.mL), .int .i64 h.used, .map (some h.mO), .int .i64 h.hE, .int .i64 h.hS, .slice h.A h.n h.c, .slice h.lA h.ln h.lc, .int .i64 h.fence, .int .i64 h.settled, .int .i64 h.quota, .int .i64 h.room] :: blk b5 39 (odc o2) :: blk b8 62 [.int .i64 0, .int .i64 0, .int .i64 0] :: sl h.A h.n h.c 39 9 (cells odc L) :: Fr) (some ⟨b26, 0, none⟩) 1 [o2] (rd_one o2 pK) (fun q hq => by rw [List.mem_singleton.1 hq]; exact hro2) (by simp only [List.length_singleton]; omega)) gS) (by rintro _ _ _ _ ⟨A27, c27, k27, L27, rfl, rfl, hx27, hf27, hk27⟩ h; exact Gets.own gS h) rfl ?_
 rintro _ _ ⟨A27, c27, k27, L27, rfl, rfl, hx27, hf27, hk27⟩
 obtain ⟨o3, rfl, ho3⟩ := one_of hf27
 have hro3 := hk27 o3 (List.mem_singleton.2 rfl)
 refine XH.slnn (A := A27) pK fun hl27 hA27 => ?_
 refine y_a rfl (r_app Try.underlying33 ty39 rfl (by decide) rfl rfl pK (Rdb.of_sl pK hl27 hA27) (cells_one' odc_one [o3]) (by unfold maxLen; simp only [List.length_singleton]; omega) (by simp only [List.length_singleton]; omega)) (fun _ _ _ h => Gets.own gS h) rfl fun ⟨A28, c28⟩ => ?_
 dsimp only [List.length_singleton]
 rw [← cells_app, ho2c]
 refine y_v rfl (r_nc rfl) gT rfl ?_
 refine y_v rfl (r_fa fo91_1 rfl) gT rfl ?_
 refine y_e rfl (r_st ty33 rfl rfl rfl rfl rfl uD oV) (fun h => absurd h (by decide)) ?_
 refine XH.nil ?_
 refine hK3 _ _ ?_
 refine XC.keep [(0, _), (5, _), (8, _)] ⟨rfl, rfl, rfl, trivial⟩ ?_
 refine XC.seq fun K4 hK4 => ?_
 refine XC.slnn (A := A28) pK fun hl28 hA28 => ?_
 have hrd3 : Rdb W0 [sl A28 (h.n + 1) c28 39 9 (cells odc (L ++ [o3]))] A28 (h.n + 1) 9 (cells odc (L ++ [o3])) := Rdb.of_sl (.head _ _) hl28 hA28
 obtain ⟨sb, so, hsa, hat⟩ := hrd3.at_ (by omega)
 subst hsa
 have hidx : (L ++ [o3])[h.n]? = some o3 := by rw [← hLn]; simp
 have hk3 : o3.1.kind = 3 := by rw [ho3, ho2]; exact hk
 refine XC.draw [blk b 91 [.map (some h.mL), .int .i64 h.used, .map (some h.mO), .int .i64 h.hE, .int .i64 h.hS, .slice (some ⟨sb, so, none⟩) (h.n + 1) c28, .slice h.lA h.ln h.lc, .int .i64 h.fence, .int .i64 h.settled, .int .i64 h.quota, .int .i64 h.room], sl (some ⟨sb, so, none⟩) (h.n + 1) c28 39 9 (cells odc (L ++ [o3]))] true [(0, false), (1, false), (2, false), (3, false), (4, false), (5, false), (6, false), (7, false), (8, false), (9, false), (10, false), (11, false), (12, false), (13, false), (14, false), (15, true), (16, true)] (by kernel_rfl) (by kernel_rfl) ?_
 refine y_v rfl (r_mv rfl) gT rfl ?_
 refine y_v rfl (r_nc rfl) gT rfl ?_
 refine y_v rfl (r_fa fo91_0 rfl) gT rfl ?_
 refine y_v rfl (r_mv rfl) gT rfl ?_
 refine y_v rfl (r_nc rfl) gT rfl ?_
 refine y_v rfl (r_fa fo91_1 rfl) gT rfl ?_
 refine y_v rfl (r_ld ty33 rfl pK (by rfl)) gT rfl ?_
 refine y_v rfl (r_mv rfl) gT rfl ?_
 refine y_v rfl (r_nc rfl) gT rfl ?_
 refine y_v rfl (r_fa fo91_1 rfl) gT rfl ?_
 refine y_v rfl (r_ld ty33 rfl pK (by rfl)) gT rfl ?_
 refine y_v rfl (r_lensl Try.underlying33 rfl) gT rfl ?_
 refine y_v rfl (r_sub rfl rfl (by omega)) gT rfl ?_
 refine y_v rfl (r_ia (k := h.n) Try.underlying33 ty39 rfl rfl (by omega) (by omega)) gT rfl ?_
 refine y_v rfl (r_ldar (l' := odc o3) ty39 rfl rfl (fun w hw j u hu => by rw [Nat.add_assoc]; exact hat w (Gets.own gS hw) _ u (cells_get odc_len (L ++ [o3]) _ _ hidx j u hu))) gT rfl ?_
 rw [odc_def o3]
 refine y_a rfl (r_bs (vs := [_]) rfl ⟨rfl, rfl⟩ (bs33_1_0 _ _ _ _ _ _ _ _ _ _ _)) (fun _ _ _ h => Gets.own gS h) rfl fun b46 => ?_
 refine y_c rfl (r_call0 (args := [_, _]) ⟨rfl, rfl, rfl⟩ (ftaker_tr (h := { h with A := some ⟨sb, so, none⟩, n := h.n + 1, c := c28 }) b b46 o3 hk3) gS) (fun h => absurd h (by decide)) rfl ?_
 rintro _ _ ⟨rfl, rfl⟩
 rw [ho3, ho2]
 dsimp only [opAt]
 refine XH.nil ?_
 refine hK4 _ _ ?_
 refine XC.keep [(5, _), (8, _)] ⟨rfl, rfl, trivial⟩ ?_
 refine XC.seq fun K5 hK5 => ?_
 refine XC.region ?_
 refine x_v (r_lda (l' := [_, _, _, _, _, _, _, _, _]) ty39 rfl pK rfl (Sub.get sU)) rfl ?_
 refine x_c (r_call0 (args := [_]) ⟨rfl, rfl⟩ (spot_tr (opAt o h.n e s, o.2)) gS) rfl ?_
 rintro _ _ ⟨rfl, rfl⟩
 dsimp only [opAt]
 refine x_v (r_bd (vs := [_]) rfl ⟨rfl, rfl⟩ (bd62_1 _ _)) rfl ?_
 refine x_e (r_st ty62 rfl rfl rfl rfl rfl uD oV) ?_
 refine XL.nil ?_
 refine hK5 _ _ ?_
 refine XC.keep [(8, _)] ⟨rfl, trivial⟩ ?_
 refine XC.ret ?_
 exact finc1 ty62 rfl pK (by rfl) (⟨some ⟨sb, so, none⟩, c28, k27, o3, rfl, rfl, hx27, by rw [ho3, ho2], hro3⟩) gS
end Go.Proofs.Ytheilpcbilnadaa

/- Crowns: a ledger's epoch begins. -/
import Derived.Test.YtheilpcbilnadaaCrown5
namespace Go.Proofs.Ytheilpcbilnadaa
open Go.Sx
set_option linter.unusedVariables false

theorem fst_len {L M : List Od} (h : fst1 L = fst1 M) : L.length = M.length := by
 have := congrArg List.length h; unfold fst1 at this; simpa using this
/-- Operations with lists of their own (the program's). -/
theorem own_tr {W0 : World} {Fr : List HP} {k : HP} (XA : Option Addr) (xc : Nat) (L : List Od) (hr : Rdb W0 (k :: Fr) XA L.length 9 (cells odc L)) (ho : ∀ o ∈ L, RdO W0 k o) (hl : L.length * 96 ≤ 140737488355328) :
  Tr W0 Try.prog 74 [.slice XA L.length xc] (k :: Fr) (fun v Rs' => ∃ A2 c2 k2 L2, v = .slice A2 L2.length c2 ∧ Rs' = sl A2 L2.length c2 39 9 (cells odc L2) :: k2 :: Fr ∧ Ex W0 k k2 ∧ fst1 L2 = fst1 L ∧ ∀ o ∈ L2, RdO W0 k2 o) := by
 refine Entry.tr (N := 26) (rs := [.tmp 2]) ⟨_, Try.func74, rfl, by kernel_rfl, rfl, rfl⟩ rfl ?_
 refine XC.seq fun K1 hK1 => ?_
 refine XC.region ?_
 refine x_v (r_as rfl) rfl ?_
 refine XL.nil ?_
 refine hK1 _ _ ?_
 refine XC.keep [(0, _)] ⟨rfl, trivial⟩ ?_
 refine XC.seq fun K2 hK2 => ?_
 refine XC.region ?_
 refine x_v (r_mv rfl) rfl ?_
 refine x_c (r_call0 (args := [_]) ⟨rfl, rfl⟩ (cloneo_tr XA xc L hr hl) gS) rfl ?_
 rintro _ _ ⟨A6, c6, rfl, rfl⟩
 refine x_v (r_as rfl) rfl ?_
 refine XL.nil ?_
 refine hK2 _ _ ?_
 refine XC.keep [(3, _)] ⟨rfl, trivial⟩ ?_
 refine XC.seq fun K3 hK3 => ?_
 refine XC.seq fun K4 hK4 => ?_
 refine XC.region ?_
 refine x_v (r_mv rfl) rfl ?_
 refine x_v (r_lensl Try.underlying33 rfl) rfl ?_
 refine x_v (r_mv rfl) rfl ?_
 refine XL.nil ?_
 refine hK4 _ _ ?_
 refine XC.keep [(3, _), (8, _), (9, _)] ⟨rfl, rfl, rfl, trivial⟩ ?_
 refine XC.block ?_
 refine XC.loop (σ := Nat × HP × List Od) (fun s => [(3, .slice A6 L.length c6), (8, .int .i64 (L.length : Int)), (9, .int .i64 (s.1 : Int))]) (fun s => sl A6 L.length c6 39 9 (cells odc s.2.2) :: s.2.1 :: Fr) (fun s => s.1 ≤ L.length ∧ s.2.2.length = L.length ∧ fst1 s.2.2 = fst1 L ∧ Ex W0 k s.2.1 ∧ ∀ o ∈ s.2.2, RdO W0 s.2.1 o) (fun s => L.length - s.1) (0, k, L) ?_ ⟨rfl, rfl, rfl, trivial⟩ gS ?_
 ·exact ⟨Nat.zero_le _, rfl, rfl, Ex.refl W0 k, ho⟩
 rintro ⟨i, k3, Lo⟩ ⟨hi, hlo, hf, hx, hk⟩
 dsimp only at hi hlo hf hx hk ⊢
 refine XC.seq fun K5 hK5 => ?_
 refine XC.region ?_
 refine x_v (r_lt rfl rfl) rfl ?_
 refine XL.nil ?_
 refine hK5 _ _ ?_
 refine XC.keep [(3, _), (8, _), (9, _), (10, _)] ⟨rfl, rfl, rfl, rfl, trivial⟩ ?_
 refine XC.seq fun K6 hK6 => ?_
 refine XC.cond_d rfl (fun hc1 => ?_) (fun hc1 => ?_)
 ·refine XC.skip ?_
  refine hK6 _ _ ?_
  refine XC.keep [(3, _), (8, _), (9, _)] ⟨rfl, rfl, rfl, trivial⟩ ?_
  refine XC.seq fun K7 hK7 => ?_
  refine XC.block ?_
  refine XC.seq fun K8 hK8 => ?_
  refine XC.region ?_
  refine x_v (r_mv rfl) rfl ?_
  refine x_v (r_as rfl) rfl ?_
  refine XL.nil ?_
  refine hK8 _ _ ?_
  refine XC.keep [(3, _), (4, _), (8, _), (9, _)] ⟨rfl, rfl, rfl, rfl, trivial⟩ ?_
  obtain ⟨o, hoi⟩ : ∃ o, Lo[i]? = some o := ⟨_, List.getElem?_eq_getElem (by omega)⟩
  have hro := hk o (List.mem_of_getElem? hoi)
  rw [← hlo]
  refine XC.openp (A := A6) pK (by omega) fun g cur hA h1 h2 h3 h4 => ?_
  subst hA
  refine XC.region ?_
  refine x_v (r_mv rfl) rfl ?_
  refine x_v (r_mv rfl) rfl ?_
  refine x_v (r_mv rfl) rfl ?_
  refine x_v (r_mv rfl) rfl ?_
  refine x_v (r_ia (k := i) Try.underlying33 ty39 rfl rfl (by omega) (by omega)) rfl ?_
  refine x_v (r_fa fo39_7 rfl) rfl ?_
  refine x_v (r_fa fo37_1 rfl) rfl ?_
  refine x_v (r_ld ty29 rfl pK (elem_at odc_len h4 hoi 8 _ rfl)) rfl ?_
  refine x_c (r_call0 (args := [_]) ⟨rfl, rfl⟩ (clones_tr (Fr := blk g 39 cur :: k3 :: Fr) o.2.1 o.2.2 o.1.hs (hro.1.mono (fun w h => Gets.own gS h)) hro.2) gS) rfl ?_
  rintro _ _ ⟨A20, c20, rfl, rfl⟩
  refine x_v (r_ia (k := i) Try.underlying33 ty39 rfl rfl (by omega) (by omega)) rfl ?_
  refine x_v (r_fa fo39_7 rfl) rfl ?_
  refine x_v (r_fa fo37_1 rfl) rfl ?_
  refine x_e (r_st (vs := [.slice A20 o.1.hs.length c20]) ty29 rfl rfl rfl rfl rfl uD (Over.set (by omega) _)) ?_
  refine XL.nil ?_
  refine hK7 _ _ ?_
  refine XC.keep [(3, _), (8, _), (9, _)] ⟨rfl, rfl, rfl, trivial⟩ ?_
  refine XC.slnn (A := A20) pK fun _ hA20 => ?_
  have hset : (cur.set (0 + i * 9 + 7 + 1) (.slice A20 o.1.hs.length c20)).take (Lo.length * 9) = cells odc (Lo.set i (o.1, A20, c20)) := by rw [List.take_set, h4, show 0 + i * 9 + 7 + 1 = i * 9 + 8 by omega]; exact cells_set odc_len (by decide) Lo i o _ hoi rfl
  refine XC.shut_ (n := Lo.length) pK h1 h2 (by rw [List.length_set]; exact h3) hset ?_
  refine XC.stash (x := sl A20 o.1.hs.length c20 9 1 (cells sv1 o.1.hs)) (k := k3) pK pK ?_
  rw [hlo]
  refine XC.region ?_
  refine x_v (r_add rfl rfl (by omega)) rfl ?_
  refine x_v (r_mv rfl) rfl ?_
  refine XL.nil ?_
  refine ⟨(i + 1, sep (sl A20 o.1.hs.length c20 9 1 (cells sv1 o.1.hs)) k3, Lo.set i (o.1, A20, c20)), ?_, ?_, ⟨rfl, rfl, rfl, trivial⟩, gS⟩
  ·exact ⟨by dsimp only; omega, by dsimp only; rw [List.length_set]; exact hlo, by dsimp only; rw [← hf]; exact set_fst hoi rfl, hx.trans (Ex.on W0 _ _), fun q hq => by (rcases List.mem_or_eq_of_mem_set hq with hh | hh; exact (hk q hh).ex (Ex.on W0 _ _); rw [hh]; exact ⟨Rdb.laid k3 (by rw [cells_len sv1_len]) hA20, hro.2⟩)⟩
  ·dsimp only; omega
 ·refine XC.exit rfl ?_
  refine hK3 _ _ ?_
  refine XC.keep [(3, _)] ⟨rfl, trivial⟩ ?_
  refine XC.seq fun K9 hK9 => ?_
  refine XC.region ?_
  refine x_v (r_mv rfl) rfl ?_
  refine x_v (r_as rfl) rfl ?_
  refine XL.nil ?_
  refine hK9 _ _ ?_
  refine XC.keep [(2, _)] ⟨rfl, trivial⟩ ?_
  refine XC.ret ?_
  rw [← hlo]
  exact fin1 rfl (⟨A6, c6, k3, Lo, rfl, rfl, hx, hf, hk⟩) gS

theorem failed_tr {W0 : World} {Fr : List HP} (e : Int) : Tr W0 Try.prog 39 [.int .i64 e] Fr (fun v Rs' => v = .agg #[.int .i64 e, .int .i64 0, .int .i64 0] ∧ Rs' = Fr) := by
 refine Entry.tr (N := 5) (rs := [.cell 2 62]) ⟨_, Try.func39, rfl, by kernel_rfl, rfl, rfl⟩ rfl ?_
 refine XC.seq fun K1 hK1 => ?_
 refine XC.region ?_
 refine x_a (r_al ty62 rfl) rfl fun b2 => ?_
 refine XL.nil ?_
 refine hK1 _ _ ?_
 refine XC.keep [(0, _), (2, _)] ⟨rfl, rfl, trivial⟩ ?_
 refine XC.seq fun K2 hK2 => ?_
 refine XC.region ?_
 refine x_v (r_mv rfl) rfl ?_
 refine x_v (r_bd (vs := [_]) rfl ⟨rfl, rfl⟩ (bd62_0 _)) rfl ?_
 refine x_e (r_st ty62 rfl rfl rfl rfl rfl uD oV) ?_
 refine XL.nil ?_
 refine hK2 _ _ ?_
 refine XC.keep [(2, _)] ⟨rfl, trivial⟩ ?_
 refine XC.ret ?_
 exact finc1 ty62 rfl pK (by rfl) (⟨rfl, rfl⟩) gS
theorem spot_tr {W0 : World} {Fr : List HP} (o : Od) : Tr W0 Try.prog 70 [.agg (odc o).toArray] Fr (fun v Rs' => v = .agg #[.int .i64 o.1.n, .int .i64 o.1.epoch] ∧ Rs' = Fr) := by
 refine Entry.tr (N := 8) (rs := [.cell 2 31]) ⟨_, Try.func70, rfl, by kernel_rfl, rfl, rfl⟩ rfl ?_
 refine XC.seq fun K1 hK1 => ?_
 refine XC.region ?_
 refine x_a (r_bx rfl rfl) rfl fun b1 => ?_
 rw [odc_def o]
 refine x_a (r_al ty31 rfl) rfl fun b2 => ?_
 refine XL.nil ?_
 refine hK1 _ _ ?_
 refine XC.keep [(1, _), (2, _)] ⟨rfl, rfl, trivial⟩ ?_
 refine XC.seq fun K2 hK2 => ?_
 refine XC.region ?_
 refine x_v (r_fa fo39_0 rfl) rfl ?_
 refine x_v (r_ld ty3 rfl pK (by rfl)) rfl ?_
 refine x_v (r_fa fo39_1 rfl) rfl ?_
 refine x_v (r_ld ty3 rfl pK (by rfl)) rfl ?_
 refine x_v (r_bd (vs := [_, _]) rfl ⟨rfl, rfl, rfl⟩ (bd31_0_1 _ _)) rfl ?_
 refine x_e (r_st ty31 rfl rfl rfl rfl rfl uD oV) ?_
 refine XL.nil ?_
 refine hK2 _ _ ?_
 refine XC.keep [(2, _)] ⟨rfl, trivial⟩ ?_
 refine XC.ret ?_
 exact finc1 ty31 rfl pK (by rfl) (⟨rfl, rfl⟩) gS
/-- The fold goes on by an epoch that begins. -/
theorem ftaker_tr {W0 : World} {Fr : List HP} {h : Lh} (b g : Nat) (o : Od) (hk : o.1.kind = 3) : Tr W0 Try.prog 75 [.pointer (some ⟨b, 0, none⟩), .slice (some ⟨g, 0, none⟩) 1 1] (blk b 91 (ldc h) :: blk g 39 (odc o) :: Fr) (fun v Rs' => v = .tuple #[] ∧ Rs' = blk b 91 (ldc { h with hE := o.1.epoch, hS := o.1.site }) :: Fr) := by
 unfold ldc
 rw [odc_def o]
 refine Entry.tr (N := 73) (rs := []) ⟨_, Try.func75, rfl, by kernel_rfl, rfl, rfl⟩ rfl ?_
 refine XC.seq fun K1 hK1 => ?_
 refine XC.region ?_
 refine x_v (r_mv rfl) rfl ?_
 refine x_v (r_lensl Try.underlying33 rfl) rfl ?_
 refine x_v (r_mv rfl) rfl ?_
 refine XL.nil ?_
 refine hK1 _ _ ?_
 refine XC.keep [(0, _), (6, _), (7, _), (8, _)] ⟨rfl, rfl, rfl, rfl, trivial⟩ ?_
 refine XC.block ?_
 refine XC.loop (σ := Nat × Int × Int) (fun s => [(0, .pointer (some ⟨b, 0, none⟩)), (6, .slice (some ⟨g, 0, none⟩) 1 1), (7, .int .i64 1), (8, .int .i64 (s.1 : Int))]) (fun s => blk b 91 [.map (some h.mL), .int .i64 h.used, .map (some h.mO), .int .i64 s.2.1, .int .i64 s.2.2, .slice h.A h.n h.c, .slice h.lA h.ln h.lc, .int .i64 h.fence, .int .i64 h.settled, .int .i64 h.quota, .int .i64 h.room] :: blk g 39 [.int .i64 o.1.n, .int .i64 o.1.epoch, .int .i64 o.1.kind, .int .i64 o.1.site, .int .i64 o.1.client, .int .i64 o.1.seq, str o.1.name, .int .i64 o.1.size, .slice o.2.1 o.1.hs.length o.2.2] :: Fr) (fun s => s.1 ≤ 1 ∧ (s.1 = 1 → s.2 = (o.1.epoch, o.1.site))) (fun s => 1 - s.1) (0, h.hE, h.hS) ?_ ⟨rfl, rfl, rfl, rfl, trivial⟩ gS ?_
 ·exact ⟨by dsimp only; omega, fun q => by cases q⟩
 rintro ⟨i, e2, s2⟩ ⟨hi, hi1⟩
 dsimp only at hi hi1 ⊢
 refine XC.seq fun K2 hK2 => ?_
 refine XC.region ?_
 refine x_v (r_lt rfl rfl) rfl ?_
 refine XL.nil ?_
 refine hK2 _ _ ?_
 refine XC.keep [(0, _), (6, _), (7, _), (8, _), (9, _)] ⟨rfl, rfl, rfl, rfl, rfl, trivial⟩ ?_
 refine XC.seq fun K3 hK3 => ?_
 refine XC.cond_d rfl (fun hc1 => ?_) (fun hc1 => ?_)
 ·refine XC.skip ?_
  refine hK3 _ _ ?_
  refine XC.keep [(0, _), (6, _), (7, _), (8, _)] ⟨rfl, rfl, rfl, rfl, trivial⟩ ?_
  refine XC.seq fun K4 hK4 => ?_
  refine XC.block ?_
  refine XC.seq fun K5 hK5 => ?_
  obtain rfl : i = 0 := by omega
  refine XC.region ?_
  refine x_v (r_ia (k := 0) Try.underlying33 ty39 rfl rfl (by omega) (by omega)) rfl ?_
  refine x_v (r_lda (l' := [_, _, _, _, _, _, _, _, _]) ty39 rfl pK rfl (Sub.get sU)) rfl ?_
  refine x_a (r_al ty39 rfl) rfl fun b5 => ?_
  refine x_e (r_st ty39 rfl rfl rfl rfl rfl uD oV) ?_
  refine XL.nil ?_
  refine hK5 _ _ ?_
  refine XC.keep [(0, _), (5, _), (6, _), (7, _), (8, _)] ⟨rfl, rfl, rfl, rfl, rfl, trivial⟩ ?_
  refine XC.seq fun K6 hK6 => ?_
  refine XC.seq fun K7 hK7 => ?_
  refine XC.region ?_
  refine x_v (r_fa fo39_2 rfl) rfl ?_
  refine x_v (r_ld ty3 rfl pK (by rfl)) rfl ?_
  refine x_v (r_eq rfl rfl) rfl ?_
  refine XL.nil ?_
  refine hK7 _ _ ?_
  refine XC.keep [(0, _), (5, _), (6, _), (7, _), (8, _), (14, _)] ⟨rfl, rfl, rfl, rfl, rfl, rfl, trivial⟩ ?_
  refine XC.cond_d rfl (fun hc2 => ?_) (fun hc2 => ?_)
  ·refine XC.seq fun K8 hK8 => ?_
   refine XC.region ?_
   refine x_v (r_mv rfl) rfl ?_
   refine x_v (r_fa fo39_1 rfl) rfl ?_
   refine x_v (r_ld ty3 rfl pK (by rfl)) rfl ?_
   refine x_v (r_fa fo39_3 rfl) rfl ?_
   refine x_v (r_ld ty3 rfl pK (by rfl)) rfl ?_
   refine x_v (r_bd (vs := [_, _]) rfl ⟨rfl, rfl, rfl⟩ (bd69_0_1 _ _)) rfl ?_
   refine x_v (r_nc rfl) rfl ?_
   refine x_v (r_fa fo88_3 rfl) rfl ?_
   refine x_e (r_st ty69 rfl rfl rfl rfl rfl uD oV) ?_
   refine XL.nil ?_
   refine hK8 _ _ ?_
   refine XC.keep [(0, _), (6, _), (7, _), (8, _)] ⟨rfl, rfl, rfl, rfl, trivial⟩ ?_
   refine XC.exit rfl ?_
   refine hK4 _ _ ?_
   refine XC.keep [(0, _), (6, _), (7, _), (8, _)] ⟨rfl, rfl, rfl, rfl, trivial⟩ ?_
   refine XC.region ?_
   refine x_v (r_add rfl rfl (by omega)) rfl ?_
   refine x_v (r_mv rfl) rfl ?_
   refine XL.nil ?_
   refine ⟨(0 + 1, o.1.epoch, o.1.site), ?_, ?_, ⟨rfl, rfl, rfl, rfl, trivial⟩, gS⟩
   ·exact ⟨by dsimp only; omega, fun _ => rfl⟩
   ·dsimp only; omega
  ·exfalso; omega
 ·refine XC.exit rfl ?_
  obtain ⟨rfl, rfl⟩ : e2 = o.1.epoch ∧ s2 = o.1.site := by have := hi1 (by omega); simpa using this
  exact fin0 (⟨rfl, rfl⟩) gS
end Go.Proofs.Ytheilpcbilnadaa

/- Crowns: ledgers: operations are lost. -/
import Derived.Test.YtheilpcbilnadaaCrown23
namespace Go.Proofs.Ytheilpcbilnadaa
open Go.Sx
set_option linter.unusedVariables false

/-- A ledger lies so at 'b', behind a function that returns nothing. -/
def LPart (W0 : World) (k : HP) (Fr : List HP) (b : Nat) (ln : Nat) (l : Ls) (v : Value) (Rs' : List HP) : Prop :=
 ∃ h2 gL2 gO2 L2 G2, v = .tuple #[] ∧ Rs' = blk b 91 (ldc h2) :: mpf h2.mL .string gL2 :: mpf h2.mO (.int .i64) gO2 :: sl h2.A h2.n h2.c 39 9 (cells odc L2) :: sl h2.lA h2.ln h2.lc 39 9 (cells odc G2) :: k :: Fr ∧ LI W0 k l h2 gL2 gO2 L2 G2 ∧ h2.ln ≤ ln + 80
set_option maxHeartbeats 1000000 in
theorem part_tr {W0 : World} {Fr : List HP} {k : HP} {l : Ls} {h : Lh} {gL gO : Value → Option Value} {L G : List Od} (b j : Nat) (hl : LI W0 k l h gL gO L G) (hj : j ≤ 100000) (hln : h.ln ≤ 500000) :
  Tr W0 Try.prog 73 [.pointer (some ⟨b, 0, none⟩), .int .i64 (j : Int)] (blk b 91 (ldc h) :: mpf h.mL .string gL :: mpf h.mO (.int .i64) gO :: sl h.A h.n h.c 39 9 (cells odc L) :: sl h.lA h.ln h.lc 39 9 (cells odc G) :: k :: Fr) (LPart W0 k Fr b h.ln { l with ops := l.ops.take j }) := by
 have hlen := hl.len
 have hpl := hl.p.len
 have hLn := hl.n
 have hgl := hl.g
 have hszs := (hl.p.take j).szs
 obtain ⟨mL, us, mO, hE, hS, hA, hn, hc, lA, ln, lc, fe, se, qu, ro⟩ := h
 dsimp only at hlen hln hLn hgl ⊢
 subst hgl
 have hzz : ∀ o ∈ L.take j, 0 ≤ o.1.size ∧ o.1.size ≤ 512 := fun o ho => by
  obtain ⟨i, hi⟩ := List.mem_iff_getElem?.1 (List.mem_of_mem_take ho)
  have := fst_at hi
  rw [hl.o] at this
  exact size_of (hl.p.at_ i _ this).2
 unfold ldc
 dsimp only
 refine Entry.tr (N := 68) (rs := []) ⟨_, Try.func73, rfl, by kernel_rfl, rfl, rfl⟩ rfl ?_
 refine XC.seq fun K1 hK1 => ?_
 refine XC.seq fun K2 hK2 => ?_
 refine XC.region ?_
 refine x_v (r_mv rfl) rfl ?_
 refine x_v (r_mv rfl) rfl ?_
 refine x_v (r_nc rfl) rfl ?_
 refine x_v (r_fa fo91_1 rfl) rfl ?_
 refine x_v (r_ld ty33 rfl pK (by rfl)) rfl ?_
 refine x_v (r_lensl Try.underlying33 rfl) rfl ?_
 refine x_v (r_ge rfl rfl) rfl ?_
 refine XL.nil ?_
 refine hK2 _ _ ?_
 refine XC.keep [(0, _), (1, _), (12, _)] ⟨rfl, rfl, rfl, trivial⟩ ?_
 refine XC.cond_d rfl (fun hc1 => ?_) (fun hc1 => ?_)
 ·refine XC.ret ?_
  have e : l.ops.take j = l.ops := List.take_of_length_le (by omega)
  exact fin0 (⟨⟨mL, us, mO, hE, hS, hA, hn, hc, lA, G.length, lc, fe, se, qu, ro⟩, gL, gO, L, G, rfl, rfl, by rw [e]; exact hl, by dsimp only; omega⟩) gS
 ·refine XC.skip ?_
  refine hK1 _ _ ?_
  refine XC.keep [(0, _), (1, _)] ⟨rfl, rfl, trivial⟩ ?_
  refine XC.seq fun K3 hK3 => ?_
  refine XC.seq fun K4 hK4 => ?_
  refine XC.slnn (A := hA) pK fun hsl hsA => ?_
  refine XC.sllen (A := hA) pK fun _ hcap _ => ?_
  have hrd : Rdb W0 [sl hA hn hc 39 9 (cells odc L)] hA L.length 9 (cells odc L) := by (rw [hLn]; exact Rdb.of_sl (.head _ _) hsl hsA)
  obtain ⟨XA, hXA⟩ : ∃ X, X = (if hc = j then hA else hA.map (·.add (j * 9))) := ⟨_, rfl⟩
  have hrd2 := rd_drop hrd (c := hc) (by omega) (j := j) (by omega)
  rw [← hXA] at hrd2
  have hdl : (L.drop j).length = hn - j := by rw [List.length_drop, hLn]
  refine XC.region ?_
  refine x_v (r_mv rfl) rfl ?_
  refine x_v (r_nc rfl) rfl ?_
  refine x_v (r_fa fo91_1 rfl) rfl ?_
  refine x_v (r_ld ty33 rfl pK (by rfl)) rfl ?_
  refine x_v (r_mv rfl) rfl ?_
  refine x_v (r_sll (j) (hn) Try.underlying33 ty39 rfl ⟨_, by rfl⟩ rfl (by omega) (by omega)) rfl ?_
  rw [← hXA]
  refine x_v (r_lensl Try.underlying33 rfl) rfl ?_
  refine x_v (r_mv rfl) rfl ?_
  refine XL.nil ?_
  refine hK4 _ _ ?_
  refine XC.keep [(0, _), (1, _), (18, _), (19, _), (20, _)] ⟨rfl, rfl, rfl, rfl, rfl, trivial⟩ ?_
  refine XC.block ?_
  refine XC.loop (σ := Nat × Option Addr × Nat × List Od) (fun s => [(0, .pointer (some ⟨b, 0, none⟩)), (1, .int .i64 (j : Int)), (18, .slice XA (hn - j) (hc - j)), (19, .int .i64 ((hn - j : Nat) : Int)), (20, .int .i64 (s.1 : Int))]) (fun s => blk b 91 [.map (some mL), .int .i64 us, .map (some mO), .int .i64 hE, .int .i64 hS, .slice hA hn hc, .slice s.2.1 s.2.2.2.length s.2.2.1, .int .i64 fe, .int .i64 se, .int .i64 qu, .int .i64 ro] :: mpf mL .string gL :: mpf mO (.int .i64) gO :: sl hA hn hc 39 9 (cells odc L) :: sl s.2.1 s.2.2.2.length s.2.2.1 39 9 (cells odc s.2.2.2) :: k :: Fr) (fun s => s.1 ≤ hn - j ∧ s.2.2.2.length = G.length + s.1) (fun s => hn - j - s.1) (0, lA, lc, G) ?_ ⟨rfl, rfl, rfl, rfl, rfl, trivial⟩ gS ?_
  ·exact ⟨Nat.zero_le _, rfl⟩
  rintro ⟨i, A3, c3, G3⟩ ⟨hi, hg3⟩
  dsimp only at hi hg3 ⊢
  refine XC.seq fun K5 hK5 => ?_
  refine XC.region ?_
  refine x_v (r_lt rfl rfl) rfl ?_
  refine XL.nil ?_
  refine hK5 _ _ ?_
  refine XC.keep [(0, _), (1, _), (18, _), (19, _), (20, _), (21, _)] ⟨rfl, rfl, rfl, rfl, rfl, rfl, trivial⟩ ?_
  refine XC.seq fun K6 hK6 => ?_
  refine XC.cond_d rfl (fun hc2 => ?_) (fun hc2 => ?_)
  ·refine XC.skip ?_
   refine hK6 _ _ ?_
   refine XC.keep [(0, _), (1, _), (18, _), (19, _), (20, _)] ⟨rfl, rfl, rfl, rfl, rfl, trivial⟩ ?_
   refine XC.seq fun K7 hK7 => ?_
   refine XC.block ?_
   refine XC.seq fun K8 hK8 => ?_
   obtain ⟨o, hoi⟩ : ∃ o, (L.drop j)[i]? = some o := ⟨_, List.getElem?_eq_getElem (by omega)⟩
   obtain ⟨ob, oo, hpX, hat⟩ := hrd2.at_ (by omega)
   obtain ⟨o2, ho2⟩ : ∃ o2 : Od, o2 = ({ o.1 with hs := [] }, none, 0) := ⟨_, rfl⟩
   refine XC.region ?_
   refine x_v (r_ia (k := i) Try.underlying33 ty39 (by rw [hpX]; rfl) rfl (by omega) (by omega)) rfl ?_
   refine x_v (r_ldar (l' := odc o) ty39 rfl rfl (fun w hw j2 u hu => by rw [Nat.add_assoc]; exact hat w (Gets.own gS hw) _ u (cells_get odc_len (L.drop j) _ _ hoi j2 u hu))) rfl ?_
   rw [odc_def o]
   refine x_a (r_al ty39 rfl) rfl fun b5 => ?_
   refine x_e (r_st ty39 rfl rfl rfl rfl rfl uD oV) ?_
   refine XL.nil ?_
   refine hK8 _ _ ?_
   refine XC.keep [(0, _), (1, _), (5, _), (18, _), (19, _), (20, _)] ⟨rfl, rfl, rfl, rfl, rfl, rfl, trivial⟩ ?_
   refine XC.seq fun K9 hK9 => ?_
   refine XC.region ?_
   refine x_v (r_fa fo39_7 rfl) rfl ?_
   refine x_v (r_fa fo37_1 rfl) rfl ?_
   refine x_e (r_st ty29 rfl rfl rfl rfl rfl uD oV) ?_
   refine XL.nil ?_
   refine hK9 _ _ ?_
   refine XC.keep [(0, _), (1, _), (5, _), (18, _), (19, _), (20, _)] ⟨rfl, rfl, rfl, rfl, rfl, rfl, trivial⟩ ?_
   refine XC.draw [blk b 91 [.map (some mL), .int .i64 us, .map (some mO), .int .i64 hE, .int .i64 hS, .slice hA hn hc, .slice A3 G3.length c3, .int .i64 fe, .int .i64 se, .int .i64 qu, .int .i64 ro], blk b5 39 [.int .i64 o.1.n, .int .i64 o.1.epoch, .int .i64 o.1.kind, .int .i64 o.1.site, .int .i64 o.1.client, .int .i64 o.1.seq, str o.1.name, .int .i64 o.1.size, .slice none 0 0]] true [(0, false), (1, false), (2, false), (3, false), (4, false), (5, false), (6, true), (7, true), (8, false), (9, false), (10, true)] (by kernel_rfl) (by kernel_rfl) ?_
   refine y_v rfl (r_mv rfl) gT rfl ?_
   refine y_v rfl (r_mv rfl) gT rfl ?_
   refine y_v rfl (r_nc rfl) gT rfl ?_
   refine y_v rfl (r_fa fo91_2 rfl) gT rfl ?_
   refine y_v rfl (r_ld ty33 rfl pK (by rfl)) gT rfl ?_
   refine y_v rfl (r_lda (l' := [_, _, _, _, _, _, _, _, _]) ty39 rfl pK rfl (Sub.get sU)) gT rfl ?_
   refine y_a rfl (r_bs (vs := [_]) rfl ⟨rfl, rfl⟩ (bs33_1_0 _ _ _ _ _ _ _ _ _ _ _)) (fun _ _ _ h => Gets.own gS h) rfl fun b32 => ?_
   refine y_a rfl (r_app Try.underlying33 ty39 rfl (by decide) rfl rfl pK (Rdb.of_blk (b := b32) (n := 1) (sz := 9) (xs := odc o2) pK 0 rfl (fun _ _ h => by rw [ho2] at h; rw [Nat.zero_add]; exact h)) (odc_one o2) (by unfold maxLen; omega) (by omega)) (fun _ _ _ h => Gets.own gS h) rfl fun ⟨A33, c33⟩ => ?_
   dsimp only
   rw [show G3.length + 1 = (G3 ++ [o2]).length by simp, ← cells_one odc o2, ← cells_app]
   refine y_v rfl (r_nc rfl) gT rfl ?_
   refine y_v rfl (r_fa fo91_2 rfl) gT rfl ?_
   refine y_e rfl (r_st ty33 rfl rfl rfl rfl rfl uD oV) (fun h => absurd h (by decide)) ?_
   refine XH.nil ?_
   refine hK7 _ _ ?_
   refine XC.keep [(0, _), (1, _), (18, _), (19, _), (20, _)] ⟨rfl, rfl, rfl, rfl, rfl, trivial⟩ ?_
   refine XC.region ?_
   refine x_v (r_add rfl rfl (by omega)) rfl ?_
   refine x_v (r_mv rfl) rfl ?_
   refine XL.nil ?_
   refine ⟨(i + 1, A33, c33, G3 ++ [o2]), ?_, ?_, ⟨rfl, rfl, rfl, rfl, rfl, trivial⟩, gS⟩
   ·exact ⟨by dsimp only; omega, by dsimp only; rw [List.length_append, hg3]; simp; omega⟩
   ·dsimp only; omega
  ·refine XC.exit rfl ?_
   refine hK3 _ _ ?_
   refine XC.keep [(0, _), (1, _)] ⟨rfl, rfl, trivial⟩ ?_
   refine XC.seq fun K10 hK10 => ?_
   refine XC.region ?_
   refine x_v (r_mv rfl) rfl ?_
   refine x_v (r_mv rfl) rfl ?_
   refine x_v (r_nc rfl) rfl ?_
   refine x_v (r_fa fo91_4 rfl) rfl ?_
   refine x_v (r_ld ty3 rfl pK (by rfl)) rfl ?_
   refine x_v (r_mv rfl) rfl ?_
   refine x_v (r_min rfl rfl) rfl ?_
   refine x_v (r_nc rfl) rfl ?_
   refine x_v (r_fa fo91_4 rfl) rfl ?_
   refine x_e (r_st ty3 rfl rfl rfl rfl rfl uD oV) ?_
   refine XL.nil ?_
   refine hK10 _ _ ?_
   refine XC.keep [(0, _), (1, _)] ⟨rfl, rfl, trivial⟩ ?_
   refine XC.seq fun K11 hK11 => ?_
   refine XC.region ?_
   refine x_v (r_mv rfl) rfl ?_
   refine x_v (r_mv rfl) rfl ?_
   refine x_v (r_mv rfl) rfl ?_
   refine x_v (r_nc rfl) rfl ?_
   refine x_v (r_fa fo91_1 rfl) rfl ?_
   refine x_v (r_ld ty33 rfl pK (by rfl)) rfl ?_
   refine x_v (r_mv rfl) rfl ?_
   refine x_v (r_sll0 j Try.underlying33 ty39 rfl ⟨.i64, by rfl⟩ (by omega)) rfl ?_
   rw [show Value.slice hA j hc = .slice hA (L.take j).length hc by rw [List.length_take, hLn, Nat.min_eq_left (by omega)]]
   refine x_c (r_call0 (args := [_]) ⟨rfl, rfl⟩ (cloneo_tr (Fr := blk b 91 [.map (some mL), .int .i64 us, .map (some mO), .int .i64 hE, .int .i64 hS, .slice hA hn hc, .slice A3 G3.length c3, .int .i64 fe, .int .i64 (min se (j : Int)), .int .i64 qu, .int .i64 ro] :: sl hA hn hc 39 9 (cells odc L) :: sl A3 G3.length c3 39 9 (cells odc G3) :: k :: Fr) hA hc (L.take j) (rd_take odc_len (hrd.mono (fun w hw => Gets.own gS hw)) (by omega)) (by rw [List.length_take]; omega)) gS) rfl ?_
   rintro _ _ ⟨A54, c54, rfl, rfl⟩
   refine x_c (r_call0 (args := []) rfl (fresh_tr) gS) rfl ?_
   rintro _ _ ⟨mL2, mO2, rfl, rfl⟩
   refine x_v (r_nc rfl) rfl ?_
   refine x_v (r_fa fo91_1 rfl) rfl ?_
   refine x_e (r_st ty33 rfl rfl rfl rfl rfl uD oV) ?_
   refine x_v (r_nc rfl) rfl ?_
   refine x_v (r_fa fo91_0 rfl) rfl ?_
   refine x_e (r_st ty88 rfl rfl rfl rfl rfl uD oV) ?_
   refine XL.nil ?_
   refine hK11 _ _ ?_
   refine XC.keep [(0, _)] ⟨rfl, trivial⟩ ?_
   refine XC.slnn (A := A54) pK fun hsl54 hsA54 => ?_
   have htl : (L.take j).length ≤ 100000 := by rw [List.length_take]; omega
   refine XC.draw [blk b 91 [.map (some mL2), .int .i64 0, .map (some mO2), .int .i64 0, .int .i64 0, .slice A54 (L.take j).length c54, .slice A3 G3.length c3, .int .i64 fe, .int .i64 (min se (j : Int)), .int .i64 qu, .int .i64 ro]] true [(0, false), (1, false), (2, false), (3, false), (4, false), (5, false), (6, false), (7, true)] (by kernel_rfl) (by kernel_rfl) ?_
   refine y_v rfl (r_mv rfl) gT rfl ?_
   refine y_v rfl (r_nc rfl) gT rfl ?_
   refine y_v rfl (r_fa fo91_0 rfl) gT rfl ?_
   refine y_v rfl (r_mv rfl) gT rfl ?_
   refine y_v rfl (r_nc rfl) gT rfl ?_
   refine y_v rfl (r_fa fo91_1 rfl) gT rfl ?_
   refine y_v rfl (r_ld ty33 rfl pK (by rfl)) gT rfl ?_
   refine y_c rfl (r_call0 (args := [_, _]) ⟨rfl, rfl, rfl⟩ (ftake_tr (Fr := sl A54 (L.take j).length c54 39 9 (cells odc (L.take j)) :: sl A3 G3.length c3 39 9 (cells odc G3) :: k :: Fr) (h := ⟨mL2, 0, mO2, 0, 0, A54, (L.take j).length, c54, A3, G3.length, c3, fe, min se (j : Int), qu, ro⟩) b A54 c54 (L.take j) (n0 := 0) (Rdb.of_sl (.head _ _) hsl54 hsA54) hzz htl (by omega) fm0 szs0 rfl rfl) gS) (fun h => absurd h (by decide)) rfl ?_
   rintro _ _ ⟨rfl, s2, gL2, gO2, hs2, rfl, hm2, hz2⟩
   refine XH.nil ?_
   have hs3 : s2 = foldOf (l.ops.take j) := by rw [hs2, fst_tk, hl.o]; rfl
   exact fin0 (⟨⟨mL2, s2.used, mO2, s2.hold.1, s2.hold.2, A54, (L.take j).length, c54, A3, G3.length, c3, fe, min se (j : Int), qu, ro⟩, gL2, gO2, L.take j, G3, rfl, rfl, ⟨hl.p.take j, rfl, by rw [fst_tk, hl.o], by rw [← hs3]; exact hm2, by rw [← hs3], by rw [← hs3], hl.f, hl.q, hl.r, fun o ho => hl.rd o (List.mem_of_mem_take ho), rfl⟩, by dsimp only; omega⟩) gS
end Go.Proofs.Ytheilpcbilnadaa

/- Crowns: ledgers (plain), and an operation put behind the others. -/
import Derived.Test.YtheilpcbilnadaaCrown20
namespace Go.Proofs.Ytheilpcbilnadaa
open Go.Sx
set_option linter.unusedVariables false

/-- A ledger. -/
structure Ls where
 ops : List Pop
 fence : Int
 quota : Int
 room : Int
/-- Its operations may be, each at its place. -/
structure LP (l : Ls) : Prop where
 at_ : ∀ (i : Nat) o, l.ops[i]? = some o → o.n = (i : Int) + 1 ∧ opOk o = true
 len : l.ops.length ≤ 80
theorem size_of {o : Pop} (h : opOk o = true) : 0 ≤ o.size ∧ o.size ≤ 512 := by
 have hA : opA o := Decidable.byContradiction fun hn => by rw [opOk_no hn] at h; cases h
 by_cases h1 : o.kind = 1
 ·by_cases hO : OwnP o
  ·rw [opOk1 h1 hA hO] at h
   unfold shOk at h
   rw [Bool.and_eq_true, decide_eq_true_eq] at h
   exact ⟨h.1.1, h.1.2.1⟩
  ·rw [opOk1n h1 hO] at h; cases h
 ·by_cases h2 : o.kind = 2
  ·rw [opOk2 h2 hA] at h
   have := (of_decide_eq_true h).2.1; omega
  ·by_cases h3 : o.kind = 3
   ·rw [opOk3 h3 hA] at h
    have := (of_decide_eq_true h).2.2.2.1; omega
   ·rw [opOkn h1 h2 h3] at h; cases h
theorem szs_of : ∀ (L : List Pop) (s : Fs) (n : Nat), Szs n s → (∀ o ∈ L, 0 ≤ o.size ∧ o.size ≤ 512) → Szs (n + L.length) (L.foldl foldR s)
 | [], s, n, h, _ => h
 | o :: L, s, n, h, ho => by
  have := szs_of L (foldR s o) (n + 1) (h.step (ho o (List.mem_cons_self ..))) (fun x hx => ho x (List.mem_cons_of_mem _ hx))
  rw [List.length_cons, show n + (L.length + 1) = n + 1 + L.length by omega]; exact this
theorem szs0 : Szs 0 fs0 := ⟨fun _ _ h => (by cases h), by decide, by decide⟩
theorem LP.szs {l : Ls} (h : LP l) : Szs l.ops.length (foldOf l.ops) := by
 have := szs_of l.ops fs0 0 szs0 (fun o ho => by obtain ⟨i, hi⟩ := List.mem_iff_getElem?.1 ho; exact size_of (h.at_ i o hi).2)
 rw [Nat.zero_add] at this; exact this
/-- A ledger in memory. -/
structure LI (W0 : World) (k : HP) (l : Ls) (h : Lh) (gL gO : Value → Option Value) (L G : List Od) : Prop where
 p : LP l
 n : L.length = h.n
 o : fst1 L = l.ops
 m : FM (foldOf l.ops) gL gO
 u : h.used = (foldOf l.ops).used
 hd : (h.hE, h.hS) = (foldOf l.ops).hold
 f : h.fence = l.fence
 q : h.quota = l.quota
 r : h.room = l.room
 rd : ∀ o ∈ L, RdO W0 k o
 g : G.length = h.ln
theorem LI.len {W0 : World} {k : HP} {l : Ls} {h : Lh} {gL gO : Value → Option Value} {L G : List Od} (hl : LI W0 k l h gL gO L G) : h.n = l.ops.length := by
 rw [← hl.n, ← hl.o]; unfold fst1; rw [List.length_map]
def putL (l : Ls) (o : Pop) (e s : Int) : Ls := { l with ops := l.ops ++ [{ o with n := (l.ops.length : Int) + 1, epoch := e, site := s }] }
theorem LP.put {l : Ls} (h : LP l) {o : Pop} {e s : Int} (hn : l.ops.length < 80) (ho : opOk { o with n := (l.ops.length : Int) + 1, epoch := e, site := s } = true) : LP (putL l o e s) := by
 refine ⟨fun i x hx => ?_, by unfold putL; dsimp only; rw [List.length_append]; simp; omega⟩
 unfold putL at hx; dsimp only at hx
 by_cases hi : i < l.ops.length
 ·rw [List.getElem?_append_left hi] at hx; exact h.at_ i x hx
 ·rw [List.getElem?_append_right (by omega)] at hx
  have hi2 : i - l.ops.length = 0 := by
   have := (List.getElem?_eq_some_iff.1 hx).1; simp at this; omega
  rw [hi2] at hx
  simp at hx; subst hx
  exact ⟨by dsimp only; omega, ho⟩

section
variable {W0 : World} {k : HP} {l : Ls} {h : Lh} {gL gO : Value → Option Value} {L G : List Od} {o o2 o3 : Od} {e s : Int} {s2 : Fs} {g1 g2 : Value → Option Value}
theorem put_op (hl : LI W0 k l h gL gO L G) (ho3 : o3.1 = o2.1) (ho2 : o2 = (opAt o h.n e s, o.2)) : (putL l o.1 e s).ops = l.ops ++ [o3.1] := by
 unfold putL; rw [ho3, ho2]; unfold opAt; rw [hl.len]
theorem put_fst (hl : LI W0 k l h gL gO L G) (ho3 : o3.1 = o2.1) (ho2 : o2 = (opAt o h.n e s, o.2)) : fst1 (L ++ [o3]) = (putL l o.1 e s).ops := by
 rw [put_op hl ho3 ho2, ← hl.o]; unfold fst1; rw [List.map_append]; rfl
theorem put_s (hl : LI W0 k l h gL gO L G) (ho3 : o3.1 = o2.1) (ho2 : o2 = (opAt o h.n e s, o.2)) (hs : s2 = (fst1 [o3]).foldl foldR (foldOf l.ops)) : s2 = foldOf (putL l o.1 e s).ops := by
 rw [put_op hl ho3 ho2, hs]; unfold foldOf; rw [List.foldl_append]; rfl
theorem put_fm (hl : LI W0 k l h gL gO L G) (ho3 : o3.1 = o2.1) (ho2 : o2 = (opAt o h.n e s, o.2)) (hs : s2 = (fst1 [o3]).foldl foldR (foldOf l.ops)) (hm : FM s2 g1 g2) : FM (foldOf (putL l o.1 e s).ops) g1 g2 := by
 rw [← put_s hl ho3 ho2 hs]; exact hm
theorem put_used (hl : LI W0 k l h gL gO L G) (ho3 : o3.1 = o2.1) (ho2 : o2 = (opAt o h.n e s, o.2)) (hs : s2 = (fst1 [o3]).foldl foldR (foldOf l.ops)) : s2.used = (foldOf (putL l o.1 e s).ops).used := by
 rw [← put_s hl ho3 ho2 hs]
theorem put_hold (hl : LI W0 k l h gL gO L G) (ho3 : o3.1 = o2.1) (ho2 : o2 = (opAt o h.n e s, o.2)) (hs : s2 = (fst1 [o3]).foldl foldR (foldOf l.ops)) : (s2.hold.1, s2.hold.2) = (foldOf (putL l o.1 e s).ops).hold := by
 rw [← put_s hl ho3 ho2 hs]
end
set_option maxHeartbeats 1000000 in
theorem put_tr {W0 : World} {Fr : List HP} {k : HP} {l : Ls} {h : Lh} {gL gO : Value → Option Value} {L G : List Od} (b : Nat) (o : Od) (e s : Int) (hl : LI W0 k l h gL gO L G) (hro : RdO W0 k o) (hn : l.ops.length < 80) (hok : opOk { o.1 with n := (l.ops.length : Int) + 1, epoch := e, site := s } = true) :
  Tr W0 Try.prog 71 [.pointer (some ⟨b, 0, none⟩), .agg (odc o).toArray, .int .i64 e, .int .i64 s] (blk b 91 (ldc h) :: mpf h.mL .string gL :: mpf h.mO (.int .i64) gO :: sl h.A h.n h.c 39 9 (cells odc L) :: sl h.lA h.ln h.lc 39 9 (cells odc G) :: k :: Fr) (fun v Rs' => ∃ h2 gL2 gO2 L2 k2, (∃ a d f : Int, v = .agg #[.int .i64 a, .int .i64 d, .int .i64 f]) ∧ Rs' = blk b 91 (ldc h2) :: mpf h2.mL .string gL2 :: mpf h2.mO (.int .i64) gO2 :: sl h2.A h2.n h2.c 39 9 (cells odc L2) :: sl h2.lA h2.ln h2.lc 39 9 (cells odc G) :: k2 :: Fr ∧ Ex W0 k k2 ∧ LI W0 k2 (putL l o.1 e s) h2 gL2 gO2 L2 G ∧ h2.ln = h.ln) := by
 have hlen := hl.len
 have hLn := hl.n
 obtain ⟨o2, ho2⟩ : ∃ o2 : Od, o2 = (opAt o h.n e s, o.2) := ⟨_, rfl⟩
 have hro2 : RdO W0 k o2 := by rw [ho2]; exact hro
 have ho2c : odc o2 = [.int .i64 ((h.n : Int) + 1), .int .i64 e, .int .i64 o.1.kind, .int .i64 s, .int .i64 o.1.client, .int .i64 o.1.seq, str o.1.name, .int .i64 o.1.size, .slice o.2.1 o.1.hs.length o.2.2] := by rw [ho2]; rfl
 have hok2 : opOk o2.1 = true := by rw [ho2]; unfold opAt; rw [hlen]; exact hok
 have hzs := hl.p.szs
 rw [← hlen] at hzs
 unfold ldc
 refine Entry.tr (N := 51) (rs := [.cell 8 62]) ⟨_, Try.func71, rfl, by kernel_rfl, rfl, rfl⟩ rfl ?_
 refine XC.seq fun K1 hK1 => ?_
 refine XC.region ?_
 refine x_a (r_bx rfl rfl) rfl fun b5 => ?_
 rw [odc_def o]
 refine x_a (r_al ty62 rfl) rfl fun b8 => ?_
 refine XL.nil ?_
 refine hK1 _ _ ?_
 refine XC.keep [(0, _), (2, _), (3, _), (5, _), (8, _)] ⟨rfl, rfl, rfl, rfl, rfl, trivial⟩ ?_
 refine XC.seq fun K2 hK2 => ?_
 refine XC.region ?_
 refine x_v (r_mv rfl) rfl ?_
 refine x_v (r_nc rfl) rfl ?_
 refine x_v (r_fa fo91_1 rfl) rfl ?_
 refine x_v (r_ld ty33 rfl pK (by rfl)) rfl ?_
 refine x_v (r_lensl Try.underlying33 rfl) rfl ?_
 refine x_v (r_add rfl rfl (by omega)) rfl ?_
 refine x_v (r_mv rfl) rfl ?_
 refine x_v (r_mv rfl) rfl ?_
 refine x_v (r_fa fo39_0 rfl) rfl ?_
 refine x_e (r_st ty3 rfl rfl rfl rfl rfl uD oV) ?_
 refine x_v (r_fa fo39_1 rfl) rfl ?_
 refine x_e (r_st ty3 rfl rfl rfl rfl rfl uD oV) ?_
 refine x_v (r_fa fo39_3 rfl) rfl ?_
 refine x_e (r_st ty3 rfl rfl rfl rfl rfl uD oV) ?_
 refine XL.nil ?_
 refine hK2 _ _ ?_
 refine XC.keep [(0, _), (5, _), (8, _)] ⟨rfl, rfl, rfl, trivial⟩ ?_
 refine XC.seq fun K3 hK3 => ?_
 refine XC.draw [blk b 91 [.map (some h.mL), .int .i64 h.used, .map (some h.mO), .int .i64 h.hE, .int .i64 h.hS, .slice h.A h.n h.c, .slice h.lA h.ln h.lc, .int .i64 h.fence, .int .i64 h.settled, .int .i64 h.quota, .int .i64 h.room], blk b5 39 [.int .i64 ((h.n : Int) + 1), .int .i64 e, .int .i64 o.1.kind, .int .i64 s, .int .i64 o.1.client, .int .i64 o.1.seq, str o.1.name, .int .i64 o.1.size, .slice o.2.1 o.1.hs.length o.2.2]] true [(0, false), (1, false), (2, false), (3, false), (4, false), (5, false), (6, true), (7, true), (8, true), (9, false), (10, false), (11, true)] (by kernel_rfl) (by kernel_rfl) ?_
 refine y_v rfl (r_mv rfl) gT rfl ?_
 refine y_v rfl (r_mv rfl) gT rfl ?_
 refine y_v rfl (r_nc rfl) gT rfl ?_
 refine y_v rfl (r_fa fo91_1 rfl) gT rfl ?_
 refine y_v rfl (r_ld ty33 rfl pK (by rfl)) gT rfl ?_
 refine y_v rfl (r_lda (l' := [_, _, _, _, _, _, _, _, _]) ty39 rfl pK rfl (Sub.get sU)) gT rfl ?_
 refine y_a rfl (r_bs (vs := [_]) rfl ⟨rfl, rfl⟩ (bs33_1_0 _ _ _ _ _ _ _ _ _ _ _)) (fun _ _ _ h => Gets.own gS h) rfl fun b26 => ?_
 rw [← ho2c]
 refine y_c rfl (r_call0 (args := [_]) ⟨rfl, rfl⟩ (own_tr (k := k) (Fr := blk b26 39 (odc o2) :: blk b 91 [.map (some h.mL), .int .i64 h.used, .map (some h.mO), .int .i64 h.hE, .int .i64 h.hS, .slice h.A h.n h.c, .slice h.lA h.ln h.lc, .int .i64 h.fence, .int .i64 h.settled, .int .i64 h.quota, .int .i64 h.room] :: blk b5 39 (odc o2) :: blk b8 62 [.int .i64 0, .int .i64 0, .int .i64 0] :: mpf h.mL .string gL :: mpf h.mO (.int .i64) gO :: sl h.A h.n h.c 39 9 (cells odc L) :: sl h.lA h.ln h.lc 39 9 (cells odc G) :: Fr) (some ⟨b26, 0, none⟩) 1 [o2] (rd_one o2 pK) (fun q hq => by rw [List.mem_singleton.1 hq]; exact hro2) (by simp only [List.length_singleton]; omega)) gS) (by rintro _ _ _ _ ⟨A27, c27, k27, L27, rfl, rfl, hx27, hf27, hk27⟩ h; exact Gets.own gS h) rfl ?_
 rintro _ _ ⟨A27, c27, k27, L27, rfl, rfl, hx27, hf27, hk27⟩
 obtain ⟨o3, rfl, ho3⟩ := one_of hf27
 have hro3 := hk27 o3 (List.mem_singleton.2 rfl)
 refine XH.slnn (A := A27) pK fun hl27 hA27 => ?_
 refine y_a rfl (r_app Try.underlying33 ty39 rfl (by decide) rfl rfl pK (Rdb.of_sl pK hl27 hA27) (cells_one' odc_one [o3]) (by unfold maxLen; simp only [List.length_singleton]; omega) (by simp only [List.length_singleton]; omega)) (fun _ _ _ h => Gets.own gS h) rfl fun ⟨A28, c28⟩ => ?_
 dsimp only [List.length_singleton]
 rw [← cells_app, ho2c]
 refine y_v rfl (r_nc rfl) gT rfl ?_
 refine y_v rfl (r_fa fo91_1 rfl) gT rfl ?_
 refine y_e rfl (r_st ty33 rfl rfl rfl rfl rfl uD oV) (fun h => absurd h (by decide)) ?_
 refine XH.nil ?_
 refine hK3 _ _ ?_
 refine XC.keep [(0, _), (5, _), (8, _)] ⟨rfl, rfl, rfl, trivial⟩ ?_
 refine XC.seq fun K4 hK4 => ?_
 refine XC.slnn (A := A28) pK fun hl28 hA28 => ?_
 have hrd3 : Rdb W0 [sl A28 (h.n + 1) c28 39 9 (cells odc (L ++ [o3]))] A28 (h.n + 1) 9 (cells odc (L ++ [o3])) := Rdb.of_sl (.head _ _) hl28 hA28
 obtain ⟨sb, so, hsa, hat⟩ := hrd3.at_ (by omega)
 subst hsa
 have hidx : (L ++ [o3])[h.n]? = some o3 := by rw [← hLn]; simp
 have hz3 : 0 ≤ o3.1.size ∧ o3.1.size ≤ 512 := by rw [ho3]; exact size_of hok2
 refine XC.draw [blk b 91 [.map (some h.mL), .int .i64 h.used, .map (some h.mO), .int .i64 h.hE, .int .i64 h.hS, .slice (some ⟨sb, so, none⟩) (h.n + 1) c28, .slice h.lA h.ln h.lc, .int .i64 h.fence, .int .i64 h.settled, .int .i64 h.quota, .int .i64 h.room], sl (some ⟨sb, so, none⟩) (h.n + 1) c28 39 9 (cells odc (L ++ [o3]))] true [(0, false), (1, false), (2, false), (3, false), (4, false), (5, false), (6, false), (7, false), (8, false), (9, false), (10, false), (11, false), (12, false), (13, false), (14, false), (15, true), (16, true)] (by kernel_rfl) (by kernel_rfl) ?_
 refine y_v rfl (r_mv rfl) gT rfl ?_
 refine y_v rfl (r_nc rfl) gT rfl ?_
 refine y_v rfl (r_fa fo91_0 rfl) gT rfl ?_
 refine y_v rfl (r_mv rfl) gT rfl ?_
 refine y_v rfl (r_nc rfl) gT rfl ?_
 refine y_v rfl (r_fa fo91_1 rfl) gT rfl ?_
 refine y_v rfl (r_ld ty33 rfl pK (by rfl)) gT rfl ?_
 refine y_v rfl (r_mv rfl) gT rfl ?_
 refine y_v rfl (r_nc rfl) gT rfl ?_
 refine y_v rfl (r_fa fo91_1 rfl) gT rfl ?_
 refine y_v rfl (r_ld ty33 rfl pK (by rfl)) gT rfl ?_
 refine y_v rfl (r_lensl Try.underlying33 rfl) gT rfl ?_
 refine y_v rfl (r_sub rfl rfl (by omega)) gT rfl ?_
 refine y_v rfl (r_ia (k := h.n) Try.underlying33 ty39 rfl rfl (by omega) (by omega)) gT rfl ?_
 refine y_v rfl (r_ldar (l' := odc o3) ty39 rfl rfl (fun w hw j u hu => by rw [Nat.add_assoc]; exact hat w (Gets.own gS hw) _ u (cells_get odc_len (L ++ [o3]) _ _ hidx j u hu))) gT rfl ?_
 rw [odc_def o3]
 refine y_a rfl (r_bs (vs := [_]) rfl ⟨rfl, rfl⟩ (bs33_1_0 _ _ _ _ _ _ _ _ _ _ _)) (fun _ _ _ h => Gets.own gS h) rfl fun b46 => ?_
 rw [← odc_def o3]
 refine y_c rfl (r_call0 (args := [_, _]) ⟨rfl, rfl, rfl⟩ (ftake_tr (Fr := blk b46 39 (odc o3) :: blk b5 39 [.int .i64 ((h.n : Int) + 1), .int .i64 e, .int .i64 o.1.kind, .int .i64 s, .int .i64 o.1.client, .int .i64 o.1.seq, str o.1.name, .int .i64 o.1.size, .slice o.2.1 o.1.hs.length o.2.2] :: blk b8 62 [.int .i64 0, .int .i64 0, .int .i64 0] :: sl (some ⟨sb, so, none⟩) (h.n + 1) c28 39 9 (cells odc (L ++ [o3])) :: sl h.lA h.ln h.lc 39 9 (cells odc G) :: k27 :: Fr) (h := { h with A := some ⟨sb, so, none⟩, n := h.n + 1, c := c28 }) b (some ⟨b46, 0, none⟩) 1 [o3] (n0 := h.n) (rd_one o3 pK) (fun q hq => by rw [List.mem_singleton.1 hq]; exact hz3) (by simp) (by omega) hl.m hzs hl.u hl.hd) gS) (fun h => absurd h (by decide)) rfl ?_
 rintro _ _ ⟨rfl, s2, gL2, gO2, hs2, rfl, hm2, hz2⟩
 refine XH.nil ?_
 refine hK4 _ _ ?_
 refine XC.keep [(5, _), (8, _)] ⟨rfl, rfl, trivial⟩ ?_
 refine XC.seq fun K5 hK5 => ?_
 refine XC.region ?_
 refine x_v (r_lda (l' := [_, _, _, _, _, _, _, _, _]) ty39 rfl pK rfl (Sub.get sU)) rfl ?_
 refine x_c (r_call0 (args := [_]) ⟨rfl, rfl⟩ (spot_tr (opAt o h.n e s, o.2)) gS) rfl ?_
 rintro _ _ ⟨rfl, rfl⟩
 dsimp only [opAt]
 refine x_v (r_bd (vs := [_]) rfl ⟨rfl, rfl⟩ (bd62_1 _ _)) rfl ?_
 refine x_e (r_st ty62 rfl rfl rfl rfl rfl uD oV) ?_
 refine XL.nil ?_
 refine hK5 _ _ ?_
 refine XC.keep [(8, _)] ⟨rfl, trivial⟩ ?_
 refine XC.ret ?_
 exact finc1 ty62 rfl pK (by rfl) (⟨{ h with A := some ⟨sb, so, none⟩, n := h.n + 1, c := c28, used := s2.used, hE := s2.hold.1, hS := s2.hold.2 }, gL2, gO2, L ++ [o3], k27, ⟨_, _, _, rfl⟩, rfl, hx27, ⟨hl.p.put hn hok, by rw [List.length_append, hLn]; rfl, put_fst hl ho3 ho2, put_fm hl ho3 ho2 hs2 hm2, put_used hl ho3 ho2 hs2, put_hold hl ho3 ho2 hs2, hl.f, hl.q, hl.r, fun q hq => by (rcases List.mem_append.1 hq with hh | hh; exact (hl.rd q hh).ex hx27; rw [List.mem_singleton.1 hh]; exact hro3), hl.g⟩, rfl⟩) gS
end Go.Proofs.Ytheilpcbilnadaa

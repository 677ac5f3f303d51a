/- Crowns: the reference's ledger: what a name has, what is put behind. -/
import Derived.Test.YtheilpcbilnadaaCrown27
namespace Go.Proofs.Ytheilpcbilnadaa
open Go.Sx
set_option linter.unusedVariables false

/-- The reference's ledger in memory. -/
structure RI (W0 : World) (k : HP) (l : Ls) (r : Rh) (L G : List Od) : Prop where
 p : LP l
 n : L.length = r.n
 o : fst1 L = l.ops
 f : r.fence = l.fence
 q : r.quota = l.quota
 rm : r.room = l.room
 rd : ∀ o ∈ L, RdO W0 k o
 g : G.length = r.gn
theorem RI.len {W0 : World} {k : HP} {l : Ls} {r : Rh} {L G : List Od} (hl : RI W0 k l r L G) : r.n = l.ops.length := by
 rw [← hl.n, ← hl.o]; unfold fst1; rw [List.length_map]
def RPost (W0 : World) (k : HP) (Fr : List HP) (b : Nat) (gn : Nat) (l : Ls) (v : Value) (Rs' : List HP) : Prop :=
 ∃ r2 L2 G2 k2, (∃ a d f : Int, v = .agg #[.int .i64 a, .int .i64 d, .int .i64 f]) ∧ Rs' = blk b 93 (rdc r2) :: sl r2.A r2.n r2.c 39 9 (cells odc L2) :: sl r2.gA r2.gn r2.gc 39 9 (cells odc G2) :: k2 :: Fr ∧ Ex W0 k k2 ∧ RI W0 k2 l r2 L2 G2 ∧ r2.gn ≤ gn + 80
theorem fold_snoc1 {L : List Od} {i : Nat} {o : Od} (h : L[i]? = some o) : foldOf (fst1 (L.take (i + 1))) = foldR (foldOf (fst1 (L.take i))) o.1 := fold_one fs0 h
theorem live3 {s : Fs} {o : Pop} (h : o.kind = 3) (nm : List UInt8) : (foldR s o).live nm = s.live nm := by unfold foldR; rw [if_pos h]
theorem liveN {s : Fs} {o : Pop} {nm : List UInt8} (h : ¬ nm = o.name) : (foldR s o).live nm = s.live nm := by
 unfold foldR; split
 ·rfl
 ·dsimp only [liveUp]; rw [if_neg h]
theorem liveY {s : Fs} {o : Pop} (h : ¬ o.kind = 3) : (foldR s o).live o.name = if o.kind = 1 then some o else none := by
 unfold foldR; rw [if_neg h]; dsimp only [liveUp]; rw [if_pos rfl]
theorem rsheet_tr {W0 : World} {Fr : List HP} {r : Rh} (b : Nat) (L : List Od) (nm : List UInt8) (hLn : L.length = r.n) (hn : r.n ≤ 100000) : Tr W0 Try.prog 79 [.pointer (some ⟨b, 0, none⟩), str nm] (blk b 93 (rdc r) :: sl r.A r.n r.c 39 9 (cells odc L) :: Fr) (fun v Rs' => (∃ A n c, ∃ z : Int, v = .tuple #[.agg #[.int .i64 z, .slice A n c], .bool ((foldOf (fst1 L)).live nm).isSome] ∧ ∀ o, (foldOf (fst1 L)).live nm = some o → z = o.size) ∧ Rs' = blk b 93 (rdc r) :: sl r.A r.n r.c 39 9 (cells odc L) :: Fr) := by
 unfold rdc
 obtain ⟨A, n, c, gA, gn, gc, f, st, q, rm⟩ := r
 dsimp only at hLn hn ⊢
 subst hLn
 refine Entry.tr (N := 56) (rs := [.cell 4 37, .tmp 5]) ⟨_, Try.func79, rfl, by kernel_rfl, rfl, rfl⟩ rfl ?_
 refine XC.seq fun K1 hK1 => ?_
 refine XC.region ?_
 refine x_a (r_al ty37 rfl) rfl fun b4 => ?_
 refine x_v (r_as rfl) rfl ?_
 refine XL.nil ?_
 refine hK1 _ _ ?_
 refine XC.keep [(0, _), (1, _), (4, _)] ⟨rfl, rfl, rfl, trivial⟩ ?_
 refine XC.seq fun K2 hK2 => ?_
 refine XC.seq fun K3 hK3 => ?_
 refine XC.region ?_
 refine x_v (r_mv rfl) rfl ?_
 refine x_v (r_nc rfl) rfl ?_
 refine x_v (r_fa fo93_0 rfl) rfl ?_
 refine x_v (r_ld ty33 rfl pK (by rfl)) rfl ?_
 refine x_v (r_lensl Try.underlying33 rfl) rfl ?_
 refine x_v (r_sub rfl rfl (by omega)) rfl ?_
 refine x_v (r_as rfl) rfl ?_
 refine XL.nil ?_
 refine hK3 _ _ ?_
 refine XC.keep [(0, _), (1, _), (4, _), (6, _)] ⟨rfl, rfl, rfl, rfl, trivial⟩ ?_
 refine XC.block ?_
 refine XC.loop (σ := Nat) (fun s => [(0, .pointer (some ⟨b, 0, none⟩)), (1, str nm), (4, .pointer (some ⟨b4, 0, none⟩)), (6, .int .i64 ((s : Int) - 1))]) (fun s => blk b4 37 [.int .i64 0, .slice none 0 0] :: blk b 93 [.slice A L.length c, .slice gA gn gc, .int .i64 f, .int .i64 st, .int .i64 q, .int .i64 rm] :: sl A L.length c 39 9 (cells odc L) :: Fr) (fun s => s ≤ L.length ∧ (foldOf (fst1 L)).live nm = (foldOf (fst1 (L.take s))).live nm) (fun s => s) L.length ?_ ⟨rfl, rfl, rfl, rfl, trivial⟩ gS ?_
 ·exact ⟨Nat.le_refl _, by rw [List.take_length]⟩
 rintro s ⟨hi, hg⟩
 refine XC.seq fun K4 hK4 => ?_
 refine XC.seq fun K5 hK5 => ?_
 refine XC.slnn (A := A) pK fun hsl hsA => ?_
 refine XC.region ?_
 refine x_v (r_mv rfl) rfl ?_
 refine x_v (r_ge rfl rfl) rfl ?_
 refine XL.nil ?_
 refine hK5 _ _ ?_
 refine XC.keep [(0, _), (1, _), (4, _), (6, _), (14, _)] ⟨rfl, rfl, rfl, rfl, rfl, trivial⟩ ?_
 refine XC.cond_d rfl (fun hc1 => ?_) (fun hc1 => ?_)
 ·refine XC.skip ?_
  refine hK4 _ _ ?_
  refine XC.keep [(0, _), (1, _), (4, _), (6, _)] ⟨rfl, rfl, rfl, rfl, trivial⟩ ?_
  refine XC.seq fun K6 hK6 => ?_
  refine XC.block ?_
  refine XC.seq fun K7 hK7 => ?_
  obtain ⟨i, rfl⟩ : ∃ i, s = i + 1 := ⟨s - 1, by omega⟩
  obtain ⟨o, ho⟩ : ∃ o, L[i]? = some o := ⟨_, List.getElem?_eq_getElem (by omega)⟩
  have hsn := fold_snoc1 ho
  have hrd : Rdb W0 [sl A L.length c 39 9 (cells odc L)] A L.length 9 (cells odc L) := Rdb.of_sl (.head _ _) hsl hsA
  obtain ⟨sb, so, hpA, hat⟩ := hrd.at_ (by omega)
  refine XC.region ?_
  refine x_v (r_mv rfl) rfl ?_
  refine x_v (r_nc rfl) rfl ?_
  refine x_v (r_fa fo93_0 rfl) rfl ?_
  refine x_v (r_ld ty33 rfl pK (by rfl)) rfl ?_
  refine x_v (r_mv rfl) rfl ?_
  refine x_v (r_ia (k := i) Try.underlying33 ty39 (by rw [hpA]; rfl) rfl (by omega) (by omega)) rfl ?_
  refine x_v (r_fa fo39_2 rfl) rfl ?_
  refine x_v (r_ldr ty3 rfl (fun w hw => by rw [Nat.add_assoc]; exact hat w (Gets.own gS hw) _ _ (cells_get odc_len L _ _ ho 2 _ rfl))) rfl ?_
  refine x_v (r_ne rfl rfl) rfl ?_
  refine x_v (r_mv rfl) rfl ?_
  refine XL.splitd 26 rfl (fun hg26 => ?_) (fun hg26 => ?_)
  ·refine x_want rfl rfl rfl ?_
   refine x_v (r_mv rfl) rfl ?_
   refine x_want rfl rfl rfl ?_
   refine x_v (r_nc rfl) rfl ?_
   refine x_want rfl rfl rfl ?_
   refine x_v (r_fa fo93_0 rfl) rfl ?_
   refine x_want rfl rfl rfl ?_
   refine x_v (r_ld ty33 rfl pK (by rfl)) rfl ?_
   refine x_want rfl rfl rfl ?_
   refine x_v (r_mv rfl) rfl ?_
   refine x_want rfl rfl rfl ?_
   refine x_v (r_ia (k := i) Try.underlying33 ty39 (by rw [hpA]; rfl) rfl (by omega) (by omega)) rfl ?_
   refine x_want rfl rfl rfl ?_
   refine x_v (r_fa fo39_6 rfl) rfl ?_
   refine x_want rfl rfl rfl ?_
   refine x_v (r_ldr ty9 rfl (fun w hw => by rw [Nat.add_assoc]; exact hat w (Gets.own gS hw) _ _ (cells_get odc_len L _ _ ho 6 _ rfl))) rfl ?_
   refine x_want rfl rfl rfl ?_
   refine x_v (r_mv rfl) rfl ?_
   refine x_want rfl rfl rfl ?_
   refine x_v (r_seq rfl rfl) rfl ?_
   refine x_v (r_pk_t rfl rfl) rfl ?_
   refine XL.nil ?_
   refine hK7 _ _ ?_
   refine XC.keep [(0, _), (1, _), (4, _), (6, _), (37, _)] ⟨rfl, rfl, rfl, rfl, rfl, trivial⟩ ?_
   refine XC.cond_d rfl (fun hc2 => ?_) (fun hc2 => ?_)
   ·refine XC.seq fun K8 hK8 => ?_
    refine XC.draw [blk b 93 [.slice A L.length c, .slice gA gn gc, .int .i64 f, .int .i64 st, .int .i64 q, .int .i64 rm], sl A L.length c 39 9 (cells odc L)] false [(0, false), (1, false), (2, false), (3, false), (4, false), (5, false), (6, false), (7, false), (8, false), (9, false), (10, false), (11, false), (12, false), (13, false), (14, false), (15, false), (16, false), (17, true), (18, false)] (by kernel_rfl) (by kernel_rfl) ?_
    refine y_v rfl (r_mv rfl) gT rfl ?_
    refine y_v rfl (r_nc rfl) gT rfl ?_
    refine y_v rfl (r_fa fo93_0 rfl) gT rfl ?_
    refine y_v rfl (r_ld ty33 rfl pK (by rfl)) gT rfl ?_
    refine y_v rfl (r_mv rfl) gT rfl ?_
    refine y_v rfl (r_ia (k := i) Try.underlying33 ty39 (by rw [hpA]; rfl) rfl (by omega) (by omega)) gT rfl ?_
    refine y_v rfl (r_fa fo39_7 rfl) gT rfl ?_
    refine y_v rfl (r_ldar (l' := [.int .i64 o.1.size, .slice o.2.1 o.1.hs.length o.2.2]) ty37 rfl rfl (fun w hw j u hu => by rw [Nat.add_assoc, Nat.add_assoc]; exact hat w (Gets.own gS hw) _ u (cells_get odc_len L _ _ ho (7 + j) u (by rcases j with _ | _ | j; exact hu; exact hu; simp at hu)))) gT rfl ?_
    refine y_v rfl (r_mv rfl) gT rfl ?_
    refine y_v rfl (r_nc rfl) gT rfl ?_
    refine y_v rfl (r_fa fo93_0 rfl) gT rfl ?_
    refine y_v rfl (r_ld ty33 rfl pK (by rfl)) gT rfl ?_
    refine y_v rfl (r_mv rfl) gT rfl ?_
    refine y_v rfl (r_ia (k := i) Try.underlying33 ty39 (by rw [hpA]; rfl) rfl (by omega) (by omega)) gT rfl ?_
    refine y_v rfl (r_fa fo39_2 rfl) gT rfl ?_
    refine y_v rfl (r_ldr ty3 rfl (fun w hw => by rw [Nat.add_assoc]; exact hat w (Gets.own gS hw) _ _ (cells_get odc_len L _ _ ho 2 _ rfl))) gT rfl ?_
    refine y_v rfl (r_eq rfl rfl) gT rfl ?_
    refine y_e rfl (r_st ty37 rfl rfl rfl rfl rfl uD oV) (fun _ _ h => Gets.own gS h) ?_
    refine y_v rfl (r_as rfl) gT rfl ?_
    refine XH.nil ?_
    refine hK8 _ _ ?_
    refine XC.keep [(4, _), (5, _)] ⟨rfl, rfl, trivial⟩ ?_
    refine XC.ret ?_
    have hlv : (foldOf (fst1 L)).live nm = if o.1.kind = 1 then some o.1 else none := by rw [hg, hsn, ← hc2]; exact liveY hg26
    exact finc2 ty37 rfl rfl pK (by rfl) (⟨⟨o.2.1, o.1.hs.length, o.2.2, o.1.size, by (rw [hlv]; by_cases hk : o.1.kind = 1; (rw [if_pos hk, decide_eq_true hk]; rfl); (rw [if_neg hk, decide_eq_false hk]; rfl)), fun x hx => by (rw [hlv] at hx; split at hx; (injection hx with hx; rw [hx]); cases hx)⟩, rfl⟩) gS
   ·refine XC.skip ?_
    refine hK6 _ _ ?_
    refine XC.keep [(0, _), (1, _), (4, _), (6, _)] ⟨rfl, rfl, rfl, rfl, trivial⟩ ?_
    refine XC.region ?_
    refine x_v (r_mv rfl) rfl ?_
    refine x_v (r_sub rfl rfl (by omega)) rfl ?_
    refine x_v (r_as rfl) rfl ?_
    refine XL.nil ?_
    rw [show (((i + 1 : Nat) : Int) - 1 - 1) = (i : Int) - 1 by omega]
    refine ⟨i, ?_, ?_, ⟨rfl, rfl, rfl, rfl, trivial⟩, gS⟩
    ·exact ⟨by omega, by (rw [hg, hsn]; by_cases h3 : o.1.kind = 3; exact live3 h3 nm; exact liveN (fun e => by first | omega | simp_all))⟩
    ·omega
  ·refine x_unwant rfl rfl rfl rfl rfl ?_
   refine x_unwant rfl rfl rfl rfl rfl ?_
   refine x_unwant rfl rfl rfl rfl rfl ?_
   refine x_unwant rfl rfl rfl rfl rfl ?_
   refine x_unwant rfl rfl rfl rfl rfl ?_
   refine x_unwant rfl rfl rfl rfl rfl ?_
   refine x_unwant rfl rfl rfl rfl rfl ?_
   refine x_unwant rfl rfl rfl rfl rfl ?_
   refine x_unwant rfl rfl rfl rfl rfl ?_
   refine x_unwant rfl rfl rfl rfl rfl ?_
   refine x_v (r_pk_f rfl rfl) rfl ?_
   refine XL.nil ?_
   refine hK7 _ _ ?_
   refine XC.keep [(0, _), (1, _), (4, _), (6, _), (37, _)] ⟨rfl, rfl, rfl, rfl, rfl, trivial⟩ ?_
   refine XC.cond_f rfl ?_
   refine XC.skip ?_
   refine hK6 _ _ ?_
   refine XC.keep [(0, _), (1, _), (4, _), (6, _)] ⟨rfl, rfl, rfl, rfl, trivial⟩ ?_
   refine XC.region ?_
   refine x_v (r_mv rfl) rfl ?_
   refine x_v (r_sub rfl rfl (by omega)) rfl ?_
   refine x_v (r_as rfl) rfl ?_
   refine XL.nil ?_
   rw [show (((i + 1 : Nat) : Int) - 1 - 1) = (i : Int) - 1 by omega]
   refine ⟨i, ?_, ?_, ⟨rfl, rfl, rfl, rfl, trivial⟩, gS⟩
   ·exact ⟨by omega, by (rw [hg, hsn]; by_cases h3 : o.1.kind = 3; exact live3 h3 nm; exact liveN (fun e => by first | omega | simp_all))⟩
   ·omega
 ·refine XC.exit rfl ?_
  refine hK2 _ _ ?_
  refine XC.keep [(4, _)] ⟨rfl, trivial⟩ ?_
  refine XC.seq fun K9 hK9 => ?_
  refine XC.region ?_
  refine x_v (r_bd (vs := []) rfl rfl bd37_z) rfl ?_
  refine x_e (r_st ty37 rfl rfl rfl rfl rfl uD oV) ?_
  refine x_v (r_as rfl) rfl ?_
  refine XL.nil ?_
  refine hK9 _ _ ?_
  refine XC.keep [(4, _), (5, _)] ⟨rfl, rfl, trivial⟩ ?_
  refine XC.ret ?_
  obtain rfl : s = 0 := by omega
  have hlv : (foldOf (fst1 L)).live nm = none := hg
  exact finc2 ty37 rfl rfl pK (by rfl) (⟨⟨none, 0, 0, 0, by rw [hlv]; rfl, fun x hx => by rw [hlv] at hx; cases hx⟩, rfl⟩) gS
end Go.Proofs.Ytheilpcbilnadaa

/- The drive's functions: 41, 16. -/
import Derived.Test.YtcmdmhmgffjknaaGreatDoorFacts
import Derived.Test.YtcmdmhmgffjknaaGreatDoorWal17
namespace Go.Proofs.YtcmdmhmgffjknaaGreatDoor
open Go.Sx
set_option linter.unusedVariables false

theorem bv_take (l : List UInt8) (m : Nat) : (bv l).take m = bv (l.take m) := by simp [bv, List.map_take]
def cutM (x : Fi) (keep : Int) : Nat := x.sure + (min (max keep 0) ((x.bytes.length - x.sure : Nat) : Int)).toNat
theorem cut_tr {W0 : World} (b : Nat) (A : Option Addr) (c : Nat) (x : Fi) (keep : Int) (Fr : List HP) (hs : x.sure ≤ x.bytes.length) (hn : x.bytes.length ≤ maxS) : Tr W0 Tryz.prog 41 [.pointer (some ⟨b, 0, none⟩), .int .i64 keep] (blk b 84 (fcells A c x) :: sl A x.bytes.length c 5 1 (bv x.bytes) :: Fr)
    (fun v Rs' => v = .tuple #[] ∧ Rs' = blk b 84 (fcells A c ⟨x.bytes.take (cutM x keep), cutM x keep, x.old⟩) :: sl A (x.bytes.take (cutM x keep)).length c 5 1 (bv (x.bytes.take (cutM x keep))) :: Fr) := by
  have hmax : maxS = 140737488355328 := rfl
  have hm : cutM x keep ≤ x.bytes.length := by unfold cutM; omega
  have hml : (x.bytes.take (cutM x keep)).length = cutM x keep := by rw [List.length_take]; omega
  have hmv : ((cutM x keep : Nat) : Int) = (x.sure : Int) + min (max keep 0) ((x.bytes.length - x.sure : Nat) : Int) := by unfold cutM; omega
  unfold fcells
  dsimp only
  rw [hml]
  generalize cutM x keep = m at *
  refine Entry.tr (N := 24) (rs := []) ⟨_, Tryz.func41, rfl, by kernel_rfl, rfl, rfl⟩ rfl ?_
  refine XC.seq fun K1 hK1 => ?_
  refine XC.sllen pK fun hl1 hl2 hl3 => ?_
  refine XC.draw (blk b 84 [.slice A x.bytes.length c, .int .i64 (x.sure : Int), .bool x.old] :: []) true [(0, false), (1, false), (2, false), (3, false), (4, false), (5, false), (6, false), (7, false), (8, false), (9, false), (10, false), (11, false), (12, true), (13, false), (14, false), (15, false), (16, false), (17, false), (18, true)] (by kernel_rfl) (by kernel_rfl) ?_
  refine y_v rfl (r_mv rfl) gT rfl ?_
  refine y_v rfl (r_mv rfl) gT rfl ?_
  refine y_v rfl (r_nc rfl) gT rfl ?_
  refine y_v rfl (r_fa fo82_0 rfl) gT rfl ?_
  refine y_v rfl (r_ld ty80 rfl pK (by rfl)) gT rfl ?_
  refine y_v rfl (r_mv rfl) gT rfl ?_
  refine y_v rfl (r_nc rfl) gT rfl ?_
  refine y_v rfl (r_fa fo82_1 rfl) gT rfl ?_
  refine y_v rfl (r_ld ty3 rfl pK (by rfl)) gT rfl ?_
  refine y_v rfl (r_mv rfl) gT rfl ?_
  refine y_v rfl (r_max rfl rfl) gT rfl ?_
  refine y_v rfl (r_mv rfl) gT rfl ?_
  refine y_c rfl (r_call0 (args := [_]) ⟨rfl, rfl⟩ (waits_tr b A x.bytes.length c x.sure x.old (sl A x.bytes.length c 5 1 (bv x.bytes) :: Fr) hs hn) gS) (by rintro _ _ _ _ ⟨rfl, rfl⟩ h; exact Gets.own gS h) rfl ?_
  rintro _ _ ⟨rfl, rfl⟩
  refine y_v rfl (r_min rfl rfl) gT rfl ?_
  refine y_v rfl (yv (v' := .int .i64 (m : Int)) (r_add rfl rfl (by omega)) (congrArg _ hmv.symm)) gT rfl ?_
  refine y_v rfl (r_sll0 m Tryz.underlying80 ty5 rfl ⟨_, by rfl⟩ (by omega)) gT rfl ?_
  refine y_v rfl (r_nc rfl) gT rfl ?_
  refine y_v rfl (r_fa fo82_0 rfl) gT rfl ?_
  refine y_e rfl (r_st ty80 rfl rfl rfl rfl rfl uD oV) (fun h => absurd h (by decide)) ?_
  refine XH.nil ?_
  refine hK1 _ _ ?_
  refine XC.keep [(0, _)] ⟨rfl, trivial⟩ ?_
  refine XC.mem (sl A m c 5 1 (bv (x.bytes.take m)) :: blk b 84 [.slice A m c, .int .i64 (x.sure : Int), .bool x.old] :: Fr) (fun w hw => Own.imp (R := sl A x.bytes.length c 5 1 (bv x.bytes)) (Gets.own gS hw) (fun h hh => by have := sl_take (m := m) hm hh; rw [Nat.mul_one, bv_take] at this; exact this)) ?_
  refine XC.region ?_
  refine x_v (r_mv rfl) rfl ?_
  refine x_c (r_call0 (args := [_]) ⟨rfl, rfl⟩ (settle_tr b A m c x.sure x.old (sl A m c 5 1 (bv (x.bytes.take m)) :: Fr)) gS) rfl ?_
  rintro _ _ ⟨rfl, hRs⟩
  rw [hRs]
  refine XL.nil ?_
  exact fin0 (⟨rfl, rfl⟩) gS
theorem crash_th : ∃ fn c, Tryz.prog.funcs[16]? = some fn ∧ (fn.name == "runtime.NumGoroutine") = false ∧ fn.body = some c := ⟨_, _, Tryz.func16, by kernel_rfl, rfl⟩
def gE (t : En) : List UInt8 × Fi := (t.1, t.2.2)
def cutP (x : Fi) (ks : List Int) : Fi × List Int := if x.sure < x.bytes.length then (cutF x (ks.headD 0), ks.tail) else (x, ks)
theorem crashL_cons (n : List UInt8) (x : Fi) (r : List (List UInt8 × Fi)) (ks : List Int) : crashL ((n, x) :: r) ks = (if (cutP x ks).1.old = true then [(n, (cutP x ks).1)] else []) ++ crashL r (cutP x ks).2 := by
  unfold cutP
  rw [crashL]
  split <;> split <;> simp_all
theorem cutP_ok {n : List UInt8} {x : Fi} (ks : List Int) (h : FiOk (n, x)) : FiOk (n, (cutP x ks).1) := by
  unfold cutP
  obtain ⟨h1, h2, h3⟩ := h
  dsimp only at h1 h2 h3
  split
  · refine ⟨?_, ?_, h3⟩
    · simp only [cutF, List.length_take]; omega
    · simp only [cutF, List.length_take]; omega
  · exact ⟨h1, h2, h3⟩
theorem DIs.re {D : Dk} {L : List (List UInt8 × Fi)} {f : Value → Option Value} {T : List En} (h : DIs { D with files := L } f T) : DIs { D with files := T.map gE } f T := by
  have e : T.map gE = L := h.files
  rw [e]; exact h
theorem head_at {kr : List Int} (h : 0 < kr.length) : kr[0]? = some (kr.headD 0) := by
  cases kr with
  | nil => simp at h
  | cons a r => rfl
theorem rd_tail {W0 : World} {Fr : List HP} {A : Option Addr} {kr : List Int} {c : Nat} (h : Rdb W0 Fr A kr.length 1 (iv kr)) (hc : kr.length ≤ c) (h0 : 0 < kr.length) : Rdb W0 Fr (if c = 1 then A else A.map (·.add (1 * 1))) kr.tail.length 1 (iv kr.tail) := by
  have h1 := h.cut (lo := 1) (hi := kr.length) (cap := c) h0 (Nat.le_refl _) hc
  have e : ((iv kr).drop (1 * 1)).take ((kr.length - 1) * 1) = iv kr.tail := by
    rw [List.take_of_length_le (by simp [iv])]; simp [iv, List.map_tail]
  rw [e] at h1
  rw [List.length_tail]; exact h1
theorem crash_tr {W0 : World} (d : Nat) (D : Dk) (A0 : Option Addr) (c0 : Nat) (ks : List Int) (Fr : List HP) (hb : D.files.length ≤ 1000000000) (hr : Rdb W0 Fr A0 ks.length 1 (iv ks)) (hc : ks.length ≤ c0) : Tr W0 Tryz.prog 16 [.pointer (some ⟨d, 0, none⟩), .slice A0 ks.length c0] (dsk d D :: Fr) (fun v Rs' => v = .tuple #[] ∧ Rs' = dsk d (crashD D ks) :: Fr) := by
  refine Tr.opn _ crash_th (fun w => dsk_open) fun ⟨mb, f, T⟩ hD => ?_
  dsimp only at hD ⊢
  obtain ⟨k1, k2, k3⟩ := hD.keys
  have hmax : maxS = 140737488355328 := rfl
  have hNl : (D.files.map (·.1)).length = D.files.length := by simp
  have hNT : D.files.map (·.1) = T.map (·.1) := by rw [← hD.files, List.map_map]; rfl
  generalize hN : D.files.map (·.1) = N at k1 k2 k3 hNl hNT
  have hTl : N.length = T.length := by rw [hNT, List.length_map]
  have h : Tr W0 Tryz.prog 16 [.pointer (some ⟨d, 0, none⟩), .slice A0 ks.length c0] (blk d 74 (dcells mb D) :: mpf mb .string f :: filesM T :: Fr) (fun v Rs' => v = .tuple #[] ∧ ∃ f' T', DIs { D with files := crashL D.files ks } f' T' ∧ Rs' = blk d 74 (dcells mb (crashD D ks)) :: mpf mb .string f' :: filesM T' :: Fr) := by
    unfold dcells crashD
    dsimp only
    refine Entry.tr (N := 84) (rs := []) ⟨_, Tryz.func16, rfl, by kernel_rfl, rfl, rfl⟩ rfl ?_
    refine XC.seq fun K1 hK1 => ?_
    refine XC.seq fun K2 hK2 => ?_
    refine XC.region ?_
    refine x_v (r_mv rfl) rfl ?_
    refine x_v (r_peq_some Tryz.underlying38 rfl rfl) rfl ?_
    refine XL.nil ?_
    refine hK2 _ _ ?_
    refine XC.keep [(0, _), (1, _), (10, _)] ⟨rfl, rfl, rfl, trivial⟩ ?_
    refine XC.cond_f rfl ?_
    refine XC.skip ?_
    refine hK1 _ _ ?_
    refine XC.keep [(0, _), (1, _)] ⟨rfl, rfl, trivial⟩ ?_
    refine XC.seq fun K3 hK3 => ?_
    refine XC.seq fun K4 hK4 => ?_
    refine XC.region ?_
    refine x_v (r_mv rfl) rfl ?_
    refine x_v (r_nc rfl) rfl ?_
    refine x_v (r_fa fo74_0 rfl) rfl ?_
    refine x_v (r_ld ty72 rfl pK (by rfl)) rfl ?_
    refine x_c (r_call0 (args := [_]) ⟨rfl, rfl⟩ (keys_tr mb (blk d 74 [.map (some mb), .int .i64 D.fuse, .bool D.off, .int .i64 (D.steps : Int)] :: mpf mb .string f :: filesM T :: Fr)) gS) rfl ?_
    rintro _ _ ⟨bx, rfl, hRs⟩
    rw [hRs]
    refine x_c (r_call0 (args := [_]) ⟨rfl, rfl⟩ (sorted_tr bx mb f N (blk d 74 [.map (some mb), .int .i64 D.fuse, .bool D.off, .int .i64 (D.steps : Int)] :: filesM T :: Fr) k1 k2 k3 (by omega)) gS) rfl ?_
    rintro _ _ ⟨A16, c16, rfl, hRs⟩
    rw [hRs]
    refine x_v (r_lensl Tryz.underlying22 rfl) rfl ?_
    refine x_v (r_mv rfl) rfl ?_
    refine XL.nil ?_
    refine hK4 _ _ ?_
    refine XC.keep [(0, _), (1, _), (16, _), (17, _), (18, _)] ⟨rfl, rfl, rfl, rfl, rfl, trivial⟩ ?_
    refine XC.block ?_
    refine XC.loop (σ := Nat × List En × (Value → Option Value) × Option Addr × Nat × List Int) (fun q => [(0, .pointer (some ⟨d, 0, none⟩)), (1, .slice q.2.2.2.1 q.2.2.2.2.2.length q.2.2.2.2.1), (16, .slice A16 N.length c16), (17, .int .i64 (N.length : Int)), (18, .int .i64 (q.1 : Int))]) (fun q => blk d 74 [.map (some mb), .int .i64 D.fuse, .bool D.off, .int .i64 (D.steps : Int)] :: mpf mb .string q.2.2.1 :: filesM (q.2.1 ++ T.drop q.1) :: sl A16 N.length c16 9 1 (cells sv N) :: Fr) (fun q => q.1 ≤ N.length ∧ DIs { D with files := (q.2.1 ++ T.drop q.1).map gE } q.2.2.1 (q.2.1 ++ T.drop q.1) ∧ crashL D.files ks = q.2.1.map gE ++ crashL ((T.drop q.1).map gE) q.2.2.2.2.2 ∧ Rdb W0 Fr q.2.2.2.1 q.2.2.2.2.2.length 1 (iv q.2.2.2.2.2) ∧ q.2.2.2.2.2.length ≤ q.2.2.2.2.1) (fun q => N.length - q.1) (0, [], f, A0, c0, ks) ?_ ⟨rfl, rfl, rfl, rfl, rfl, trivial⟩ gS ?_
    · exact ⟨Nat.zero_le _, by have := hD.files; exact this ▸ hD, by rw [← hD.files]; rfl, hr, hc⟩
    rintro ⟨i, Td, f, A, c, kr⟩ ⟨hi, hDi, hg, hrk, hck⟩
    dsimp only at hi hDi hg hrk hck ⊢
    refine XC.seq fun K5 hK5 => ?_
    refine XC.region ?_
    refine x_v (r_lt rfl rfl) rfl ?_
    refine XL.nil ?_
    refine hK5 _ _ ?_
    refine XC.keep [(0, _), (1, _), (16, _), (17, _), (18, _), (19, _)] ⟨rfl, rfl, rfl, rfl, rfl, rfl, trivial⟩ ?_
    refine XC.seq fun K6 hK6 => ?_
    refine XC.cond_d rfl (fun hc2 => ?_) (fun hc2 => ?_)
    · refine XC.skip ?_
      refine hK6 _ _ ?_
      refine XC.keep [(0, _), (1, _), (16, _), (17, _), (18, _)] ⟨rfl, rfl, rfl, rfl, rfl, trivial⟩ ?_
      refine XC.seq fun K7 hK7 => ?_
      refine XC.block ?_
      refine XC.seq fun K8 hK8 => ?_
      obtain ⟨⟨n, b, x⟩, hx⟩ : ∃ x, T[i]? = some x := ⟨_, List.getElem?_eq_getElem (by omega)⟩
      have hTd : T.drop i = (n, b, x) :: T.drop (i + 1) := by rw [List.drop_eq_getElem_cons (show i < T.length by omega), (List.getElem?_eq_some_iff.1 hx).2]
      have hNi : N[i]? = some n := by rw [hNT, List.getElem?_map, hx]; rfl
      rw [hTd] at hDi
      have hfn : f (str n) = some (.pointer (some ⟨b, 0, none⟩)) := (hDi.tab _ _).2 ⟨(n, b, x), by simp, rfl, rfl⟩
      have hxo := hDi.fiok (t := (n, b, x)) (by simp)
      refine XC.slnn (pK : Pick _ (sl A16 N.length c16 9 1 (cells sv N)) _) fun hl hA => ?_
      obtain ⟨g, rfl⟩ := hA (by omega)
      have hrN := Rdb.of_sl (W0 := W0) (pK : Pick (sl (some ⟨g, 0, none⟩) N.length c16 9 1 (cells sv N) :: Fr) (sl (some ⟨g, 0, none⟩) N.length c16 9 1 (cells sv N)) _) hl (fun _ => ⟨g, rfl⟩)
      obtain ⟨g2, o2, he2, hat⟩ := hrN.at_ (by omega)
      injection he2 with he2
      injection he2 with hg2 ho2
      subst hg2
      subst ho2
      refine XC.region ?_
      refine x_v (r_ia (k := i) Tryz.underlying22 ty9 rfl rfl (by omega) (by omega)) rfl ?_
      refine x_v (r_ldr (v := str n) ty9 rfl (fun w hw => hat w (Gets.own gS hw) (i * 1) _ (by rw [Nat.mul_one]; exact sv_get hNi))) rfl ?_
      refine x_v (r_as rfl) rfl ?_
      refine XL.nil ?_
      refine hK8 _ _ ?_
      refine XC.keep [(0, _), (1, _), (5, _), (16, _), (17, _), (18, _)] ⟨rfl, rfl, rfl, rfl, rfl, rfl, trivial⟩ ?_
      refine XC.seq fun K9 hK9 => ?_
      refine XC.region ?_
      refine x_v (r_mv rfl) rfl ?_
      refine x_v (r_nc rfl) rfl ?_
      refine x_v (r_fa fo74_0 rfl) rfl ?_
      refine x_v (r_ld ty72 rfl pK (by rfl)) rfl ?_
      refine x_v (r_mv rfl) rfl ?_
      refine x_v (yv (v' := .pointer (some ⟨b, 0, none⟩)) (r_lk1 Tryz.underlying72 Tryz.underlying9 ty79 rfl rfl (isKey_str n) pK) (by rw [hfn]; rfl)) rfl ?_
      refine x_v (r_as rfl) rfl ?_
      refine XL.nil ?_
      refine hK9 _ _ ?_
      refine XC.keep [(0, _), (1, _), (5, _), (6, _), (16, _), (17, _), (18, _)] ⟨rfl, rfl, rfl, rfl, rfl, rfl, rfl, trivial⟩ ?_
      refine XC.seqcut (σ := Option Addr × Nat × Fi × Option Addr × Nat × List Int) (fun q => [(0, .pointer (some ⟨d, 0, none⟩)), (1, .slice q.2.2.2.1 q.2.2.2.2.2.length q.2.2.2.2.1), (5, str n), (6, .pointer (some ⟨b, 0, none⟩)), (16, .slice (some ⟨g, 0, none⟩) N.length c16), (17, .int .i64 (N.length : Int)), (18, .int .i64 (i : Int))]) (fun q => blk b 84 [.slice q.1 q.2.2.1.bytes.length q.2.1, .int .i64 (q.2.2.1.sure : Int), .bool q.2.2.1.old] :: sl q.1 q.2.2.1.bytes.length q.2.1 5 1 (bv q.2.2.1.bytes) :: filesM (Td ++ T.drop (i + 1)) :: blk d 74 [.map (some mb), .int .i64 D.fuse, .bool D.off, .int .i64 (D.steps : Int)] :: mpf mb .string f :: sl (some ⟨g, 0, none⟩) N.length c16 9 1 (cells sv N) :: Fr) (fun q => (q.2.2.1 = (cutP x kr).1 ∧ q.2.2.2.2.2 = (cutP x kr).2) ∧ Rdb W0 Fr q.2.2.2.1 q.2.2.2.2.2.length 1 (iv q.2.2.2.2.2) ∧ q.2.2.2.2.2.length ≤ q.2.2.2.2.1) ?_ ?_
      · refine XC.seq fun K11 hK11 => ?_
        rw [hTd]
        refine XC.mem (filesM (Td ++ (n, b, x) :: T.drop (i + 1)) :: blk d 74 [.map (some mb), .int .i64 D.fuse, .bool D.off, .int .i64 (D.steps : Int)] :: mpf mb .string f :: sl (some ⟨g, 0, none⟩) N.length c16 9 1 (cells sv N) :: Fr) gT (XC.opn (fun q : Option Addr × Nat => _) (fun w => file_open) fun ⟨Af, cf⟩ _ => ?_)
        unfold fcells
        dsimp only
        refine XC.region ?_
        refine x_v (r_mv rfl) rfl ?_
        refine x_v (r_nc rfl) rfl ?_
        refine x_v (r_fa fo84_0 rfl) rfl ?_
        refine x_c (r_call0 (args := [_]) ⟨rfl, rfl⟩ (waits_tr b Af x.bytes.length cf x.sure x.old (sl Af x.bytes.length cf 5 1 (bv x.bytes) :: filesM (Td ++ T.drop (i + 1)) :: blk d 74 [.map (some mb), .int .i64 D.fuse, .bool D.off, .int .i64 (D.steps : Int)] :: mpf mb .string f :: sl (some ⟨g, 0, none⟩) N.length c16 9 1 (cells sv N) :: Fr) hxo.1 (by have := hxo.2.1; dsimp only at this; omega)) gS) rfl ?_
        rintro _ _ ⟨rfl, hRs⟩
        rw [hRs]
        refine x_v (r_gt rfl rfl) rfl ?_
        refine XL.nil ?_
        refine hK11 _ _ ?_
        refine XC.keep [(0, _), (1, _), (5, _), (6, _), (16, _), (17, _), (18, _), (32, _)] ⟨rfl, rfl, rfl, rfl, rfl, rfl, rfl, rfl, trivial⟩ ?_
        refine XC.cond_d rfl (fun hc3 => ?_) (fun hc3 => ?_)
        · refine XC.seq fun K12 hK12 => ?_
          refine XC.region ?_
          refine x_v (r_as rfl) rfl ?_
          refine XL.nil ?_
          refine hK12 _ _ ?_
          refine XC.keep [(0, _), (1, _), (5, _), (6, _), (7, _), (16, _), (17, _), (18, _)] ⟨rfl, rfl, rfl, rfl, rfl, rfl, rfl, rfl, trivial⟩ ?_
          refine XC.seqcut (σ := Option Addr × Nat) (fun q => [(0, .pointer (some ⟨d, 0, none⟩)), (1, .slice q.1 kr.tail.length q.2), (5, str n), (6, .pointer (some ⟨b, 0, none⟩)), (7, .int .i64 (kr.headD 0)), (16, .slice (some ⟨g, 0, none⟩) N.length c16), (17, .int .i64 (N.length : Int)), (18, .int .i64 (i : Int))]) (fun q => blk b 84 [.slice Af x.bytes.length cf, .int .i64 (x.sure : Int), .bool x.old] :: sl Af x.bytes.length cf 5 1 (bv x.bytes) :: filesM (Td ++ T.drop (i + 1)) :: blk d 74 [.map (some mb), .int .i64 D.fuse, .bool D.off, .int .i64 (D.steps : Int)] :: mpf mb .string f :: sl (some ⟨g, 0, none⟩) N.length c16 9 1 (cells sv N) :: Fr) (fun q => Rdb W0 Fr q.1 kr.tail.length 1 (iv kr.tail) ∧ kr.tail.length ≤ q.2) ?_ ?_
          · refine XC.seq fun K14 hK14 => ?_
            refine XC.region ?_
            refine x_v (r_mv rfl) rfl ?_
            refine x_v (r_lensl Tryz.underlying25 rfl) rfl ?_
            refine x_v (r_gt rfl rfl) rfl ?_
            refine XL.nil ?_
            refine hK14 _ _ ?_
            refine XC.keep [(0, _), (1, _), (5, _), (6, _), (7, _), (16, _), (17, _), (18, _), (35, _)] ⟨rfl, rfl, rfl, rfl, rfl, rfl, rfl, rfl, rfl, trivial⟩ ?_
            refine XC.cond_d rfl (fun hc4 => ?_) (fun hc4 => ?_)
            · have hk0 : kr[0]? = some (kr.headD 0) := head_at (by omega)
              obtain ⟨kb, ko, rfl, hatk⟩ := hrk.at_ (by omega)
              have hrt := rd_tail hrk hck (by omega)
              refine XC.draw Fr false [(0, false), (1, false), (2, false), (3, false), (4, false), (5, false), (6, false)] (by kernel_rfl) (by kernel_rfl) ?_
              refine y_v rfl (r_mv rfl) gT rfl ?_
              refine y_v rfl (r_ia (k := 0) Tryz.underlying25 ty3 rfl rfl (by omega) (by omega)) gT rfl ?_
              refine y_v rfl (r_ldr (v := .int .i64 (kr.headD 0)) ty3 rfl (fun w hw => hatk w hw (0 * 1) _ (by rw [Nat.zero_mul]; exact iv_get hk0))) gT rfl ?_
              refine y_v rfl (r_mv rfl) gT rfl ?_
              refine y_v rfl (yv (v' := .slice (if c = 1 then some ⟨kb, ko, none⟩ else (some ⟨kb, ko, none⟩ : Option Addr).map (·.add (1 * 1))) kr.tail.length (c - 1)) (r_sll 1 kr.length Tryz.underlying25 ty3 rfl ⟨_, by rfl⟩ rfl (by omega) (by omega)) (by rw [List.length_tail])) gT rfl ?_
              refine y_v rfl (r_as rfl) gT rfl ?_
              refine y_v rfl (r_as rfl) gT rfl ?_
              refine XH.nil ?_
              exact ⟨(if c = 1 then some ⟨kb, ko, none⟩ else (some ⟨kb, ko, none⟩ : Option Addr).map (·.add (1 * 1)), c - 1), ⟨hrt, by dsimp only; rw [List.length_tail]; omega⟩, ⟨rfl, rfl, rfl, rfl, rfl, rfl, rfl, rfl, trivial⟩, gS⟩
            · refine XC.skip ?_
              obtain rfl : kr = [] := List.eq_nil_of_length_eq_zero (by omega)
              exact ⟨(A, c), ⟨hrk, hck⟩, ⟨rfl, rfl, rfl, rfl, rfl, rfl, rfl, rfl, trivial⟩, gS⟩
          · rintro ⟨A9, c9⟩ ⟨hr9, hc9⟩
            dsimp only at hr9 hc9 ⊢
            have hcP : cutP x kr = (cutF x (kr.headD 0), kr.tail) := by unfold cutP; rw [if_pos (by omega)]
            refine XC.seq fun K15 hK15 => ?_
            refine XC.region ?_
            refine x_v (r_mv rfl) rfl ?_
            refine x_v (r_nc rfl) rfl ?_
            refine x_v (r_fa fo84_0 rfl) rfl ?_
            refine x_v (r_fa fo82_1 rfl) rfl ?_
            refine x_v (r_ld ty3 rfl pK (by rfl)) rfl ?_
            refine x_v (r_as rfl) rfl ?_
            refine XL.nil ?_
            refine hK15 _ _ ?_
            refine XC.keep [(0, _), (1, _), (5, _), (6, _), (7, _), (8, _), (16, _), (17, _), (18, _)] ⟨rfl, rfl, rfl, rfl, rfl, rfl, rfl, rfl, rfl, trivial⟩ ?_
            refine XC.seq fun K16 hK16 => ?_
            refine XC.region ?_
            refine x_v (r_mv rfl) rfl ?_
            refine x_v (r_nc rfl) rfl ?_
            refine x_v (r_fa fo84_0 rfl) rfl ?_
            refine x_v (r_mv rfl) rfl ?_
            refine x_c (r_call0 (args := [_, _]) ⟨rfl, rfl, rfl⟩ (cut_tr b Af cf x (kr.headD 0) (filesM (Td ++ T.drop (i + 1)) :: blk d 74 [.map (some mb), .int .i64 D.fuse, .bool D.off, .int .i64 (D.steps : Int)] :: mpf mb .string f :: sl (some ⟨g, 0, none⟩) N.length c16 9 1 (cells sv N) :: Fr) hxo.1 (by have := hxo.2.1; dsimp only at this; omega)) gS) rfl ?_
            rintro _ _ ⟨rfl, hRs⟩
            rw [hRs]
            unfold fcells
            dsimp only
            refine XL.nil ?_
            refine hK16 _ _ ?_
            refine XC.keep [(0, _), (1, _), (5, _), (6, _), (8, _), (16, _), (17, _), (18, _)] ⟨rfl, rfl, rfl, rfl, rfl, rfl, rfl, rfl, trivial⟩ ?_
            refine XC.region ?_
            refine x_v (r_mv rfl) rfl ?_
            refine x_v (r_mv rfl) rfl ?_
            refine x_v (r_nc rfl) rfl ?_
            refine x_v (r_fa fo84_1 rfl) rfl ?_
            refine x_v (r_ld ty4 rfl pK (by rfl)) rfl ?_
            refine x_v (r_mv rfl) rfl ?_
            refine XL.split 56 rfl (fun hg56 => ?_) (fun hg56 => ?_)
            · refine x_unwant rfl rfl rfl rfl rfl ?_
              refine x_unwant rfl rfl rfl rfl rfl ?_
              refine x_unwant rfl rfl rfl rfl rfl ?_
              refine x_unwant rfl rfl rfl rfl rfl ?_
              refine x_unwant rfl rfl rfl rfl rfl ?_
              refine x_unwant rfl rfl rfl rfl rfl ?_
              refine x_unwant rfl rfl rfl rfl rfl ?_
              refine x_v (r_pk_t rfl rfl) rfl ?_
              refine x_v (r_nc rfl) rfl ?_
              refine x_v (r_fa fo84_1 rfl) rfl ?_
              refine x_e (r_st ty4 rfl rfl rfl rfl rfl uD oV) ?_
              refine XL.nil ?_
              exact ⟨(Af, cf, ⟨x.bytes.take (cutM x (kr.headD 0)), cutM x (kr.headD 0), true⟩, A9, c9, kr.tail), ⟨⟨by rw [hcP]; simp [cutF, cutM, hg56], by rw [hcP]⟩, hr9, hc9⟩, ⟨rfl, rfl, rfl, rfl, rfl, rfl, rfl, trivial⟩, gS⟩
            · refine x_want rfl rfl rfl ?_
              refine x_v (r_mv rfl) rfl ?_
              refine x_want rfl rfl rfl ?_
              refine x_v (r_nc rfl) rfl ?_
              refine x_want rfl rfl rfl ?_
              refine x_v (r_fa fo84_0 rfl) rfl ?_
              refine x_want rfl rfl rfl ?_
              refine x_v (r_fa fo82_1 rfl) rfl ?_
              refine x_want rfl rfl rfl ?_
              refine x_v (r_ld ty3 rfl pK (by rfl)) rfl ?_
              refine x_want rfl rfl rfl ?_
              refine x_v (r_mv rfl) rfl ?_
              refine x_want rfl rfl rfl ?_
              refine x_v (r_gt rfl rfl) rfl ?_
              refine x_v (r_pk_f rfl rfl) rfl ?_
              refine x_v (r_nc rfl) rfl ?_
              refine x_v (r_fa fo84_1 rfl) rfl ?_
              refine x_e (r_st ty4 rfl rfl rfl rfl rfl uD oV) ?_
              refine XL.nil ?_
              exact ⟨(Af, cf, ⟨x.bytes.take (cutM x (kr.headD 0)), cutM x (kr.headD 0), decide ((x.sure : Int) < ((cutM x (kr.headD 0) : Nat) : Int))⟩, A9, c9, kr.tail), ⟨⟨by rw [hcP]; simp only [cutF, hg56, Bool.false_or]; unfold cutM; congr 1; rw [decide_eq_decide]; omega, by rw [hcP]⟩, hr9, hc9⟩, ⟨rfl, rfl, rfl, rfl, rfl, rfl, rfl, trivial⟩, gS⟩
        · refine XC.skip ?_
          exact ⟨(Af, cf, x, A, c, kr), ⟨⟨by unfold cutP; rw [if_neg (by omega)], by unfold cutP; rw [if_neg (by omega)]⟩, hrk, hck⟩, ⟨rfl, rfl, rfl, rfl, rfl, rfl, rfl, trivial⟩, gS⟩
      · rintro ⟨Af, cf, x2, Ak, ck, kr2⟩ ⟨⟨hx2, hk2⟩, hrk2, hck2⟩
        dsimp only at hx2 hk2 hrk2 hck2 ⊢
        refine XC.seq fun K17 hK17 => ?_
        refine XC.region ?_
        refine x_v (r_mv rfl) rfl ?_
        refine x_v (r_nc rfl) rfl ?_
        refine x_v (r_fa fo84_1 rfl) rfl ?_
        refine x_v (r_ld ty4 rfl pK (by rfl)) rfl ?_
        refine x_v (r_not rfl) rfl ?_
        refine XL.nil ?_
        refine hK17 _ _ ?_
        refine XC.keep [(0, _), (1, _), (5, _), (16, _), (17, _), (18, _), (71, _)] ⟨rfl, rfl, rfl, rfl, rfl, rfl, rfl, trivial⟩ ?_
        refine XC.cond rfl (fun hc5 => ?_) (fun hc5 => ?_)
        · refine XC.region ?_
          refine x_v (r_mv rfl) rfl ?_
          refine x_v (r_nc rfl) rfl ?_
          refine x_v (r_fa fo74_0 rfl) rfl ?_
          refine x_v (r_ld ty72 rfl pK (by rfl)) rfl ?_
          refine x_v (r_mv rfl) rfl ?_
          refine x_e (r_del (updV f (str n) none) Tryz.underlying72 Tryz.underlying9 rfl rfl (isKey_str n) (updV_at _ _ _) (updV_else _ _ _) uD) ?_
          refine XL.nil ?_
          refine hK7 _ _ ?_
          refine XC.keep [(0, _), (1, _), (16, _), (17, _), (18, _)] ⟨rfl, rfl, rfl, rfl, rfl, trivial⟩ ?_
          refine XC.region ?_
          refine x_v (r_add rfl rfl (by omega)) rfl ?_
          refine x_v (r_mv rfl) rfl ?_
          refine XL.nil ?_
          refine ⟨(i + 1, Td, updV f (str n) none, Ak, ck, kr2), ?_, ?_, ⟨rfl, rfl, rfl, rfl, rfl, trivial⟩, gS⟩
          · exact ⟨by dsimp only; omega, hDi.del.re, by dsimp only; rw [hg, hTd, List.map_cons]; show _ ++ crashL ((n, x) :: _) _ = _; rw [crashL_cons, if_neg (by rw [← hx2]; simpa using hc5), ← hk2]; rfl, hrk2, hck2⟩
          · dsimp only; omega
        · refine XC.mem (filesM ((Td ++ [(n, b, x2)]) ++ T.drop (i + 1)) :: blk d 74 [.map (some mb), .int .i64 D.fuse, .bool D.off, .int .i64 (D.steps : Int)] :: mpf mb .string f :: sl (some ⟨g, 0, none⟩) N.length c16 9 1 (cells sv N) :: Fr) (fun w hw => by rw [List.append_assoc]; exact file_shut (A := Af) (c := cf) (x := x2) hw) ?_
          refine XC.skip ?_
          refine hK7 _ _ ?_
          refine XC.keep [(0, _), (1, _), (16, _), (17, _), (18, _)] ⟨rfl, rfl, rfl, rfl, rfl, trivial⟩ ?_
          refine XC.region ?_
          refine x_v (r_add rfl rfl (by omega)) rfl ?_
          refine x_v (r_mv rfl) rfl ?_
          refine XL.nil ?_
          refine ⟨(i + 1, Td ++ [(n, b, x2)], f, Ak, ck, kr2), ?_, ?_, ⟨rfl, rfl, rfl, rfl, rfl, trivial⟩, gS⟩
          · exact ⟨by dsimp only; omega, by have h1 := hDi.repl x2 (by rw [hx2]; exact cutP_ok kr (hDi.fiok (t := (n, b, x)) (by simp))); dsimp only; rw [List.append_assoc]; exact h1.re, by dsimp only; rw [hg, hTd, List.map_cons]; show _ ++ crashL ((n, x) :: _) _ = _; rw [crashL_cons, if_pos (by rw [← hx2]; simpa using hc5), ← hk2, ← hx2]; simp [gE], hrk2, hck2⟩
          · dsimp only; omega
    · refine XC.exit rfl ?_
      refine hK3 _ _ ?_
      refine XC.keep [(0, _)] ⟨rfl, trivial⟩ ?_
      have hdr : T.drop i = [] := List.drop_eq_nil_of_le (by omega)
      rw [hdr, List.append_nil] at hDi
      rw [hdr, List.append_nil]
      rw [hdr] at hg
      have hg2 : crashL D.files ks = Td.map gE := by rw [hg]; simp [crashL]
      rw [← hg2] at hDi
      refine XC.region ?_
      refine x_v (r_mv rfl) rfl ?_
      refine x_v (r_mv rfl) rfl ?_
      refine x_v (r_nc rfl) rfl ?_
      refine x_v (r_fa fo74_1 rfl) rfl ?_
      refine x_e (r_st ty3 rfl rfl rfl rfl rfl uD oV) ?_
      refine x_v (r_nc rfl) rfl ?_
      refine x_v (r_fa fo74_2 rfl) rfl ?_
      refine x_e (r_st ty4 rfl rfl rfl rfl rfl uD oV) ?_
      refine XL.nil ?_
      exact fin0 (⟨rfl, f, Td, hDi, rfl⟩) gS
  exact h.out fun v Rs' w ⟨h1, f', T', h2, h3⟩ ho => ⟨_, ⟨h1, rfl⟩, dsk_shut (mb := mb) (f := f') (T := T') ⟨h2.files, h2.tab, ⟨h2.ok.srt, h2.ok.fi, by simp [crashD]⟩⟩ (h3 ▸ ho)⟩
end Go.Proofs.YtcmdmhmgffjknaaGreatDoor

/- Polls: when nothing is lost any more (function 7). -/
import Derived.Test.YtlogcldbflemfaaPoll29
namespace Go.Proofs.Ytlogcldbflemfaa
open Go.Sx Go.Rf
set_option linter.unusedVariables false

theorem enc_le (i : Int) : (Utf8.encode i).data.toList.length ≤ 8000 := by
  unfold Utf8.encode
  dsimp only
  generalize (if Utf8.valid i = true then i.toNat else Utf8.runeError) = c
  split
  · exact (by decide : 1 ≤ 8000)
  · split
    · exact (by decide : 2 ≤ 8000)
    · split
      · exact (by decide : 3 ≤ 8000)
      · exact (by decide : 4 ≤ 8000)
/-- Who is seen to lead among the first 'n'. -/
def lv (ld : Int) (n : Nat) : Int := if (n : Int) ≤ ld then -1 else ld

/-- What the plain law gives. -/
theorem calm_ex {A T : Int} {s : Rf.St} (h : RI A T s) (hT : T + 12 < most) (hA : A ≤ 320) :
    ∃ l, Rf.Node l ∧ (∀ n, Rf.Node n → ((pOf (rnds 60 s) n).role = 2 ↔ n = l)) ∧ ∀ ch : List UInt8, ch.length ≤ 8000 → ∃ L q, Rf.propose (pOf (rnds 60 s) l) ch = (q, L, feed q (others q), 0) ∧
      (∀ r : Nat, 1 ≤ r → (rnds r (doN (rnds 60 s) l (q, feed q (others q)))).way = []) ∧ Agreed l L (rnds 3 (doN (rnds 60 s) l (q, feed q (others q)))) := by
  obtain ⟨l, L, q, h1, h2, h3⟩ := calm h hT hA (ch := []) (Nat.zero_le _)
  refine ⟨l, h1, h2, fun ch hc => ?_⟩
  obtain ⟨l', L', q', k1, k2, k3, k4⟩ := calm h hT hA hc
  have e : l' = l := ((h2 l' k1).1 ((k2 l' k1).2 rfl))
  subst e
  exact ⟨L', q', k3, k4⟩

theorem pollcalm_tr {W0 : World} {Fr : List HP} (XA : Option Addr) (xc : Nat) (T : List (Int × Int × Int)) (wh : Int) (hr : ∀ Fr, Rdb W0 Fr XA T.length 3 (cells actc T)) : Tr W0 Try.prog 7 [.slice XA T.length xc, .int .u8 wh] Fr (fun v Rs' => v = .bool true) := by
  have hmost : most = 1099511627776 := rfl
  refine Entry.tr (N := 121) (rs := [.tmp 4]) ⟨_, Try.func7, rfl, by kernel_rfl, rfl, rfl⟩ rfl ?_
  refine XC.seq fun K1 hK1 => ?_
  refine XC.region ?_
  refine x_v (r_as rfl) rfl ?_
  refine XL.nil ?_
  refine hK1 _ _ ?_
  refine XC.keep [(0, _), (1, _)] ⟨rfl, rfl, trivial⟩ ?_
  refine XC.seq fun K2 hK2 => ?_
  refine XC.seq fun K3 hK3 => ?_
  refine XC.region ?_
  refine x_c (r_call0 (args := []) rfl (awake_tr) gS) rfl ?_
  rintro _ _ ⟨rfl, hRs⟩
  rw [hRs]
  refine x_v (r_not rfl) rfl ?_
  refine x_v (r_mv rfl) rfl ?_
  refine x_want rfl rfl rfl ?_
  refine x_v (r_mv rfl) rfl ?_
  refine x_want rfl rfl rfl ?_
  refine x_v (r_lensl Try.underlying59 rfl) rfl ?_
  refine x_want rfl rfl rfl ?_
  refine x_v (r_gt rfl rfl) rfl ?_
  refine x_v (r_pk_f rfl rfl) rfl ?_
  refine XL.nil ?_
  refine hK3 _ _ ?_
  refine XC.keep [(0, _), (1, _), (22, _)] ⟨rfl, rfl, rfl, trivial⟩ ?_
  refine XC.cond_d rfl (fun hc1 => ?_) (fun hc1 => ?_)
  · refine XC.seq fun K4 hK4 => ?_
    refine XC.region ?_
    refine x_c (r_call0 (args := []) rfl (awake_tr) gS) rfl ?_
    rintro _ _ ⟨rfl, hRs2⟩
    rw [hRs2]
    refine x_v (r_as rfl) rfl ?_
    refine XL.nil ?_
    refine hK4 _ _ ?_
    refine XC.keep [(4, _)] ⟨rfl, trivial⟩ ?_
    refine XC.ret ?_
    exact fin1 rfl (rfl) gS
  · refine XC.skip ?_
    refine hK2 _ _ ?_
    refine XC.keep [(0, _), (1, _)] ⟨rfl, rfl, trivial⟩ ?_
    refine XC.seq fun K5 hK5 => ?_
    refine XC.region ?_
    refine x_c (r_call0 (args := []) rfl (begun_tr) gS) rfl ?_
    rintro _ _ ⟨sb, l, K, rfl, rfl, hst, hok⟩
    have hsa : SA W0 K 2 0 l [] G0 (fun _ => []) := ⟨sg_begun hst hok, by rw [hst]; exact AI.begun⟩
    refine x_a (r_al ty60 rfl) rfl fun b5 => ?_
    refine x_e (r_st ty60 rfl rfl rfl rfl rfl uD oV) ?_
    refine XL.nil ?_
    refine hK5 _ _ ?_
    refine XC.keep [(0, _), (1, _), (5, _)] ⟨rfl, rfl, rfl, trivial⟩ ?_
    refine XC.seq fun K6 hK6 => ?_
    refine XC.seq fun K7 hK7 => ?_
    refine XC.region ?_
    refine x_v (r_mv rfl) rfl ?_
    refine x_v (r_lensl Try.underlying59 rfl) rfl ?_
    refine x_v (r_mv rfl) rfl ?_
    refine XL.nil ?_
    refine hK7 _ _ ?_
    refine XC.keep [(1, _), (5, _), (25, _), (26, _), (27, _)] ⟨rfl, rfl, rfl, rfl, rfl, trivial⟩ ?_
    refine XC.block ?_
    refine XC.loop (σ := Nat × List NdR × Option Addr × Nat × List (Int × Int × Mx) × HP × Gh × (Int → Log)) (fun s => [(1, .int .u8 wh), (5, .pointer (some ⟨b5, 0, none⟩)), (25, .slice XA T.length xc), (26, .int .i64 (T.length : Int)), (27, .int .i64 (s.1 : Int))]) (fun s => blk b5 60 [.pointer (some ⟨sb, 0, none⟩)] :: blk sb 68 (sic s.2.1 s.2.2.1 s.2.2.2.2.1.length s.2.2.2.1) :: sl s.2.2.1 s.2.2.2.2.1.length s.2.2.2.1 109 19 (cells fc s.2.2.2.2.1) :: nds s.2.1 :: s.2.2.2.2.2.1 :: Fr) (fun s => s.1 ≤ T.length ∧ SA W0 s.2.2.2.2.2.1 (2 + s.1) (s.1 : Int) s.2.1 s.2.2.2.2.1 s.2.2.2.2.2.2.1 s.2.2.2.2.2.2.2) (fun s => T.length - s.1) (0, l, none, 0, [], K, G0, fun _ => []) ?_ ⟨rfl, rfl, rfl, rfl, rfl, trivial⟩ gS ?_
    · exact ⟨Nat.zero_le _, hsa⟩
    rintro ⟨i, l, wA, wc, L, K, G, F⟩ ⟨hi, hsa⟩
    dsimp only at hi hsa ⊢
    refine XC.seq fun K8 hK8 => ?_
    refine XC.region ?_
    refine x_v (r_lt rfl rfl) rfl ?_
    refine XL.nil ?_
    refine hK8 _ _ ?_
    refine XC.keep [(1, _), (5, _), (25, _), (26, _), (27, _), (28, _)] ⟨rfl, rfl, rfl, rfl, rfl, rfl, trivial⟩ ?_
    refine XC.seq fun K9 hK9 => ?_
    refine XC.cond_d rfl (fun hc2 => ?_) (fun hc2 => ?_)
    · refine XC.skip ?_
      refine hK9 _ _ ?_
      refine XC.keep [(1, _), (5, _), (25, _), (26, _), (27, _)] ⟨rfl, rfl, rfl, rfl, rfl, trivial⟩ ?_
      refine XC.seq fun K10 hK10 => ?_
      refine XC.block ?_
      refine XC.seq fun K11 hK11 => ?_
      obtain ⟨a, ha⟩ : ∃ a, T[i]? = some a := ⟨_, List.getElem?_eq_getElem (by omega)⟩
      obtain ⟨ob, oo, rfl, hat⟩ := (hr []).at_ (by omega)
      refine XC.region ?_
      refine x_v (r_ia (k := i) Try.underlying59 ty63 rfl rfl (by omega) (by omega)) rfl ?_
      refine x_v (r_ldar (l' := actc a) ty63 rfl rfl (fun w hw j u hu => by rw [Nat.add_assoc]; exact hat w (Gets.own gS hw) _ u (cells_get actc_len T _ _ ha j u hu))) rfl ?_
      refine x_a (r_al ty63 rfl) rfl fun b7 => ?_
      refine x_e (r_st ty63 rfl rfl rfl rfl rfl uD oV) ?_
      refine XL.nil ?_
      refine hK11 _ _ ?_
      refine XC.keep [(1, _), (5, _), (7, _), (25, _), (26, _), (27, _)] ⟨rfl, rfl, rfl, rfl, rfl, rfl, trivial⟩ ?_
      refine XC.region ?_
      refine x_v (r_ld ty60 rfl pK (by rfl)) rfl ?_
      refine x_v (r_lda (l' := [_, _, _]) ty63 rfl pK rfl (Sub.get sU)) rfl ?_
      refine x_c (r_call0 (args := [_, _]) ⟨rfl, rfl, rfl⟩ (acts2_tr sb l wA wc L a.1 a.2.1 a.2.2 hsa (by omega) (by omega) (by omega)) gS) rfl ?_
      rintro _ _ ⟨rfl, l2, A2, c2, L2, K2, G2, F2, rfl, hsa2⟩
      refine XL.nil ?_
      refine hK10 _ _ ?_
      refine XC.keep [(1, _), (5, _), (25, _), (26, _), (27, _)] ⟨rfl, rfl, rfl, rfl, rfl, trivial⟩ ?_
      refine XC.region ?_
      refine x_v (r_add rfl rfl (by omega)) rfl ?_
      refine x_v (r_mv rfl) rfl ?_
      refine XL.nil ?_
      refine ⟨(i + 1, l2, A2, c2, L2, K2, G2, F2), ?_, ?_, ⟨rfl, rfl, rfl, rfl, rfl, trivial⟩, gS⟩
      · exact ⟨by dsimp only; omega, hsa2⟩
      · dsimp only; omega
    · refine XC.exit rfl ?_
      refine hK6 _ _ ?_
      refine XC.keep [(1, _), (5, _)] ⟨rfl, rfl, trivial⟩ ?_
      refine XC.seq fun K12 hK12 => ?_
      refine XC.region ?_
      refine x_v (r_ld ty60 rfl pK (by rfl)) rfl ?_
      refine x_v (r_nc rfl) rfl ?_
      refine x_v (r_fa fo68_1 rfl) rfl ?_
      refine x_e (r_st ty66 rfl rfl rfl rfl rfl uD oV) ?_
      obtain ⟨s0, hs0⟩ : ∃ s0 : Rf.St, s0 = stOf l [] := ⟨_, rfl⟩
      have hri : RI (i : Int) (i : Int) s0 := by (have := hsa.ai.ri hsa.sg.inv (lims hsa.sg.ok); rw [hs0]; exact this)
      have hrd := rounds hri (by omega) (by omega)
      have hok0 : SOk W0 K 302 l [] := ⟨hsa.sg.ok.len, hsa.sg.ok.pb, fun x hx => (hsa.sg.ok.lim x hx).mono (by omega), hsa.sg.ok.mm, Nat.zero_le _, fun f hf => by cases hf⟩
      refine XL.nil ?_
      refine hK12 _ _ ?_
      refine XC.keep [(1, _), (5, _)] ⟨rfl, rfl, trivial⟩ ?_
      refine XC.seq fun K13 hK13 => ?_
      refine XC.nil_ 109 19 ?_
      refine XC.region ?_
      refine x_v (r_mfv (cs := [_]) ⟨rfl, rfl⟩) rfl ?_
      refine x_v (r_as rfl) rfl ?_
      refine XL.nil ?_
      refine hK13 _ _ ?_
      refine XC.keep [(1, _), (5, _), (8, _)] ⟨rfl, rfl, rfl, trivial⟩ ?_
      refine XC.seq fun K14 hK14 => ?_
      refine XC.region ?_
      refine x_v (r_as rfl) rfl ?_
      refine XL.nil ?_
      refine hK14 _ _ ?_
      refine XC.keep [(1, _), (5, _), (8, _), (9, _)] ⟨rfl, rfl, rfl, rfl, trivial⟩ ?_
      refine XC.seq fun K15 hK15 => ?_
      refine XC.seq fun K16 hK16 => ?_
      refine XC.region ?_
      refine x_v (r_mv rfl) rfl ?_
      refine XL.nil ?_
      refine hK16 _ _ ?_
      refine XC.keep [(1, _), (5, _), (8, _), (9, _), (39, _)] ⟨rfl, rfl, rfl, rfl, rfl, trivial⟩ ?_
      refine XC.block ?_
      refine XC.loop (σ := Nat × List NdR × Option Addr × Nat × List (Int × Int × Mx) × HP) (fun s => [(1, .int .u8 wh), (5, .pointer (some ⟨b5, 0, none⟩)), (8, .func (.func 25) #[] #[.pointer (some ⟨b5, 0, none⟩)]), (9, .int .i64 (-1)), (39, .int .i64 (s.1 : Int))]) (fun s => blk b5 60 [.pointer (some ⟨sb, 0, none⟩)] :: blk sb 68 (sic s.2.1 s.2.2.1 s.2.2.2.2.1.length s.2.2.2.1) :: sl s.2.2.1 s.2.2.2.2.1.length s.2.2.2.1 109 19 (cells fc s.2.2.2.2.1) :: nds s.2.1 :: s.2.2.2.2.2 :: Fr) (fun s => s.1 ≤ 60 ∧ SOk W0 s.2.2.2.2.2 (302 + 5010 * s.1) s.2.1 s.2.2.2.2.1 ∧ stOf s.2.1 s.2.2.2.2.1 = rnds s.1 s0) (fun s => 60 - s.1) (0, l, none, 0, [], K) ?_ ⟨rfl, rfl, rfl, rfl, rfl, trivial⟩ gS ?_
      · exact ⟨Nat.zero_le _, hok0, hs0.symm⟩
      rintro ⟨r, l, wA, wc, L, K⟩ ⟨hr60, hok, hst6⟩
      dsimp only at hr60 hok hst6 ⊢
      refine XC.seq fun K17 hK17 => ?_
      refine XC.region ?_
      refine x_v (r_lt rfl rfl) rfl ?_
      refine XL.nil ?_
      refine hK17 _ _ ?_
      refine XC.keep [(1, _), (5, _), (8, _), (9, _), (39, _), (40, _)] ⟨rfl, rfl, rfl, rfl, rfl, rfl, trivial⟩ ?_
      refine XC.seq fun K18 hK18 => ?_
      refine XC.cond_d rfl (fun hc3 => ?_) (fun hc3 => ?_)
      · refine XC.skip ?_
        refine hK18 _ _ ?_
        refine XC.keep [(1, _), (5, _), (8, _), (9, _), (39, _)] ⟨rfl, rfl, rfl, rfl, rfl, trivial⟩ ?_
        refine XC.seq fun K19 hK19 => ?_
        refine XC.block ?_
        refine XC.seq fun K20 hK20 => ?_
        refine XC.region ?_
        refine x_v (r_mv rfl) rfl ?_
        refine x_c (r_call (fst := []) (cap := [_]) (vs := []) rfl rfl rfl (round_tr b5 sb l wA wc L hok (by omega) (by rw [hst6]; (have e : rnds (r + 1) s0 = rnd (rnds r s0) := iter_end rnd r s0); rw [← e]; exact (hrd (r + 1)).1)) gS) rfl ?_
        rintro _ _ ⟨rfl, l2, A2, c2, L2, K2, rfl, hst2, hx2, hok2⟩
        refine x_v (r_not rfl) rfl ?_
        refine XL.nil ?_
        refine hK20 _ _ ?_
        refine XC.keep [(1, _), (5, _), (8, _), (9, _), (39, _), (43, _)] ⟨rfl, rfl, rfl, rfl, rfl, rfl, trivial⟩ ?_
        refine XC.cond_f rfl ?_
        refine XC.skip ?_
        refine hK19 _ _ ?_
        refine XC.keep [(1, _), (5, _), (8, _), (9, _), (39, _)] ⟨rfl, rfl, rfl, rfl, rfl, trivial⟩ ?_
        refine XC.region ?_
        refine x_v (r_add rfl rfl (by omega)) rfl ?_
        refine x_v (r_mv rfl) rfl ?_
        refine XL.nil ?_
        refine ⟨(r + 1, l2, A2, c2, L2, K2), ?_, ?_, ⟨rfl, rfl, rfl, rfl, rfl, trivial⟩, gS⟩
        · exact ⟨by dsimp only; omega, by dsimp only; rw [show 302 + 5010 * (r + 1) = 302 + 5010 * r + 5010 by omega]; exact hok2, by dsimp only; rw [hst2, hst6]; exact (iter_end rnd r s0).symm⟩
        · dsimp only; omega
      · refine XC.exit rfl ?_
        refine hK15 _ _ ?_
        refine XC.keep [(1, _), (5, _), (8, _), (9, _)] ⟨rfl, rfl, rfl, rfl, trivial⟩ ?_
        refine XC.seq fun K21 hK21 => ?_
        refine XC.seq fun K22 hK22 => ?_
        have er : r = 60 := by omega
        subst er
        clear hrd
        obtain ⟨ld, hld⟩ := calm_ex hri (by omega) (by omega)
        have hldn := hld.1.ne_of
        refine XC.region ?_
        refine x_v (r_mv rfl) rfl ?_
        refine XL.nil ?_
        refine hK22 _ _ ?_
        refine XC.keep [(1, _), (5, _), (8, _), (9, _), (45, _)] ⟨rfl, rfl, rfl, rfl, rfl, trivial⟩ ?_
        refine XC.block ?_
        refine XC.loop (σ := Nat × Int) (fun s => [(1, .int .u8 wh), (5, .pointer (some ⟨b5, 0, none⟩)), (8, .func (.func 25) #[] #[.pointer (some ⟨b5, 0, none⟩)]), (9, .int .i64 s.2), (45, .int .i64 (s.1 : Int))]) (fun s => blk b5 60 [.pointer (some ⟨sb, 0, none⟩)] :: blk sb 68 (sic l wA L.length wc) :: sl wA L.length wc 109 19 (cells fc L) :: nds l :: K :: Fr) (fun s => s.1 ≤ 3 ∧ s.2 = lv ld s.1) (fun s => 3 - s.1) (0, -1) ?_ ⟨rfl, rfl, rfl, rfl, rfl, trivial⟩ gS ?_
        · exact ⟨Nat.zero_le _, by unfold lv; dsimp only; rw [if_pos (by omega)]⟩
        rintro ⟨n, v⟩ ⟨hn, hv⟩
        dsimp only at hn hv ⊢
        refine XC.seq fun K23 hK23 => ?_
        refine XC.region ?_
        refine x_v (r_lt rfl rfl) rfl ?_
        refine XL.nil ?_
        refine hK23 _ _ ?_
        refine XC.keep [(1, _), (5, _), (8, _), (9, _), (45, _), (46, _)] ⟨rfl, rfl, rfl, rfl, rfl, rfl, trivial⟩ ?_
        refine XC.seq fun K24 hK24 => ?_
        refine XC.cond_d rfl (fun hc5 => ?_) (fun hc5 => ?_)
        · refine XC.skip ?_
          refine hK24 _ _ ?_
          refine XC.keep [(1, _), (5, _), (8, _), (9, _), (45, _)] ⟨rfl, rfl, rfl, rfl, rfl, trivial⟩ ?_
          refine XC.seq fun K25 hK25 => ?_
          refine XC.block ?_
          refine XC.seq fun K26 hK26 => ?_
          have hnn : Rf.Node (n : Int) := by unfold Rf.Node; omega
          obtain ⟨x, hx⟩ : ∃ x, l[(n : Int).toNat]? = some x := ⟨_, List.getElem?_eq_getElem (by have := hok.len; omega)⟩
          have hxm := List.mem_of_getElem? hx
          have hrole : x.p.role = 2 ↔ (n : Int) = ld := by (have := hld.2.1 _ hnn; rw [← hst6, pOf_at hx] at this; exact this)
          refine XC.region ?_
          refine x_v (r_mv rfl) rfl ?_
          refine x_v (r_as rfl) rfl ?_
          refine XL.nil ?_
          refine hK26 _ _ ?_
          refine XC.keep [(1, _), (5, _), (8, _), (9, _), (10, _), (45, _)] ⟨rfl, rfl, rfl, rfl, rfl, rfl, trivial⟩ ?_
          refine XC.seq fun K27 hK27 => ?_
          refine XC.mem (blk x.b 90 (pc x.p x.A x.c x.M) :: vmo x.M :: nds (l.eraseIdx (n : Int).toNat) :: blk b5 60 [.pointer (some ⟨sb, 0, none⟩)] :: blk sb 68 (sic l wA L.length wc) :: sl wA L.length wc 109 19 (cells fc L) :: K :: Fr) (fun w h => own_open hx (Gets.own gS h)) ?_
          refine XC.region ?_
          refine x_v (r_ld ty60 rfl pK (by rfl)) rfl ?_
          refine x_v (r_mv rfl) rfl ?_
          refine x_v (r_nc rfl) rfl ?_
          refine x_v (r_fa fo68_0 rfl) rfl ?_
          refine x_v (r_iaa (k := (n : Int).toNat) Try.underlying65 ty23 rfl rfl (by omega) (by omega)) rfl ?_
          refine x_v (r_ld ty23 rfl pK (pn_at hnn hx)) rfl ?_
          refine x_c (r_call0 (args := [_]) ⟨rfl, rfl⟩ (role_tr (p := x.p) (A := x.A) (c := x.c) x.b x.M) gS) rfl ?_
          rintro _ _ ⟨rfl, rfl⟩
          refine x_v (r_eq rfl rfl) rfl ?_
          refine XL.nil ?_
          refine hK27 _ _ ?_
          refine XC.keep [(1, _), (5, _), (8, _), (9, _), (10, _), (45, _), (55, _)] ⟨rfl, rfl, rfl, rfl, rfl, rfl, rfl, trivial⟩ ?_
          refine XC.cond_d rfl (fun hc6 => ?_) (fun hc6 => ?_)
          · have hrl := hc6
            refine XC.region ?_
            refine x_v (r_mv rfl) rfl ?_
            refine x_v (r_as rfl) rfl ?_
            refine XL.nil ?_
            refine hK25 _ _ ?_
            refine XC.keep [(1, _), (5, _), (8, _), (9, _), (45, _)] ⟨rfl, rfl, rfl, rfl, rfl, trivial⟩ ?_
            refine XC.mem (nds l :: blk b5 60 [.pointer (some ⟨sb, 0, none⟩)] :: blk sb 68 (sic l wA L.length wc) :: sl wA L.length wc 109 19 (cells fc L) :: K :: Fr) (fun w h => own_shut hx (Gets.own gS h)) ?_
            refine XC.region ?_
            refine x_v (r_add rfl rfl (by omega)) rfl ?_
            refine x_v (r_mv rfl) rfl ?_
            refine XL.nil ?_
            refine ⟨(n + 1, (n : Int)), ?_, ?_, ⟨rfl, rfl, rfl, rfl, rfl, trivial⟩, gS⟩
            · exact ⟨by dsimp only; omega, by (have := (hrole.1 hrl); dsimp only; unfold lv; rw [if_neg (by omega)]; omega)⟩
            · dsimp only; omega
          · have hrl := hc6
            refine XC.skip ?_
            refine hK25 _ _ ?_
            refine XC.keep [(1, _), (5, _), (8, _), (9, _), (45, _)] ⟨rfl, rfl, rfl, rfl, rfl, trivial⟩ ?_
            refine XC.mem (nds l :: blk b5 60 [.pointer (some ⟨sb, 0, none⟩)] :: blk sb 68 (sic l wA L.length wc) :: sl wA L.length wc 109 19 (cells fc L) :: K :: Fr) (fun w h => own_shut hx (Gets.own gS h)) ?_
            refine XC.region ?_
            refine x_v (r_add rfl rfl (by omega)) rfl ?_
            refine x_v (r_mv rfl) rfl ?_
            refine XL.nil ?_
            refine ⟨(n + 1, v), ?_, ?_, ⟨rfl, rfl, rfl, rfl, rfl, trivial⟩, gS⟩
            · exact ⟨by dsimp only; omega, by (have : ¬ (n : Int) = ld := fun e => hrl (hrole.2 e); dsimp only; rw [hv]; unfold lv; split <;> split <;> omega)⟩
            · dsimp only; omega
        · refine XC.exit rfl ?_
          refine hK21 _ _ ?_
          refine XC.keep [(1, _), (5, _), (8, _), (9, _)] ⟨rfl, rfl, rfl, rfl, trivial⟩ ?_
          refine XC.seq fun K28 hK28 => ?_
          refine XC.seq fun K29 hK29 => ?_
          obtain rfl : v = ld := by rw [hv]; unfold lv; rw [if_neg (by omega)]
          refine XC.region ?_
          refine x_v (r_mv rfl) rfl ?_
          refine x_v (r_lt rfl rfl) rfl ?_
          refine XL.nil ?_
          refine hK29 _ _ ?_
          refine XC.keep [(1, _), (5, _), (8, _), (9, _), (59, _)] ⟨rfl, rfl, rfl, rfl, rfl, trivial⟩ ?_
          refine XC.cond_d rfl (fun hc7 => ?_) (fun hc7 => ?_)
          · exfalso; omega
          · refine XC.skip ?_
            refine hK28 _ _ ?_
            refine XC.keep [(1, _), (5, _), (8, _), (9, _)] ⟨rfl, rfl, rfl, rfl, trivial⟩ ?_
            refine XC.seq fun K30 hK30 => ?_
            have hn3 := nd_lt hld.1
            have hway := hok.way
            have hlen3 := hok.len
            obtain ⟨x, hx⟩ : ∃ x, l[v.toNat]? = some x := ⟨_, List.getElem?_eq_getElem (by omega)⟩
            have hxm := List.mem_of_getElem? hx
            have hpx := pOf_at (L := L) hx
            refine XC.mem (blk x.b 90 (pc x.p x.A x.c x.M) :: vmo x.M :: nds (l.eraseIdx v.toNat) :: blk b5 60 [.pointer (some ⟨sb, 0, none⟩)] :: blk sb 68 (sic l wA L.length wc) :: sl wA L.length wc 109 19 (cells fc L) :: K :: Fr) (fun w h => own_open hx (Gets.own gS h)) ?_
            refine XC.region ?_
            refine x_v (r_ld ty60 rfl pK (by rfl)) rfl ?_
            refine x_v (r_mv rfl) rfl ?_
            refine x_v (r_nc rfl) rfl ?_
            refine x_v (r_fa fo68_0 rfl) rfl ?_
            refine x_v (r_iaa (k := v.toNat) Try.underlying65 ty23 rfl rfl (by omega) (by omega)) rfl ?_
            refine x_v (r_ld ty23 rfl pK (pn_at hld.1 hx)) rfl ?_
            refine x_v (r_mv rfl) rfl ?_
            refine x_v (r_remt rfl rfl (by omega)) rfl ?_
            refine x_v (r_addw rfl rfl) rfl ?_
            refine x_v (r_cvi Try.underlying5 Try.underlying21 rfl) rfl ?_
            refine x_v (r_cvr Try.underlying21 Try.underlying9 rfl) rfl ?_
            generalize hE : (Utf8.encode (IntKind.i32.wrap (IntKind.u8.wrap (97 + wh.tmod 26)))).data.toList = ch
            have hchl : ch.length ≤ 8000 := by rw [← hE]; exact enc_le _
            obtain ⟨Lx, q, hpr, hwy, hag⟩ := hld.2.2 ch hchl
            rw [← hst6] at hpr hwy hag
            rw [hpx] at hpr
            refine x_c (r_call0 (args := [_, _]) ⟨rfl, rfl, rfl⟩ (propose_tr (k := K) x.b x.M ch (hok.pb x hxm) (hok.lim x hxm) (by omega) (hok.mm x hxm)) gS) rfl ?_
            rintro _ _ ⟨S, A49, c49, A50, c50, M50, K2, rfl, rfl, hS, hx2, hp2, hrS, hm2⟩
            have h8 := propose_8 x.p ch
            have hlq := (hok.lim x hxm).propose ch
            rw [hpr] at hS hp2 hm2 h8 hlq ⊢
            dsimp only at hS hp2 hm2 h8 hlq ⊢
            have hmx : maxLen = 9223372036854775807 := rfl
            refine XL.slnn (A := A49) pK fun _ hA49 => ?_
            refine XL.fact (R := sl A49 S.length c49 92 18 (cells sc S)) pK (fun w h => h.sl_len.2) fun hc49 => ?_
            obtain ⟨y, hy⟩ : ∃ y : NdR, y = ⟨x.b, q, A50, c50, M50⟩ := ⟨_, rfl⟩
            refine XL.mem (nds (l.set v.toNat y) :: blk b5 60 [.pointer (some ⟨sb, 0, none⟩)] :: sl A49 S.length c49 92 18 (cells sc S) :: blk sb 68 (sic l wA L.length wc) :: sl wA L.length wc 109 19 (cells fc L) :: K2 :: Fr) (fun w h => own_close (by rw [hlen3]; omega) (by rw [hy]; exact Gets.own gS h)) ?_
            refine x_v (r_mv rfl) rfl ?_
            refine x_v (r_ex rfl rfl) rfl ?_
            refine x_v (r_ex rfl rfl) rfl ?_
            refine x_v (r_ex rfl rfl) rfl ?_
            refine x_v (r_as rfl) rfl ?_
            refine x_v (r_as rfl) rfl ?_
            refine x_v (r_as rfl) rfl ?_
            refine XL.nil ?_
            refine hK30 _ _ ?_
            refine XC.keep [(5, _), (8, _), (9, _), (11, _), (12, _), (13, _)] ⟨rfl, rfl, rfl, rfl, rfl, rfl, trivial⟩ ?_
            refine XC.seq fun K31 hK31 => ?_
            refine XC.region ?_
            refine x_v (r_ld ty60 rfl pK (by rfl)) rfl ?_
            refine x_v (r_mv rfl) rfl ?_
            refine x_v (r_mv rfl) rfl ?_
            refine x_c (r_call0 (args := [_, _, _]) ⟨rfl, rfl, rfl, rfl⟩ (sput_tr (Fr := sl A49 S.length c49 92 18 (cells sc S) :: nds (l.set v.toNat y) :: blk b5 60 [.pointer (some ⟨sb, 0, none⟩)] :: K2 :: Fr) sb l wA wc L v A49 c49 S (Rdb.of_sl (.head _ _) (by rw [cells_len sc_len]) hA49) (by omega) (by omega)) gS) rfl ?_
            rintro _ _ ⟨rfl, A60, c60, L2, rfl, hpw, hl2, hin⟩
            rw [← sic_set (l := l) (n := v.toNat) (y := y) hx (by rw [hy])]
            have hst1 : stOf (l.set v.toNat y) L2 = doN (stOf l L) v (q, feed q (others q)) := by (unfold stOf doN; rw [List.map_set, hpw, hS, hy])
            have hok1 : SOk W0 K2 (302 + 5010 * 60 + 1) (l.set v.toNat y) L2 := hok.node hx2 (by rw [hy]; exact hp2) (by rw [hy]; exact hlq) (by rw [hy]; exact hm2) (by omega) (way_ok hok (fun g hg => hg) hrS (by rw [hS]; exact h8) hpw hin)
            rw [← hst1] at hwy hag
            obtain ⟨l1, hl1⟩ : ∃ l1, l1 = l.set v.toNat y := ⟨_, rfl⟩
            rw [← hl1] at hst1 hok1 hwy hag ⊢
            refine XL.nil ?_
            refine hK31 _ _ ?_
            refine XC.keep [(5, _), (8, _), (9, _), (11, _), (13, _)] ⟨rfl, rfl, rfl, rfl, rfl, trivial⟩ ?_
            refine XC.seq fun K32 hK32 => ?_
            refine XC.seq fun K33 hK33 => ?_
            refine XC.region ?_
            refine x_v (r_mv rfl) rfl ?_
            refine x_v (r_ne rfl rfl) rfl ?_
            refine x_v (r_mv rfl) rfl ?_
            refine XL.splitd 82 rfl (fun hg82 => ?_) (fun hg82 => ?_)
            · exfalso; omega
            · refine x_want rfl rfl rfl ?_
              refine x_v (r_mv rfl) rfl ?_
              refine x_want rfl rfl rfl ?_
              refine x_c (r_call (fst := []) (cap := [_]) (vs := []) rfl rfl rfl (round_tr b5 sb l1 A60 c60 L2 hok1 (by omega) (hwy 1 (by omega))) gS) rfl ?_
              rintro _ _ ⟨rfl, l3, A3, c3, L3, K3, rfl, hst3, hx3, hok3⟩
              refine x_want rfl rfl rfl ?_
              refine x_v (r_not rfl) rfl ?_
              refine x_v (r_pk_f rfl rfl) rfl ?_
              refine x_v (r_mv rfl) rfl ?_
              refine x_want rfl rfl rfl ?_
              refine x_v (r_mv rfl) rfl ?_
              refine x_want rfl rfl rfl ?_
              refine x_c (r_call (fst := []) (cap := [_]) (vs := []) rfl rfl rfl (round_tr b5 sb l3 A3 c3 L3 hok3 (by omega) (by rw [hst3]; exact hwy 2 (by omega))) gS) rfl ?_
              rintro _ _ ⟨rfl, l4, A4, c4, L4, K4, rfl, hst4, hx4, hok4⟩
              refine x_want rfl rfl rfl ?_
              refine x_v (r_not rfl) rfl ?_
              refine x_v (r_pk_f rfl rfl) rfl ?_
              refine x_v (r_mv rfl) rfl ?_
              refine x_want rfl rfl rfl ?_
              refine x_v (r_mv rfl) rfl ?_
              refine x_want rfl rfl rfl ?_
              refine x_c (r_call (fst := []) (cap := [_]) (vs := []) rfl rfl rfl (round_tr b5 sb l4 A4 c4 L4 hok4 (by omega) (by rw [hst4, hst3]; exact hwy 3 (by omega))) gS) rfl ?_
              rintro _ _ ⟨rfl, l5, A5, c5, L5, K5, rfl, hst5, hx5, hok5⟩
              have hag5 : Agreed v Lx (stOf l5 L5) := by rw [hst5, hst4, hst3]; exact hag
              refine x_want rfl rfl rfl ?_
              refine x_v (r_not rfl) rfl ?_
              refine x_v (r_pk_f rfl rfl) rfl ?_
              refine XL.nil ?_
              refine hK33 _ _ ?_
              refine XC.keep [(5, _), (9, _), (11, _), (96, _)] ⟨rfl, rfl, rfl, rfl, trivial⟩ ?_
              refine XC.cond_f rfl ?_
              refine XC.skip ?_
              refine hK32 _ _ ?_
              refine XC.keep [(5, _), (9, _), (11, _)] ⟨rfl, rfl, rfl, trivial⟩ ?_
              refine XC.seq fun K34 hK34 => ?_
              refine XC.seq fun K35 hK35 => ?_
              refine XC.region ?_
              refine x_v (r_ld ty60 rfl pK (by rfl)) rfl ?_
              refine x_v (r_nc rfl) rfl ?_
              refine x_v (r_fa fo68_0 rfl) rfl ?_
              refine x_v (r_lda (l' := [_, _, _]) ty65 rfl pK rfl (Sub.get sU)) rfl ?_
              refine x_v (r_mv rfl) rfl ?_
              refine XL.nil ?_
              refine hK35 _ _ ?_
              refine XC.keep [(9, _), (11, _), (100, _), (101, _)] ⟨rfl, rfl, rfl, rfl, trivial⟩ ?_
              refine XC.block ?_
              refine XC.loop (σ := Nat) (fun s => [(9, .int .i64 v), (11, .int .i64 Lx), (100, .agg #[pn l5 0, pn l5 1, pn l5 2]), (101, .int .i64 (s : Int))]) (fun s => blk b5 60 [.pointer (some ⟨sb, 0, none⟩)] :: blk sb 68 (sic l5 A5 L5.length c5) :: sl A5 L5.length c5 109 19 (cells fc L5) :: nds l5 :: K5 :: Fr) (fun s => s ≤ 3) (fun s => 3 - s) 0 ?_ ⟨rfl, rfl, rfl, rfl, trivial⟩ gS ?_
              · omega
              rintro n hn5
              refine XC.seq fun K36 hK36 => ?_
              refine XC.region ?_
              refine x_v (r_lt rfl rfl) rfl ?_
              refine XL.nil ?_
              refine hK36 _ _ ?_
              refine XC.keep [(9, _), (11, _), (100, _), (101, _), (102, _)] ⟨rfl, rfl, rfl, rfl, rfl, trivial⟩ ?_
              refine XC.seq fun K37 hK37 => ?_
              refine XC.cond_d rfl (fun hc9 => ?_) (fun hc9 => ?_)
              · refine XC.skip ?_
                refine hK37 _ _ ?_
                refine XC.keep [(9, _), (11, _), (100, _), (101, _)] ⟨rfl, rfl, rfl, rfl, trivial⟩ ?_
                refine XC.seq fun K38 hK38 => ?_
                refine XC.block ?_
                refine XC.seq fun K39 hK39 => ?_
                have hnn : Rf.Node (n : Int) := by unfold Rf.Node; omega
                obtain ⟨x, hx⟩ : ∃ x, l5[(n : Int).toNat]? = some x := ⟨_, List.getElem?_eq_getElem (by have := hok5.len; omega)⟩
                have hxm := List.mem_of_getElem? hx
                obtain ⟨ha1, ha2, ha3⟩ := hag5 _ hnn
                rw [pOf_at hx] at ha1 ha2 ha3
                refine XC.mem (blk x.b 90 (pc x.p x.A x.c x.M) :: K5 :: vmo x.M :: nds (l5.eraseIdx (n : Int).toNat) :: blk b5 60 [.pointer (some ⟨sb, 0, none⟩)] :: blk sb 68 (sic l5 A5 L5.length c5) :: sl A5 L5.length c5 109 19 (cells fc L5) :: Fr) (fun w h => (by have h1 := own_open hx (Gets.own gS h : Own _ w (nds l5 :: K5 :: blk b5 60 [.pointer (some ⟨sb, 0, none⟩)] :: blk sb 68 (sic l5 A5 L5.length c5) :: sl A5 L5.length c5 109 19 (cells fc L5) :: Fr)); exact Gets.own gS h1)) ?_
                refine XC.region ?_
                refine x_v (r_aix (j := n) Try.underlying65 ty23 rfl rfl rfl (by omega) (arr_at hnn hx)) rfl ?_
                refine x_v (r_as rfl) rfl ?_
                refine XL.nil ?_
                refine hK39 _ _ ?_
                refine XC.keep [(9, _), (11, _), (15, _), (100, _), (101, _)] ⟨rfl, rfl, rfl, rfl, rfl, trivial⟩ ?_
                refine XC.seq fun K40 hK40 => ?_
                refine XC.region ?_
                refine x_v (r_mv rfl) rfl ?_
                refine x_c (r_call0 (args := [_]) ⟨rfl, rfl⟩ (commit_tr (p := x.p) (A := x.A) (c := x.c) x.b x.M) gS) rfl ?_
                rintro _ _ ⟨rfl, rfl⟩
                refine x_v (r_mv rfl) rfl ?_
                refine x_v (r_ne rfl rfl) rfl ?_
                refine x_v (r_mv rfl) rfl ?_
                refine XL.splitd 108 rfl (fun hg108 => ?_) (fun hg108 => ?_)
                · exfalso; omega
                · refine x_want rfl rfl rfl ?_
                  refine x_v (r_mv rfl) rfl ?_
                  refine x_want rfl rfl rfl ?_
                  refine x_c (r_call0 (args := [_]) ⟨rfl, rfl⟩ (plast_tr (k := K5) x.b x.M (hok5.pb x hxm)) gS) rfl ?_
                  rintro _ _ ⟨rfl, rfl⟩
                  refine x_want rfl rfl rfl ?_
                  refine x_v (r_mv rfl) rfl ?_
                  refine x_want rfl rfl rfl ?_
                  refine x_v (r_ne rfl rfl) rfl ?_
                  refine x_v (r_pk_f rfl rfl) rfl ?_
                  refine x_v (r_mv rfl) rfl ?_
                  refine XL.splitd 114 rfl (fun hg114 => ?_) (fun hg114 => ?_)
                  · exfalso; omega
                  · refine x_want rfl rfl rfl ?_
                    refine x_v (r_mv rfl) rfl ?_
                    refine x_want rfl rfl rfl ?_
                    refine x_c (r_call0 (args := [_]) ⟨rfl, rfl⟩ (lead_tr (p := x.p) (A := x.A) (c := x.c) x.b x.M) gS) rfl ?_
                    rintro _ _ ⟨rfl, rfl⟩
                    refine x_want rfl rfl rfl ?_
                    refine x_v (r_mv rfl) rfl ?_
                    refine x_want rfl rfl rfl ?_
                    refine x_v (r_ne rfl rfl) rfl ?_
                    refine x_v (r_pk_f rfl rfl) rfl ?_
                    refine XL.nil ?_
                    refine hK40 _ _ ?_
                    refine XC.keep [(9, _), (11, _), (100, _), (101, _), (119, _)] ⟨rfl, rfl, rfl, rfl, rfl, trivial⟩ ?_
                    refine XC.cond_d rfl (fun hc10 => ?_) (fun hc10 => ?_)
                    · exfalso; omega
                    · refine XC.skip ?_
                      refine hK38 _ _ ?_
                      refine XC.keep [(9, _), (11, _), (100, _), (101, _)] ⟨rfl, rfl, rfl, rfl, trivial⟩ ?_
                      refine XC.mem (nds l5 :: blk b5 60 [.pointer (some ⟨sb, 0, none⟩)] :: blk sb 68 (sic l5 A5 L5.length c5) :: sl A5 L5.length c5 109 19 (cells fc L5) :: K5 :: Fr) (fun w h => own_shut hx (Gets.own gS h)) ?_
                      refine XC.region ?_
                      refine x_v (r_add rfl rfl (by omega)) rfl ?_
                      refine x_v (r_mv rfl) rfl ?_
                      refine XL.nil ?_
                      refine ⟨n + 1, ?_, ?_, ⟨rfl, rfl, rfl, rfl, trivial⟩, gS⟩
                      · omega
                      · omega
              · refine XC.exit rfl ?_
                refine hK34 _ _ ?_
                refine XC.keep [] trivial ?_
                refine XC.seq fun K41 hK41 => ?_
                refine XC.region ?_
                refine x_v (r_as rfl) rfl ?_
                refine XL.nil ?_
                refine hK41 _ _ ?_
                refine XC.keep [(4, _)] ⟨rfl, trivial⟩ ?_
                refine XC.ret ?_
                exact fin1 rfl (rfl) gS
end Go.Proofs.Ytlogcldbflemfaa

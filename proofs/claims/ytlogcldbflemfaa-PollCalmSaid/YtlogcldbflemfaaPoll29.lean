/- Polls: a round in which nothing is lost (function 25). -/
import Derived.Test.YtlogcldbflemfaaPoll25
import Derived.Test.YtlogcldbflemfaaRaftV
namespace Go.Proofs.Ytlogcldbflemfaa
open Go.Sx Go.Rf
set_option linter.unusedVariables false

def tkS (s : Rf.St) : Nat → Rf.St
  | 0 => s
  | k + 1 => tk1 (tkS s k) (k : Int)
theorem tkS3 (s : Rf.St) : tkS s 3 = tickAll s := rfl
theorem lims {W0 : World} {K : HP} {B : Nat} {l : List NdR} {L : List (Int × Int × Mx)} (h : SOk W0 K B l L) : ∀ n, Rf.Node n → ∃ B, Lim B (pOf (stOf l L) n) := fun n hn => by
  have h3 := nd_lt hn
  obtain ⟨x, hx⟩ : ∃ x, l[n.toNat]? = some x := ⟨_, List.getElem?_eq_getElem (by have := h.len; omega)⟩
  exact ⟨B, by rw [pOf_at hx]; exact h.lim x (List.mem_of_getElem? hx)⟩
/-- A site, what was, and how far all has come. -/
structure SA (W0 : World) (K : HP) (B : Nat) (A : Int) (l : List NdR) (L : List (Int × Int × Mx)) (G : Gh) (F : Int → Log) : Prop where
  sg : SG W0 K B l L G F
  ai : AI A (stOf l L)
theorem acts2_tr {W0 : World} {Fr : List HP} {K : HP} {B : Nat} {A : Int} {G : Gh} {F : Int → Log} (sb : Nat) (l : List NdR) (wA : Option Addr) (wc : Nat) (L : List (Int × Int × Mx)) (a1 a2 a3 : Int) (h : SA W0 K B A l L G F) (hB : B ≤ 1000000) (hA : 0 ≤ A) (hA2 : A < most) :
    Tr W0 Try.prog 24 [.pointer (some ⟨sb, 0, none⟩), .agg #[.int .i64 a1, .int .i64 a2, .int .i64 a3]] (blk sb 68 (sic l wA L.length wc) :: sl wA L.length wc 109 19 (cells fc L) :: nds l :: K :: Fr) (fun v Rs' => v = .tuple #[] ∧ ∃ l A' c L K2 G2 F2, Rs' = blk sb 68 (sic l A' L.length c) :: sl A' L.length c 109 19 (cells fc L) :: nds l :: K2 :: Fr ∧ SA W0 K2 (B + 1) (A + 1) l L G2 F2) :=
  (act_tr sb l wA wc L a1 a2 a3 h.sg.ok hB (h.sg.kok hB)).mono fun v Rs' hp => by
    obtain ⟨n, k, u, ch, hn, hv, l2, A2, c2, L2, K2, hR, hst, hx, hok⟩ := hp
    obtain ⟨G2, F2, hi, he⟩ := h.sg.inv.actS a1 hn k u ch
    exact ⟨hv, l2, A2, c2, L2, K2, G2, F2, hR, ⟨hok, by rw [hst]; exact hi⟩, by rw [hst]; exact h.ai.actS h.sg.inv (lims h.sg.ok) hA hA2 a1 hn k u ch⟩

theorem over_no {l l3 : List NdR} {L L3 : List (Int × Int × Mx)} {k : Nat} (hend : (rnd (stOf l L)).way = []) (hcm : comes (5001 - k) (stOf l3 L3) = rnd (stOf l L)) (hk : k ≤ 5001) (h5 : 5000 < (k : Int)) (h0 : 0 < (L3.length : Int)) : False := by
  have e : k = 5001 := by omega
  rw [e, Nat.sub_self] at hcm
  have e2 : comes 0 (stOf l3 L3) = stOf l3 L3 := rfl
  rw [e2] at hcm
  rw [← hcm] at hend
  have : L3.map fv = [] := hend
  have := congrArg List.length this
  rw [List.length_map] at this
  simp only [List.length_nil] at this
  omega
theorem stops {l l3 : List NdR} {L L3 : List (Int × Int × Mx)} {k : Nat} (hcm : comes (5001 - k) (stOf l3 L3) = rnd (stOf l L)) (h0 : ¬ 0 < (L3.length : Int)) : stOf l3 L3 = rnd (stOf l L) := by
  have e : L3 = [] := List.eq_nil_of_length_eq_zero (by omega)
  subst e
  rw [comes_nil (show (stOf l3 []).way = [] from rfl)] at hcm
  exact hcm
/-- What a round leaves. -/
def RdP (W0 : World) (K : HP) (B : Nat) (Fr : List HP) (b5 sb : Nat) (s : Rf.St) (v : Value) (Rs' : List HP) : Prop :=
  v = .bool true ∧ ∃ l A c L K2, Rs' = blk b5 60 [.pointer (some ⟨sb, 0, none⟩)] :: blk sb 68 (sic l A L.length c) :: sl A L.length c 109 19 (cells fc L) :: nds l :: K2 :: Fr ∧ stOf l L = s ∧ Ex W0 K K2 ∧ SOk W0 K2 (B + 5010) l L
theorem round_tr {W0 : World} {Fr : List HP} {K : HP} {B : Nat} (b5 sb : Nat) (l : List NdR) (wA : Option Addr) (wc : Nat) (L : List (Int × Int × Mx)) (h : SOk W0 K B l L) (hB : B + 5010 ≤ 1000000) (hend : (rnd (stOf l L)).way = []) :
    Tr W0 Try.prog 25 [.pointer (some ⟨b5, 0, none⟩)] (blk b5 60 [.pointer (some ⟨sb, 0, none⟩)] :: blk sb 68 (sic l wA L.length wc) :: sl wA L.length wc 109 19 (cells fc L) :: nds l :: K :: Fr) (RdP W0 K B Fr b5 sb (rnd (stOf l L))) := by
  refine Entry.tr (N := 31) (rs := [.tmp 1]) ⟨_, Try.func25, rfl, by kernel_rfl, rfl, rfl⟩ rfl ?_
  refine XC.seq fun K1 hK1 => ?_
  refine XC.region ?_
  refine x_v (r_as rfl) rfl ?_
  refine XL.nil ?_
  refine hK1 _ _ ?_
  refine XC.keep [(0, _)] ⟨rfl, trivial⟩ ?_
  refine XC.seq fun K2 hK2 => ?_
  refine XC.seq fun K3 hK3 => ?_
  refine XC.region ?_
  refine x_v (r_mv rfl) rfl ?_
  refine XL.nil ?_
  refine hK3 _ _ ?_
  refine XC.keep [(0, _), (4, _)] ⟨rfl, rfl, trivial⟩ ?_
  refine XC.block ?_
  refine XC.loop (σ := Nat × List NdR × Option Addr × Nat × List (Int × Int × Mx) × HP) (fun s => [(0, .pointer (some ⟨b5, 0, none⟩)), (4, .int .i64 (s.1 : Int))]) (fun s => blk b5 60 [.pointer (some ⟨sb, 0, none⟩)] :: blk sb 68 (sic s.2.1 s.2.2.1 s.2.2.2.2.1.length s.2.2.2.1) :: sl s.2.2.1 s.2.2.2.2.1.length s.2.2.2.1 109 19 (cells fc s.2.2.2.2.1) :: nds s.2.1 :: s.2.2.2.2.2 :: Fr) (fun s => s.1 ≤ 3 ∧ SOk W0 s.2.2.2.2.2 (B + s.1) s.2.1 s.2.2.2.2.1 ∧ stOf s.2.1 s.2.2.2.2.1 = tkS (stOf l L) s.1 ∧ Ex W0 K s.2.2.2.2.2) (fun s => 3 - s.1) (0, l, wA, wc, L, K) ?_ ⟨rfl, rfl, trivial⟩ gS ?_
  · exact ⟨Nat.zero_le _, h, rfl, Ex.refl W0 K⟩
  rintro ⟨n, l1, A1, c1, L1, K1⟩ ⟨hn, hok, hst, hex⟩
  dsimp only at hn hok hst hex ⊢
  refine XC.seq fun K4 hK4 => ?_
  refine XC.region ?_
  refine x_v (r_lt rfl rfl) rfl ?_
  refine XL.nil ?_
  refine hK4 _ _ ?_
  refine XC.keep [(0, _), (4, _), (5, _)] ⟨rfl, rfl, rfl, trivial⟩ ?_
  refine XC.seq fun K5 hK5 => ?_
  refine XC.cond_d rfl (fun hc1 => ?_) (fun hc1 => ?_)
  · refine XC.skip ?_
    refine hK5 _ _ ?_
    refine XC.keep [(0, _), (4, _)] ⟨rfl, rfl, trivial⟩ ?_
    refine XC.seq fun K6 hK6 => ?_
    refine XC.block ?_
    refine XC.seq fun K7 hK7 => ?_
    have hnn : Rf.Node (n : Int) := by unfold Rf.Node; omega
    have hway := hok.way
    obtain ⟨x, hx⟩ : ∃ x, l1[(n : Int).toNat]? = some x := ⟨_, List.getElem?_eq_getElem (by have := hok.len; omega)⟩
    have hxm := List.mem_of_getElem? hx
    have hpx := pOf_at (L := L1) hx
    have hlen3 := hok.len
    refine XC.region ?_
    refine x_v (r_mv rfl) rfl ?_
    refine x_v (r_as rfl) rfl ?_
    refine XL.nil ?_
    refine hK7 _ _ ?_
    refine XC.keep [(0, _), (2, _), (4, _)] ⟨rfl, rfl, rfl, trivial⟩ ?_
    refine XC.mem (blk x.b 90 (pc x.p x.A x.c x.M) :: vmo x.M :: nds (l1.eraseIdx (n : Int).toNat) :: blk b5 60 [.pointer (some ⟨sb, 0, none⟩)] :: blk sb 68 (sic l1 A1 L1.length c1) :: sl A1 L1.length c1 109 19 (cells fc L1) :: K1 :: Fr) (fun w h => own_open hx (Gets.own gS h)) ?_
    refine XC.draw [blk b5 60 [.pointer (some ⟨sb, 0, none⟩)], blk sb 68 (sic l1 A1 L1.length c1)] true [(0, false), (1, false), (2, false), (3, false), (4, false), (5, false), (6, false), (7, false), (8, false), (9, true), (10, true)] (by kernel_rfl) (by kernel_rfl) ?_
    refine y_v rfl (r_ld ty60 rfl pK (by rfl)) gT rfl ?_
    refine y_v rfl (r_mv rfl) gT rfl ?_
    refine y_v rfl (r_ld ty60 rfl pK (by rfl)) gT rfl ?_
    refine y_v rfl (r_mv rfl) gT rfl ?_
    refine y_v rfl (r_nc rfl) gT rfl ?_
    refine y_v rfl (r_fa fo68_0 rfl) gT rfl ?_
    refine y_v rfl (r_iaa (k := (n : Int).toNat) Try.underlying65 ty23 rfl rfl (by omega) (by omega)) gT rfl ?_
    refine y_v rfl (r_ld ty23 rfl pK (pn_at hnn hx)) gT rfl ?_
    refine y_v rfl (r_mv rfl) gT rfl ?_
    refine y_c rfl (r_call0 (args := [_, _]) ⟨rfl, rfl, rfl⟩ (tick_tr (k := K1) x.b x.M (n : Int) (hok.pb x hxm) (hok.lim x hxm) (by omega) (hok.mm x hxm)) gS) (by rintro _ _ _ _ ⟨S, A49, c49, A50, c50, M50, K2, rfl, rfl, hS, hx2, hp2, hrS, hm2⟩ h; exact Gets.own gS h) rfl ?_
    rintro _ _ ⟨S, A49, c49, A50, c50, M50, K2, rfl, rfl, hS, hx2, hp2, hrS, hm2⟩
    have hmx : maxLen = 9223372036854775807 := rfl
    refine XH.slnn (A := A49) pK fun _ hA49 => ?_
    refine XH.fact (R := sl A49 S.length c49 92 18 (cells sc S)) pK (fun w h => h.sl_len.2) fun hc49 => ?_
    obtain ⟨y, hy⟩ : ∃ y : NdR, y = ⟨x.b, (tick x.p (n : Int)).1, A50, c50, M50⟩ := ⟨_, rfl⟩
    refine XH.mem (nds (l1.set (n : Int).toNat y) :: blk b5 60 [.pointer (some ⟨sb, 0, none⟩)] :: sl A49 S.length c49 92 18 (cells sc S) :: blk sb 68 (sic l1 A1 L1.length c1) :: sl A1 L1.length c1 109 19 (cells fc L1) :: K2 :: Fr) (fun w h => own_close (by rw [hlen3]; omega) (by rw [hy]; exact Gets.own gS h)) ?_
    refine y_c rfl (r_call0 (args := [_, _, _]) ⟨rfl, rfl, rfl, rfl⟩ (sput_tr (Fr := sl A49 S.length c49 92 18 (cells sc S) :: nds (l1.set (n : Int).toNat y) :: blk b5 60 [.pointer (some ⟨sb, 0, none⟩)] :: K2 :: Fr) sb l1 A1 c1 L1 (n : Int) A49 c49 S (Rdb.of_sl (.head _ _) (by rw [cells_len sc_len]) hA49) (by omega) (by omega)) gS) (fun h => absurd h (by decide)) rfl ?_
    rintro _ _ ⟨rfl, A60, c60, L2, rfl, hpw, hl2, hin⟩
    refine XH.nil ?_
    refine hK6 _ _ ?_
    refine XC.keep [(0, _), (4, _)] ⟨rfl, rfl, trivial⟩ ?_
    refine XC.region ?_
    refine x_v (r_add rfl rfl (by omega)) rfl ?_
    refine x_v (r_mv rfl) rfl ?_
    refine XL.nil ?_
    rw [← sic_set (l := l1) (n := (n : Int).toNat) (y := y) hx (by rw [hy])]
    refine ⟨(n + 1, l1.set (n : Int).toNat y, A60, c60, L2, K2), ?_, ?_, ⟨rfl, rfl, trivial⟩, gS⟩
    · exact ⟨by dsimp only; omega, hok.node hx2 (by rw [hy]; exact hp2) (by rw [hy]; exact (hok.lim x hxm).tick (n : Int)) (by rw [hy]; exact hm2) (by show L2.length ≤ 200; omega) (way_ok hok (fun g hg => hg) hrS (by rw [hS]; exact tick_8 _ _) hpw hin), by show stOf _ _ = tk1 (tkS (stOf l L) n) (n : Int); rw [← hst]; unfold tk1; rw [hpx]; unfold stOf doN; rw [List.map_set, hpw, hS, hy], hex.trans hx2⟩
    · dsimp only; omega
  · refine XC.exit rfl ?_
    refine hK2 _ _ ?_
    refine XC.keep [(0, _)] ⟨rfl, trivial⟩ ?_
    refine XC.seq fun K8 hK8 => ?_
    refine XC.seq fun K9 hK9 => ?_
    have h0 : (0 : Nat) ≤ 5001 ∧ SOk W0 K1 (B + 3 + 0) l1 L1 ∧ comes (5001 - 0) (stOf l1 L1) = rnd (stOf l L) ∧ Ex W0 K K1 := by
      have e : n = 3 := by omega
      subst e
      exact ⟨Nat.zero_le _, hok, by rw [hst, tkS3, rnd_eq], hex⟩
    refine XC.region ?_
    refine x_v (r_as rfl) rfl ?_
    refine XL.nil ?_
    refine hK9 _ _ ?_
    refine XC.keep [(0, _), (3, _)] ⟨rfl, rfl, trivial⟩ ?_
    refine XC.block ?_
    refine XC.loop (σ := Nat × List NdR × Option Addr × Nat × List (Int × Int × Mx) × HP) (fun s => [(0, .pointer (some ⟨b5, 0, none⟩)), (3, .int .i64 (s.1 : Int))]) (fun s => blk b5 60 [.pointer (some ⟨sb, 0, none⟩)] :: blk sb 68 (sic s.2.1 s.2.2.1 s.2.2.2.2.1.length s.2.2.2.1) :: sl s.2.2.1 s.2.2.2.2.1.length s.2.2.2.1 109 19 (cells fc s.2.2.2.2.1) :: nds s.2.1 :: s.2.2.2.2.2 :: Fr) (fun s => s.1 ≤ 5001 ∧ SOk W0 s.2.2.2.2.2 (B + 3 + s.1) s.2.1 s.2.2.2.2.1 ∧ comes (5001 - s.1) (stOf s.2.1 s.2.2.2.2.1) = rnd (stOf l L) ∧ Ex W0 K s.2.2.2.2.2) (fun s => 5001 - s.1) (0, l1, A1, c1, L1, K1) ?_ ⟨rfl, rfl, trivial⟩ gS ?_
    · exact h0
    rintro ⟨k, l3, A3, c3, L3, K3⟩ ⟨hk, hok3, hcm, hex3⟩
    dsimp only at hk hok3 hcm hex3 ⊢
    refine XC.seq fun K10 hK10 => ?_
    refine XC.seq fun K11 hK11 => ?_
    refine XC.region ?_
    refine x_v (r_ld ty60 rfl pK (by rfl)) rfl ?_
    refine x_v (r_nc rfl) rfl ?_
    refine x_v (r_fa fo68_1 rfl) rfl ?_
    refine x_v (r_ld ty66 rfl pK (by rfl)) rfl ?_
    refine x_v (r_lensl Try.underlying66 rfl) rfl ?_
    refine x_v (r_gt rfl rfl) rfl ?_
    refine XL.nil ?_
    refine hK11 _ _ ?_
    refine XC.keep [(0, _), (3, _), (24, _)] ⟨rfl, rfl, rfl, trivial⟩ ?_
    refine XC.cond_d rfl (fun hc2 => ?_) (fun hc2 => ?_)
    · refine XC.skip ?_
      refine hK10 _ _ ?_
      refine XC.keep [(0, _), (3, _)] ⟨rfl, rfl, trivial⟩ ?_
      refine XC.seq fun K12 hK12 => ?_
      refine XC.block ?_
      refine XC.seq fun K13 hK13 => ?_
      refine XC.seq fun K14 hK14 => ?_
      refine XC.region ?_
      refine x_v (r_mv rfl) rfl ?_
      refine x_v (r_gt rfl rfl) rfl ?_
      refine XL.nil ?_
      refine hK14 _ _ ?_
      refine XC.keep [(0, _), (3, _), (28, _)] ⟨rfl, rfl, rfl, trivial⟩ ?_
      refine XC.cond_d rfl (fun hc3 => ?_) (fun hc3 => ?_)
      · exfalso; exact over_no hend hcm hk (by omega) (by omega)
      · refine XC.skip ?_
        refine hK13 _ _ ?_
        refine XC.keep [(0, _), (3, _)] ⟨rfl, rfl, trivial⟩ ?_
        refine XC.region ?_
        refine x_v (r_ld ty60 rfl pK (by rfl)) rfl ?_
        refine x_c (r_call0 (args := [_, _, _]) ⟨rfl, rfl, rfl, rfl⟩ (come_tr sb l3 A3 c3 L3 0 false hok3 (by omega) (by omega)) gS) rfl ?_
        rintro _ _ ⟨rfl, l4, A4, c4, L4, K4, rfl, hst4, hx4, hok4⟩
        refine XL.nil ?_
        refine hK12 _ _ ?_
        refine XC.keep [(0, _), (3, _)] ⟨rfl, rfl, trivial⟩ ?_
        refine XC.region ?_
        refine x_v (r_mv rfl) rfl ?_
        refine x_v (r_add rfl rfl (by omega)) rfl ?_
        refine x_v (r_as rfl) rfl ?_
        refine XL.nil ?_
        refine ⟨(k + 1, l4, A4, c4, L4, K4), ?_, ?_, ⟨rfl, rfl, trivial⟩, gS⟩
        · exact ⟨by dsimp only; omega, hok4, by dsimp only; rw [hst4, ← hcm, show 5001 - k = (5001 - (k + 1)) + 1 by omega]; rfl, hex3.trans hx4⟩
        · dsimp only; omega
    · refine XC.exit rfl ?_
      refine hK8 _ _ ?_
      refine XC.keep [] trivial ?_
      refine XC.seq fun K15 hK15 => ?_
      refine XC.region ?_
      refine x_v (r_as rfl) rfl ?_
      refine XL.nil ?_
      refine hK15 _ _ ?_
      refine XC.keep [(1, _)] ⟨rfl, trivial⟩ ?_
      refine XC.ret ?_
      exact fin1 rfl (⟨rfl, l3, A3, c3, L3, K3, rfl, stops hcm (by omega), hex3, ⟨hok3.len, hok3.pb, fun x hx => (hok3.lim x hx).mono (by omega), hok3.mm, hok3.way, hok3.fl⟩⟩) gS
end Go.Proofs.Ytlogcldbflemfaa

/- Polls: what is kept may be; a site and what was, act by act. -/
import Derived.Test.YtlogcldbflemfaaPoll22
namespace Go.Proofs.Ytlogcldbflemfaa
open Go.Sx Go.Rf
set_option linter.unusedVariables false

theorem rising_of {T : Int} : ∀ (l : List En) (a : Int), (∀ (j : Nat) e, l[j]? = some e → max a 1 ≤ e.term ∧ e.term ≤ T ∧ e.data.length ≤ 8000) → Asc l → rising a T l = true
  | [], a, _, _ => rfl
  | e :: l, a, h, ha => by
    have h0 := h 0 e rfl
    unfold rising
    rw [Bool.and_eq_true, Bool.and_eq_true, Bool.and_eq_true, decide_eq_true_eq, decide_eq_true_eq, decide_eq_true_eq]
    refine ⟨⟨⟨h0.1, h0.2.1⟩, by omega⟩, rising_of l e.term (fun j x hx => ?_) (fun i j x y hij hx hy => ha (i + 1) (j + 1) x y (by omega) (by simpa using hx) (by simpa using hy))⟩
    have h1 := h (j + 1) x (by simpa using hx)
    have h2 := ha 0 (j + 1) e x (by omega) rfl (by simpa using hx)
    omega
theorem inR_of {n a b : Int} (h1 : a ≤ n) (h2 : n ≤ b) : inR n a b = true := by unfold inR; rw [Bool.and_eq_true, decide_eq_true_eq, decide_eq_true_eq]; exact ⟨h1, h2⟩
theorem kok_of {G : Gh} {n : Int} {p : Pl} {FL : Log} {B : Nat} (h : NInv G n p FL) (hL : Lim B p) (hB : B ≤ 1000000) : KOkP p := by
  have hm : most = 1099511627776 := rfl
  have t0 := hL.t0; have t1 := hL.t1; have b0 := hL.b0; have a0 := hL.a0; have a1 := hL.a1; have el := hL.el; have sn := hL.sn
  have hbt : (p.base = 0 ∧ p.bterm = 0) ∨ ∃ e, 0 < p.base ∧ FL[p.base.toNat - 1]? = some e ∧ p.bterm = e.term := by
    rcases Int.lt_or_eq_of_le b0 with hb | hb
    · right
      have hl := h.bl
      obtain ⟨e, he⟩ : ∃ e, FL[p.base.toNat - 1]? = some e := ⟨_, List.getElem?_eq_getElem (by omega)⟩
      refine ⟨e, hb, he, ?_⟩
      rw [h.bt]; unfold tat; rw [if_neg (by omega), he]
    · left
      refine ⟨hb.symm, ?_⟩
      rw [h.bt]; unfold tat; rw [if_pos (by omega)]
  have hb1 : 0 ≤ p.bterm ∧ p.bterm ≤ p.term ∧ (0 < p.base → 1 ≤ p.bterm) := by
    rcases hbt with ⟨q1, q2⟩ | ⟨e, q1, q2, q3⟩
    · omega
    · have := (h.ok _ e q2).1; have := h.below _ e q2; omega
  refine ⟨inR_of t0 (by omega), inR_of hL.v0 hL.v1, inR_of b0 (by omega), inR_of hb1.1 hb1.2.1, ⟨fun hz => ?_, fun hz => ?_⟩, sn, by omega, ?_⟩
  · rcases hbt with ⟨_, q2⟩ | ⟨e, q1, _⟩
    · exact q2
    · omega
  · have := hb1.2.2; omega
  · refine rising_of _ _ (fun j e he => ?_) (fun i j x y hij hx hy => ?_)
    · have hd := hL.ed e (List.mem_of_getElem? he)
      rw [h.es, List.getElem?_drop] at he
      have o1 := (h.ok _ e he).1
      have o2 := h.below _ e he
      refine ⟨?_, o2, hd⟩
      rcases hbt with ⟨_, q2⟩ | ⟨e', q1, q2, q3⟩
      · omega
      · have := h.asc _ _ e' e (by omega) q2 he; omega
    · rw [h.es, List.getElem?_drop] at hx hy
      exact h.asc _ _ x y (by omega) hx hy

theorem node_of {l : List NdR} (h3 : l.length = 3) {x : NdR} (hx : x ∈ l) : ∃ n : Int, Rf.Node n ∧ l[n.toNat]? = some x := by
  obtain ⟨i, hi⟩ := List.mem_iff_getElem?.1 hx
  have hlt : i < 3 := by rw [← h3]; exact (List.getElem?_eq_some_iff.1 hi).1
  exact ⟨i, by unfold Rf.Node; omega, by simpa using hi⟩
/-- A site as it should be, with what was. -/
structure SG (W0 : World) (K : HP) (B : Nat) (l : List NdR) (L : List (Int × Int × Mx)) (G : Gh) (F : Int → Log) : Prop where
  ok : SOk W0 K B l L
  inv : SInv G F (stOf l L)
theorem SG.at_ {W0 : World} {K : HP} {B : Nat} {l : List NdR} {L : List (Int × Int × Mx)} {G : Gh} {F : Int → Log} (h : SG W0 K B l L G F) {n : Int} (hn : Rf.Node n) {x : NdR} (hx : l[n.toNat]? = some x) : NInv G n x.p (F n) := by
  have := h.inv.nd n hn
  rwa [pOf_at hx] at this
theorem SG.kok {W0 : World} {K : HP} {B : Nat} {l : List NdR} {L : List (Int × Int × Mx)} {G : Gh} {F : Int → Log} (h : SG W0 K B l L G F) (hB : B ≤ 1000000) : ∀ x ∈ l, KOkP x.p := fun x hx => by
  obtain ⟨n, hn, hl⟩ := node_of h.ok.len hx
  exact kok_of (h.at_ hn hl) (h.ok.lim x hx) hB
/-- The memory of a site. -/
def SiM (sb : Nat) (l : List NdR) (A : Option Addr) (c : Nat) (L : List (Int × Int × Mx)) (K : HP) (Fr : List HP) : List HP := blk sb 68 (sic l A L.length c) :: sl A L.length c 109 19 (cells fc L) :: nds l :: K :: Fr

theorem acts_tr {W0 : World} {Fr : List HP} {K : HP} {B : Nat} {G : Gh} {F : Int → Log} (sb : Nat) (l : List NdR) (wA : Option Addr) (wc : Nat) (L : List (Int × Int × Mx)) (a1 a2 a3 : Int) (h : SG W0 K B l L G F) (hB : B ≤ 1000000) :
    Tr W0 Try.prog 24 [.pointer (some ⟨sb, 0, none⟩), .agg #[.int .i64 a1, .int .i64 a2, .int .i64 a3]] (blk sb 68 (sic l wA L.length wc) :: sl wA L.length wc 109 19 (cells fc L) :: nds l :: K :: Fr) (fun v Rs' => v = .tuple #[] ∧ ∃ l A c L K2 G2 F2, Rs' = blk sb 68 (sic l A L.length c) :: sl A L.length c 109 19 (cells fc L) :: nds l :: K2 :: Fr ∧ Ex W0 K K2 ∧ SG W0 K2 (B + 1) l L G2 F2 ∧ Ext G G2) :=
  (act_tr sb l wA wc L a1 a2 a3 h.ok hB (h.kok hB)).mono fun v Rs' hp => by
    obtain ⟨n, k, u, ch, hn, hv, l2, A2, c2, L2, K2, hR, hst, hx, hok⟩ := hp
    obtain ⟨G2, F2, hi, he⟩ := h.inv.actS a1 hn k u ch
    exact ⟨hv, l2, A2, c2, L2, K2, G2, F2, hR, hx, ⟨hok, by rw [hst]; exact hi⟩, he⟩
theorem sg_begun {W0 : World} {l : List NdR} {K : HP} (h : stOf l [] = Rf.begun) (hok : SOk W0 K 2 l []) : SG W0 K 2 l [] G0 (fun _ => []) := ⟨hok, by rw [h]; exact begun_inv⟩
end Go.Proofs.Ytlogcldbflemfaa

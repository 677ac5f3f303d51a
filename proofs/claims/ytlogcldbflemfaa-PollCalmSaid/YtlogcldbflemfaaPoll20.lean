/- Polls: a mail comes, or is lost (function 27). -/
import Derived.Test.YtlogcldbflemfaaPoll19
namespace Go.Proofs.Ytlogcldbflemfaa
open Go.Sx Go.Rf
set_option linter.unusedVariables false

theorem drop_rd' {α : Type} {f : α → List Value} {m : Nat} (hf : ∀ x, (f x).length = m) {W0 : World} {Fr : List HP} {A : Option Addr} {c : Nat} {es : List α} (h : Rdb W0 Fr A es.length m (cells f es)) (hc : es.length ≤ c) {j : Nat} (hj : j ≤ es.length) : Rdb W0 Fr (if c = j then A else A.map (·.add (j * m))) (es.drop j).length m (cells f (es.drop j)) := by
  have h1 := h.cut (lo := j) (hi := es.length) (cap := c) hj (Nat.le_refl _) hc
  have hl : (es.drop j).length = es.length - j := List.length_drop ..
  rw [hl]
  rw [cells_drop hf, show ((es.length - j) * m) = (es.drop j).length * m by rw [hl], List.take_of_length_le (by rw [cells_len hf]; exact Nat.le_refl _)] at h1
  exact h1

/-- What a site's function leaves: the site is 's'. -/
def SiP (W0 : World) (K : HP) (B : Nat) (Fr : List HP) (sb : Nat) (s : Rf.St) (v : Value) (Rs' : List HP) : Prop :=
  v = .tuple #[] ∧ ∃ l A c L K2, Rs' = blk sb 68 (sic l A L.length c) :: sl A L.length c 109 19 (cells fc L) :: nds l :: K2 :: Fr ∧ stOf l L = s ∧ Ex W0 K K2 ∧ SOk W0 K2 (B + 1) l L

theorem come_tr {W0 : World} {Fr : List HP} {K : HP} {B : Nat} (sb : Nat) (l : List NdR) (wA : Option Addr) (wc : Nat) (L : List (Int × Int × Mx)) (k : Nat) (lost : Bool) (h : SOk W0 K B l L) (hB : B ≤ 1000000) (hk : k < L.length) :
    Tr W0 Try.prog 27 [.pointer (some ⟨sb, 0, none⟩), .int .i64 (k : Int), .bool lost] (blk sb 68 (sic l wA L.length wc) :: sl wA L.length wc 109 19 (cells fc L) :: nds l :: K :: Fr) (SiP W0 K B Fr sb (Rf.come (stOf l L) k lost)) := by
  obtain ⟨f, hf⟩ : ∃ f, L[k]? = some f := ⟨_, List.getElem?_eq_getElem hk⟩
  have hway := h.way
  have hlen3 := h.len
  obtain ⟨hfn, hfr, hf8⟩ := h.fl f (List.mem_of_getElem? hf)
  obtain ⟨L1, hL1⟩ : ∃ L1, L1 = L.take k ++ L.drop (k + 1) := ⟨_, rfl⟩
  have hle : L1.length = L.length - 1 := by rw [hL1, List.length_append, List.length_take, List.length_drop]; omega
  have hsub : ∀ g ∈ L1, g ∈ L := fun g hg => by rw [hL1] at hg; exact (List.mem_append.1 hg).elim List.mem_of_mem_take List.mem_of_mem_drop
  have hev : L1.map fv = (L.map fv).eraseIdx k := by rw [hL1, List.eraseIdx_eq_take_drop_succ, List.map_append, List.map_take, List.map_drop]
  have hcm : Rf.come (stOf l L) k lost = if lost then ⟨l.map NdR.p, L1.map fv⟩ else doN ⟨l.map NdR.p, L1.map fv⟩ f.2.1 (take (pOf (stOf l L) f.2.1) f.1 f.2.2.m) := by
    unfold Rf.come; rw [show (stOf l L).way[k]? = some (fv f) by show (L.map fv)[k]? = _; rw [List.getElem?_map, hf]; rfl]; rw [hev]; rfl
  obtain ⟨x, hx⟩ : ∃ x, l[f.2.1.toNat]? = some x := ⟨_, List.getElem?_eq_getElem (by have := h.len; have := nd_lt hfn; omega)⟩
  have hpx := pOf_at (L := L) hx
  have hxm := List.mem_of_getElem? hx
  have hn3 := nd_lt hfn
  refine Entry.tr (N := 51) (rs := []) ⟨_, Try.func27, rfl, by kernel_rfl, rfl, rfl⟩ rfl ?_
  refine XC.seq fun K1 hK1 => ?_
  refine XC.slnn (A := wA) (by repeat (first | exact Pick.head _ _ | apply Pick.tail)) fun _ hwA => ?_
  refine XC.sllen (A := wA) (by repeat (first | exact Pick.head _ _ | apply Pick.tail)) fun _ hcap _ => ?_
  have hrw : Rdb W0 [sl wA L.length wc 109 19 (cells fc L)] wA L.length 19 (cells fc L) := Rdb.of_sl (.head _ _) (by rw [cells_len fc_len]) hwA
  obtain ⟨g0, rfl⟩ := hwA (by omega)
  obtain ⟨ob, oo, ho, hat⟩ := hrw.at_ (by omega)
  cases ho
  have hlk : (L.take k).length = k := by rw [List.length_take]; omega
  have hld : (L.drop (k + 1)).length = L.length - (k + 1) := List.length_drop ..
  refine XC.region ?_
  refine x_v (r_mv rfl) rfl ?_
  refine x_v (r_nc rfl) rfl ?_
  refine x_v (r_fa fo68_1 rfl) rfl ?_
  refine x_v (r_ld ty66 rfl (by repeat (first | exact Pick.head _ _ | apply Pick.tail)) (by rfl)) rfl ?_
  refine x_v (r_mv rfl) rfl ?_
  refine x_v (r_ia (k := k) Try.underlying66 ty109 rfl rfl (by omega) (by omega)) rfl ?_
  refine x_v (r_ldar (l' := fc f) ty109 rfl rfl (fun w hw j u hu => by rw [Nat.add_assoc]; exact hat w (Gets.own (by repeat (first | exact Gets.done _ | exact Gets.all _ | (apply Gets.step; focus ((repeat (first | exact Pick.head _ _ | apply Pick.tail)); done)) | apply Gets.drop)) hw) _ u (cells_get fc_len L _ _ hf j u hu))) rfl ?_
  refine x_a (r_al ty109 rfl) rfl fun b6 => ?_
  refine x_e (r_st ty109 rfl rfl rfl rfl rfl (by repeat (first | exact Upd.head _ _ _ | apply Upd.tail)) (by repeat (first | exact Over.nil _ | apply Over.put | apply Over.skip))) ?_
  refine XL.nil ?_
  refine hK1 _ _ ?_
  refine XC.keep [(0, _), (1, _), (2, _), (6, _)] ⟨rfl, rfl, rfl, rfl, trivial⟩ ?_
  refine XC.seq fun K2 hK2 => ?_
  refine XC.draw [blk sb 68 (sic l (some ⟨g0, 0, none⟩) L.length wc)] true [(0, false), (2, false), (3, false), (4, false), (5, false), (6, false), (7, false), (9, false), (10, false), (11, false), (12, false), (13, false), (14, false), (15, false), (1, true), (8, true), (16, true), (17, false), (18, false), (19, true)] (by kernel_rfl) (by kernel_rfl) ?_
  refine y_v rfl (r_mv rfl) (fun _ h => Gets.own (by repeat (first | exact Gets.done _ | exact Gets.all _ | (apply Gets.step; focus ((repeat (first | exact Pick.head _ _ | apply Pick.tail)); done)) | apply Gets.drop)) h) rfl ?_
  refine y_v rfl (r_mv rfl) (fun _ h => Gets.own (by repeat (first | exact Gets.done _ | exact Gets.all _ | (apply Gets.step; focus ((repeat (first | exact Pick.head _ _ | apply Pick.tail)); done)) | apply Gets.drop)) h) rfl ?_
  refine y_v rfl (r_nc rfl) (fun _ h => Gets.own (by repeat (first | exact Gets.done _ | exact Gets.all _ | (apply Gets.step; focus ((repeat (first | exact Pick.head _ _ | apply Pick.tail)); done)) | apply Gets.drop)) h) rfl ?_
  refine y_v rfl (r_fa fo68_1 rfl) (fun _ h => Gets.own (by repeat (first | exact Gets.done _ | exact Gets.all _ | (apply Gets.step; focus ((repeat (first | exact Pick.head _ _ | apply Pick.tail)); done)) | apply Gets.drop)) h) rfl ?_
  refine y_v rfl (r_ld ty66 rfl (by repeat (first | exact Pick.head _ _ | apply Pick.tail)) (by rfl)) (fun _ h => Gets.own (by repeat (first | exact Gets.done _ | exact Gets.all _ | (apply Gets.step; focus ((repeat (first | exact Pick.head _ _ | apply Pick.tail)); done)) | apply Gets.drop)) h) rfl ?_
  refine y_v rfl (r_mv rfl) (fun _ h => Gets.own (by repeat (first | exact Gets.done _ | exact Gets.all _ | (apply Gets.step; focus ((repeat (first | exact Pick.head _ _ | apply Pick.tail)); done)) | apply Gets.drop)) h) rfl ?_
  refine y_v rfl (r_sll0 (L.take k).length Try.underlying66 ty109 rfl ⟨.i64, by rw [hlk]; rfl⟩ (by omega)) (fun _ h => Gets.own (by repeat (first | exact Gets.done _ | exact Gets.all _ | (apply Gets.step; focus ((repeat (first | exact Pick.head _ _ | apply Pick.tail)); done)) | apply Gets.drop)) h) rfl ?_
  refine y_v rfl (r_mv rfl) (fun _ h => Gets.own (by repeat (first | exact Gets.done _ | exact Gets.all _ | (apply Gets.step; focus ((repeat (first | exact Pick.head _ _ | apply Pick.tail)); done)) | apply Gets.drop)) h) rfl ?_
  refine y_v rfl (r_nc rfl) (fun _ h => Gets.own (by repeat (first | exact Gets.done _ | exact Gets.all _ | (apply Gets.step; focus ((repeat (first | exact Pick.head _ _ | apply Pick.tail)); done)) | apply Gets.drop)) h) rfl ?_
  refine y_v rfl (r_fa fo68_1 rfl) (fun _ h => Gets.own (by repeat (first | exact Gets.done _ | exact Gets.all _ | (apply Gets.step; focus ((repeat (first | exact Pick.head _ _ | apply Pick.tail)); done)) | apply Gets.drop)) h) rfl ?_
  refine y_v rfl (r_ld ty66 rfl (by repeat (first | exact Pick.head _ _ | apply Pick.tail)) (by rfl)) (fun _ h => Gets.own (by repeat (first | exact Gets.done _ | exact Gets.all _ | (apply Gets.step; focus ((repeat (first | exact Pick.head _ _ | apply Pick.tail)); done)) | apply Gets.drop)) h) rfl ?_
  refine y_v rfl (r_mv rfl) (fun _ h => Gets.own (by repeat (first | exact Gets.done _ | exact Gets.all _ | (apply Gets.step; focus ((repeat (first | exact Pick.head _ _ | apply Pick.tail)); done)) | apply Gets.drop)) h) rfl ?_
  refine y_v rfl (r_add rfl rfl (by omega)) (fun _ h => Gets.own (by repeat (first | exact Gets.done _ | exact Gets.all _ | (apply Gets.step; focus ((repeat (first | exact Pick.head _ _ | apply Pick.tail)); done)) | apply Gets.drop)) h) rfl ?_
  refine y_v rfl (r_sll (k + 1) (L.length) Try.underlying66 ty109 rfl ⟨.i64, by rw [Int.natCast_add]; rfl⟩ rfl (by omega) (by omega)) (fun _ h => Gets.own (by repeat (first | exact Gets.done _ | exact Gets.all _ | (apply Gets.step; focus ((repeat (first | exact Pick.head _ _ | apply Pick.tail)); done)) | apply Gets.drop)) h) rfl ?_
  rw [show L.length - (k + 1) = (L.drop (k + 1)).length by rw [List.length_drop]]
  refine y_a rfl (r_bs (vs := []) rfl rfl bs66_0_) (fun _ _ _ h => Gets.own (by repeat (first | exact Gets.done _ | exact Gets.all _ | (apply Gets.step; focus ((repeat (first | exact Pick.head _ _ | apply Pick.tail)); done)) | apply Gets.drop)) h) rfl fun b15 => ?_
  refine XH.shut_ (n := 0) (c := 0) (sz := 19) (xs := []) (by repeat (first | exact Pick.head _ _ | apply Pick.tail)) (Nat.le_refl _) (Nat.zero_le _) rfl rfl ?_
  refine y_a rfl (r_app Try.underlying66 ty109 rfl (by decide) rfl rfl (by repeat (first | exact Pick.head _ _ | apply Pick.tail)) (rd_take fc_len (hrw.mono (fun w h => Gets.own (by repeat (first | exact Gets.done _ | exact Gets.all _ | (apply Gets.step; focus ((repeat (first | exact Pick.head _ _ | apply Pick.tail)); done)) | apply Gets.drop)) h)) (by omega)) (cells_one' fc_one _) (by unfold maxLen; omega) (by omega)) (fun _ _ _ h => Gets.own (by repeat (first | exact Gets.done _ | exact Gets.all _ | (apply Gets.step; focus ((repeat (first | exact Pick.head _ _ | apply Pick.tail)); done)) | apply Gets.drop)) h) rfl fun ⟨A22, c22⟩ => ?_
  dsimp only
  rw [Nat.zero_add, List.nil_append]
  refine y_a rfl (r_app Try.underlying66 ty109 rfl (by decide) rfl rfl (by repeat (first | exact Pick.head _ _ | apply Pick.tail)) (drop_rd' fc_len (hrw.mono (fun w h => Gets.own (by repeat (first | exact Gets.done _ | exact Gets.all _ | (apply Gets.step; focus ((repeat (first | exact Pick.head _ _ | apply Pick.tail)); done)) | apply Gets.drop)) h)) hcap (by omega)) (cells_one' fc_one _) (by unfold maxLen; omega) (by omega)) (fun _ _ _ h => Gets.own (by repeat (first | exact Gets.done _ | exact Gets.all _ | (apply Gets.step; focus ((repeat (first | exact Pick.head _ _ | apply Pick.tail)); done)) | apply Gets.drop)) h) rfl fun ⟨A30, c30⟩ => ?_
  dsimp only
  rw [show (L.take k).length + (L.drop (k + 1)).length = L1.length by rw [hL1, List.length_append], ← cells_app, ← hL1]
  refine y_v rfl (r_nc rfl) (fun _ h => Gets.own (by repeat (first | exact Gets.done _ | exact Gets.all _ | (apply Gets.step; focus ((repeat (first | exact Pick.head _ _ | apply Pick.tail)); done)) | apply Gets.drop)) h) rfl ?_
  refine y_v rfl (r_fa fo68_1 rfl) (fun _ h => Gets.own (by repeat (first | exact Gets.done _ | exact Gets.all _ | (apply Gets.step; focus ((repeat (first | exact Pick.head _ _ | apply Pick.tail)); done)) | apply Gets.drop)) h) rfl ?_
  refine y_e rfl (r_st ty66 rfl rfl rfl rfl rfl (by repeat (first | exact Upd.head _ _ _ | apply Upd.tail)) (by repeat (first | exact Over.nil _ | apply Over.put | apply Over.skip))) (fun h => absurd h (by decide)) ?_
  refine XH.nil ?_
  refine hK2 _ _ ?_
  refine XC.keep [(0, _), (2, _), (6, _)] ⟨rfl, rfl, rfl, trivial⟩ ?_
  refine XC.seq fun K3 hK3 => ?_
  refine XC.region ?_
  refine x_v (r_mv rfl) rfl ?_
  refine x_v (r_not rfl) rfl ?_
  refine XL.nil ?_
  refine hK3 _ _ ?_
  refine XC.keep [(0, _), (6, _), (34, _)] ⟨rfl, rfl, rfl, trivial⟩ ?_
  refine XC.cond rfl (fun hc1 => ?_) (fun hc1 => ?_)
  · refine XC.mem (blk x.b 90 (pc x.p x.A x.c x.M) :: vmo x.M :: nds (l.eraseIdx f.2.1.toNat) :: blk b6 109 (fc f) :: blk sb 68 (sic l A30 L1.length c30) :: sl A30 L1.length c30 109 19 (cells fc L1) :: K :: Fr) (fun w h => own_open hx (Gets.own (by repeat (first | exact Gets.done _ | exact Gets.all _ | (apply Gets.step; focus ((repeat (first | exact Pick.head _ _ | apply Pick.tail)); done)) | apply Gets.drop)) h)) ?_
    refine XC.draw [blk b6 109 (fc f), blk sb 68 (sic l A30 L1.length c30)] true [(0, false), (1, false), (2, false), (3, false), (4, false), (5, false), (6, false), (7, false), (8, false), (9, false), (10, false), (11, false), (12, false), (13, false), (14, true), (15, true)] (by kernel_rfl) (by kernel_rfl) ?_
    refine y_v rfl (r_mv rfl) (fun _ h => Gets.own (by repeat (first | exact Gets.done _ | exact Gets.all _ | (apply Gets.step; focus ((repeat (first | exact Pick.head _ _ | apply Pick.tail)); done)) | apply Gets.drop)) h) rfl ?_
    refine y_v rfl (r_fa fo109_1 rfl) (fun _ h => Gets.own (by repeat (first | exact Gets.done _ | exact Gets.all _ | (apply Gets.step; focus ((repeat (first | exact Pick.head _ _ | apply Pick.tail)); done)) | apply Gets.drop)) h) rfl ?_
    refine y_v rfl (r_ld ty3 rfl (by repeat (first | exact Pick.head _ _ | apply Pick.tail)) (by rfl)) (fun _ h => Gets.own (by repeat (first | exact Gets.done _ | exact Gets.all _ | (apply Gets.step; focus ((repeat (first | exact Pick.head _ _ | apply Pick.tail)); done)) | apply Gets.drop)) h) rfl ?_
    refine y_v rfl (r_mv rfl) (fun _ h => Gets.own (by repeat (first | exact Gets.done _ | exact Gets.all _ | (apply Gets.step; focus ((repeat (first | exact Pick.head _ _ | apply Pick.tail)); done)) | apply Gets.drop)) h) rfl ?_
    refine y_v rfl (r_fa fo109_1 rfl) (fun _ h => Gets.own (by repeat (first | exact Gets.done _ | exact Gets.all _ | (apply Gets.step; focus ((repeat (first | exact Pick.head _ _ | apply Pick.tail)); done)) | apply Gets.drop)) h) rfl ?_
    refine y_v rfl (r_ld ty3 rfl (by repeat (first | exact Pick.head _ _ | apply Pick.tail)) (by rfl)) (fun _ h => Gets.own (by repeat (first | exact Gets.done _ | exact Gets.all _ | (apply Gets.step; focus ((repeat (first | exact Pick.head _ _ | apply Pick.tail)); done)) | apply Gets.drop)) h) rfl ?_
    refine y_v rfl (r_nc rfl) (fun _ h => Gets.own (by repeat (first | exact Gets.done _ | exact Gets.all _ | (apply Gets.step; focus ((repeat (first | exact Pick.head _ _ | apply Pick.tail)); done)) | apply Gets.drop)) h) rfl ?_
    refine y_v rfl (r_fa fo68_0 rfl) (fun _ h => Gets.own (by repeat (first | exact Gets.done _ | exact Gets.all _ | (apply Gets.step; focus ((repeat (first | exact Pick.head _ _ | apply Pick.tail)); done)) | apply Gets.drop)) h) rfl ?_
    refine y_v rfl (r_iaa (k := f.2.1.toNat) Try.underlying65 ty23 rfl rfl (by omega) (by omega)) (fun _ h => Gets.own (by repeat (first | exact Gets.done _ | exact Gets.all _ | (apply Gets.step; focus ((repeat (first | exact Pick.head _ _ | apply Pick.tail)); done)) | apply Gets.drop)) h) rfl ?_
    refine y_v rfl (r_ld ty23 rfl (by repeat (first | exact Pick.head _ _ | apply Pick.tail)) (pn_at hfn hx)) (fun _ h => Gets.own (by repeat (first | exact Gets.done _ | exact Gets.all _ | (apply Gets.step; focus ((repeat (first | exact Pick.head _ _ | apply Pick.tail)); done)) | apply Gets.drop)) h) rfl ?_
    refine y_v rfl (r_fa fo109_0 rfl) (fun _ h => Gets.own (by repeat (first | exact Gets.done _ | exact Gets.all _ | (apply Gets.step; focus ((repeat (first | exact Pick.head _ _ | apply Pick.tail)); done)) | apply Gets.drop)) h) rfl ?_
    refine y_v rfl (r_ld ty3 rfl (by repeat (first | exact Pick.head _ _ | apply Pick.tail)) (by rfl)) (fun _ h => Gets.own (by repeat (first | exact Gets.done _ | exact Gets.all _ | (apply Gets.step; focus ((repeat (first | exact Pick.head _ _ | apply Pick.tail)); done)) | apply Gets.drop)) h) rfl ?_
    refine y_v rfl (r_fa fo109_2 rfl) (fun _ h => Gets.own (by repeat (first | exact Gets.done _ | exact Gets.all _ | (apply Gets.step; focus ((repeat (first | exact Pick.head _ _ | apply Pick.tail)); done)) | apply Gets.drop)) h) rfl ?_
    refine y_v rfl (r_lda (l' := [_, _, _, _, _, _, _, _, _, _, _, _, _, _, _, _, _]) ty42 rfl (by repeat (first | exact Pick.head _ _ | apply Pick.tail)) rfl (Sub.get (by repeat (first | exact Sub.nil _ | apply Sub.take | apply Sub.skip)))) (fun _ h => Gets.own (by repeat (first | exact Gets.done _ | exact Gets.all _ | (apply Gets.step; focus ((repeat (first | exact Pick.head _ _ | apply Pick.tail)); done)) | apply Gets.drop)) h) rfl ?_
    refine y_c rfl (r_call0 (args := [_, _, _]) ⟨rfl, rfl, rfl, rfl⟩ (take_tr (k := K) x.b x.M f.1 f.2.2 (h.pb x hxm) (h.lim x hxm) hB (h.mm x hxm) hfr.1 hfr.2.1 (by omega)) (by repeat (first | exact Gets.done _ | exact Gets.all _ | (apply Gets.step; focus ((repeat (first | exact Pick.head _ _ | apply Pick.tail)); done)) | apply Gets.drop))) (by rintro _ _ _ _ ⟨S, A49, c49, A50, c50, M50, K2, rfl, rfl, hS, hx2, hp2, hrS, hm2⟩ h; exact Gets.own (by repeat (first | exact Gets.done _ | exact Gets.all _ | (apply Gets.step; focus ((repeat (first | exact Pick.head _ _ | apply Pick.tail)); done)) | apply Gets.drop)) h) rfl ?_
    rintro _ _ ⟨S, A49, c49, A50, c50, M50, K2, rfl, rfl, hS, hx2, hp2, hrS, hm2⟩
    refine XH.slnn (A := A49) (by repeat (first | exact Pick.head _ _ | apply Pick.tail)) fun _ hA49 => ?_
    refine XH.fact (R := sl A49 S.length c49 92 18 (cells sc S)) (by repeat (first | exact Pick.head _ _ | apply Pick.tail)) (fun w h => h.sl_len.2) fun hc49 => ?_
    have hmx : maxLen = 9223372036854775807 := rfl
    obtain ⟨y, hy⟩ : ∃ y : NdR, y = ⟨x.b, (take x.p f.1 f.2.2.m).1, A50, c50, M50⟩ := ⟨_, rfl⟩
    refine XH.mem (nds (l.set f.2.1.toNat y) :: blk b6 109 (fc f) :: sl A49 S.length c49 92 18 (cells sc S) :: blk sb 68 (sic l A30 L1.length c30) :: sl A30 L1.length c30 109 19 (cells fc L1) :: K2 :: Fr) (fun w h => own_close (by have := h.own; have := hn3; rw [hlen3]; omega) (by rw [hy]; exact Gets.own (by repeat (first | exact Gets.done _ | exact Gets.all _ | (apply Gets.step; focus ((repeat (first | exact Pick.head _ _ | apply Pick.tail)); done)) | apply Gets.drop)) h)) ?_
    refine y_c rfl (r_call0 (args := [_, _, _]) ⟨rfl, rfl, rfl, rfl⟩ (sput_tr (Fr := sl A49 S.length c49 92 18 (cells sc S) :: nds (l.set f.2.1.toNat y) :: K2 :: Fr) sb l A30 c30 L1 f.2.1 A49 c49 S (Rdb.of_sl (.head _ _) (by rw [cells_len sc_len]) hA49) (by omega) (by omega)) (by repeat (first | exact Gets.done _ | exact Gets.all _ | (apply Gets.step; focus ((repeat (first | exact Pick.head _ _ | apply Pick.tail)); done)) | apply Gets.drop))) (fun h => absurd h (by decide)) rfl ?_
    rintro _ _ ⟨rfl, A60, c60, L2, rfl, hpw, hl2, hin⟩
    refine XH.nil ?_
    rw [hcm, hpx, if_neg (by intro hh; rw [hh] at hc1; cases hc1)]
    rw [← sic_set (l := l) (n := f.2.1.toNat) (y := y) hx (by rw [hy])]
    exact fin0 (⟨rfl, l.set f.2.1.toNat y, A60, c60, L2, K2, rfl, by unfold stOf doN; rw [List.map_set, hpw, hS, hy], hx2, h.node hx2 (by rw [hy]; exact hp2) (by rw [hy]; exact (h.lim x hxm).take f.1 f.2.2.m) (by rw [hy]; exact hm2) (by omega) (way_ok h hsub hrS (by rw [hS]; exact take_8 _ _ _) hpw hin)⟩) (by repeat (first | exact Gets.done _ | exact Gets.all _ | (apply Gets.step; focus ((repeat (first | exact Pick.head _ _ | apply Pick.tail)); done)) | apply Gets.drop))
  · refine XC.skip ?_
    rw [hcm, if_pos (by (cases lost with | true => rfl | false => cases hc1))]
    exact fin0 (⟨rfl, l, A30, c30, L1, K, rfl, rfl, Ex.refl W0 K, h.mono (by omega) hsub⟩) (by repeat (first | exact Gets.done _ | exact Gets.all _ | (apply Gets.step; focus ((repeat (first | exact Pick.head _ _ | apply Pick.tail)); done)) | apply Gets.drop))
end Go.Proofs.Ytlogcldbflemfaa

/- Polls: what is kept may be; a node begins. -/
import Derived.Test.YtlogcldbflemfaaPoll13
namespace Go.Proofs.Ytlogcldbflemfaa
open Go.Sx Go.Rf
set_option linter.unusedVariables false

/-- What may be kept. -/
structure KOk (t v b bt : Int) (s : List UInt8) (es : List En) : Prop where
  ht : inR t 0 1099511627776 = true
  hv : inR v (-1) 2 = true
  hb : inR b 0 1099511627776 = true
  hbt : inR bt 0 t = true
  hz : b = 0 ↔ bt = 0
  sl : s.length ≤ 100000
  el : es.length ≤ 100000000
  rs : rising bt t es = true
def kc (t v b bt : Int) (s : List UInt8) (A : Option Addr) (c : Nat) (es : List En) : List Value := [.int .i64 t, .int .i64 v, .int .i64 b, .int .i64 bt, str s, .slice A es.length c]
theorem tf {x : Bool} (h : x = true) (h2 : x = false) : False := by rw [h] at h2; cases h2
theorem tn {x : Bool} (h : x = true) (h2 : ¬ x = true) : False := h2 h

theorem right_tr {W0 : World} {Fr : List HP} {k : HP} {t v b bt : Int} {s : List UInt8} (A : Option Addr) (c : Nat) {es : List En} (h : KOk t v b bt s es) (hr : Rdb W0 [k] A es.length 2 (cells ec es)) :
    Tr W0 Try.prog 33 [.agg (kc t v b bt s A c es).toArray] (k :: Fr) (fun v Rs' => v = .bool true ∧ Rs' = k :: Fr) := by
  have hel := h.el; have hz := h.hz; have hsl := h.sl
  refine Entry.tr (N := 47) (rs := [.tmp 2]) ⟨_, Try.func33, rfl, by kernel_rfl, rfl, rfl⟩ rfl ?_
  refine XC.seq fun K1 hK1 => ?_
  refine XC.region ?_
  refine x_a (r_bx rfl rfl) rfl fun b1 => ?_
  unfold kc
  refine x_v (r_as rfl) rfl ?_
  refine XL.nil ?_
  refine hK1 _ _ ?_
  refine XC.keep [(1, _)] ⟨rfl, trivial⟩ ?_
  refine XC.seq fun K2 hK2 => ?_
  refine XC.region ?_
  refine x_v (r_fa fo32_0 rfl) rfl ?_
  refine x_v (r_ld ty3 rfl (by repeat (first | exact Pick.head _ _ | apply Pick.tail)) (by rfl)) rfl ?_
  refine x_c (r_call0 (args := [_, _, _]) ⟨rfl, rfl, rfl, rfl⟩ (within_tr t 0 1099511627776) (by repeat (first | exact Gets.done _ | exact Gets.all _ | (apply Gets.step; focus ((repeat (first | exact Pick.head _ _ | apply Pick.tail)); done)) | apply Gets.drop))) rfl ?_
  rintro _ _ ⟨rfl, rfl⟩
  refine x_v (r_mv rfl) rfl ?_
  refine XL.split 6 rfl (fun hg6 => ?_) (fun hg6 => ?_)
  · refine x_want rfl rfl rfl ?_
    refine x_v (r_fa fo32_1 rfl) rfl ?_
    refine x_want rfl rfl rfl ?_
    refine x_v (r_ld ty3 rfl (by repeat (first | exact Pick.head _ _ | apply Pick.tail)) (by rfl)) rfl ?_
    refine x_want rfl rfl rfl ?_
    refine x_c (r_call0 (args := [_, _, _]) ⟨rfl, rfl, rfl, rfl⟩ (within_tr v (-1) 2) (by repeat (first | exact Gets.done _ | exact Gets.all _ | (apply Gets.step; focus ((repeat (first | exact Pick.head _ _ | apply Pick.tail)); done)) | apply Gets.drop))) rfl ?_
    rintro _ _ ⟨rfl, rfl⟩
    refine x_v (r_pk_t rfl rfl) rfl ?_
    refine x_v (r_mv rfl) rfl ?_
    refine XL.split 11 rfl (fun hg11 => ?_) (fun hg11 => ?_)
    · refine x_want rfl rfl rfl ?_
      refine x_v (r_fa fo32_2 rfl) rfl ?_
      refine x_want rfl rfl rfl ?_
      refine x_v (r_ld ty3 rfl (by repeat (first | exact Pick.head _ _ | apply Pick.tail)) (by rfl)) rfl ?_
      refine x_want rfl rfl rfl ?_
      refine x_c (r_call0 (args := [_, _, _]) ⟨rfl, rfl, rfl, rfl⟩ (within_tr b 0 1099511627776) (by repeat (first | exact Gets.done _ | exact Gets.all _ | (apply Gets.step; focus ((repeat (first | exact Pick.head _ _ | apply Pick.tail)); done)) | apply Gets.drop))) rfl ?_
      rintro _ _ ⟨rfl, rfl⟩
      refine x_v (r_pk_t rfl rfl) rfl ?_
      refine x_v (r_mv rfl) rfl ?_
      refine XL.split 16 rfl (fun hg16 => ?_) (fun hg16 => ?_)
      · refine x_want rfl rfl rfl ?_
        refine x_v (r_fa fo32_3 rfl) rfl ?_
        refine x_want rfl rfl rfl ?_
        refine x_v (r_ld ty3 rfl (by repeat (first | exact Pick.head _ _ | apply Pick.tail)) (by rfl)) rfl ?_
        refine x_want rfl rfl rfl ?_
        refine x_v (r_fa fo32_0 rfl) rfl ?_
        refine x_want rfl rfl rfl ?_
        refine x_v (r_ld ty3 rfl (by repeat (first | exact Pick.head _ _ | apply Pick.tail)) (by rfl)) rfl ?_
        refine x_want rfl rfl rfl ?_
        refine x_c (r_call0 (args := [_, _, _]) ⟨rfl, rfl, rfl, rfl⟩ (within_tr bt 0 t) (by repeat (first | exact Gets.done _ | exact Gets.all _ | (apply Gets.step; focus ((repeat (first | exact Pick.head _ _ | apply Pick.tail)); done)) | apply Gets.drop))) rfl ?_
        rintro _ _ ⟨rfl, rfl⟩
        refine x_v (r_pk_t rfl rfl) rfl ?_
        refine x_v (r_mv rfl) rfl ?_
        refine XL.split 23 rfl (fun hg23 => ?_) (fun hg23 => ?_)
        · refine x_want rfl rfl rfl ?_
          refine x_v (r_fa fo32_2 rfl) rfl ?_
          refine x_want rfl rfl rfl ?_
          refine x_v (r_ld ty3 rfl (by repeat (first | exact Pick.head _ _ | apply Pick.tail)) (by rfl)) rfl ?_
          refine x_want rfl rfl rfl ?_
          refine x_v (r_eq rfl rfl) rfl ?_
          refine x_want rfl rfl rfl ?_
          refine x_v (r_fa fo32_3 rfl) rfl ?_
          refine x_want rfl rfl rfl ?_
          refine x_v (r_ld ty3 rfl (by repeat (first | exact Pick.head _ _ | apply Pick.tail)) (by rfl)) rfl ?_
          refine x_want rfl rfl rfl ?_
          refine x_v (r_eq rfl rfl) rfl ?_
          refine x_want rfl rfl rfl ?_
          refine x_v (r_beq Try.underlying4 rfl rfl) rfl ?_
          refine x_v (r_pk_t rfl rfl) rfl ?_
          refine x_v (r_mv rfl) rfl ?_
          refine XL.split 32 rfl (fun hg32 => ?_) (fun hg32 => ?_)
          · refine x_want rfl rfl rfl ?_
            refine x_v (r_fa fo32_4 rfl) rfl ?_
            refine x_want rfl rfl rfl ?_
            refine x_v (r_ld ty9 rfl (by repeat (first | exact Pick.head _ _ | apply Pick.tail)) (by rfl)) rfl ?_
            refine x_want rfl rfl rfl ?_
            refine x_v (r_lens Try.underlying9 rfl) rfl ?_
            refine x_want rfl rfl rfl ?_
            refine x_v (r_le rfl rfl) rfl ?_
            refine x_v (r_pk_t rfl rfl) rfl ?_
            refine x_v (r_mv rfl) rfl ?_
            refine XL.splitd 38 rfl (fun hg38 => ?_) (fun hg38 => ?_)
            · refine x_want rfl rfl rfl ?_
              refine x_v (r_fa fo32_3 rfl) rfl ?_
              refine x_want rfl rfl rfl ?_
              refine x_v (r_ld ty3 rfl (by repeat (first | exact Pick.head _ _ | apply Pick.tail)) (by rfl)) rfl ?_
              refine x_want rfl rfl rfl ?_
              refine x_v (r_fa fo32_0 rfl) rfl ?_
              refine x_want rfl rfl rfl ?_
              refine x_v (r_ld ty3 rfl (by repeat (first | exact Pick.head _ _ | apply Pick.tail)) (by rfl)) rfl ?_
              refine x_want rfl rfl rfl ?_
              refine x_v (r_fa fo32_5 rfl) rfl ?_
              refine x_want rfl rfl rfl ?_
              refine x_v (r_ld ty30 rfl (by repeat (first | exact Pick.head _ _ | apply Pick.tail)) (by rfl)) rfl ?_
              refine x_want rfl rfl rfl ?_
              refine x_c (r_call0 (args := [_, _, _]) ⟨rfl, rfl, rfl, rfl⟩ (rising_tr bt t A c es hr (by omega)) (by repeat (first | exact Gets.done _ | exact Gets.all _ | (apply Gets.step; focus ((repeat (first | exact Pick.head _ _ | apply Pick.tail)); done)) | apply Gets.drop))) rfl ?_
              rintro _ _ ⟨rfl, rfl⟩
              refine x_v (r_pk_t rfl rfl) rfl ?_
              refine x_v (r_as rfl) rfl ?_
              refine XL.nil ?_
              refine hK2 _ _ ?_
              refine XC.keep [(2, _)] ⟨rfl, trivial⟩ ?_
              refine XC.ret ?_
              exact fin1 rfl (⟨congrArg Value.bool h.rs, rfl⟩) (by repeat (first | exact Gets.done _ | exact Gets.all _ | (apply Gets.step; focus ((repeat (first | exact Pick.head _ _ | apply Pick.tail)); done)) | apply Gets.drop))
            · exfalso; omega
          · exfalso; exact tf (by rw [beq_iff_eq, decide_eq_decide]; exact hz) hg32
        · exfalso; exact tf h.hbt hg23
      · exfalso; exact tf h.hb hg16
    · exfalso; exact tf h.hv hg11
  · exfalso; exact tf h.ht hg6

def cf : List Value := [.int .i64 0, .int .i64 0, .int .i64 0, .int .i64 0, .int .i64 0, .int .i64 2, .int .i64 3, .int .i64 0]
theorem new_tr {W0 : World} {Fr : List HP} {k : HP} {t v b bt : Int} {s : List UInt8} (A : Option Addr) (c : Nat) {es : List En} (n : Int) (hn : inR n 0 2 = true) (h : KOk t v b bt s es) (hr : Rdb W0 [k] A es.length 2 (cells ec es)) :
    Tr W0 Try.prog 9 [.agg cf.toArray, .int .i64 n, .agg (kc t v b bt s A c es).toArray] (k :: Fr) (fun v' Rs' => ∃ bp A2 c2 k2, v' = .tuple #[.pointer (some ⟨bp, 0, none⟩), .int .i64 0] ∧ Rs' = blk bp 90 (pc (fresh n 2 3 t v b bt s es) A2 c2 none) :: k2 :: Fr ∧ Ex W0 k k2 ∧ PB W0 k2 (fresh n 2 3 t v b bt s es) A2 c2) := by
  have hel := h.el; have hb0 : 0 ≤ b ∧ b ≤ 1099511627776 := by have := h.hb; unfold inR at this; simpa using this
  refine Entry.tr (N := 45) (rs := [.tmp 6, .tmp 7]) ⟨_, Try.func9, rfl, by kernel_rfl, rfl, rfl⟩ rfl ?_
  refine XC.seq fun K1 hK1 => ?_
  refine XC.region ?_
  refine x_a (r_bx rfl rfl) rfl fun b3 => ?_
  unfold cf
  refine x_a (r_bx rfl rfl) rfl fun b5 => ?_
  unfold kc
  refine x_v (r_as rfl) rfl ?_
  refine x_v (r_as rfl) rfl ?_
  refine XL.nil ?_
  refine hK1 _ _ ?_
  refine XC.keep [(1, _), (3, _), (5, _)] ⟨rfl, rfl, rfl, trivial⟩ ?_
  refine XC.seq fun K2 hK2 => ?_
  refine XC.block ?_
  refine XC.seq fun K3 hK3 => ?_
  refine XC.region ?_
  refine x_v (r_fa fo28_5 rfl) rfl ?_
  refine x_v (r_ld ty3 rfl (by repeat (first | exact Pick.head _ _ | apply Pick.tail)) (by rfl)) rfl ?_
  refine x_c (r_call0 (args := [_, _, _]) ⟨rfl, rfl, rfl, rfl⟩ (within_tr 2 2 64) (by repeat (first | exact Gets.done _ | exact Gets.all _ | (apply Gets.step; focus ((repeat (first | exact Pick.head _ _ | apply Pick.tail)); done)) | apply Gets.drop))) rfl ?_
  rintro _ _ ⟨rfl, rfl⟩
  refine x_v (r_not rfl) rfl ?_
  refine x_v (r_mv rfl) rfl ?_
  refine XL.split 13 rfl (fun hg13 => ?_) (fun hg13 => ?_)
  · exfalso; exact absurd hg13 (by decide)
  · refine x_want rfl rfl rfl ?_
    refine x_v (r_fa fo28_6 rfl) rfl ?_
    refine x_want rfl rfl rfl ?_
    refine x_v (r_ld ty3 rfl (by repeat (first | exact Pick.head _ _ | apply Pick.tail)) (by rfl)) rfl ?_
    refine x_want rfl rfl rfl ?_
    refine x_c (r_call0 (args := [_, _, _]) ⟨rfl, rfl, rfl, rfl⟩ (within_tr 3 1 64) (by repeat (first | exact Gets.done _ | exact Gets.all _ | (apply Gets.step; focus ((repeat (first | exact Pick.head _ _ | apply Pick.tail)); done)) | apply Gets.drop))) rfl ?_
    rintro _ _ ⟨rfl, rfl⟩
    refine x_want rfl rfl rfl ?_
    refine x_v (r_not rfl) rfl ?_
    refine x_v (r_pk_f rfl rfl) rfl ?_
    refine x_v (r_mv rfl) rfl ?_
    refine XL.split 19 rfl (fun hg19 => ?_) (fun hg19 => ?_)
    · exfalso; exact absurd hg19 (by decide)
    · refine x_want rfl rfl rfl ?_
      refine x_v (r_mv rfl) rfl ?_
      refine x_want rfl rfl rfl ?_
      refine x_c (r_call0 (args := [_, _, _]) ⟨rfl, rfl, rfl, rfl⟩ (within_tr n 0 2) (by repeat (first | exact Gets.done _ | exact Gets.all _ | (apply Gets.step; focus ((repeat (first | exact Pick.head _ _ | apply Pick.tail)); done)) | apply Gets.drop))) rfl ?_
      rintro _ _ ⟨rfl, rfl⟩
      refine x_want rfl rfl rfl ?_
      refine x_v (r_not rfl) rfl ?_
      refine x_v (r_pk_f rfl rfl) rfl ?_
      refine x_v (r_as rfl) rfl ?_
      refine XL.nil ?_
      refine hK3 _ _ ?_
      refine XC.keep [(1, _), (3, _), (5, _), (8, _)] ⟨rfl, rfl, rfl, rfl, trivial⟩ ?_
      refine XC.cond rfl (fun hc1 => ?_) (fun hc1 => ?_)
      · exfalso; exact nf hc1 hn
      · refine XC.seq fun K4 hK4 => ?_
        refine XC.region ?_
        refine x_v (r_lda (l' := [_, _, _, _, _, _]) ty32 rfl (by repeat (first | exact Pick.head _ _ | apply Pick.tail)) rfl (Sub.get (by repeat (first | exact Sub.nil _ | apply Sub.take | apply Sub.skip)))) rfl ?_
        refine x_c (r_call0 (args := [_]) ⟨rfl, rfl⟩ (right_tr A c h hr) (by repeat (first | exact Gets.done _ | exact Gets.all _ | (apply Gets.step; focus ((repeat (first | exact Pick.head _ _ | apply Pick.tail)); done)) | apply Gets.drop))) rfl ?_
        rintro _ _ ⟨rfl, rfl⟩
        refine x_v (r_not rfl) rfl ?_
        refine x_v (r_as rfl) rfl ?_
        refine XL.nil ?_
        refine hK4 _ _ ?_
        refine XC.keep [(1, _), (3, _), (5, _), (24, _)] ⟨rfl, rfl, rfl, rfl, trivial⟩ ?_
        refine XC.cond_f rfl ?_
        refine XC.skip ?_
        refine hK2 _ _ ?_
        refine XC.keep [(1, _), (3, _), (5, _)] ⟨rfl, rfl, rfl, trivial⟩ ?_
        refine XC.seq fun K5 hK5 => ?_
        refine XC.region ?_
        refine x_v (r_fa fo32_5 rfl) rfl ?_
        refine x_v (r_ld ty30 rfl (by repeat (first | exact Pick.head _ _ | apply Pick.tail)) (by rfl)) rfl ?_
        refine x_c (r_call0 (args := [_]) ⟨rfl, rfl⟩ (clonek_tr (k := k) A c es hr (by omega)) (by repeat (first | exact Gets.done _ | exact Gets.all _ | (apply Gets.step; focus ((repeat (first | exact Pick.head _ _ | apply Pick.tail)); done)) | apply Gets.drop))) rfl ?_
        rintro _ _ ⟨A30, c30, rfl, rfl⟩
        refine x_v (r_fa fo32_5 rfl) rfl ?_
        refine x_e (r_st ty30 rfl rfl rfl rfl rfl (by repeat (first | exact Upd.head _ _ _ | apply Upd.tail)) (by repeat (first | exact Over.nil _ | apply Over.put | apply Over.skip))) ?_
        refine XL.nil ?_
        refine hK5 _ _ ?_
        refine XC.keep [(1, _), (3, _), (5, _)] ⟨rfl, rfl, rfl, trivial⟩ ?_
        refine XC.seq fun K6 hK6 => ?_
        refine XC.slnn (A := A30) (by repeat (first | exact Pick.head _ _ | apply Pick.tail)) fun _ hA => ?_
        refine XC.sllen (A := A30) (by repeat (first | exact Pick.head _ _ | apply Pick.tail)) fun _ hcap _ => ?_
        refine XC.stash (x := sl A30 es.length c30 48 2 (cells ec es)) (k := k) (by repeat (first | exact Pick.head _ _ | apply Pick.tail)) (by repeat (first | exact Pick.head _ _ | apply Pick.tail)) ?_
        refine XC.region ?_
        refine x_v (r_lda (l' := [_, _, _, _, _, _]) ty32 rfl (by repeat (first | exact Pick.head _ _ | apply Pick.tail)) rfl (Sub.get (by repeat (first | exact Sub.nil _ | apply Sub.take | apply Sub.skip)))) rfl ?_
        refine x_v (r_bd (vs := [_]) rfl ⟨rfl, rfl⟩ (bd86_0 _ _ _ _ _ _ _ _)) rfl ?_
        refine x_v (r_mv rfl) rfl ?_
        refine x_v (r_fa fo28_5 rfl) rfl ?_
        refine x_v (r_ld ty3 rfl (by repeat (first | exact Pick.head _ _ | apply Pick.tail)) (by rfl)) rfl ?_
        refine x_v (r_fa fo28_6 rfl) rfl ?_
        refine x_v (r_ld ty3 rfl (by repeat (first | exact Pick.head _ _ | apply Pick.tail)) (by rfl)) rfl ?_
        refine x_v (r_fa fo32_2 rfl) rfl ?_
        refine x_v (r_ld ty3 rfl (by repeat (first | exact Pick.head _ _ | apply Pick.tail)) (by rfl)) rfl ?_
        refine x_v (r_fa fo28_5 rfl) rfl ?_
        refine x_v (r_ld ty3 rfl (by repeat (first | exact Pick.head _ _ | apply Pick.tail)) (by rfl)) rfl ?_
        refine x_v (r_bd (vs := [_, _, _, _, _, _, _]) rfl ⟨rfl, rfl, rfl, rfl, rfl, rfl, rfl, rfl⟩ (bd90_0_1_2_3_5_6_8 _ _ _ _ _ _ _ _ _ _ _ _ _ _ _ _)) rfl ?_
        refine x_a (r_bx rfl rfl) rfl fun b44 => ?_
        refine x_v (r_as rfl) rfl ?_
        refine x_v (r_as rfl) rfl ?_
        refine XL.nil ?_
        refine hK6 _ _ ?_
        refine XC.keep [(6, _), (7, _)] ⟨rfl, rfl, trivial⟩ ?_
        refine XC.ret ?_
        exact fin2 rfl rfl (⟨b44, A30, c30, _, rfl, rfl, Ex.on W0 _ k, ⟨Rdb.laid k (by rw [cells_len ec_len]) hA, hel, hcap, hb0.1, by show b ≤ _; omega⟩⟩) (by repeat (first | exact Gets.done _ | exact Gets.all _ | (apply Gets.step; focus ((repeat (first | exact Pick.head _ _ | apply Pick.tail)); done)) | apply Gets.drop))
end Go.Proofs.Ytlogcldbflemfaa

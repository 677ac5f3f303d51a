/- Crowns: the reference's crown: grants, what is next, who may. -/
import Derived.Test.YtheilpcbilnadaaCrown12
namespace Go.Proofs.Ytheilpcbilnadaa
open Go.Sx
set_option linter.unusedVariables false

theorem esf_one {i : Nat} (hi : i < 2) : esf (i + 1) (.int .u8 (((if i = 0 then (69 : UInt8) else 115).toNat : Nat) : Int)) = some (.bool true) := by
 rcases i with _ | _ | i
 ·rfl
 ·rfl
 ·omega
theorem esf_other' {i : Nat} (hi : i < 2) : ∀ x, x ≠ .int .u8 (((if i = 0 then (69 : UInt8) else 115).toNat : Nat) : Int) → esf (i + 1) x = esf i x := by
 have := esf_other hi
 rcases i with _ | _ | i
 ·exact this
 ·exact this
 ·omega
set_option maxRecDepth 100000 in
set_option maxHeartbeats 1000000 in
theorem right12_tr {W0 : World} {Fr : List HP} (m : Mal) (hk : m.kind = 12) (hl : Lens m) : Tr W0 Try.prog 38 [.agg (mac m).toArray] Fr (fun v Rs' => v = .bool (decide (grantOk m)) ∧ Rs' = Fr) := by
 obtain ⟨hl1, hl2, hl3, hl4, hl5⟩ := hl
 refine Entry.tr (N := 391) (rs := [.tmp 2]) ⟨_, Try.func38, rfl, by kernel_rfl, rfl, rfl⟩ rfl ?_
 refine XC.seq fun K1 hK1 => ?_
 refine XC.region ?_
 refine x_a (r_bx rfl rfl) rfl fun b1 => ?_
 unfold mac
 refine x_v (r_as rfl) rfl ?_
 refine XL.nil ?_
 refine hK1 _ _ ?_
 refine XC.keep [(1, _)] ⟨rfl, trivial⟩ ?_
 refine XC.seq fun K2 hK2 => ?_
 refine XC.region ?_
 refine x_v (r_as rfl) rfl ?_
 refine XL.nil ?_
 refine hK2 _ _ ?_
 refine XC.keep [(1, _)] ⟨rfl, trivial⟩ ?_
 refine XC.seq fun K3 hK3 => ?_
 refine XC.seq fun K4 hK4 => ?_
 refine XC.region ?_
 refine x_v (r_fa fo35_0 rfl) rfl ?_
 refine x_v (r_ld ty3 rfl pK (by rfl)) rfl ?_
 refine XL.nil ?_
 refine hK4 _ _ ?_
 refine XC.keep [(1, _), (9, _)] ⟨rfl, rfl, trivial⟩ ?_
 refine XC.block ?_
 refine XC.seq fun K5 hK5 => ?_
 refine XC.region ?_
 refine x_v (r_eq rfl rfl) rfl ?_
 refine x_v (r_as rfl) rfl ?_
 refine XL.nil ?_
 refine hK5 _ _ ?_
 refine XC.keep [(1, _), (9, _), (10, _)] ⟨rfl, rfl, rfl, trivial⟩ ?_
 refine XC.cond_d rfl (fun hc1 => ?_) (fun hc1 => ?_)
 ·exfalso; omega
 ·refine XC.seq fun K6 hK6 => ?_
  refine XC.region ?_
  refine x_v (r_eq rfl rfl) rfl ?_
  refine x_v (r_as rfl) rfl ?_
  refine XL.nil ?_
  refine hK6 _ _ ?_
  refine XC.keep [(1, _), (9, _), (12, _)] ⟨rfl, rfl, rfl, trivial⟩ ?_
  refine XC.cond_d rfl (fun hc2 => ?_) (fun hc2 => ?_)
  ·exfalso; omega
  ·refine XC.seq fun K7 hK7 => ?_
   refine XC.region ?_
   refine x_v (r_eq rfl rfl) rfl ?_
   refine x_v (r_as rfl) rfl ?_
   refine XL.nil ?_
   refine hK7 _ _ ?_
   refine XC.keep [(1, _), (9, _), (14, _)] ⟨rfl, rfl, rfl, trivial⟩ ?_
   refine XC.cond_d rfl (fun hc3 => ?_) (fun hc3 => ?_)
   ·exfalso; omega
   ·refine XC.seq fun K8 hK8 => ?_
    refine XC.region ?_
    refine x_v (r_eq rfl rfl) rfl ?_
    refine x_v (r_as rfl) rfl ?_
    refine XL.nil ?_
    refine hK8 _ _ ?_
    refine XC.keep [(1, _), (9, _), (16, _)] ⟨rfl, rfl, rfl, trivial⟩ ?_
    refine XC.cond_d rfl (fun hc4 => ?_) (fun hc4 => ?_)
    ·exfalso; omega
    ·refine XC.seq fun K9 hK9 => ?_
     refine XC.region ?_
     refine x_v (r_eq rfl rfl) rfl ?_
     refine x_v (r_as rfl) rfl ?_
     refine XL.nil ?_
     refine hK9 _ _ ?_
     refine XC.keep [(1, _), (9, _), (18, _)] ⟨rfl, rfl, rfl, trivial⟩ ?_
     refine XC.cond_d rfl (fun hc5 => ?_) (fun hc5 => ?_)
     ·exfalso; omega
     ·refine XC.seq fun K10 hK10 => ?_
      refine XC.region ?_
      refine x_v (r_eq rfl rfl) rfl ?_
      refine x_v (r_as rfl) rfl ?_
      refine XL.nil ?_
      refine hK10 _ _ ?_
      refine XC.keep [(1, _), (9, _), (20, _)] ⟨rfl, rfl, rfl, trivial⟩ ?_
      refine XC.cond_d rfl (fun hc6 => ?_) (fun hc6 => ?_)
      ·exfalso; omega
      ·refine XC.seq fun K11 hK11 => ?_
       refine XC.region ?_
       refine x_v (r_eq rfl rfl) rfl ?_
       refine x_v (r_as rfl) rfl ?_
       refine XL.nil ?_
       refine hK11 _ _ ?_
       refine XC.keep [(1, _), (9, _), (22, _)] ⟨rfl, rfl, rfl, trivial⟩ ?_
       refine XC.cond_d rfl (fun hc7 => ?_) (fun hc7 => ?_)
       ·exfalso; omega
       ·refine XC.seq fun K12 hK12 => ?_
        refine XC.region ?_
        refine x_v (r_eq rfl rfl) rfl ?_
        refine x_v (r_as rfl) rfl ?_
        refine XL.nil ?_
        refine hK12 _ _ ?_
        refine XC.keep [(1, _), (9, _), (24, _)] ⟨rfl, rfl, rfl, trivial⟩ ?_
        refine XC.cond_d rfl (fun hc8 => ?_) (fun hc8 => ?_)
        ·exfalso; omega
        ·refine XC.seq fun K13 hK13 => ?_
         refine XC.region ?_
         refine x_v (r_eq rfl rfl) rfl ?_
         refine x_v (r_as rfl) rfl ?_
         refine XL.nil ?_
         refine hK13 _ _ ?_
         refine XC.keep [(1, _), (9, _), (26, _)] ⟨rfl, rfl, rfl, trivial⟩ ?_
         refine XC.cond_d rfl (fun hc9 => ?_) (fun hc9 => ?_)
         ·exfalso; omega
         ·refine XC.seq fun K14 hK14 => ?_
          refine XC.region ?_
          refine x_v (r_eq rfl rfl) rfl ?_
          refine x_v (r_as rfl) rfl ?_
          refine XL.nil ?_
          refine hK14 _ _ ?_
          refine XC.keep [(1, _), (9, _), (28, _)] ⟨rfl, rfl, rfl, trivial⟩ ?_
          refine XC.cond_d rfl (fun hc10 => ?_) (fun hc10 => ?_)
          ·exfalso; omega
          ·refine XC.seq fun K15 hK15 => ?_
           refine XC.seq fun K16 hK16 => ?_
           refine XC.region ?_
           refine x_v (r_eq rfl rfl) rfl ?_
           refine x_v (r_as rfl) rfl ?_
           refine XL.nil ?_
           refine hK16 _ _ ?_
           refine XC.keep [(1, _), (9, _), (30, _)] ⟨rfl, rfl, rfl, trivial⟩ ?_
           refine XC.cond_d rfl (fun hc11 => ?_) (fun hc11 => ?_)
           ·exfalso; omega
           ·refine XC.region ?_
            refine x_v (r_eq rfl rfl) rfl ?_
            refine x_v (r_as rfl) rfl ?_
            refine XL.nil ?_
            refine hK15 _ _ ?_
            refine XC.keep [(1, _), (30, _)] ⟨rfl, rfl, trivial⟩ ?_
            refine XC.cond_d rfl (fun hc12 => ?_) (fun hc12 => ?_)
            ·refine XC.region ?_
             refine x_v (r_as rfl) rfl ?_
             refine XL.nil ?_
             refine hK3 _ _ ?_
             refine XC.keep [(1, _), (3, _)] ⟨rfl, rfl, trivial⟩ ?_
             refine XC.seq fun K17 hK17 => ?_
             refine XC.region ?_
             refine x_a (r_mm (.int .u8)) rfl fun b33 => ?_
             refine x_v (r_as rfl) rfl ?_
             refine XL.nil ?_
             refine hK17 _ _ ?_
             refine XC.keep [(1, _), (3, _), (4, _)] ⟨rfl, rfl, rfl, trivial⟩ ?_
             refine XC.seq fun K18 hK18 => ?_
             refine XC.seq fun K19 hK19 => ?_
             rw [esf_none]
             refine XC.region ?_
             refine x_v (r_as rfl) rfl ?_
             refine XL.nil ?_
             refine hK19 _ _ ?_
             refine XC.keep [(1, _), (3, _), (4, _), (5, _)] ⟨rfl, rfl, rfl, rfl, trivial⟩ ?_
             refine XC.block ?_
             refine XC.loop (σ := Nat) (fun s => [(1, .pointer (some ⟨b1, 0, none⟩)), (3, str [69, 115]), (4, .map (some b33)), (5, .int .i64 (s : Int))]) (fun s => mpf b33 (.int .u8) (esf s) :: blk b1 35 [.int .i64 m.kind, .int .i64 m.term, .int .i64 m.index, .int .i64 m.prev, .int .i64 m.commit, .bool m.good, .slice m.eA m.es.length m.ec, str m.data, .slice m.hA m.hs.length m.hc, .int .i64 m.epoch, .int .i64 m.site, .int .i64 m.at1, .int .i64 m.at2, .int .i64 m.w1, .int .i64 m.w2, .slice m.oA m.ho.length m.oc, .slice m.pA m.ops.length m.pc] :: Fr) (fun s => s ≤ 2) (fun s => 2 - s) 0 ?_ ⟨rfl, rfl, rfl, rfl, trivial⟩ gS ?_
             ·omega
             rintro i hi
             refine XC.seq fun K20 hK20 => ?_
             refine XC.seq fun K21 hK21 => ?_
             refine XC.region ?_
             refine x_v (r_mv rfl) rfl ?_
             refine x_v (r_mv rfl) rfl ?_
             refine x_v (r_lens Try.underlying9 rfl) rfl ?_
             refine x_v (r_lt rfl rfl) rfl ?_
             refine XL.nil ?_
             refine hK21 _ _ ?_
             refine XC.keep [(1, _), (3, _), (4, _), (5, _), (37, _)] ⟨rfl, rfl, rfl, rfl, rfl, trivial⟩ ?_
             refine XC.cond_d rfl (fun hc13 => ?_) (fun hc13 => ?_)
             ·refine XC.skip ?_
              refine hK20 _ _ ?_
              refine XC.keep [(1, _), (3, _), (4, _), (5, _)] ⟨rfl, rfl, rfl, rfl, trivial⟩ ?_
              refine XC.seq fun K22 hK22 => ?_
              refine XC.block ?_
              have hi2 : i < 2 := by (have h2 : ([69, 115] : List UInt8).length = 2 := rfl); omega
              have hch : ([69, 115] : List UInt8)[i]? = some (if i = 0 then 69 else 115) := by (rcases i with _ | _ | i; rfl; rfl; omega)
              refine XC.region ?_
              refine x_v (r_mv rfl) rfl ?_
              refine x_v (r_mv rfl) rfl ?_
              refine x_v (r_mv rfl) rfl ?_
              refine x_v (r_six (k := i) Try.underlying9 rfl rfl (by omega) hch) rfl ?_
              refine x_e (r_mu (esf (i + 1)) Try.underlying106 Try.underlying5 rfl rfl rfl rfl (esf_one hi2) (esf_other' hi2) uD) ?_
              refine XL.nil ?_
              refine hK22 _ _ ?_
              refine XC.keep [(1, _), (3, _), (4, _), (5, _)] ⟨rfl, rfl, rfl, rfl, trivial⟩ ?_
              refine XC.region ?_
              refine x_v (r_mv rfl) rfl ?_
              refine x_v (r_add rfl rfl (by omega)) rfl ?_
              refine x_v (r_as rfl) rfl ?_
              refine XL.nil ?_
              refine ⟨i + 1, ?_, ?_, ⟨rfl, rfl, rfl, rfl, trivial⟩, gS⟩
              ·omega
              ·omega
             ·refine XC.exit rfl ?_
              refine hK18 _ _ ?_
              refine XC.keep [(1, _), (4, _)] ⟨rfl, rfl, trivial⟩ ?_
              refine XC.seq fun K23 hK23 => ?_
              refine XC.seq fun K24 hK24 => ?_
              obtain rfl : i = 2 := by (have h2 : ([69, 115] : List UInt8).length = 2 := rfl); omega
              refine XC.region ?_
              refine x_v (r_mv rfl) rfl ?_
              refine x_v (r_lk1 Try.underlying106 Try.underlying5 ty4 rfl rfl rfl pK) rfl ?_
              rw [show (esf 2 (.int .u8 116)).getD (.bool false) = .bool false from rfl]
              refine x_v (r_not rfl) rfl ?_
              refine x_v (r_mv rfl) rfl ?_
              refine x_want rfl rfl rfl ?_
              refine x_v (r_fa fo35_1 rfl) rfl ?_
              refine x_want rfl rfl rfl ?_
              refine x_v (r_ld ty3 rfl pK (by rfl)) rfl ?_
              refine x_want rfl rfl rfl ?_
              refine x_v (r_ne rfl rfl) rfl ?_
              refine x_v (r_pk_t rfl rfl) rfl ?_
              refine x_v (r_mv rfl) rfl ?_
              refine XL.splitd 52 rfl (fun hg52 => ?_) (fun hg52 => ?_)
              ·refine x_unwant rfl rfl rfl rfl rfl ?_
               refine x_unwant rfl rfl rfl rfl rfl ?_
               refine x_unwant rfl rfl rfl rfl rfl ?_
               refine x_unwant rfl rfl rfl rfl rfl ?_
               refine x_unwantu rfl rfl rfl rfl rfl ?_
               refine x_unwantu rfl rfl rfl rfl rfl ?_
               refine x_unwantu rfl rfl rfl rfl rfl ?_
               refine x_unwant rfl rfl rfl rfl rfl ?_
               refine x_v (r_pk_t rfl rfl) rfl ?_
               refine x_v (r_mv rfl) rfl ?_
               refine x_unwant rfl rfl rfl rfl rfl ?_
               refine XL.keep [(1, _), (4, _), (62, _), (63, _)] ⟨rfl, rfl, rfl, rfl, trivial⟩ ?_
               refine x_unwant rfl rfl rfl rfl rfl ?_
               refine x_unwant rfl rfl rfl rfl rfl ?_
               refine x_unwant rfl rfl rfl rfl rfl ?_
               refine x_unwantu rfl rfl rfl rfl rfl ?_
               refine x_unwantu rfl rfl rfl rfl rfl ?_
               refine x_unwantu rfl rfl rfl rfl rfl ?_
               refine x_unwant rfl rfl rfl rfl rfl ?_
               refine x_v (r_pk_t rfl rfl) rfl ?_
               refine x_v (r_mv rfl) rfl ?_
               refine x_unwant rfl rfl rfl rfl rfl ?_
               refine x_unwant rfl rfl rfl rfl rfl ?_
               refine x_unwant rfl rfl rfl rfl rfl ?_
               refine x_unwant rfl rfl rfl rfl rfl ?_
               refine x_unwantu rfl rfl rfl rfl rfl ?_
               refine x_unwantu rfl rfl rfl rfl rfl ?_
               refine x_unwantu rfl rfl rfl rfl rfl ?_
               refine x_unwant rfl rfl rfl rfl rfl ?_
               refine x_v (r_pk_t rfl rfl) rfl ?_
               refine x_v (r_mv rfl) rfl ?_
               refine x_unwant rfl rfl rfl rfl rfl ?_
               refine XL.keep [(1, _), (4, _), (82, _), (83, _)] ⟨rfl, rfl, rfl, rfl, trivial⟩ ?_
               refine x_unwant rfl rfl rfl rfl rfl ?_
               refine x_unwant rfl rfl rfl rfl rfl ?_
               refine x_unwant rfl rfl rfl rfl rfl ?_
               refine x_unwantu rfl rfl rfl rfl rfl ?_
               refine x_unwantu rfl rfl rfl rfl rfl ?_
               refine x_unwant rfl rfl rfl rfl rfl ?_
               refine x_v (r_pk_t rfl rfl) rfl ?_
               refine x_v (r_mv rfl) rfl ?_
               refine x_unwant rfl rfl rfl rfl rfl ?_
               refine x_unwant rfl rfl rfl rfl rfl ?_
               refine x_unwant rfl rfl rfl rfl rfl ?_
               refine x_unwant rfl rfl rfl rfl rfl ?_
               refine x_unwantu rfl rfl rfl rfl rfl ?_
               refine x_unwantu rfl rfl rfl rfl rfl ?_
               refine x_unwantu rfl rfl rfl rfl rfl ?_
               refine x_unwantu rfl rfl rfl rfl rfl ?_
               refine x_unwant rfl rfl rfl rfl rfl ?_
               refine x_v (r_pk_t rfl rfl) rfl ?_
               refine x_v (r_mv rfl) rfl ?_
               refine x_unwant rfl rfl rfl rfl rfl ?_
               refine XL.keep [(1, _), (4, _), (102, _), (103, _)] ⟨rfl, rfl, rfl, rfl, trivial⟩ ?_
               refine x_unwant rfl rfl rfl rfl rfl ?_
               refine x_unwant rfl rfl rfl rfl rfl ?_
               refine x_unwant rfl rfl rfl rfl rfl ?_
               refine x_unwantu rfl rfl rfl rfl rfl ?_
               refine x_unwantu rfl rfl rfl rfl rfl ?_
               refine x_unwantu rfl rfl rfl rfl rfl ?_
               refine x_unwant rfl rfl rfl rfl rfl ?_
               refine x_v (r_pk_t rfl rfl) rfl ?_
               refine x_v (r_mv rfl) rfl ?_
               refine x_unwant rfl rfl rfl rfl rfl ?_
               refine x_unwant rfl rfl rfl rfl rfl ?_
               refine x_unwant rfl rfl rfl rfl rfl ?_
               refine x_unwant rfl rfl rfl rfl rfl ?_
               refine x_unwantu rfl rfl rfl rfl rfl ?_
               refine x_unwantu rfl rfl rfl rfl rfl ?_
               refine x_unwantu rfl rfl rfl rfl rfl ?_
               refine x_unwantu rfl rfl rfl rfl rfl ?_
               refine x_unwant rfl rfl rfl rfl rfl ?_
               refine x_v (r_pk_t rfl rfl) rfl ?_
               refine x_v (r_mv rfl) rfl ?_
               refine XL.keep [(1, _), (4, _), (123, _)] ⟨rfl, rfl, rfl, trivial⟩ ?_
               refine x_unwant rfl rfl rfl rfl rfl ?_
               refine x_unwant rfl rfl rfl rfl rfl ?_
               refine x_unwant rfl rfl rfl rfl rfl ?_
               refine x_unwant rfl rfl rfl rfl rfl ?_
               refine x_unwantu rfl rfl rfl rfl rfl ?_
               refine x_unwantu rfl rfl rfl rfl rfl ?_
               refine x_unwantu rfl rfl rfl rfl rfl ?_
               refine x_unwant rfl rfl rfl rfl rfl ?_
               refine x_v (r_pk_t rfl rfl) rfl ?_
               refine x_v (r_mv rfl) rfl ?_
               refine x_unwant rfl rfl rfl rfl rfl ?_
               refine x_unwant rfl rfl rfl rfl rfl ?_
               refine x_unwant rfl rfl rfl rfl rfl ?_
               refine x_unwant rfl rfl rfl rfl rfl ?_
               refine x_unwantu rfl rfl rfl rfl rfl ?_
               refine x_unwantu rfl rfl rfl rfl rfl ?_
               refine x_unwantu rfl rfl rfl rfl rfl ?_
               refine x_unwant rfl rfl rfl rfl rfl ?_
               refine x_v (r_pk_t rfl rfl) rfl ?_
               refine x_v (r_mv rfl) rfl ?_
               refine XL.keep [(1, _), (4, _), (143, _)] ⟨rfl, rfl, rfl, trivial⟩ ?_
               refine x_unwant rfl rfl rfl rfl rfl ?_
               refine x_unwant rfl rfl rfl rfl rfl ?_
               refine x_unwant rfl rfl rfl rfl rfl ?_
               refine x_unwant rfl rfl rfl rfl rfl ?_
               refine x_unwantu rfl rfl rfl rfl rfl ?_
               refine x_unwantu rfl rfl rfl rfl rfl ?_
               refine x_unwantu rfl rfl rfl rfl rfl ?_
               refine x_unwantu rfl rfl rfl rfl rfl ?_
               refine x_unwant rfl rfl rfl rfl rfl ?_
               refine x_v (r_pk_t rfl rfl) rfl ?_
               refine x_v (r_mv rfl) rfl ?_
               refine x_unwant rfl rfl rfl rfl rfl ?_
               refine x_unwant rfl rfl rfl rfl rfl ?_
               refine x_unwant rfl rfl rfl rfl rfl ?_
               refine x_unwant rfl rfl rfl rfl rfl ?_
               refine x_unwantu rfl rfl rfl rfl rfl ?_
               refine x_unwantu rfl rfl rfl rfl rfl ?_
               refine x_unwantu rfl rfl rfl rfl rfl ?_
               refine x_unwantu rfl rfl rfl rfl rfl ?_
               refine x_unwant rfl rfl rfl rfl rfl ?_
               refine XL.keep [(1, _), (4, _), (154, _), (163, _)] ⟨rfl, rfl, rfl, rfl, trivial⟩ ?_
               refine x_v (r_pk_t rfl rfl) rfl ?_
               refine x_v (r_mv rfl) rfl ?_
               refine x_unwant rfl rfl rfl rfl rfl ?_
               refine x_unwant rfl rfl rfl rfl rfl ?_
               refine x_unwant rfl rfl rfl rfl rfl ?_
               refine x_unwant rfl rfl rfl rfl rfl ?_
               refine x_unwantu rfl rfl rfl rfl rfl ?_
               refine x_unwantu rfl rfl rfl rfl rfl ?_
               refine x_unwantu rfl rfl rfl rfl rfl ?_
               refine x_unwantu rfl rfl rfl rfl rfl ?_
               refine x_unwant rfl rfl rfl rfl rfl ?_
               refine x_v (r_pk_t rfl rfl) rfl ?_
               refine x_v (r_mv rfl) rfl ?_
               refine x_unwant rfl rfl rfl rfl rfl ?_
               refine x_unwant rfl rfl rfl rfl rfl ?_
               refine x_unwant rfl rfl rfl rfl rfl ?_
               refine x_unwant rfl rfl rfl rfl rfl ?_
               refine x_unwantu rfl rfl rfl rfl rfl ?_
               refine x_unwantu rfl rfl rfl rfl rfl ?_
               refine x_unwantu rfl rfl rfl rfl rfl ?_
               refine XL.keep [(1, _), (4, _), (176, _), (180, _), (183, _)] ⟨rfl, rfl, rfl, rfl, rfl, trivial⟩ ?_
               refine x_unwantu rfl rfl rfl rfl rfl ?_
               refine x_unwant rfl rfl rfl rfl rfl ?_
               refine x_v (r_pk_t rfl rfl) rfl ?_
               refine XL.nil ?_
               refine hK24 _ _ ?_
               refine XC.keep [(1, _), (4, _), (186, _)] ⟨rfl, rfl, rfl, trivial⟩ ?_
               refine XC.cond_t rfl ?_
               refine XC.seq fun K25 hK25 => ?_
               refine XC.region ?_
               refine x_v (r_as rfl) rfl ?_
               refine XL.nil ?_
               refine hK25 _ _ ?_
               refine XC.keep [(2, _)] ⟨rfl, trivial⟩ ?_
               refine XC.ret ?_
               exact fin1 rfl (⟨gno m (fun h => by unfold grantOk at h; first | omega | (obtain ⟨_, _, _, _, _, hgood, _⟩ := h; simp_all) | exact hg112 (List.eq_nil_of_length_eq_zero h.2.2.2.2.2.2.2.2.2.2.2.2.2.2.2.1)), rfl⟩) gS
              ·refine x_want rfl rfl rfl ?_
               refine x_v (r_mv rfl) rfl ?_
               refine x_want rfl rfl rfl ?_
               refine x_v (r_lk1 Try.underlying106 Try.underlying5 ty4 rfl rfl rfl pK) rfl ?_
               rw [show (esf 2 (.int .u8 105)).getD (.bool false) = .bool false from rfl]
               refine x_want rfl rfl rfl ?_
               refine x_v (r_not rfl) rfl ?_
               refine x_want rfl rfl rfl ?_
               refine x_v (r_mv rfl) rfl ?_
               refine x_want rfl rfl rfl ?_
               refine x_v (r_fa fo35_2 rfl) rfl ?_
               refine x_want rfl rfl rfl ?_
               refine x_v (r_ld ty3 rfl pK (by rfl)) rfl ?_
               refine x_want rfl rfl rfl ?_
               refine x_v (r_ne rfl rfl) rfl ?_
               refine x_want rfl rfl rfl ?_
               refine x_v (r_pk_t rfl rfl) rfl ?_
               refine x_v (r_pk_f rfl rfl) rfl ?_
               refine x_v (r_mv rfl) rfl ?_
               refine XL.splitd 62 rfl (fun hg62 => ?_) (fun hg62 => ?_)
               ·refine x_unwant rfl rfl rfl rfl rfl ?_
                refine XL.keep [(1, _), (4, _), (62, _), (63, _)] ⟨rfl, rfl, rfl, rfl, trivial⟩ ?_
                refine x_unwant rfl rfl rfl rfl rfl ?_
                refine x_unwant rfl rfl rfl rfl rfl ?_
                refine x_unwant rfl rfl rfl rfl rfl ?_
                refine x_unwantu rfl rfl rfl rfl rfl ?_
                refine x_unwantu rfl rfl rfl rfl rfl ?_
                refine x_unwantu rfl rfl rfl rfl rfl ?_
                refine x_unwant rfl rfl rfl rfl rfl ?_
                refine x_v (r_pk_t rfl rfl) rfl ?_
                refine x_v (r_mv rfl) rfl ?_
                refine x_unwant rfl rfl rfl rfl rfl ?_
                refine x_unwant rfl rfl rfl rfl rfl ?_
                refine x_unwant rfl rfl rfl rfl rfl ?_
                refine x_unwant rfl rfl rfl rfl rfl ?_
                refine x_unwantu rfl rfl rfl rfl rfl ?_
                refine x_unwantu rfl rfl rfl rfl rfl ?_
                refine x_unwantu rfl rfl rfl rfl rfl ?_
                refine x_unwant rfl rfl rfl rfl rfl ?_
                refine x_v (r_pk_t rfl rfl) rfl ?_
                refine x_v (r_mv rfl) rfl ?_
                refine x_unwant rfl rfl rfl rfl rfl ?_
                refine XL.keep [(1, _), (4, _), (82, _), (83, _)] ⟨rfl, rfl, rfl, rfl, trivial⟩ ?_
                refine x_unwant rfl rfl rfl rfl rfl ?_
                refine x_unwant rfl rfl rfl rfl rfl ?_
                refine x_unwant rfl rfl rfl rfl rfl ?_
                refine x_unwantu rfl rfl rfl rfl rfl ?_
                refine x_unwantu rfl rfl rfl rfl rfl ?_
                refine x_unwant rfl rfl rfl rfl rfl ?_
                refine x_v (r_pk_t rfl rfl) rfl ?_
                refine x_v (r_mv rfl) rfl ?_
                refine x_unwant rfl rfl rfl rfl rfl ?_
                refine x_unwant rfl rfl rfl rfl rfl ?_
                refine x_unwant rfl rfl rfl rfl rfl ?_
                refine x_unwant rfl rfl rfl rfl rfl ?_
                refine x_unwantu rfl rfl rfl rfl rfl ?_
                refine x_unwantu rfl rfl rfl rfl rfl ?_
                refine x_unwantu rfl rfl rfl rfl rfl ?_
                refine x_unwantu rfl rfl rfl rfl rfl ?_
                refine x_unwant rfl rfl rfl rfl rfl ?_
                refine x_v (r_pk_t rfl rfl) rfl ?_
                refine x_v (r_mv rfl) rfl ?_
                refine x_unwant rfl rfl rfl rfl rfl ?_
                refine XL.keep [(1, _), (4, _), (102, _), (103, _)] ⟨rfl, rfl, rfl, rfl, trivial⟩ ?_
                refine x_unwant rfl rfl rfl rfl rfl ?_
                refine x_unwant rfl rfl rfl rfl rfl ?_
                refine x_unwant rfl rfl rfl rfl rfl ?_
                refine x_unwantu rfl rfl rfl rfl rfl ?_
                refine x_unwantu rfl rfl rfl rfl rfl ?_
                refine x_unwantu rfl rfl rfl rfl rfl ?_
                refine x_unwant rfl rfl rfl rfl rfl ?_
                refine x_v (r_pk_t rfl rfl) rfl ?_
                refine x_v (r_mv rfl) rfl ?_
                refine x_unwant rfl rfl rfl rfl rfl ?_
                refine x_unwant rfl rfl rfl rfl rfl ?_
                refine x_unwant rfl rfl rfl rfl rfl ?_
                refine x_unwant rfl rfl rfl rfl rfl ?_
                refine x_unwantu rfl rfl rfl rfl rfl ?_
                refine x_unwantu rfl rfl rfl rfl rfl ?_
                refine x_unwantu rfl rfl rfl rfl rfl ?_
                refine x_unwantu rfl rfl rfl rfl rfl ?_
                refine x_unwant rfl rfl rfl rfl rfl ?_
                refine x_v (r_pk_t rfl rfl) rfl ?_
                refine x_v (r_mv rfl) rfl ?_
                refine XL.keep [(1, _), (4, _), (123, _)] ⟨rfl, rfl, rfl, trivial⟩ ?_
                refine x_unwant rfl rfl rfl rfl rfl ?_
                refine x_unwant rfl rfl rfl rfl rfl ?_
                refine x_unwant rfl rfl rfl rfl rfl ?_
                refine x_unwant rfl rfl rfl rfl rfl ?_
                refine x_unwantu rfl rfl rfl rfl rfl ?_
                refine x_unwantu rfl rfl rfl rfl rfl ?_
                refine x_unwantu rfl rfl rfl rfl rfl ?_
                refine x_unwant rfl rfl rfl rfl rfl ?_
                refine x_v (r_pk_t rfl rfl) rfl ?_
                refine x_v (r_mv rfl) rfl ?_
                refine x_unwant rfl rfl rfl rfl rfl ?_
                refine x_unwant rfl rfl rfl rfl rfl ?_
                refine x_unwant rfl rfl rfl rfl rfl ?_
                refine x_unwant rfl rfl rfl rfl rfl ?_
                refine x_unwantu rfl rfl rfl rfl rfl ?_
                refine x_unwantu rfl rfl rfl rfl rfl ?_
                refine x_unwantu rfl rfl rfl rfl rfl ?_
                refine x_unwant rfl rfl rfl rfl rfl ?_
                refine x_v (r_pk_t rfl rfl) rfl ?_
                refine x_v (r_mv rfl) rfl ?_
                refine XL.keep [(1, _), (4, _), (143, _)] ⟨rfl, rfl, rfl, trivial⟩ ?_
                refine x_unwant rfl rfl rfl rfl rfl ?_
                refine x_unwant rfl rfl rfl rfl rfl ?_
                refine x_unwant rfl rfl rfl rfl rfl ?_
                refine x_unwant rfl rfl rfl rfl rfl ?_
                refine x_unwantu rfl rfl rfl rfl rfl ?_
                refine x_unwantu rfl rfl rfl rfl rfl ?_
                refine x_unwantu rfl rfl rfl rfl rfl ?_
                refine x_unwantu rfl rfl rfl rfl rfl ?_
                refine x_unwant rfl rfl rfl rfl rfl ?_
                refine x_v (r_pk_t rfl rfl) rfl ?_
                refine x_v (r_mv rfl) rfl ?_
                refine x_unwant rfl rfl rfl rfl rfl ?_
                refine x_unwant rfl rfl rfl rfl rfl ?_
                refine x_unwant rfl rfl rfl rfl rfl ?_
                refine x_unwant rfl rfl rfl rfl rfl ?_
                refine x_unwantu rfl rfl rfl rfl rfl ?_
                refine x_unwantu rfl rfl rfl rfl rfl ?_
                refine x_unwantu rfl rfl rfl rfl rfl ?_
                refine x_unwantu rfl rfl rfl rfl rfl ?_
                refine x_unwant rfl rfl rfl rfl rfl ?_
                refine XL.keep [(1, _), (4, _), (154, _), (163, _)] ⟨rfl, rfl, rfl, rfl, trivial⟩ ?_
                refine x_v (r_pk_t rfl rfl) rfl ?_
                refine x_v (r_mv rfl) rfl ?_
                refine x_unwant rfl rfl rfl rfl rfl ?_
                refine x_unwant rfl rfl rfl rfl rfl ?_
                refine x_unwant rfl rfl rfl rfl rfl ?_
                refine x_unwant rfl rfl rfl rfl rfl ?_
                refine x_unwantu rfl rfl rfl rfl rfl ?_
                refine x_unwantu rfl rfl rfl rfl rfl ?_
                refine x_unwantu rfl rfl rfl rfl rfl ?_
                refine x_unwantu rfl rfl rfl rfl rfl ?_
                refine x_unwant rfl rfl rfl rfl rfl ?_
                refine x_v (r_pk_t rfl rfl) rfl ?_
                refine x_v (r_mv rfl) rfl ?_
                refine x_unwant rfl rfl rfl rfl rfl ?_
                refine x_unwant rfl rfl rfl rfl rfl ?_
                refine x_unwant rfl rfl rfl rfl rfl ?_
                refine x_unwant rfl rfl rfl rfl rfl ?_
                refine x_unwantu rfl rfl rfl rfl rfl ?_
                refine x_unwantu rfl rfl rfl rfl rfl ?_
                refine x_unwantu rfl rfl rfl rfl rfl ?_
                refine XL.keep [(1, _), (4, _), (176, _), (180, _), (183, _)] ⟨rfl, rfl, rfl, rfl, rfl, trivial⟩ ?_
                refine x_unwantu rfl rfl rfl rfl rfl ?_
                refine x_unwant rfl rfl rfl rfl rfl ?_
                refine x_v (r_pk_t rfl rfl) rfl ?_
                refine XL.nil ?_
                refine hK24 _ _ ?_
                refine XC.keep [(1, _), (4, _), (186, _)] ⟨rfl, rfl, rfl, trivial⟩ ?_
                refine XC.cond_t rfl ?_
                refine XC.seq fun K26 hK26 => ?_
                refine XC.region ?_
                refine x_v (r_as rfl) rfl ?_
                refine XL.nil ?_
                refine hK26 _ _ ?_
                refine XC.keep [(2, _)] ⟨rfl, trivial⟩ ?_
                refine XC.ret ?_
                exact fin1 rfl (⟨gno m (fun h => by unfold grantOk at h; first | omega | (obtain ⟨_, _, _, _, _, hgood, _⟩ := h; simp_all) | exact hg112 (List.eq_nil_of_length_eq_zero h.2.2.2.2.2.2.2.2.2.2.2.2.2.2.2.1)), rfl⟩) gS
               ·refine x_want rfl rfl rfl ?_
                refine x_v (r_mv rfl) rfl ?_
                refine XL.keep [(1, _), (4, _), (62, _), (63, _)] ⟨rfl, rfl, rfl, rfl, trivial⟩ ?_
                refine x_want rfl rfl rfl ?_
                refine x_v (r_lk1 Try.underlying106 Try.underlying5 ty4 rfl rfl rfl pK) rfl ?_
                rw [show (esf 2 (.int .u8 112)).getD (.bool false) = .bool false from rfl]
                refine x_want rfl rfl rfl ?_
                refine x_v (r_not rfl) rfl ?_
                refine x_want rfl rfl rfl ?_
                refine x_v (r_mv rfl) rfl ?_
                refine x_want rfl rfl rfl ?_
                refine x_v (r_fa fo35_3 rfl) rfl ?_
                refine x_want rfl rfl rfl ?_
                refine x_v (r_ld ty3 rfl pK (by rfl)) rfl ?_
                refine x_want rfl rfl rfl ?_
                refine x_v (r_ne rfl rfl) rfl ?_
                refine x_want rfl rfl rfl ?_
                refine x_v (r_pk_t rfl rfl) rfl ?_
                refine x_v (r_pk_f rfl rfl) rfl ?_
                refine x_v (r_mv rfl) rfl ?_
                refine XL.splitd 72 rfl (fun hg72 => ?_) (fun hg72 => ?_)
                ·refine x_unwant rfl rfl rfl rfl rfl ?_
                 refine x_unwant rfl rfl rfl rfl rfl ?_
                 refine x_unwant rfl rfl rfl rfl rfl ?_
                 refine x_unwant rfl rfl rfl rfl rfl ?_
                 refine x_unwantu rfl rfl rfl rfl rfl ?_
                 refine x_unwantu rfl rfl rfl rfl rfl ?_
                 refine x_unwantu rfl rfl rfl rfl rfl ?_
                 refine x_unwant rfl rfl rfl rfl rfl ?_
                 refine x_v (r_pk_t rfl rfl) rfl ?_
                 refine x_v (r_mv rfl) rfl ?_
                 refine x_unwant rfl rfl rfl rfl rfl ?_
                 refine XL.keep [(1, _), (4, _), (82, _), (83, _)] ⟨rfl, rfl, rfl, rfl, trivial⟩ ?_
                 refine x_unwant rfl rfl rfl rfl rfl ?_
                 refine x_unwant rfl rfl rfl rfl rfl ?_
                 refine x_unwant rfl rfl rfl rfl rfl ?_
                 refine x_unwantu rfl rfl rfl rfl rfl ?_
                 refine x_unwantu rfl rfl rfl rfl rfl ?_
                 refine x_unwant rfl rfl rfl rfl rfl ?_
                 refine x_v (r_pk_t rfl rfl) rfl ?_
                 refine x_v (r_mv rfl) rfl ?_
                 refine x_unwant rfl rfl rfl rfl rfl ?_
                 refine x_unwant rfl rfl rfl rfl rfl ?_
                 refine x_unwant rfl rfl rfl rfl rfl ?_
                 refine x_unwant rfl rfl rfl rfl rfl ?_
                 refine x_unwantu rfl rfl rfl rfl rfl ?_
                 refine x_unwantu rfl rfl rfl rfl rfl ?_
                 refine x_unwantu rfl rfl rfl rfl rfl ?_
                 refine x_unwantu rfl rfl rfl rfl rfl ?_
                 refine x_unwant rfl rfl rfl rfl rfl ?_
                 refine x_v (r_pk_t rfl rfl) rfl ?_
                 refine x_v (r_mv rfl) rfl ?_
                 refine x_unwant rfl rfl rfl rfl rfl ?_
                 refine XL.keep [(1, _), (4, _), (102, _), (103, _)] ⟨rfl, rfl, rfl, rfl, trivial⟩ ?_
                 refine x_unwant rfl rfl rfl rfl rfl ?_
                 refine x_unwant rfl rfl rfl rfl rfl ?_
                 refine x_unwant rfl rfl rfl rfl rfl ?_
                 refine x_unwantu rfl rfl rfl rfl rfl ?_
                 refine x_unwantu rfl rfl rfl rfl rfl ?_
                 refine x_unwantu rfl rfl rfl rfl rfl ?_
                 refine x_unwant rfl rfl rfl rfl rfl ?_
                 refine x_v (r_pk_t rfl rfl) rfl ?_
                 refine x_v (r_mv rfl) rfl ?_
                 refine x_unwant rfl rfl rfl rfl rfl ?_
                 refine x_unwant rfl rfl rfl rfl rfl ?_
                 refine x_unwant rfl rfl rfl rfl rfl ?_
                 refine x_unwant rfl rfl rfl rfl rfl ?_
                 refine x_unwantu rfl rfl rfl rfl rfl ?_
                 refine x_unwantu rfl rfl rfl rfl rfl ?_
                 refine x_unwantu rfl rfl rfl rfl rfl ?_
                 refine x_unwantu rfl rfl rfl rfl rfl ?_
                 refine x_unwant rfl rfl rfl rfl rfl ?_
                 refine x_v (r_pk_t rfl rfl) rfl ?_
                 refine x_v (r_mv rfl) rfl ?_
                 refine XL.keep [(1, _), (4, _), (123, _)] ⟨rfl, rfl, rfl, trivial⟩ ?_
                 refine x_unwant rfl rfl rfl rfl rfl ?_
                 refine x_unwant rfl rfl rfl rfl rfl ?_
                 refine x_unwant rfl rfl rfl rfl rfl ?_
                 refine x_unwant rfl rfl rfl rfl rfl ?_
                 refine x_unwantu rfl rfl rfl rfl rfl ?_
                 refine x_unwantu rfl rfl rfl rfl rfl ?_
                 refine x_unwantu rfl rfl rfl rfl rfl ?_
                 refine x_unwant rfl rfl rfl rfl rfl ?_
                 refine x_v (r_pk_t rfl rfl) rfl ?_
                 refine x_v (r_mv rfl) rfl ?_
                 refine x_unwant rfl rfl rfl rfl rfl ?_
                 refine x_unwant rfl rfl rfl rfl rfl ?_
                 refine x_unwant rfl rfl rfl rfl rfl ?_
                 refine x_unwant rfl rfl rfl rfl rfl ?_
                 refine x_unwantu rfl rfl rfl rfl rfl ?_
                 refine x_unwantu rfl rfl rfl rfl rfl ?_
                 refine x_unwantu rfl rfl rfl rfl rfl ?_
                 refine x_unwant rfl rfl rfl rfl rfl ?_
                 refine x_v (r_pk_t rfl rfl) rfl ?_
                 refine x_v (r_mv rfl) rfl ?_
                 refine XL.keep [(1, _), (4, _), (143, _)] ⟨rfl, rfl, rfl, trivial⟩ ?_
                 refine x_unwant rfl rfl rfl rfl rfl ?_
                 refine x_unwant rfl rfl rfl rfl rfl ?_
                 refine x_unwant rfl rfl rfl rfl rfl ?_
                 refine x_unwant rfl rfl rfl rfl rfl ?_
                 refine x_unwantu rfl rfl rfl rfl rfl ?_
                 refine x_unwantu rfl rfl rfl rfl rfl ?_
                 refine x_unwantu rfl rfl rfl rfl rfl ?_
                 refine x_unwantu rfl rfl rfl rfl rfl ?_
                 refine x_unwant rfl rfl rfl rfl rfl ?_
                 refine x_v (r_pk_t rfl rfl) rfl ?_
                 refine x_v (r_mv rfl) rfl ?_
                 refine x_unwant rfl rfl rfl rfl rfl ?_
                 refine x_unwant rfl rfl rfl rfl rfl ?_
                 refine x_unwant rfl rfl rfl rfl rfl ?_
                 refine x_unwant rfl rfl rfl rfl rfl ?_
                 refine x_unwantu rfl rfl rfl rfl rfl ?_
                 refine x_unwantu rfl rfl rfl rfl rfl ?_
                 refine x_unwantu rfl rfl rfl rfl rfl ?_
                 refine x_unwantu rfl rfl rfl rfl rfl ?_
                 refine x_unwant rfl rfl rfl rfl rfl ?_
                 refine XL.keep [(1, _), (4, _), (154, _), (163, _)] ⟨rfl, rfl, rfl, rfl, trivial⟩ ?_
                 refine x_v (r_pk_t rfl rfl) rfl ?_
                 refine x_v (r_mv rfl) rfl ?_
                 refine x_unwant rfl rfl rfl rfl rfl ?_
                 refine x_unwant rfl rfl rfl rfl rfl ?_
                 refine x_unwant rfl rfl rfl rfl rfl ?_
                 refine x_unwant rfl rfl rfl rfl rfl ?_
                 refine x_unwantu rfl rfl rfl rfl rfl ?_
                 refine x_unwantu rfl rfl rfl rfl rfl ?_
                 refine x_unwantu rfl rfl rfl rfl rfl ?_
                 refine x_unwantu rfl rfl rfl rfl rfl ?_
                 refine x_unwant rfl rfl rfl rfl rfl ?_
                 refine x_v (r_pk_t rfl rfl) rfl ?_
                 refine x_v (r_mv rfl) rfl ?_
                 refine x_unwant rfl rfl rfl rfl rfl ?_
                 refine x_unwant rfl rfl rfl rfl rfl ?_
                 refine x_unwant rfl rfl rfl rfl rfl ?_
                 refine x_unwant rfl rfl rfl rfl rfl ?_
                 refine x_unwantu rfl rfl rfl rfl rfl ?_
                 refine x_unwantu rfl rfl rfl rfl rfl ?_
                 refine x_unwantu rfl rfl rfl rfl rfl ?_
                 refine XL.keep [(1, _), (4, _), (176, _), (180, _), (183, _)] ⟨rfl, rfl, rfl, rfl, rfl, trivial⟩ ?_
                 refine x_unwantu rfl rfl rfl rfl rfl ?_
                 refine x_unwant rfl rfl rfl rfl rfl ?_
                 refine x_v (r_pk_t rfl rfl) rfl ?_
                 refine XL.nil ?_
                 refine hK24 _ _ ?_
                 refine XC.keep [(1, _), (4, _), (186, _)] ⟨rfl, rfl, rfl, trivial⟩ ?_
                 refine XC.cond_t rfl ?_
                 refine XC.seq fun K27 hK27 => ?_
                 refine XC.region ?_
                 refine x_v (r_as rfl) rfl ?_
                 refine XL.nil ?_
                 refine hK27 _ _ ?_
                 refine XC.keep [(2, _)] ⟨rfl, trivial⟩ ?_
                 refine XC.ret ?_
                 exact fin1 rfl (⟨gno m (fun h => by unfold grantOk at h; first | omega | (obtain ⟨_, _, _, _, _, hgood, _⟩ := h; simp_all) | exact hg112 (List.eq_nil_of_length_eq_zero h.2.2.2.2.2.2.2.2.2.2.2.2.2.2.2.1)), rfl⟩) gS
                ·refine x_want rfl rfl rfl ?_
                 refine x_v (r_mv rfl) rfl ?_
                 refine x_want rfl rfl rfl ?_
                 refine x_v (r_lk1 Try.underlying106 Try.underlying5 ty4 rfl rfl rfl pK) rfl ?_
                 rw [show (esf 2 (.int .u8 99)).getD (.bool false) = .bool false from rfl]
                 refine x_want rfl rfl rfl ?_
                 refine x_v (r_not rfl) rfl ?_
                 refine x_want rfl rfl rfl ?_
                 refine x_v (r_mv rfl) rfl ?_
                 refine x_want rfl rfl rfl ?_
                 refine x_v (r_fa fo35_4 rfl) rfl ?_
                 refine x_want rfl rfl rfl ?_
                 refine x_v (r_ld ty3 rfl pK (by rfl)) rfl ?_
                 refine x_want rfl rfl rfl ?_
                 refine x_v (r_ne rfl rfl) rfl ?_
                 refine x_want rfl rfl rfl ?_
                 refine x_v (r_pk_t rfl rfl) rfl ?_
                 refine x_v (r_pk_f rfl rfl) rfl ?_
                 refine x_v (r_mv rfl) rfl ?_
                 refine XL.splitd 82 rfl (fun hg82 => ?_) (fun hg82 => ?_)
                 ·refine x_unwant rfl rfl rfl rfl rfl ?_
                  refine XL.keep [(1, _), (4, _), (82, _), (83, _)] ⟨rfl, rfl, rfl, rfl, trivial⟩ ?_
                  refine x_unwant rfl rfl rfl rfl rfl ?_
                  refine x_unwant rfl rfl rfl rfl rfl ?_
                  refine x_unwant rfl rfl rfl rfl rfl ?_
                  refine x_unwantu rfl rfl rfl rfl rfl ?_
                  refine x_unwantu rfl rfl rfl rfl rfl ?_
                  refine x_unwant rfl rfl rfl rfl rfl ?_
                  refine x_v (r_pk_t rfl rfl) rfl ?_
                  refine x_v (r_mv rfl) rfl ?_
                  refine x_unwant rfl rfl rfl rfl rfl ?_
                  refine x_unwant rfl rfl rfl rfl rfl ?_
                  refine x_unwant rfl rfl rfl rfl rfl ?_
                  refine x_unwant rfl rfl rfl rfl rfl ?_
                  refine x_unwantu rfl rfl rfl rfl rfl ?_
                  refine x_unwantu rfl rfl rfl rfl rfl ?_
                  refine x_unwantu rfl rfl rfl rfl rfl ?_
                  refine x_unwantu rfl rfl rfl rfl rfl ?_
                  refine x_unwant rfl rfl rfl rfl rfl ?_
                  refine x_v (r_pk_t rfl rfl) rfl ?_
                  refine x_v (r_mv rfl) rfl ?_
                  refine x_unwant rfl rfl rfl rfl rfl ?_
                  refine XL.keep [(1, _), (4, _), (102, _), (103, _)] ⟨rfl, rfl, rfl, rfl, trivial⟩ ?_
                  refine x_unwant rfl rfl rfl rfl rfl ?_
                  refine x_unwant rfl rfl rfl rfl rfl ?_
                  refine x_unwant rfl rfl rfl rfl rfl ?_
                  refine x_unwantu rfl rfl rfl rfl rfl ?_
                  refine x_unwantu rfl rfl rfl rfl rfl ?_
                  refine x_unwantu rfl rfl rfl rfl rfl ?_
                  refine x_unwant rfl rfl rfl rfl rfl ?_
                  refine x_v (r_pk_t rfl rfl) rfl ?_
                  refine x_v (r_mv rfl) rfl ?_
                  refine x_unwant rfl rfl rfl rfl rfl ?_
                  refine x_unwant rfl rfl rfl rfl rfl ?_
                  refine x_unwant rfl rfl rfl rfl rfl ?_
                  refine x_unwant rfl rfl rfl rfl rfl ?_
                  refine x_unwantu rfl rfl rfl rfl rfl ?_
                  refine x_unwantu rfl rfl rfl rfl rfl ?_
                  refine x_unwantu rfl rfl rfl rfl rfl ?_
                  refine x_unwantu rfl rfl rfl rfl rfl ?_
                  refine x_unwant rfl rfl rfl rfl rfl ?_
                  refine x_v (r_pk_t rfl rfl) rfl ?_
                  refine x_v (r_mv rfl) rfl ?_
                  refine XL.keep [(1, _), (4, _), (123, _)] ⟨rfl, rfl, rfl, trivial⟩ ?_
                  refine x_unwant rfl rfl rfl rfl rfl ?_
                  refine x_unwant rfl rfl rfl rfl rfl ?_
                  refine x_unwant rfl rfl rfl rfl rfl ?_
                  refine x_unwant rfl rfl rfl rfl rfl ?_
                  refine x_unwantu rfl rfl rfl rfl rfl ?_
                  refine x_unwantu rfl rfl rfl rfl rfl ?_
                  refine x_unwantu rfl rfl rfl rfl rfl ?_
                  refine x_unwant rfl rfl rfl rfl rfl ?_
                  refine x_v (r_pk_t rfl rfl) rfl ?_
                  refine x_v (r_mv rfl) rfl ?_
                  refine x_unwant rfl rfl rfl rfl rfl ?_
                  refine x_unwant rfl rfl rfl rfl rfl ?_
                  refine x_unwant rfl rfl rfl rfl rfl ?_
                  refine x_unwant rfl rfl rfl rfl rfl ?_
                  refine x_unwantu rfl rfl rfl rfl rfl ?_
                  refine x_unwantu rfl rfl rfl rfl rfl ?_
                  refine x_unwantu rfl rfl rfl rfl rfl ?_
                  refine x_unwant rfl rfl rfl rfl rfl ?_
                  refine x_v (r_pk_t rfl rfl) rfl ?_
                  refine x_v (r_mv rfl) rfl ?_
                  refine XL.keep [(1, _), (4, _), (143, _)] ⟨rfl, rfl, rfl, trivial⟩ ?_
                  refine x_unwant rfl rfl rfl rfl rfl ?_
                  refine x_unwant rfl rfl rfl rfl rfl ?_
                  refine x_unwant rfl rfl rfl rfl rfl ?_
                  refine x_unwant rfl rfl rfl rfl rfl ?_
                  refine x_unwantu rfl rfl rfl rfl rfl ?_
                  refine x_unwantu rfl rfl rfl rfl rfl ?_
                  refine x_unwantu rfl rfl rfl rfl rfl ?_
                  refine x_unwantu rfl rfl rfl rfl rfl ?_
                  refine x_unwant rfl rfl rfl rfl rfl ?_
                  refine x_v (r_pk_t rfl rfl) rfl ?_
                  refine x_v (r_mv rfl) rfl ?_
                  refine x_unwant rfl rfl rfl rfl rfl ?_
                  refine x_unwant rfl rfl rfl rfl rfl ?_
                  refine x_unwant rfl rfl rfl rfl rfl ?_
                  refine x_unwant rfl rfl rfl rfl rfl ?_
                  refine x_unwantu rfl rfl rfl rfl rfl ?_
                  refine x_unwantu rfl rfl rfl rfl rfl ?_
                  refine x_unwantu rfl rfl rfl rfl rfl ?_
                  refine x_unwantu rfl rfl rfl rfl rfl ?_
                  refine x_unwant rfl rfl rfl rfl rfl ?_
                  refine XL.keep [(1, _), (4, _), (154, _), (163, _)] ⟨rfl, rfl, rfl, rfl, trivial⟩ ?_
                  refine x_v (r_pk_t rfl rfl) rfl ?_
                  refine x_v (r_mv rfl) rfl ?_
                  refine x_unwant rfl rfl rfl rfl rfl ?_
                  refine x_unwant rfl rfl rfl rfl rfl ?_
                  refine x_unwant rfl rfl rfl rfl rfl ?_
                  refine x_unwant rfl rfl rfl rfl rfl ?_
                  refine x_unwantu rfl rfl rfl rfl rfl ?_
                  refine x_unwantu rfl rfl rfl rfl rfl ?_
                  refine x_unwantu rfl rfl rfl rfl rfl ?_
                  refine x_unwantu rfl rfl rfl rfl rfl ?_
                  refine x_unwant rfl rfl rfl rfl rfl ?_
                  refine x_v (r_pk_t rfl rfl) rfl ?_
                  refine x_v (r_mv rfl) rfl ?_
                  refine x_unwant rfl rfl rfl rfl rfl ?_
                  refine x_unwant rfl rfl rfl rfl rfl ?_
                  refine x_unwant rfl rfl rfl rfl rfl ?_
                  refine x_unwant rfl rfl rfl rfl rfl ?_
                  refine x_unwantu rfl rfl rfl rfl rfl ?_
                  refine x_unwantu rfl rfl rfl rfl rfl ?_
                  refine x_unwantu rfl rfl rfl rfl rfl ?_
                  refine XL.keep [(1, _), (4, _), (176, _), (180, _), (183, _)] ⟨rfl, rfl, rfl, rfl, rfl, trivial⟩ ?_
                  refine x_unwantu rfl rfl rfl rfl rfl ?_
                  refine x_unwant rfl rfl rfl rfl rfl ?_
                  refine x_v (r_pk_t rfl rfl) rfl ?_
                  refine XL.nil ?_
                  refine hK24 _ _ ?_
                  refine XC.keep [(1, _), (4, _), (186, _)] ⟨rfl, rfl, rfl, trivial⟩ ?_
                  refine XC.cond_t rfl ?_
                  refine XC.seq fun K28 hK28 => ?_
                  refine XC.region ?_
                  refine x_v (r_as rfl) rfl ?_
                  refine XL.nil ?_
                  refine hK28 _ _ ?_
                  refine XC.keep [(2, _)] ⟨rfl, trivial⟩ ?_
                  refine XC.ret ?_
                  exact fin1 rfl (⟨gno m (fun h => by unfold grantOk at h; first | omega | (obtain ⟨_, _, _, _, _, hgood, _⟩ := h; simp_all) | exact hg112 (List.eq_nil_of_length_eq_zero h.2.2.2.2.2.2.2.2.2.2.2.2.2.2.2.1)), rfl⟩) gS
                 ·refine x_want rfl rfl rfl ?_
                  refine x_v (r_mv rfl) rfl ?_
                  refine XL.keep [(1, _), (4, _), (82, _), (83, _)] ⟨rfl, rfl, rfl, rfl, trivial⟩ ?_
                  refine x_want rfl rfl rfl ?_
                  refine x_v (r_lk1 Try.underlying106 Try.underlying5 ty4 rfl rfl rfl pK) rfl ?_
                  rw [show (esf 2 (.int .u8 103)).getD (.bool false) = .bool false from rfl]
                  refine x_want rfl rfl rfl ?_
                  refine x_v (r_not rfl) rfl ?_
                  refine x_want rfl rfl rfl ?_
                  refine x_v (r_mv rfl) rfl ?_
                  refine x_want rfl rfl rfl ?_
                  refine x_v (r_fa fo35_5 rfl) rfl ?_
                  refine x_want rfl rfl rfl ?_
                  refine x_v (r_ld ty4 rfl pK (by rfl)) rfl ?_
                  refine x_want rfl rfl rfl ?_
                  refine x_v (r_pk_t rfl rfl) rfl ?_
                  refine x_v (r_pk_f rfl rfl) rfl ?_
                  refine x_v (r_mv rfl) rfl ?_
                  refine XL.split 91 rfl (fun hg91 => ?_) (fun hg91 => ?_)
                  ·refine x_unwant rfl rfl rfl rfl rfl ?_
                   refine x_unwant rfl rfl rfl rfl rfl ?_
                   refine x_unwant rfl rfl rfl rfl rfl ?_
                   refine x_unwant rfl rfl rfl rfl rfl ?_
                   refine x_unwantu rfl rfl rfl rfl rfl ?_
                   refine x_unwantu rfl rfl rfl rfl rfl ?_
                   refine x_unwantu rfl rfl rfl rfl rfl ?_
                   refine x_unwantu rfl rfl rfl rfl rfl ?_
                   refine x_unwant rfl rfl rfl rfl rfl ?_
                   refine x_v (r_pk_t rfl rfl) rfl ?_
                   refine x_v (r_mv rfl) rfl ?_
                   refine x_unwant rfl rfl rfl rfl rfl ?_
                   refine XL.keep [(1, _), (4, _), (102, _), (103, _)] ⟨rfl, rfl, rfl, rfl, trivial⟩ ?_
                   refine x_unwant rfl rfl rfl rfl rfl ?_
                   refine x_unwant rfl rfl rfl rfl rfl ?_
                   refine x_unwant rfl rfl rfl rfl rfl ?_
                   refine x_unwantu rfl rfl rfl rfl rfl ?_
                   refine x_unwantu rfl rfl rfl rfl rfl ?_
                   refine x_unwantu rfl rfl rfl rfl rfl ?_
                   refine x_unwant rfl rfl rfl rfl rfl ?_
                   refine x_v (r_pk_t rfl rfl) rfl ?_
                   refine x_v (r_mv rfl) rfl ?_
                   refine x_unwant rfl rfl rfl rfl rfl ?_
                   refine x_unwant rfl rfl rfl rfl rfl ?_
                   refine x_unwant rfl rfl rfl rfl rfl ?_
                   refine x_unwant rfl rfl rfl rfl rfl ?_
                   refine x_unwantu rfl rfl rfl rfl rfl ?_
                   refine x_unwantu rfl rfl rfl rfl rfl ?_
                   refine x_unwantu rfl rfl rfl rfl rfl ?_
                   refine x_unwantu rfl rfl rfl rfl rfl ?_
                   refine x_unwant rfl rfl rfl rfl rfl ?_
                   refine x_v (r_pk_t rfl rfl) rfl ?_
                   refine x_v (r_mv rfl) rfl ?_
                   refine XL.keep [(1, _), (4, _), (123, _)] ⟨rfl, rfl, rfl, trivial⟩ ?_
                   refine x_unwant rfl rfl rfl rfl rfl ?_
                   refine x_unwant rfl rfl rfl rfl rfl ?_
                   refine x_unwant rfl rfl rfl rfl rfl ?_
                   refine x_unwant rfl rfl rfl rfl rfl ?_
                   refine x_unwantu rfl rfl rfl rfl rfl ?_
                   refine x_unwantu rfl rfl rfl rfl rfl ?_
                   refine x_unwantu rfl rfl rfl rfl rfl ?_
                   refine x_unwant rfl rfl rfl rfl rfl ?_
                   refine x_v (r_pk_t rfl rfl) rfl ?_
                   refine x_v (r_mv rfl) rfl ?_
                   refine x_unwant rfl rfl rfl rfl rfl ?_
                   refine x_unwant rfl rfl rfl rfl rfl ?_
                   refine x_unwant rfl rfl rfl rfl rfl ?_
                   refine x_unwant rfl rfl rfl rfl rfl ?_
                   refine x_unwantu rfl rfl rfl rfl rfl ?_
                   refine x_unwantu rfl rfl rfl rfl rfl ?_
                   refine x_unwantu rfl rfl rfl rfl rfl ?_
                   refine x_unwant rfl rfl rfl rfl rfl ?_
                   refine x_v (r_pk_t rfl rfl) rfl ?_
                   refine x_v (r_mv rfl) rfl ?_
                   refine XL.keep [(1, _), (4, _), (143, _)] ⟨rfl, rfl, rfl, trivial⟩ ?_
                   refine x_unwant rfl rfl rfl rfl rfl ?_
                   refine x_unwant rfl rfl rfl rfl rfl ?_
                   refine x_unwant rfl rfl rfl rfl rfl ?_
                   refine x_unwant rfl rfl rfl rfl rfl ?_
                   refine x_unwantu rfl rfl rfl rfl rfl ?_
                   refine x_unwantu rfl rfl rfl rfl rfl ?_
                   refine x_unwantu rfl rfl rfl rfl rfl ?_
                   refine x_unwantu rfl rfl rfl rfl rfl ?_
                   refine x_unwant rfl rfl rfl rfl rfl ?_
                   refine x_v (r_pk_t rfl rfl) rfl ?_
                   refine x_v (r_mv rfl) rfl ?_
                   refine x_unwant rfl rfl rfl rfl rfl ?_
                   refine x_unwant rfl rfl rfl rfl rfl ?_
                   refine x_unwant rfl rfl rfl rfl rfl ?_
                   refine x_unwant rfl rfl rfl rfl rfl ?_
                   refine x_unwantu rfl rfl rfl rfl rfl ?_
                   refine x_unwantu rfl rfl rfl rfl rfl ?_
                   refine x_unwantu rfl rfl rfl rfl rfl ?_
                   refine x_unwantu rfl rfl rfl rfl rfl ?_
                   refine x_unwant rfl rfl rfl rfl rfl ?_
                   refine XL.keep [(1, _), (4, _), (154, _), (163, _)] ⟨rfl, rfl, rfl, rfl, trivial⟩ ?_
                   refine x_v (r_pk_t rfl rfl) rfl ?_
                   refine x_v (r_mv rfl) rfl ?_
                   refine x_unwant rfl rfl rfl rfl rfl ?_
                   refine x_unwant rfl rfl rfl rfl rfl ?_
                   refine x_unwant rfl rfl rfl rfl rfl ?_
                   refine x_unwant rfl rfl rfl rfl rfl ?_
                   refine x_unwantu rfl rfl rfl rfl rfl ?_
                   refine x_unwantu rfl rfl rfl rfl rfl ?_
                   refine x_unwantu rfl rfl rfl rfl rfl ?_
                   refine x_unwantu rfl rfl rfl rfl rfl ?_
                   refine x_unwant rfl rfl rfl rfl rfl ?_
                   refine x_v (r_pk_t rfl rfl) rfl ?_
                   refine x_v (r_mv rfl) rfl ?_
                   refine x_unwant rfl rfl rfl rfl rfl ?_
                   refine x_unwant rfl rfl rfl rfl rfl ?_
                   refine x_unwant rfl rfl rfl rfl rfl ?_
                   refine x_unwant rfl rfl rfl rfl rfl ?_
                   refine x_unwantu rfl rfl rfl rfl rfl ?_
                   refine x_unwantu rfl rfl rfl rfl rfl ?_
                   refine x_unwantu rfl rfl rfl rfl rfl ?_
                   refine XL.keep [(1, _), (4, _), (176, _), (180, _), (183, _)] ⟨rfl, rfl, rfl, rfl, rfl, trivial⟩ ?_
                   refine x_unwantu rfl rfl rfl rfl rfl ?_
                   refine x_unwant rfl rfl rfl rfl rfl ?_
                   refine x_v (r_pk_t rfl rfl) rfl ?_
                   refine XL.nil ?_
                   refine hK24 _ _ ?_
                   refine XC.keep [(1, _), (4, _), (186, _)] ⟨rfl, rfl, rfl, trivial⟩ ?_
                   refine XC.cond_t rfl ?_
                   refine XC.seq fun K29 hK29 => ?_
                   refine XC.region ?_
                   refine x_v (r_as rfl) rfl ?_
                   refine XL.nil ?_
                   refine hK29 _ _ ?_
                   refine XC.keep [(2, _)] ⟨rfl, trivial⟩ ?_
                   refine XC.ret ?_
                   exact fin1 rfl (⟨gno m (fun h => by unfold grantOk at h; first | omega | (obtain ⟨_, _, _, _, _, hgood, _⟩ := h; simp_all) | exact hg112 (List.eq_nil_of_length_eq_zero h.2.2.2.2.2.2.2.2.2.2.2.2.2.2.2.1)), rfl⟩) gS
                  ·refine x_want rfl rfl rfl ?_
                   refine x_v (r_mv rfl) rfl ?_
                   refine x_want rfl rfl rfl ?_
                   refine x_v (r_lk1 Try.underlying106 Try.underlying5 ty4 rfl rfl rfl pK) rfl ?_
                   rw [show (esf 2 (.int .u8 101)).getD (.bool false) = .bool false from rfl]
                   refine x_want rfl rfl rfl ?_
                   refine x_v (r_not rfl) rfl ?_
                   refine x_want rfl rfl rfl ?_
                   refine x_v (r_mv rfl) rfl ?_
                   refine x_want rfl rfl rfl ?_
                   refine x_v (r_fa fo35_6 rfl) rfl ?_
                   refine x_want rfl rfl rfl ?_
                   refine x_v (r_ld ty28 rfl pK (by rfl)) rfl ?_
                   refine x_want rfl rfl rfl ?_
                   refine x_v (r_lensl Try.underlying28 rfl) rfl ?_
                   refine x_want rfl rfl rfl ?_
                   refine x_v (r_gt rfl rfl) rfl ?_
                   refine x_want rfl rfl rfl ?_
                   refine x_v (r_pk_t rfl rfl) rfl ?_
                   refine x_v (r_pk_f rfl rfl) rfl ?_
                   refine x_v (r_mv rfl) rfl ?_
                   refine XL.splitd 102 rfl (fun hg102 => ?_) (fun hg102 => ?_)
                   ·refine x_unwant rfl rfl rfl rfl rfl ?_
                    refine XL.keep [(1, _), (4, _), (102, _), (103, _)] ⟨rfl, rfl, rfl, rfl, trivial⟩ ?_
                    refine x_unwant rfl rfl rfl rfl rfl ?_
                    refine x_unwant rfl rfl rfl rfl rfl ?_
                    refine x_unwant rfl rfl rfl rfl rfl ?_
                    refine x_unwantu rfl rfl rfl rfl rfl ?_
                    refine x_unwantu rfl rfl rfl rfl rfl ?_
                    refine x_unwantu rfl rfl rfl rfl rfl ?_
                    refine x_unwant rfl rfl rfl rfl rfl ?_
                    refine x_v (r_pk_t rfl rfl) rfl ?_
                    refine x_v (r_mv rfl) rfl ?_
                    refine x_unwant rfl rfl rfl rfl rfl ?_
                    refine x_unwant rfl rfl rfl rfl rfl ?_
                    refine x_unwant rfl rfl rfl rfl rfl ?_
                    refine x_unwant rfl rfl rfl rfl rfl ?_
                    refine x_unwantu rfl rfl rfl rfl rfl ?_
                    refine x_unwantu rfl rfl rfl rfl rfl ?_
                    refine x_unwantu rfl rfl rfl rfl rfl ?_
                    refine x_unwantu rfl rfl rfl rfl rfl ?_
                    refine x_unwant rfl rfl rfl rfl rfl ?_
                    refine x_v (r_pk_t rfl rfl) rfl ?_
                    refine x_v (r_mv rfl) rfl ?_
                    refine XL.keep [(1, _), (4, _), (123, _)] ⟨rfl, rfl, rfl, trivial⟩ ?_
                    refine x_unwant rfl rfl rfl rfl rfl ?_
                    refine x_unwant rfl rfl rfl rfl rfl ?_
                    refine x_unwant rfl rfl rfl rfl rfl ?_
                    refine x_unwant rfl rfl rfl rfl rfl ?_
                    refine x_unwantu rfl rfl rfl rfl rfl ?_
                    refine x_unwantu rfl rfl rfl rfl rfl ?_
                    refine x_unwantu rfl rfl rfl rfl rfl ?_
                    refine x_unwant rfl rfl rfl rfl rfl ?_
                    refine x_v (r_pk_t rfl rfl) rfl ?_
                    refine x_v (r_mv rfl) rfl ?_
                    refine x_unwant rfl rfl rfl rfl rfl ?_
                    refine x_unwant rfl rfl rfl rfl rfl ?_
                    refine x_unwant rfl rfl rfl rfl rfl ?_
                    refine x_unwant rfl rfl rfl rfl rfl ?_
                    refine x_unwantu rfl rfl rfl rfl rfl ?_
                    refine x_unwantu rfl rfl rfl rfl rfl ?_
                    refine x_unwantu rfl rfl rfl rfl rfl ?_
                    refine x_unwant rfl rfl rfl rfl rfl ?_
                    refine x_v (r_pk_t rfl rfl) rfl ?_
                    refine x_v (r_mv rfl) rfl ?_
                    refine XL.keep [(1, _), (4, _), (143, _)] ⟨rfl, rfl, rfl, trivial⟩ ?_
                    refine x_unwant rfl rfl rfl rfl rfl ?_
                    refine x_unwant rfl rfl rfl rfl rfl ?_
                    refine x_unwant rfl rfl rfl rfl rfl ?_
                    refine x_unwant rfl rfl rfl rfl rfl ?_
                    refine x_unwantu rfl rfl rfl rfl rfl ?_
                    refine x_unwantu rfl rfl rfl rfl rfl ?_
                    refine x_unwantu rfl rfl rfl rfl rfl ?_
                    refine x_unwantu rfl rfl rfl rfl rfl ?_
                    refine x_unwant rfl rfl rfl rfl rfl ?_
                    refine x_v (r_pk_t rfl rfl) rfl ?_
                    refine x_v (r_mv rfl) rfl ?_
                    refine x_unwant rfl rfl rfl rfl rfl ?_
                    refine x_unwant rfl rfl rfl rfl rfl ?_
                    refine x_unwant rfl rfl rfl rfl rfl ?_
                    refine x_unwant rfl rfl rfl rfl rfl ?_
                    refine x_unwantu rfl rfl rfl rfl rfl ?_
                    refine x_unwantu rfl rfl rfl rfl rfl ?_
                    refine x_unwantu rfl rfl rfl rfl rfl ?_
                    refine x_unwantu rfl rfl rfl rfl rfl ?_
                    refine x_unwant rfl rfl rfl rfl rfl ?_
                    refine XL.keep [(1, _), (4, _), (154, _), (163, _)] ⟨rfl, rfl, rfl, rfl, trivial⟩ ?_
                    refine x_v (r_pk_t rfl rfl) rfl ?_
                    refine x_v (r_mv rfl) rfl ?_
                    refine x_unwant rfl rfl rfl rfl rfl ?_
                    refine x_unwant rfl rfl rfl rfl rfl ?_
                    refine x_unwant rfl rfl rfl rfl rfl ?_
                    refine x_unwant rfl rfl rfl rfl rfl ?_
                    refine x_unwantu rfl rfl rfl rfl rfl ?_
                    refine x_unwantu rfl rfl rfl rfl rfl ?_
                    refine x_unwantu rfl rfl rfl rfl rfl ?_
                    refine x_unwantu rfl rfl rfl rfl rfl ?_
                    refine x_unwant rfl rfl rfl rfl rfl ?_
                    refine x_v (r_pk_t rfl rfl) rfl ?_
                    refine x_v (r_mv rfl) rfl ?_
                    refine x_unwant rfl rfl rfl rfl rfl ?_
                    refine x_unwant rfl rfl rfl rfl rfl ?_
                    refine x_unwant rfl rfl rfl rfl rfl ?_
                    refine x_unwant rfl rfl rfl rfl rfl ?_
                    refine x_unwantu rfl rfl rfl rfl rfl ?_
                    refine x_unwantu rfl rfl rfl rfl rfl ?_
                    refine x_unwantu rfl rfl rfl rfl rfl ?_
                    refine XL.keep [(1, _), (4, _), (176, _), (180, _), (183, _)] ⟨rfl, rfl, rfl, rfl, rfl, trivial⟩ ?_
                    refine x_unwantu rfl rfl rfl rfl rfl ?_
                    refine x_unwant rfl rfl rfl rfl rfl ?_
                    refine x_v (r_pk_t rfl rfl) rfl ?_
                    refine XL.nil ?_
                    refine hK24 _ _ ?_
                    refine XC.keep [(1, _), (4, _), (186, _)] ⟨rfl, rfl, rfl, trivial⟩ ?_
                    refine XC.cond_t rfl ?_
                    refine XC.seq fun K30 hK30 => ?_
                    refine XC.region ?_
                    refine x_v (r_as rfl) rfl ?_
                    refine XL.nil ?_
                    refine hK30 _ _ ?_
                    refine XC.keep [(2, _)] ⟨rfl, trivial⟩ ?_
                    refine XC.ret ?_
                    exact fin1 rfl (⟨gno m (fun h => by unfold grantOk at h; first | omega | (obtain ⟨_, _, _, _, _, hgood, _⟩ := h; simp_all) | exact hg112 (List.eq_nil_of_length_eq_zero h.2.2.2.2.2.2.2.2.2.2.2.2.2.2.2.1)), rfl⟩) gS
                   ·refine x_want rfl rfl rfl ?_
                    refine x_v (r_mv rfl) rfl ?_
                    refine XL.keep [(1, _), (4, _), (102, _), (103, _)] ⟨rfl, rfl, rfl, rfl, trivial⟩ ?_
                    refine x_want rfl rfl rfl ?_
                    refine x_v (r_lk1 Try.underlying106 Try.underlying5 ty4 rfl rfl rfl pK) rfl ?_
                    rw [show (esf 2 (.int .u8 100)).getD (.bool false) = .bool false from rfl]
                    refine x_want rfl rfl rfl ?_
                    refine x_v (r_not rfl) rfl ?_
                    refine x_want rfl rfl rfl ?_
                    refine x_v (r_mv rfl) rfl ?_
                    refine x_want rfl rfl rfl ?_
                    refine x_v (r_fa fo35_7 rfl) rfl ?_
                    refine x_want rfl rfl rfl ?_
                    refine x_v (r_ld ty9 rfl pK (by rfl)) rfl ?_
                    refine x_want rfl rfl rfl ?_
                    refine x_v (r_sne rfl rfl) rfl ?_
                    refine x_want rfl rfl rfl ?_
                    refine x_v (r_pk_t rfl rfl) rfl ?_
                    refine x_v (r_pk_f rfl rfl) rfl ?_
                    refine x_v (r_mv rfl) rfl ?_
                    refine XL.splitd 112 rfl (fun hg112 => ?_) (fun hg112 => ?_)
                    ·refine x_unwant rfl rfl rfl rfl rfl ?_
                     refine x_unwant rfl rfl rfl rfl rfl ?_
                     refine x_unwant rfl rfl rfl rfl rfl ?_
                     refine x_unwant rfl rfl rfl rfl rfl ?_
                     refine x_unwantu rfl rfl rfl rfl rfl ?_
                     refine x_unwantu rfl rfl rfl rfl rfl ?_
                     refine x_unwantu rfl rfl rfl rfl rfl ?_
                     refine x_unwantu rfl rfl rfl rfl rfl ?_
                     refine x_unwant rfl rfl rfl rfl rfl ?_
                     refine x_v (r_pk_t rfl rfl) rfl ?_
                     refine x_v (r_mv rfl) rfl ?_
                     refine XL.keep [(1, _), (4, _), (123, _)] ⟨rfl, rfl, rfl, trivial⟩ ?_
                     refine x_unwant rfl rfl rfl rfl rfl ?_
                     refine x_unwant rfl rfl rfl rfl rfl ?_
                     refine x_unwant rfl rfl rfl rfl rfl ?_
                     refine x_unwant rfl rfl rfl rfl rfl ?_
                     refine x_unwantu rfl rfl rfl rfl rfl ?_
                     refine x_unwantu rfl rfl rfl rfl rfl ?_
                     refine x_unwantu rfl rfl rfl rfl rfl ?_
                     refine x_unwant rfl rfl rfl rfl rfl ?_
                     refine x_v (r_pk_t rfl rfl) rfl ?_
                     refine x_v (r_mv rfl) rfl ?_
                     refine x_unwant rfl rfl rfl rfl rfl ?_
                     refine x_unwant rfl rfl rfl rfl rfl ?_
                     refine x_unwant rfl rfl rfl rfl rfl ?_
                     refine x_unwant rfl rfl rfl rfl rfl ?_
                     refine x_unwantu rfl rfl rfl rfl rfl ?_
                     refine x_unwantu rfl rfl rfl rfl rfl ?_
                     refine x_unwantu rfl rfl rfl rfl rfl ?_
                     refine x_unwant rfl rfl rfl rfl rfl ?_
                     refine x_v (r_pk_t rfl rfl) rfl ?_
                     refine x_v (r_mv rfl) rfl ?_
                     refine XL.keep [(1, _), (4, _), (143, _)] ⟨rfl, rfl, rfl, trivial⟩ ?_
                     refine x_unwant rfl rfl rfl rfl rfl ?_
                     refine x_unwant rfl rfl rfl rfl rfl ?_
                     refine x_unwant rfl rfl rfl rfl rfl ?_
                     refine x_unwant rfl rfl rfl rfl rfl ?_
                     refine x_unwantu rfl rfl rfl rfl rfl ?_
                     refine x_unwantu rfl rfl rfl rfl rfl ?_
                     refine x_unwantu rfl rfl rfl rfl rfl ?_
                     refine x_unwantu rfl rfl rfl rfl rfl ?_
                     refine x_unwant rfl rfl rfl rfl rfl ?_
                     refine x_v (r_pk_t rfl rfl) rfl ?_
                     refine x_v (r_mv rfl) rfl ?_
                     refine x_unwant rfl rfl rfl rfl rfl ?_
                     refine x_unwant rfl rfl rfl rfl rfl ?_
                     refine x_unwant rfl rfl rfl rfl rfl ?_
                     refine x_unwant rfl rfl rfl rfl rfl ?_
                     refine x_unwantu rfl rfl rfl rfl rfl ?_
                     refine x_unwantu rfl rfl rfl rfl rfl ?_
                     refine x_unwantu rfl rfl rfl rfl rfl ?_
                     refine x_unwantu rfl rfl rfl rfl rfl ?_
                     refine x_unwant rfl rfl rfl rfl rfl ?_
                     refine XL.keep [(1, _), (4, _), (154, _), (163, _)] ⟨rfl, rfl, rfl, rfl, trivial⟩ ?_
                     refine x_v (r_pk_t rfl rfl) rfl ?_
                     refine x_v (r_mv rfl) rfl ?_
                     refine x_unwant rfl rfl rfl rfl rfl ?_
                     refine x_unwant rfl rfl rfl rfl rfl ?_
                     refine x_unwant rfl rfl rfl rfl rfl ?_
                     refine x_unwant rfl rfl rfl rfl rfl ?_
                     refine x_unwantu rfl rfl rfl rfl rfl ?_
                     refine x_unwantu rfl rfl rfl rfl rfl ?_
                     refine x_unwantu rfl rfl rfl rfl rfl ?_
                     refine x_unwantu rfl rfl rfl rfl rfl ?_
                     refine x_unwant rfl rfl rfl rfl rfl ?_
                     refine x_v (r_pk_t rfl rfl) rfl ?_
                     refine x_v (r_mv rfl) rfl ?_
                     refine x_unwant rfl rfl rfl rfl rfl ?_
                     refine x_unwant rfl rfl rfl rfl rfl ?_
                     refine x_unwant rfl rfl rfl rfl rfl ?_
                     refine x_unwant rfl rfl rfl rfl rfl ?_
                     refine x_unwantu rfl rfl rfl rfl rfl ?_
                     refine x_unwantu rfl rfl rfl rfl rfl ?_
                     refine x_unwantu rfl rfl rfl rfl rfl ?_
                     refine XL.keep [(1, _), (4, _), (176, _), (180, _), (183, _)] ⟨rfl, rfl, rfl, rfl, rfl, trivial⟩ ?_
                     refine x_unwantu rfl rfl rfl rfl rfl ?_
                     refine x_unwant rfl rfl rfl rfl rfl ?_
                     refine x_v (r_pk_t rfl rfl) rfl ?_
                     refine XL.nil ?_
                     refine hK24 _ _ ?_
                     refine XC.keep [(1, _), (4, _), (186, _)] ⟨rfl, rfl, rfl, trivial⟩ ?_
                     refine XC.cond_t rfl ?_
                     refine XC.seq fun K31 hK31 => ?_
                     refine XC.region ?_
                     refine x_v (r_as rfl) rfl ?_
                     refine XL.nil ?_
                     refine hK31 _ _ ?_
                     refine XC.keep [(2, _)] ⟨rfl, trivial⟩ ?_
                     refine XC.ret ?_
                     exact fin1 rfl (⟨gno m (fun h => by unfold grantOk at h; first | omega | (obtain ⟨_, _, _, _, _, hgood, _⟩ := h; simp_all) | exact hg112 (List.eq_nil_of_length_eq_zero h.2.2.2.2.2.2.2.2.2.2.2.2.2.2.2.1)), rfl⟩) gS
                    ·refine x_want rfl rfl rfl ?_
                     refine x_v (r_mv rfl) rfl ?_
                     refine x_want rfl rfl rfl ?_
                     refine x_v (r_lk1 Try.underlying106 Try.underlying5 ty4 rfl rfl rfl pK) rfl ?_
                     rw [show (esf 2 (.int .u8 104)).getD (.bool false) = .bool false from rfl]
                     refine x_want rfl rfl rfl ?_
                     refine x_v (r_not rfl) rfl ?_
                     refine x_want rfl rfl rfl ?_
                     refine x_v (r_mv rfl) rfl ?_
                     refine x_want rfl rfl rfl ?_
                     refine x_v (r_fa fo35_8 rfl) rfl ?_
                     refine x_want rfl rfl rfl ?_
                     refine x_v (r_ld ty29 rfl pK (by rfl)) rfl ?_
                     refine x_want rfl rfl rfl ?_
                     refine x_v (r_lensl Try.underlying29 rfl) rfl ?_
                     refine x_want rfl rfl rfl ?_
                     refine x_v (r_gt rfl rfl) rfl ?_
                     refine x_want rfl rfl rfl ?_
                     refine x_v (r_pk_t rfl rfl) rfl ?_
                     refine x_v (r_pk_f rfl rfl) rfl ?_
                     refine x_v (r_mv rfl) rfl ?_
                     refine XL.keep [(1, _), (4, _), (123, _)] ⟨rfl, rfl, rfl, trivial⟩ ?_
                     refine XL.splitd 123 rfl (fun hg123 => ?_) (fun hg123 => ?_)
                     ·refine XL.keep [(1, _), (4, _), (123, _)] ⟨rfl, rfl, rfl, trivial⟩ ?_
                      refine x_unwant rfl rfl rfl rfl rfl ?_
                      refine x_unwant rfl rfl rfl rfl rfl ?_
                      refine x_unwant rfl rfl rfl rfl rfl ?_
                      refine x_unwant rfl rfl rfl rfl rfl ?_
                      refine x_unwantu rfl rfl rfl rfl rfl ?_
                      refine x_unwantu rfl rfl rfl rfl rfl ?_
                      refine x_unwantu rfl rfl rfl rfl rfl ?_
                      refine x_unwant rfl rfl rfl rfl rfl ?_
                      refine x_v (r_pk_t rfl rfl) rfl ?_
                      refine x_v (r_mv rfl) rfl ?_
                      refine x_unwant rfl rfl rfl rfl rfl ?_
                      refine x_unwant rfl rfl rfl rfl rfl ?_
                      refine x_unwant rfl rfl rfl rfl rfl ?_
                      refine x_unwant rfl rfl rfl rfl rfl ?_
                      refine x_unwantu rfl rfl rfl rfl rfl ?_
                      refine x_unwantu rfl rfl rfl rfl rfl ?_
                      refine x_unwantu rfl rfl rfl rfl rfl ?_
                      refine x_unwant rfl rfl rfl rfl rfl ?_
                      refine x_v (r_pk_t rfl rfl) rfl ?_
                      refine x_v (r_mv rfl) rfl ?_
                      refine XL.keep [(1, _), (4, _), (143, _)] ⟨rfl, rfl, rfl, trivial⟩ ?_
                      refine x_unwant rfl rfl rfl rfl rfl ?_
                      refine x_unwant rfl rfl rfl rfl rfl ?_
                      refine x_unwant rfl rfl rfl rfl rfl ?_
                      refine x_unwant rfl rfl rfl rfl rfl ?_
                      refine x_unwantu rfl rfl rfl rfl rfl ?_
                      refine x_unwantu rfl rfl rfl rfl rfl ?_
                      refine x_unwantu rfl rfl rfl rfl rfl ?_
                      refine x_unwantu rfl rfl rfl rfl rfl ?_
                      refine x_unwant rfl rfl rfl rfl rfl ?_
                      refine x_v (r_pk_t rfl rfl) rfl ?_
                      refine x_v (r_mv rfl) rfl ?_
                      refine x_unwant rfl rfl rfl rfl rfl ?_
                      refine x_unwant rfl rfl rfl rfl rfl ?_
                      refine x_unwant rfl rfl rfl rfl rfl ?_
                      refine x_unwant rfl rfl rfl rfl rfl ?_
                      refine x_unwantu rfl rfl rfl rfl rfl ?_
                      refine x_unwantu rfl rfl rfl rfl rfl ?_
                      refine x_unwantu rfl rfl rfl rfl rfl ?_
                      refine x_unwantu rfl rfl rfl rfl rfl ?_
                      refine x_unwant rfl rfl rfl rfl rfl ?_
                      refine XL.keep [(1, _), (4, _), (154, _), (163, _)] ⟨rfl, rfl, rfl, rfl, trivial⟩ ?_
                      refine x_v (r_pk_t rfl rfl) rfl ?_
                      refine x_v (r_mv rfl) rfl ?_
                      refine x_unwant rfl rfl rfl rfl rfl ?_
                      refine x_unwant rfl rfl rfl rfl rfl ?_
                      refine x_unwant rfl rfl rfl rfl rfl ?_
                      refine x_unwant rfl rfl rfl rfl rfl ?_
                      refine x_unwantu rfl rfl rfl rfl rfl ?_
                      refine x_unwantu rfl rfl rfl rfl rfl ?_
                      refine x_unwantu rfl rfl rfl rfl rfl ?_
                      refine x_unwantu rfl rfl rfl rfl rfl ?_
                      refine x_unwant rfl rfl rfl rfl rfl ?_
                      refine x_v (r_pk_t rfl rfl) rfl ?_
                      refine x_v (r_mv rfl) rfl ?_
                      refine x_unwant rfl rfl rfl rfl rfl ?_
                      refine x_unwant rfl rfl rfl rfl rfl ?_
                      refine x_unwant rfl rfl rfl rfl rfl ?_
                      refine x_unwant rfl rfl rfl rfl rfl ?_
                      refine x_unwantu rfl rfl rfl rfl rfl ?_
                      refine x_unwantu rfl rfl rfl rfl rfl ?_
                      refine x_unwantu rfl rfl rfl rfl rfl ?_
                      refine XL.keep [(1, _), (4, _), (176, _), (180, _), (183, _)] ⟨rfl, rfl, rfl, rfl, rfl, trivial⟩ ?_
                      refine x_unwantu rfl rfl rfl rfl rfl ?_
                      refine x_unwant rfl rfl rfl rfl rfl ?_
                      refine x_v (r_pk_t rfl rfl) rfl ?_
                      refine XL.nil ?_
                      refine hK24 _ _ ?_
                      refine XC.keep [(1, _), (4, _), (186, _)] ⟨rfl, rfl, rfl, trivial⟩ ?_
                      refine XC.cond_t rfl ?_
                      refine XC.seq fun K32 hK32 => ?_
                      refine XC.region ?_
                      refine x_v (r_as rfl) rfl ?_
                      refine XL.nil ?_
                      refine hK32 _ _ ?_
                      refine XC.keep [(2, _)] ⟨rfl, trivial⟩ ?_
                      refine XC.ret ?_
                      exact fin1 rfl (⟨gno m (fun h => by unfold grantOk at h; first | omega | (obtain ⟨_, _, _, _, _, hgood, _⟩ := h; simp_all) | exact hg112 (List.eq_nil_of_length_eq_zero h.2.2.2.2.2.2.2.2.2.2.2.2.2.2.2.1)), rfl⟩) gS
                     ·refine XL.keep [(1, _), (4, _), (123, _)] ⟨rfl, rfl, rfl, trivial⟩ ?_
                      refine x_want rfl rfl rfl ?_
                      refine x_v (r_mv rfl) rfl ?_
                      refine x_want rfl rfl rfl ?_
                      refine x_v (r_lk1 Try.underlying106 Try.underlying5 ty4 rfl rfl rfl pK) rfl ?_
                      rw [show (esf 2 (.int .u8 69)).getD (.bool false) = .bool true from rfl]
                      refine x_want rfl rfl rfl ?_
                      refine x_v (r_not rfl) rfl ?_
                      refine x_want rfl rfl rfl ?_
                      refine x_v (r_mv rfl) rfl ?_
                      refine x_unwant rfl rfl rfl rfl rfl ?_
                      refine x_unwant rfl rfl rfl rfl rfl ?_
                      refine x_unwant rfl rfl rfl rfl rfl ?_
                      refine x_want rfl rfl rfl ?_
                      refine x_v (r_pk_f rfl rfl) rfl ?_
                      refine x_v (r_pk_f rfl rfl) rfl ?_
                      refine x_v (r_mv rfl) rfl ?_
                      refine x_want rfl rfl rfl ?_
                      refine x_v (r_mv rfl) rfl ?_
                      refine x_want rfl rfl rfl ?_
                      refine x_v (r_lk1 Try.underlying106 Try.underlying5 ty4 rfl rfl rfl pK) rfl ?_
                      rw [show (esf 2 (.int .u8 115)).getD (.bool false) = .bool true from rfl]
                      refine x_want rfl rfl rfl ?_
                      refine x_v (r_not rfl) rfl ?_
                      refine x_want rfl rfl rfl ?_
                      refine x_v (r_mv rfl) rfl ?_
                      refine x_unwant rfl rfl rfl rfl rfl ?_
                      refine x_unwant rfl rfl rfl rfl rfl ?_
                      refine x_unwant rfl rfl rfl rfl rfl ?_
                      refine x_want rfl rfl rfl ?_
                      refine x_v (r_pk_f rfl rfl) rfl ?_
                      refine x_v (r_pk_f rfl rfl) rfl ?_
                      refine x_v (r_mv rfl) rfl ?_
                      refine XL.keep [(1, _), (4, _), (143, _)] ⟨rfl, rfl, rfl, trivial⟩ ?_
                      refine x_want rfl rfl rfl ?_
                      refine x_v (r_mv rfl) rfl ?_
                      refine x_want rfl rfl rfl ?_
                      refine x_v (r_lk1 Try.underlying106 Try.underlying5 ty4 rfl rfl rfl pK) rfl ?_
                      rw [show (esf 2 (.int .u8 97)).getD (.bool false) = .bool false from rfl]
                      refine x_want rfl rfl rfl ?_
                      refine x_v (r_not rfl) rfl ?_
                      refine x_want rfl rfl rfl ?_
                      refine x_v (r_mv rfl) rfl ?_
                      refine x_want rfl rfl rfl ?_
                      refine x_v (r_fa fo35_11 rfl) rfl ?_
                      refine x_want rfl rfl rfl ?_
                      refine x_v (r_lda (l' := [_, _]) ty31 rfl pK rfl (Sub.get sU)) rfl ?_
                      refine x_want rfl rfl rfl ?_
                      refine x_v (r_bd (vs := []) rfl rfl bd31_z) rfl ?_
                      refine x_want rfl rfl rfl ?_
                      refine x_v (r_stne (by kernel_rfl) (fun w => eq31 _ _ _ _ w) rfl rfl) rfl ?_
                      refine x_want rfl rfl rfl ?_
                      refine x_v (r_pk_t rfl rfl) rfl ?_
                      refine x_v (r_pk_f rfl rfl) rfl ?_
                      refine x_v (r_mv rfl) rfl ?_
                      refine XL.splitd 154 rfl (fun hg154 => ?_) (fun hg154 => ?_)
                      ·refine x_unwant rfl rfl rfl rfl rfl ?_
                       refine x_unwant rfl rfl rfl rfl rfl ?_
                       refine x_unwant rfl rfl rfl rfl rfl ?_
                       refine x_unwant rfl rfl rfl rfl rfl ?_
                       refine x_unwantu rfl rfl rfl rfl rfl ?_
                       refine x_unwantu rfl rfl rfl rfl rfl ?_
                       refine x_unwantu rfl rfl rfl rfl rfl ?_
                       refine x_unwantu rfl rfl rfl rfl rfl ?_
                       refine x_unwant rfl rfl rfl rfl rfl ?_
                       refine XL.keep [(1, _), (4, _), (154, _), (163, _)] ⟨rfl, rfl, rfl, rfl, trivial⟩ ?_
                       refine x_v (r_pk_t rfl rfl) rfl ?_
                       refine x_v (r_mv rfl) rfl ?_
                       refine x_unwant rfl rfl rfl rfl rfl ?_
                       refine x_unwant rfl rfl rfl rfl rfl ?_
                       refine x_unwant rfl rfl rfl rfl rfl ?_
                       refine x_unwant rfl rfl rfl rfl rfl ?_
                       refine x_unwantu rfl rfl rfl rfl rfl ?_
                       refine x_unwantu rfl rfl rfl rfl rfl ?_
                       refine x_unwantu rfl rfl rfl rfl rfl ?_
                       refine x_unwantu rfl rfl rfl rfl rfl ?_
                       refine x_unwant rfl rfl rfl rfl rfl ?_
                       refine x_v (r_pk_t rfl rfl) rfl ?_
                       refine x_v (r_mv rfl) rfl ?_
                       refine x_unwant rfl rfl rfl rfl rfl ?_
                       refine x_unwant rfl rfl rfl rfl rfl ?_
                       refine x_unwant rfl rfl rfl rfl rfl ?_
                       refine x_unwant rfl rfl rfl rfl rfl ?_
                       refine x_unwantu rfl rfl rfl rfl rfl ?_
                       refine x_unwantu rfl rfl rfl rfl rfl ?_
                       refine x_unwantu rfl rfl rfl rfl rfl ?_
                       refine XL.keep [(1, _), (4, _), (176, _), (180, _), (183, _)] ⟨rfl, rfl, rfl, rfl, rfl, trivial⟩ ?_
                       refine x_unwantu rfl rfl rfl rfl rfl ?_
                       refine x_unwant rfl rfl rfl rfl rfl ?_
                       refine x_v (r_pk_t rfl rfl) rfl ?_
                       refine XL.nil ?_
                       refine hK24 _ _ ?_
                       refine XC.keep [(1, _), (4, _), (186, _)] ⟨rfl, rfl, rfl, trivial⟩ ?_
                       refine XC.cond_t rfl ?_
                       refine XC.seq fun K33 hK33 => ?_
                       refine XC.region ?_
                       refine x_v (r_as rfl) rfl ?_
                       refine XL.nil ?_
                       refine hK33 _ _ ?_
                       refine XC.keep [(2, _)] ⟨rfl, trivial⟩ ?_
                       refine XC.ret ?_
                       exact fin1 rfl (⟨gno m (fun h => by unfold grantOk at h; first | omega | (obtain ⟨_, _, _, _, _, hgood, _⟩ := h; simp_all) | exact hg112 (List.eq_nil_of_length_eq_zero h.2.2.2.2.2.2.2.2.2.2.2.2.2.2.2.1)), rfl⟩) gS
                      ·refine x_want rfl rfl rfl ?_
                       refine x_v (r_mv rfl) rfl ?_
                       refine x_want rfl rfl rfl ?_
                       refine x_v (r_lk1 Try.underlying106 Try.underlying5 ty4 rfl rfl rfl pK) rfl ?_
                       rw [show (esf 2 (.int .u8 119)).getD (.bool false) = .bool false from rfl]
                       refine x_want rfl rfl rfl ?_
                       refine x_v (r_not rfl) rfl ?_
                       refine x_want rfl rfl rfl ?_
                       refine x_v (r_mv rfl) rfl ?_
                       refine x_want rfl rfl rfl ?_
                       refine x_v (r_fa fo35_12 rfl) rfl ?_
                       refine x_want rfl rfl rfl ?_
                       refine x_v (r_lda (l' := [_, _]) ty31 rfl pK rfl (Sub.get sU)) rfl ?_
                       refine x_want rfl rfl rfl ?_
                       refine x_v (r_bd (vs := []) rfl rfl bd31_z) rfl ?_
                       refine x_want rfl rfl rfl ?_
                       refine x_v (r_stne (by kernel_rfl) (fun w => eq31 _ _ _ _ w) rfl rfl) rfl ?_
                       refine x_want rfl rfl rfl ?_
                       refine x_v (r_pk_t rfl rfl) rfl ?_
                       refine XL.keep [(1, _), (4, _), (154, _), (163, _)] ⟨rfl, rfl, rfl, rfl, trivial⟩ ?_
                       refine x_v (r_pk_f rfl rfl) rfl ?_
                       refine x_v (r_mv rfl) rfl ?_
                       refine XL.splitd 165 rfl (fun hg165 => ?_) (fun hg165 => ?_)
                       ·refine x_unwant rfl rfl rfl rfl rfl ?_
                        refine x_unwant rfl rfl rfl rfl rfl ?_
                        refine x_unwant rfl rfl rfl rfl rfl ?_
                        refine x_unwant rfl rfl rfl rfl rfl ?_
                        refine x_unwantu rfl rfl rfl rfl rfl ?_
                        refine x_unwantu rfl rfl rfl rfl rfl ?_
                        refine x_unwantu rfl rfl rfl rfl rfl ?_
                        refine x_unwantu rfl rfl rfl rfl rfl ?_
                        refine x_unwant rfl rfl rfl rfl rfl ?_
                        refine x_v (r_pk_t rfl rfl) rfl ?_
                        refine x_v (r_mv rfl) rfl ?_
                        refine x_unwant rfl rfl rfl rfl rfl ?_
                        refine x_unwant rfl rfl rfl rfl rfl ?_
                        refine x_unwant rfl rfl rfl rfl rfl ?_
                        refine x_unwant rfl rfl rfl rfl rfl ?_
                        refine x_unwantu rfl rfl rfl rfl rfl ?_
                        refine x_unwantu rfl rfl rfl rfl rfl ?_
                        refine x_unwantu rfl rfl rfl rfl rfl ?_
                        refine XL.keep [(1, _), (4, _), (176, _), (180, _), (183, _)] ⟨rfl, rfl, rfl, rfl, rfl, trivial⟩ ?_
                        refine x_unwantu rfl rfl rfl rfl rfl ?_
                        refine x_unwant rfl rfl rfl rfl rfl ?_
                        refine x_v (r_pk_t rfl rfl) rfl ?_
                        refine XL.nil ?_
                        refine hK24 _ _ ?_
                        refine XC.keep [(1, _), (4, _), (186, _)] ⟨rfl, rfl, rfl, trivial⟩ ?_
                        refine XC.cond_t rfl ?_
                        refine XC.seq fun K34 hK34 => ?_
                        refine XC.region ?_
                        refine x_v (r_as rfl) rfl ?_
                        refine XL.nil ?_
                        refine hK34 _ _ ?_
                        refine XC.keep [(2, _)] ⟨rfl, trivial⟩ ?_
                        refine XC.ret ?_
                        exact fin1 rfl (⟨gno m (fun h => by unfold grantOk at h; first | omega | (obtain ⟨_, _, _, _, _, hgood, _⟩ := h; simp_all) | exact hg112 (List.eq_nil_of_length_eq_zero h.2.2.2.2.2.2.2.2.2.2.2.2.2.2.2.1)), rfl⟩) gS
                       ·refine x_want rfl rfl rfl ?_
                        refine x_v (r_mv rfl) rfl ?_
                        refine x_want rfl rfl rfl ?_
                        refine x_v (r_lk1 Try.underlying106 Try.underlying5 ty4 rfl rfl rfl pK) rfl ?_
                        rw [show (esf 2 (.int .u8 79)).getD (.bool false) = .bool false from rfl]
                        refine x_want rfl rfl rfl ?_
                        refine x_v (r_not rfl) rfl ?_
                        refine x_want rfl rfl rfl ?_
                        refine x_v (r_mv rfl) rfl ?_
                        refine x_want rfl rfl rfl ?_
                        refine x_v (r_fa fo35_14 rfl) rfl ?_
                        refine x_want rfl rfl rfl ?_
                        refine x_v (r_ld ty33 rfl pK (by rfl)) rfl ?_
                        refine x_want rfl rfl rfl ?_
                        refine x_v (r_lensl Try.underlying33 rfl) rfl ?_
                        refine x_want rfl rfl rfl ?_
                        refine x_v (r_gt rfl rfl) rfl ?_
                        refine x_want rfl rfl rfl ?_
                        refine x_v (r_pk_t rfl rfl) rfl ?_
                        refine x_v (r_pk_f rfl rfl) rfl ?_
                        refine x_v (r_mv rfl) rfl ?_
                        refine XL.splitd 176 rfl (fun hg176 => ?_) (fun hg176 => ?_)
                        ·refine x_unwant rfl rfl rfl rfl rfl ?_
                         refine x_unwant rfl rfl rfl rfl rfl ?_
                         refine x_unwant rfl rfl rfl rfl rfl ?_
                         refine x_unwant rfl rfl rfl rfl rfl ?_
                         refine x_unwantu rfl rfl rfl rfl rfl ?_
                         refine x_unwantu rfl rfl rfl rfl rfl ?_
                         refine x_unwantu rfl rfl rfl rfl rfl ?_
                         refine XL.keep [(1, _), (4, _), (176, _), (180, _), (183, _)] ⟨rfl, rfl, rfl, rfl, rfl, trivial⟩ ?_
                         refine x_unwantu rfl rfl rfl rfl rfl ?_
                         refine x_unwant rfl rfl rfl rfl rfl ?_
                         refine x_v (r_pk_t rfl rfl) rfl ?_
                         refine XL.nil ?_
                         refine hK24 _ _ ?_
                         refine XC.keep [(1, _), (4, _), (186, _)] ⟨rfl, rfl, rfl, trivial⟩ ?_
                         refine XC.cond_t rfl ?_
                         refine XC.seq fun K35 hK35 => ?_
                         refine XC.region ?_
                         refine x_v (r_as rfl) rfl ?_
                         refine XL.nil ?_
                         refine hK35 _ _ ?_
                         refine XC.keep [(2, _)] ⟨rfl, trivial⟩ ?_
                         refine XC.ret ?_
                         exact fin1 rfl (⟨gno m (fun h => by unfold grantOk at h; first | omega | (obtain ⟨_, _, _, _, _, hgood, _⟩ := h; simp_all) | exact hg112 (List.eq_nil_of_length_eq_zero h.2.2.2.2.2.2.2.2.2.2.2.2.2.2.2.1)), rfl⟩) gS
                        ·refine x_want rfl rfl rfl ?_
                         refine x_v (r_mv rfl) rfl ?_
                         refine x_want rfl rfl rfl ?_
                         refine x_v (r_lk1 Try.underlying106 Try.underlying5 ty4 rfl rfl rfl pK) rfl ?_
                         rw [show (esf 2 (.int .u8 72)).getD (.bool false) = .bool false from rfl]
                         refine x_want rfl rfl rfl ?_
                         refine x_v (r_not rfl) rfl ?_
                         refine x_want rfl rfl rfl ?_
                         refine x_v (r_mv rfl) rfl ?_
                         refine x_want rfl rfl rfl ?_
                         refine x_v (r_fa fo35_13 rfl) rfl ?_
                         refine x_want rfl rfl rfl ?_
                         refine x_v (r_ld ty32 rfl pK (by rfl)) rfl ?_
                         refine x_want rfl rfl rfl ?_
                         refine x_v (r_lensl Try.underlying32 rfl) rfl ?_
                         refine x_want rfl rfl rfl ?_
                         refine x_v (r_gt rfl rfl) rfl ?_
                         refine x_want rfl rfl rfl ?_
                         refine x_v (r_pk_t rfl rfl) rfl ?_
                         refine x_v (r_pk_f rfl rfl) rfl ?_
                         refine XL.nil ?_
                         refine hK24 _ _ ?_
                         refine XC.keep [(1, _), (4, _), (186, _)] ⟨rfl, rfl, rfl, trivial⟩ ?_
                         refine XC.cond_d rfl (fun hc25 => ?_) (fun hc25 => ?_)
                         ·refine XC.seq fun K36 hK36 => ?_
                          refine XC.region ?_
                          refine x_v (r_as rfl) rfl ?_
                          refine XL.nil ?_
                          refine hK36 _ _ ?_
                          refine XC.keep [(2, _)] ⟨rfl, trivial⟩ ?_
                          refine XC.ret ?_
                          exact fin1 rfl (⟨gno m (fun h => by unfold grantOk at h; first | omega | (obtain ⟨_, _, _, _, _, hgood, _⟩ := h; simp_all) | exact hg112 (List.eq_nil_of_length_eq_zero h.2.2.2.2.2.2.2.2.2.2.2.2.2.2.2.1)), rfl⟩) gS
                         ·refine XC.skip ?_
                          refine hK23 _ _ ?_
                          refine XC.keep [(1, _), (4, _)] ⟨rfl, rfl, trivial⟩ ?_
                          refine XC.seq fun K37 hK37 => ?_
                          refine XC.seq fun K38 hK38 => ?_
                          have hd0 : m.data.length = 0 := by rw [Classical.not_not.1 hg112]; rfl
                          refine XC.region ?_
                          refine x_v (r_mv rfl) rfl ?_
                          refine x_v (r_lk1 Try.underlying106 Try.underlying5 ty4 rfl rfl rfl pK) rfl ?_
                          rw [show (esf 2 (.int .u8 116)).getD (.bool false) = .bool false from rfl]
                          refine x_v (r_mv rfl) rfl ?_
                          refine x_unwant rfl rfl rfl rfl rfl ?_
                          refine x_unwant rfl rfl rfl rfl rfl ?_
                          refine x_unwant rfl rfl rfl rfl rfl ?_
                          refine x_unwant rfl rfl rfl rfl rfl ?_
                          refine x_unwantu rfl rfl rfl rfl rfl ?_
                          refine x_unwantu rfl rfl rfl rfl rfl ?_
                          refine x_unwantu rfl rfl rfl rfl rfl ?_
                          refine x_unwant rfl rfl rfl rfl rfl ?_
                          refine x_v (r_pk_f rfl rfl) rfl ?_
                          refine x_v (r_mv rfl) rfl ?_
                          refine x_want rfl rfl rfl ?_
                          refine x_v (r_fa fo35_2 rfl) rfl ?_
                          refine x_want rfl rfl rfl ?_
                          refine x_v (r_ld ty3 rfl pK (by rfl)) rfl ?_
                          refine x_want rfl rfl rfl ?_
                          refine x_v (r_lt rfl rfl) rfl ?_
                          refine x_v (r_pk_f rfl rfl) rfl ?_
                          refine x_v (r_mv rfl) rfl ?_
                          refine XL.splitd 204 rfl (fun hg204 => ?_) (fun hg204 => ?_)
                          ·exfalso; omega
                          ·refine x_want rfl rfl rfl ?_
                           refine x_v (r_fa fo35_2 rfl) rfl ?_
                           refine x_want rfl rfl rfl ?_
                           refine x_v (r_ld ty3 rfl pK (by rfl)) rfl ?_
                           refine XL.keep [(1, _), (204, _), (206, _)] ⟨rfl, rfl, rfl, trivial⟩ ?_
                           refine x_want rfl rfl rfl ?_
                           refine x_v (r_gt rfl rfl) rfl ?_
                           refine x_v (r_pk_f rfl rfl) rfl ?_
                           refine x_v (r_mv rfl) rfl ?_
                           refine XL.splitd 209 rfl (fun hg209 => ?_) (fun hg209 => ?_)
                           ·exfalso; omega
                           ·refine x_want rfl rfl rfl ?_
                            refine x_v (r_fa fo35_3 rfl) rfl ?_
                            refine x_want rfl rfl rfl ?_
                            refine x_v (r_ld ty3 rfl pK (by rfl)) rfl ?_
                            refine x_want rfl rfl rfl ?_
                            refine x_v (r_lt rfl rfl) rfl ?_
                            refine x_v (r_pk_f rfl rfl) rfl ?_
                            refine x_v (r_mv rfl) rfl ?_
                            refine XL.splitd 214 rfl (fun hg214 => ?_) (fun hg214 => ?_)
                            ·exfalso; omega
                            ·refine x_want rfl rfl rfl ?_
                             refine x_v (r_fa fo35_3 rfl) rfl ?_
                             refine x_want rfl rfl rfl ?_
                             refine x_v (r_ld ty3 rfl pK (by rfl)) rfl ?_
                             refine x_want rfl rfl rfl ?_
                             refine x_v (r_gt rfl rfl) rfl ?_
                             refine x_v (r_pk_f rfl rfl) rfl ?_
                             refine x_v (r_mv rfl) rfl ?_
                             refine XL.splitd 219 rfl (fun hg219 => ?_) (fun hg219 => ?_)
                             ·exfalso; omega
                             ·refine x_want rfl rfl rfl ?_
                              refine x_v (r_fa fo35_4 rfl) rfl ?_
                              refine x_want rfl rfl rfl ?_
                              refine x_v (r_ld ty3 rfl pK (by rfl)) rfl ?_
                              refine x_want rfl rfl rfl ?_
                              refine x_v (r_lt rfl rfl) rfl ?_
                              refine x_v (r_pk_f rfl rfl) rfl ?_
                              refine x_v (r_mv rfl) rfl ?_
                              refine XL.splitd 224 rfl (fun hg224 => ?_) (fun hg224 => ?_)
                              ·exfalso; omega
                              ·refine x_want rfl rfl rfl ?_
                               refine x_v (r_fa fo35_4 rfl) rfl ?_
                               refine x_want rfl rfl rfl ?_
                               refine x_v (r_ld ty3 rfl pK (by rfl)) rfl ?_
                               refine XL.keep [(1, _), (224, _), (226, _)] ⟨rfl, rfl, rfl, trivial⟩ ?_
                               refine x_want rfl rfl rfl ?_
                               refine x_v (r_gt rfl rfl) rfl ?_
                               refine x_v (r_pk_f rfl rfl) rfl ?_
                               refine x_v (r_mv rfl) rfl ?_
                               refine XL.splitd 229 rfl (fun hg229 => ?_) (fun hg229 => ?_)
                               ·exfalso; omega
                               ·refine x_want rfl rfl rfl ?_
                                refine x_v (r_fa fo35_10 rfl) rfl ?_
                                refine x_want rfl rfl rfl ?_
                                refine x_v (r_ld ty3 rfl pK (by rfl)) rfl ?_
                                refine x_want rfl rfl rfl ?_
                                refine x_v (r_lt rfl rfl) rfl ?_
                                refine x_v (r_pk_f rfl rfl) rfl ?_
                                refine x_v (r_mv rfl) rfl ?_
                                refine XL.splitd 234 rfl (fun hg234 => ?_) (fun hg234 => ?_)
                                ·refine x_unwant rfl rfl rfl rfl rfl ?_
                                 refine x_unwant rfl rfl rfl rfl rfl ?_
                                 refine x_unwant rfl rfl rfl rfl rfl ?_
                                 refine x_v (r_pk_t rfl rfl) rfl ?_
                                 refine x_v (r_mv rfl) rfl ?_
                                 refine x_unwant rfl rfl rfl rfl rfl ?_
                                 refine x_unwant rfl rfl rfl rfl rfl ?_
                                 refine x_unwant rfl rfl rfl rfl rfl ?_
                                 refine x_v (r_pk_t rfl rfl) rfl ?_
                                 refine x_v (r_mv rfl) rfl ?_
                                 refine x_unwant rfl rfl rfl rfl rfl ?_
                                 refine x_unwant rfl rfl rfl rfl rfl ?_
                                 refine XL.keep [(1, _), (244, _), (246, _)] ⟨rfl, rfl, rfl, trivial⟩ ?_
                                 refine x_unwant rfl rfl rfl rfl rfl ?_
                                 refine x_v (r_pk_t rfl rfl) rfl ?_
                                 refine x_v (r_mv rfl) rfl ?_
                                 refine x_unwant rfl rfl rfl rfl rfl ?_
                                 refine x_unwant rfl rfl rfl rfl rfl ?_
                                 refine x_unwant rfl rfl rfl rfl rfl ?_
                                 refine x_unwant rfl rfl rfl rfl rfl ?_
                                 refine x_v (r_pk_t rfl rfl) rfl ?_
                                 refine x_v (r_mv rfl) rfl ?_
                                 refine x_unwant rfl rfl rfl rfl rfl ?_
                                 refine x_unwant rfl rfl rfl rfl rfl ?_
                                 refine x_unwant rfl rfl rfl rfl rfl ?_
                                 refine x_unwant rfl rfl rfl rfl rfl ?_
                                 refine x_v (r_pk_t rfl rfl) rfl ?_
                                 refine XL.nil ?_
                                 refine hK38 _ _ ?_
                                 refine XC.keep [(1, _), (260, _)] ⟨rfl, rfl, trivial⟩ ?_
                                 refine XC.cond_t rfl ?_
                                 refine XC.seq fun K39 hK39 => ?_
                                 refine XC.region ?_
                                 refine x_v (r_as rfl) rfl ?_
                                 refine XL.nil ?_
                                 refine hK39 _ _ ?_
                                 refine XC.keep [(2, _)] ⟨rfl, trivial⟩ ?_
                                 refine XC.ret ?_
                                 exact fin1 rfl (⟨gno m (fun h => by unfold grantOk at h; first | omega | (obtain ⟨_, _, _, _, _, hgood, _⟩ := h; simp_all) | exact hg112 (List.eq_nil_of_length_eq_zero h.2.2.2.2.2.2.2.2.2.2.2.2.2.2.2.1)), rfl⟩) gS
                                ·refine x_want rfl rfl rfl ?_
                                 refine x_v (r_fa fo35_10 rfl) rfl ?_
                                 refine x_want rfl rfl rfl ?_
                                 refine x_v (r_ld ty3 rfl pK (by rfl)) rfl ?_
                                 refine x_want rfl rfl rfl ?_
                                 refine x_v (r_gt rfl rfl) rfl ?_
                                 refine x_v (r_pk_f rfl rfl) rfl ?_
                                 refine x_v (r_mv rfl) rfl ?_
                                 refine XL.splitd 239 rfl (fun hg239 => ?_) (fun hg239 => ?_)
                                 ·refine x_unwant rfl rfl rfl rfl rfl ?_
                                  refine x_unwant rfl rfl rfl rfl rfl ?_
                                  refine x_unwant rfl rfl rfl rfl rfl ?_
                                  refine x_v (r_pk_t rfl rfl) rfl ?_
                                  refine x_v (r_mv rfl) rfl ?_
                                  refine x_unwant rfl rfl rfl rfl rfl ?_
                                  refine x_unwant rfl rfl rfl rfl rfl ?_
                                  refine XL.keep [(1, _), (244, _), (246, _)] ⟨rfl, rfl, rfl, trivial⟩ ?_
                                  refine x_unwant rfl rfl rfl rfl rfl ?_
                                  refine x_v (r_pk_t rfl rfl) rfl ?_
                                  refine x_v (r_mv rfl) rfl ?_
                                  refine x_unwant rfl rfl rfl rfl rfl ?_
                                  refine x_unwant rfl rfl rfl rfl rfl ?_
                                  refine x_unwant rfl rfl rfl rfl rfl ?_
                                  refine x_unwant rfl rfl rfl rfl rfl ?_
                                  refine x_v (r_pk_t rfl rfl) rfl ?_
                                  refine x_v (r_mv rfl) rfl ?_
                                  refine x_unwant rfl rfl rfl rfl rfl ?_
                                  refine x_unwant rfl rfl rfl rfl rfl ?_
                                  refine x_unwant rfl rfl rfl rfl rfl ?_
                                  refine x_unwant rfl rfl rfl rfl rfl ?_
                                  refine x_v (r_pk_t rfl rfl) rfl ?_
                                  refine XL.nil ?_
                                  refine hK38 _ _ ?_
                                  refine XC.keep [(1, _), (260, _)] ⟨rfl, rfl, trivial⟩ ?_
                                  refine XC.cond_t rfl ?_
                                  refine XC.seq fun K40 hK40 => ?_
                                  refine XC.region ?_
                                  refine x_v (r_as rfl) rfl ?_
                                  refine XL.nil ?_
                                  refine hK40 _ _ ?_
                                  refine XC.keep [(2, _)] ⟨rfl, trivial⟩ ?_
                                  refine XC.ret ?_
                                  exact fin1 rfl (⟨gno m (fun h => by unfold grantOk at h; first | omega | (obtain ⟨_, _, _, _, _, hgood, _⟩ := h; simp_all) | exact hg112 (List.eq_nil_of_length_eq_zero h.2.2.2.2.2.2.2.2.2.2.2.2.2.2.2.1)), rfl⟩) gS
                                 ·refine x_want rfl rfl rfl ?_
                                  refine x_v (r_fa fo35_9 rfl) rfl ?_
                                  refine x_want rfl rfl rfl ?_
                                  refine x_v (r_ld ty3 rfl pK (by rfl)) rfl ?_
                                  refine x_want rfl rfl rfl ?_
                                  refine x_v (r_lt rfl rfl) rfl ?_
                                  refine x_v (r_pk_f rfl rfl) rfl ?_
                                  refine x_v (r_mv rfl) rfl ?_
                                  refine XL.splitd 244 rfl (fun hg244 => ?_) (fun hg244 => ?_)
                                  ·refine x_unwant rfl rfl rfl rfl rfl ?_
                                   refine x_unwant rfl rfl rfl rfl rfl ?_
                                   refine XL.keep [(1, _), (244, _), (246, _)] ⟨rfl, rfl, rfl, trivial⟩ ?_
                                   refine x_unwant rfl rfl rfl rfl rfl ?_
                                   refine x_v (r_pk_t rfl rfl) rfl ?_
                                   refine x_v (r_mv rfl) rfl ?_
                                   refine x_unwant rfl rfl rfl rfl rfl ?_
                                   refine x_unwant rfl rfl rfl rfl rfl ?_
                                   refine x_unwant rfl rfl rfl rfl rfl ?_
                                   refine x_unwant rfl rfl rfl rfl rfl ?_
                                   refine x_v (r_pk_t rfl rfl) rfl ?_
                                   refine x_v (r_mv rfl) rfl ?_
                                   refine x_unwant rfl rfl rfl rfl rfl ?_
                                   refine x_unwant rfl rfl rfl rfl rfl ?_
                                   refine x_unwant rfl rfl rfl rfl rfl ?_
                                   refine x_unwant rfl rfl rfl rfl rfl ?_
                                   refine x_v (r_pk_t rfl rfl) rfl ?_
                                   refine XL.nil ?_
                                   refine hK38 _ _ ?_
                                   refine XC.keep [(1, _), (260, _)] ⟨rfl, rfl, trivial⟩ ?_
                                   refine XC.cond_t rfl ?_
                                   refine XC.seq fun K41 hK41 => ?_
                                   refine XC.region ?_
                                   refine x_v (r_as rfl) rfl ?_
                                   refine XL.nil ?_
                                   refine hK41 _ _ ?_
                                   refine XC.keep [(2, _)] ⟨rfl, trivial⟩ ?_
                                   refine XC.ret ?_
                                   exact fin1 rfl (⟨gno m (fun h => by unfold grantOk at h; first | omega | (obtain ⟨_, _, _, _, _, hgood, _⟩ := h; simp_all) | exact hg112 (List.eq_nil_of_length_eq_zero h.2.2.2.2.2.2.2.2.2.2.2.2.2.2.2.1)), rfl⟩) gS
                                  ·refine x_want rfl rfl rfl ?_
                                   refine x_v (r_fa fo35_9 rfl) rfl ?_
                                   refine x_want rfl rfl rfl ?_
                                   refine x_v (r_ld ty3 rfl pK (by rfl)) rfl ?_
                                   refine x_want rfl rfl rfl ?_
                                   refine x_v (r_gt rfl rfl) rfl ?_
                                   refine x_v (r_pk_f rfl rfl) rfl ?_
                                   refine x_v (r_mv rfl) rfl ?_
                                   refine XL.splitd 249 rfl (fun hg249 => ?_) (fun hg249 => ?_)
                                   ·refine x_unwant rfl rfl rfl rfl rfl ?_
                                    refine x_unwant rfl rfl rfl rfl rfl ?_
                                    refine x_unwant rfl rfl rfl rfl rfl ?_
                                    refine x_unwant rfl rfl rfl rfl rfl ?_
                                    refine x_v (r_pk_t rfl rfl) rfl ?_
                                    refine x_v (r_mv rfl) rfl ?_
                                    refine x_unwant rfl rfl rfl rfl rfl ?_
                                    refine x_unwant rfl rfl rfl rfl rfl ?_
                                    refine x_unwant rfl rfl rfl rfl rfl ?_
                                    refine x_unwant rfl rfl rfl rfl rfl ?_
                                    refine x_v (r_pk_t rfl rfl) rfl ?_
                                    refine XL.nil ?_
                                    refine hK38 _ _ ?_
                                    refine XC.keep [(1, _), (260, _)] ⟨rfl, rfl, trivial⟩ ?_
                                    refine XC.cond_t rfl ?_
                                    refine XC.seq fun K42 hK42 => ?_
                                    refine XC.region ?_
                                    refine x_v (r_as rfl) rfl ?_
                                    refine XL.nil ?_
                                    refine hK42 _ _ ?_
                                    refine XC.keep [(2, _)] ⟨rfl, trivial⟩ ?_
                                    refine XC.ret ?_
                                    exact fin1 rfl (⟨gno m (fun h => by unfold grantOk at h; first | omega | (obtain ⟨_, _, _, _, _, hgood, _⟩ := h; simp_all) | exact hg112 (List.eq_nil_of_length_eq_zero h.2.2.2.2.2.2.2.2.2.2.2.2.2.2.2.1)), rfl⟩) gS
                                   ·refine x_want rfl rfl rfl ?_
                                    refine x_v (r_fa fo35_11 rfl) rfl ?_
                                    refine x_want rfl rfl rfl ?_
                                    refine x_v (r_lda (l' := [_, _]) ty31 rfl pK rfl (Sub.get sU)) rfl ?_
                                    refine x_want rfl rfl rfl ?_
                                    refine x_c (r_call0 (args := [_]) ⟨rfl, rfl⟩ (wplace_tr m.at1 m.at2) gS) rfl ?_
                                    rintro _ _ ⟨rfl, rfl⟩
                                    refine x_want rfl rfl rfl ?_
                                    refine x_v (r_not_d rfl) rfl ?_
                                    refine x_v (r_pk_f rfl rfl) rfl ?_
                                    refine x_v (r_mv rfl) rfl ?_
                                    refine XL.splitd 255 rfl (fun hg255 => ?_) (fun hg255 => ?_)
                                    ·exfalso; exact hg255 (by unfold placeOk; omega)
                                    ·refine x_want rfl rfl rfl ?_
                                     refine x_v (r_fa fo35_12 rfl) rfl ?_
                                     refine x_want rfl rfl rfl ?_
                                     refine x_v (r_lda (l' := [_, _]) ty31 rfl pK rfl (Sub.get sU)) rfl ?_
                                     refine x_want rfl rfl rfl ?_
                                     refine x_c (r_call0 (args := [_]) ⟨rfl, rfl⟩ (wplace_tr m.w1 m.w2) gS) rfl ?_
                                     rintro _ _ ⟨rfl, rfl⟩
                                     refine x_want rfl rfl rfl ?_
                                     refine x_v (r_not_d rfl) rfl ?_
                                     refine x_v (r_pk_f rfl rfl) rfl ?_
                                     refine XL.nil ?_
                                     refine hK38 _ _ ?_
                                     refine XC.keep [(1, _), (260, _)] ⟨rfl, rfl, trivial⟩ ?_
                                     refine XC.cond_d rfl (fun hc30 => ?_) (fun hc30 => ?_)
                                     ·exfalso; exact hc30 (by unfold placeOk; omega)
                                     ·refine XC.skip ?_
                                      refine hK37 _ _ ?_
                                      refine XC.keep [(1, _)] ⟨rfl, trivial⟩ ?_
                                      refine XC.seq fun K43 hK43 => ?_
                                      refine XC.seq fun K44 hK44 => ?_
                                      refine XC.region ?_
                                      refine x_v (r_fa fo35_6 rfl) rfl ?_
                                      refine x_v (r_ld ty28 rfl pK (by rfl)) rfl ?_
                                      refine x_v (r_lensl Try.underlying28 rfl) rfl ?_
                                      refine x_v (r_gt rfl rfl) rfl ?_
                                      refine x_v (r_mv rfl) rfl ?_
                                      refine XL.splitd 265 rfl (fun hg265 => ?_) (fun hg265 => ?_)
                                      ·exfalso; omega
                                      ·refine x_want rfl rfl rfl ?_
                                       refine x_v (r_fa fo35_0 rfl) rfl ?_
                                       refine x_want rfl rfl rfl ?_
                                       refine x_v (r_ld ty3 rfl pK (by rfl)) rfl ?_
                                       refine x_want rfl rfl rfl ?_
                                       refine x_v (r_eq rfl rfl) rfl ?_
                                       refine x_want rfl rfl rfl ?_
                                       refine x_v (r_mv rfl) rfl ?_
                                       refine XL.splitd 269 rfl (fun hg269 => ?_) (fun hg269 => ?_)
                                       ·exfalso; omega
                                       ·refine x_unwant rfl rfl rfl rfl rfl ?_
                                        refine x_unwant rfl rfl rfl rfl rfl ?_
                                        refine x_unwant rfl rfl rfl rfl rfl ?_
                                        refine x_unwant rfl rfl rfl rfl rfl ?_
                                        refine x_unwant rfl rfl rfl rfl rfl ?_
                                        refine x_unwant rfl rfl rfl rfl rfl ?_
                                        refine x_unwant rfl rfl rfl rfl rfl ?_
                                        refine x_want rfl rfl rfl ?_
                                        refine x_v (r_pk_f rfl rfl) rfl ?_
                                        refine x_v (r_pk_f rfl rfl) rfl ?_
                                        refine x_v (r_mv rfl) rfl ?_
                                        refine x_want rfl rfl rfl ?_
                                        refine x_v (r_fa fo35_0 rfl) rfl ?_
                                        refine x_want rfl rfl rfl ?_
                                        refine x_v (r_ld ty3 rfl pK (by rfl)) rfl ?_
                                        refine x_want rfl rfl rfl ?_
                                        refine x_v (r_eq rfl rfl) rfl ?_
                                        refine x_want rfl rfl rfl ?_
                                        refine x_v (r_mv rfl) rfl ?_
                                        refine XL.splitd 283 rfl (fun hg283 => ?_) (fun hg283 => ?_)
                                        ·exfalso; omega
                                        ·refine x_unwant rfl rfl rfl rfl rfl ?_
                                         refine x_unwant rfl rfl rfl rfl rfl ?_
                                         refine x_unwant rfl rfl rfl rfl rfl ?_
                                         refine x_unwant rfl rfl rfl rfl rfl ?_
                                         refine x_unwant rfl rfl rfl rfl rfl ?_
                                         refine x_unwant rfl rfl rfl rfl rfl ?_
                                         refine x_unwant rfl rfl rfl rfl rfl ?_
                                         refine x_want rfl rfl rfl ?_
                                         refine x_v (r_pk_f rfl rfl) rfl ?_
                                         refine x_v (r_pk_f rfl rfl) rfl ?_
                                         refine XL.nil ?_
                                         refine hK44 _ _ ?_
                                         refine XC.keep [(1, _), (292, _)] ⟨rfl, rfl, trivial⟩ ?_
                                         refine XC.cond_f rfl ?_
                                         refine XC.skip ?_
                                         refine hK43 _ _ ?_
                                         refine XC.keep [(1, _)] ⟨rfl, trivial⟩ ?_
                                         refine XC.seq fun K45 hK45 => ?_
                                         refine XC.seq fun K46 hK46 => ?_
                                         refine XC.region ?_
                                         refine x_v (r_as rfl) rfl ?_
                                         refine XL.nil ?_
                                         refine hK46 _ _ ?_
                                         refine XC.keep [(1, _), (6, _)] ⟨rfl, rfl, trivial⟩ ?_
                                         refine XC.block ?_
                                         refine XC.loop (σ := Unit) (fun z => [(1, .pointer (some ⟨b1, 0, none⟩)), (6, .int .i64 0)]) (fun z => blk b1 35 [.int .i64 m.kind, .int .i64 m.term, .int .i64 m.index, .int .i64 m.prev, .int .i64 m.commit, .bool m.good, .slice m.eA m.es.length m.ec, str m.data, .slice m.hA m.hs.length m.hc, .int .i64 m.epoch, .int .i64 m.site, .int .i64 m.at1, .int .i64 m.at2, .int .i64 m.w1, .int .i64 m.w2, .slice m.oA m.ho.length m.oc, .slice m.pA m.ops.length m.pc] :: Fr) (fun z => True) (fun z => 0) () ?_ ⟨rfl, rfl, trivial⟩ gS ?_
                                         ·trivial
                                         rintro _ _
                                         refine XC.seq fun K47 hK47 => ?_
                                         refine XC.seq fun K48 hK48 => ?_
                                         refine XC.region ?_
                                         refine x_v (r_mv rfl) rfl ?_
                                         refine x_v (r_fa fo35_6 rfl) rfl ?_
                                         refine x_v (r_ld ty28 rfl pK (by rfl)) rfl ?_
                                         refine x_v (r_lensl Try.underlying28 rfl) rfl ?_
                                         refine x_v (r_lt rfl rfl) rfl ?_
                                         refine XL.nil ?_
                                         refine hK48 _ _ ?_
                                         refine XC.keep [(1, _), (6, _), (297, _)] ⟨rfl, rfl, rfl, trivial⟩ ?_
                                         refine XC.cond_d rfl (fun hc32 => ?_) (fun hc32 => ?_)
                                         ·exfalso; omega
                                         ·refine XC.exit rfl ?_
                                          refine hK45 _ _ ?_
                                          refine XC.keep [(1, _)] ⟨rfl, trivial⟩ ?_
                                          refine XC.seq fun K49 hK49 => ?_
                                          refine XC.seq fun K50 hK50 => ?_
                                          refine XC.region ?_
                                          refine x_v (r_as rfl) rfl ?_
                                          refine XL.nil ?_
                                          refine hK50 _ _ ?_
                                          refine XC.keep [(1, _), (7, _)] ⟨rfl, rfl, trivial⟩ ?_
                                          refine XC.block ?_
                                          refine XC.loop (σ := Unit) (fun z => [(1, .pointer (some ⟨b1, 0, none⟩)), (7, .int .i64 0)]) (fun z => blk b1 35 [.int .i64 m.kind, .int .i64 m.term, .int .i64 m.index, .int .i64 m.prev, .int .i64 m.commit, .bool m.good, .slice m.eA m.es.length m.ec, str m.data, .slice m.hA m.hs.length m.hc, .int .i64 m.epoch, .int .i64 m.site, .int .i64 m.at1, .int .i64 m.at2, .int .i64 m.w1, .int .i64 m.w2, .slice m.oA m.ho.length m.oc, .slice m.pA m.ops.length m.pc] :: Fr) (fun z => True) (fun z => 0) () ?_ ⟨rfl, rfl, trivial⟩ gS ?_
                                          ·trivial
                                          rintro _ _
                                          refine XC.seq fun K51 hK51 => ?_
                                          refine XC.seq fun K52 hK52 => ?_
                                          refine XC.region ?_
                                          refine x_v (r_mv rfl) rfl ?_
                                          refine x_v (r_fa fo35_8 rfl) rfl ?_
                                          refine x_v (r_ld ty29 rfl pK (by rfl)) rfl ?_
                                          refine x_v (r_lensl Try.underlying29 rfl) rfl ?_
                                          refine x_v (r_lt rfl rfl) rfl ?_
                                          refine XL.nil ?_
                                          refine hK52 _ _ ?_
                                          refine XC.keep [(1, _), (7, _), (330, _)] ⟨rfl, rfl, rfl, trivial⟩ ?_
                                          refine XC.cond_d rfl (fun hc33 => ?_) (fun hc33 => ?_)
                                          ·exfalso; omega
                                          ·refine XC.exit rfl ?_
                                           refine hK49 _ _ ?_
                                           refine XC.keep [(1, _)] ⟨rfl, trivial⟩ ?_
                                           refine XC.seq fun K53 hK53 => ?_
                                           refine XC.seq fun K54 hK54 => ?_
                                           refine XC.region ?_
                                           refine x_v (r_fa fo35_0 rfl) rfl ?_
                                           refine x_v (r_ld ty3 rfl pK (by rfl)) rfl ?_
                                           refine XL.nil ?_
                                           refine hK54 _ _ ?_
                                           refine XC.keep [(1, _), (341, _)] ⟨rfl, rfl, trivial⟩ ?_
                                           refine XC.block ?_
                                           refine XC.seq fun K55 hK55 => ?_
                                           refine XC.region ?_
                                           refine x_v (r_eq rfl rfl) rfl ?_
                                           refine x_v (r_as rfl) rfl ?_
                                           refine XL.nil ?_
                                           refine hK55 _ _ ?_
                                           refine XC.keep [(1, _), (341, _), (342, _)] ⟨rfl, rfl, rfl, trivial⟩ ?_
                                           refine XC.cond_d rfl (fun hc34 => ?_) (fun hc34 => ?_)
                                           ·exfalso; omega
                                           ·refine XC.seq fun K56 hK56 => ?_
                                            refine XC.region ?_
                                            refine x_v (r_eq rfl rfl) rfl ?_
                                            refine x_v (r_as rfl) rfl ?_
                                            refine XL.nil ?_
                                            refine hK56 _ _ ?_
                                            refine XC.keep [(1, _), (341, _), (348, _)] ⟨rfl, rfl, rfl, trivial⟩ ?_
                                            refine XC.cond_d rfl (fun hc35 => ?_) (fun hc35 => ?_)
                                            ·exfalso; omega
                                            ·refine XC.seq fun K57 hK57 => ?_
                                             refine XC.region ?_
                                             refine x_v (r_eq rfl rfl) rfl ?_
                                             refine x_v (r_as rfl) rfl ?_
                                             refine XL.nil ?_
                                             refine hK57 _ _ ?_
                                             refine XC.keep [(1, _), (341, _), (360, _)] ⟨rfl, rfl, rfl, trivial⟩ ?_
                                             refine XC.cond_d rfl (fun hc36 => ?_) (fun hc36 => ?_)
                                             ·exfalso; omega
                                             ·refine XC.seq fun K58 hK58 => ?_
                                              refine XC.region ?_
                                              refine x_v (r_eq rfl rfl) rfl ?_
                                              refine x_v (r_as rfl) rfl ?_
                                              refine XL.nil ?_
                                              refine hK58 _ _ ?_
                                              refine XC.keep [(1, _), (341, _), (372, _)] ⟨rfl, rfl, rfl, trivial⟩ ?_
                                              refine XC.cond_d rfl (fun hc37 => ?_) (fun hc37 => ?_)
                                              ·exfalso; omega
                                              ·refine XC.seq fun K59 hK59 => ?_
                                               refine XC.region ?_
                                               refine x_v (r_eq rfl rfl) rfl ?_
                                               refine x_v (r_as rfl) rfl ?_
                                               refine XL.nil ?_
                                               refine hK59 _ _ ?_
                                               refine XC.keep [(1, _), (341, _), (376, _)] ⟨rfl, rfl, rfl, trivial⟩ ?_
                                               refine XC.cond_d rfl (fun hc38 => ?_) (fun hc38 => ?_)
                                               ·exfalso; omega
                                               ·refine XC.seq fun K60 hK60 => ?_
                                                refine XC.region ?_
                                                refine x_v (r_eq rfl rfl) rfl ?_
                                                refine x_v (r_as rfl) rfl ?_
                                                refine XL.nil ?_
                                                refine hK60 _ _ ?_
                                                refine XC.keep [(1, _), (381, _)] ⟨rfl, rfl, trivial⟩ ?_
                                                refine XC.cond_d rfl (fun hc39 => ?_) (fun hc39 => ?_)
                                                ·refine XC.seq fun K61 hK61 => ?_
                                                 refine XC.region ?_
                                                 refine x_v (r_fa fo35_9 rfl) rfl ?_
                                                 refine x_v (r_ld ty3 rfl pK (by rfl)) rfl ?_
                                                 refine x_v (r_gt rfl rfl) rfl ?_
                                                 refine x_v (r_mv rfl) rfl ?_
                                                 refine XL.splitd 386 rfl (fun hg386 => ?_) (fun hg386 => ?_)
                                                 ·refine x_unwant rfl rfl rfl rfl rfl ?_
                                                  refine x_unwant rfl rfl rfl rfl rfl ?_
                                                  refine x_unwant rfl rfl rfl rfl rfl ?_
                                                  refine x_v (r_pk_t rfl rfl) rfl ?_
                                                  refine x_v (r_as rfl) rfl ?_
                                                  refine XL.nil ?_
                                                  refine hK61 _ _ ?_
                                                  refine XC.keep [(2, _)] ⟨rfl, trivial⟩ ?_
                                                  refine XC.ret ?_
                                                  exact fin1 rfl (⟨gyes m ⟨by omega, by omega, by omega, by omega, by omega, hg91, by omega, by omega, by omega, by omega, by omega, by omega, by omega, by omega, by omega, by omega, by omega, by omega, by omega⟩, rfl⟩) gS
                                                 ·refine x_want rfl rfl rfl ?_
                                                  refine x_v (r_fa fo35_10 rfl) rfl ?_
                                                  refine x_want rfl rfl rfl ?_
                                                  refine x_v (r_ld ty3 rfl pK (by rfl)) rfl ?_
                                                  refine x_want rfl rfl rfl ?_
                                                  refine x_v (r_eq rfl rfl) rfl ?_
                                                  refine x_v (r_pk_f rfl rfl) rfl ?_
                                                  refine x_v (r_as rfl) rfl ?_
                                                  refine XL.nil ?_
                                                  refine hK61 _ _ ?_
                                                  refine XC.keep [(2, _)] ⟨rfl, trivial⟩ ?_
                                                  refine XC.ret ?_
                                                  exact fin1 rfl (⟨congrArg Value.bool (decide_eq_decide.2 ⟨fun h => ⟨by omega, by omega, by omega, by omega, by omega, hg91, by omega, by omega, by omega, by omega, by omega, by omega, by omega, by omega, by omega, by omega, by omega, by omega, by omega⟩, fun h => by unfold grantOk at h; omega⟩), rfl⟩) gS
                                                ·exfalso; omega
            ·exfalso; omega
theorem take_eq {c : Cw} {m : Mal} (h : takeOk c m) : takeOf c m = { c with tE := m.epoch, tS := m.site, heard := max c.heard m.epoch, wants := if c.wants ≤ m.epoch then 0 else c.wants } := by
 unfold takeOf; rw [if_pos h, hear_max (by have := h.2.1; unfold grantOk at this; omega)]
theorem take_non {c : Cw} {m : Mal} (h : ¬ takeOk c m) : takeOf c m = c := by unfold takeOf; rw [if_neg h]
theorem wtake_tr {W0 : World} {Fr : List HP} {c : Cw} (b : Nat) (m : Mal) (hl : Lens m) : Tr W0 Try.prog 19 [.pointer (some ⟨b, 0, none⟩), .agg (mac m).toArray] (blk b 71 (wc c) :: Fr) (fun v Rs' => v = .bool (decide (takeOk c m)) ∧ Rs' = blk b 71 (wc (takeOf c m)) :: Fr) := by
 unfold wc
 refine Entry.tr (N := 51) (rs := [.tmp 4]) ⟨_, Try.func19, rfl, by kernel_rfl, rfl, rfl⟩ rfl ?_
 refine XC.seq fun K1 hK1 => ?_
 refine XC.region ?_
 refine x_a (r_bx rfl rfl) rfl fun b3 => ?_
 unfold mac
 refine x_v (r_as rfl) rfl ?_
 refine XL.nil ?_
 refine hK1 _ _ ?_
 refine XC.keep [(0, _), (3, _)] ⟨rfl, rfl, trivial⟩ ?_
 refine XC.seq fun K2 hK2 => ?_
 refine XC.seq fun K3 hK3 => ?_
 refine XC.draw [blk b3 35 [.int .i64 m.kind, .int .i64 m.term, .int .i64 m.index, .int .i64 m.prev, .int .i64 m.commit, .bool m.good, .slice m.eA m.es.length m.ec, str m.data, .slice m.hA m.hs.length m.hc, .int .i64 m.epoch, .int .i64 m.site, .int .i64 m.at1, .int .i64 m.at2, .int .i64 m.w1, .int .i64 m.w2, .slice m.oA m.ho.length m.oc, .slice m.pA m.ops.length m.pc], blk b 71 [.int .i64 c.site, .int .i64 c.epochs, .int .i64 c.tE, .int .i64 c.tS, .int .i64 c.heard, .int .i64 c.wants]] false [(0, false), (1, false), (2, false), (3, false), (4, false), (5, true), (6, false), (7, false), (8, false), (9, false), (10, false), (11, false), (12, false), (13, false), (14, false), (15, false), (16, false), (17, false)] (by kernel_rfl) (by kernel_rfl) ?_
 refine y_v rfl (r_fa fo35_0 rfl) gT rfl ?_
 refine y_v rfl (r_ld ty3 rfl pK (by rfl)) gT rfl ?_
 refine y_v rfl (r_ne rfl rfl) gT rfl ?_
 refine y_v rfl (r_mv rfl) gT rfl ?_
 refine XH.splitd 8 rfl (fun hg8 => ?_) (fun hg8 => ?_)
 ·refine y_un rfl rfl rfl (fun _ h => Gets.own gS h) rfl ?_
  refine y_unl rfl rfl rfl (fun _ h => Gets.own gS h) rfl ?_
  refine y_un rfl rfl rfl (fun _ h => Gets.own gS h) rfl ?_
  refine y_v rfl (r_pk_t rfl rfl) gT rfl ?_
  refine y_v rfl (r_mv rfl) gT rfl ?_
  refine y_un rfl rfl rfl (fun _ h => Gets.own gS h) rfl ?_
  refine y_un rfl rfl rfl (fun _ h => Gets.own gS h) rfl ?_
  refine y_un rfl rfl rfl (fun _ h => Gets.own gS h) rfl ?_
  refine y_un rfl rfl rfl (fun _ h => Gets.own gS h) rfl ?_
  refine y_un rfl rfl rfl (fun _ h => Gets.own gS h) rfl ?_
  refine y_un rfl rfl rfl (fun _ h => Gets.own gS h) rfl ?_
  refine y_un rfl rfl rfl (fun _ h => Gets.own gS h) rfl ?_
  refine y_un rfl rfl rfl (fun _ h => Gets.own gS h) rfl ?_
  refine y_v rfl (r_pk_t rfl rfl) gT rfl ?_
  refine XH.nil ?_
  refine hK3 _ _ ?_
  refine XC.keep [(0, _), (3, _), (22, _)] ⟨rfl, rfl, rfl, trivial⟩ ?_
  refine XC.cond_t rfl ?_
  refine XC.seq fun K4 hK4 => ?_
  refine XC.region ?_
  refine x_v (r_as rfl) rfl ?_
  refine XL.nil ?_
  refine hK4 _ _ ?_
  refine XC.keep [(4, _)] ⟨rfl, trivial⟩ ?_
  refine XC.ret ?_
  have e : ¬ takeOk c m := fun h => by have := h.1; omega
  rw [take_non e, decide_eq_false e]
  exact fin1 rfl (⟨rfl, rfl⟩) gS
 ·refine y_vg rfl rfl rfl (r_lda (l' := [_, _, _, _, _, _, _, _, _, _, _, _, _, _, _, _, _]) ty35 rfl pK rfl (Sub.get sU)) gT rfl ?_
  refine y_cg rfl rfl rfl (r_call0 (args := [_]) ⟨rfl, rfl⟩ (right12_tr m (by omega) hl) gS) (by rintro _ _ _ _ ⟨rfl, rfl⟩ h; exact Gets.own gS h) rfl ?_
  rintro _ _ ⟨rfl, rfl⟩
  refine y_vg rfl rfl rfl (r_not_d rfl) gT rfl ?_
  refine y_v rfl (r_pk_f rfl rfl) gT rfl ?_
  refine y_v rfl (r_mv rfl) gT rfl ?_
  refine XH.splitd 13 rfl (fun hg13 => ?_) (fun hg13 => ?_)
  ·refine y_un rfl rfl rfl (fun _ h => Gets.own gS h) rfl ?_
   refine y_un rfl rfl rfl (fun _ h => Gets.own gS h) rfl ?_
   refine y_un rfl rfl rfl (fun _ h => Gets.own gS h) rfl ?_
   refine y_un rfl rfl rfl (fun _ h => Gets.own gS h) rfl ?_
   refine y_un rfl rfl rfl (fun _ h => Gets.own gS h) rfl ?_
   refine y_un rfl rfl rfl (fun _ h => Gets.own gS h) rfl ?_
   refine y_un rfl rfl rfl (fun _ h => Gets.own gS h) rfl ?_
   refine y_un rfl rfl rfl (fun _ h => Gets.own gS h) rfl ?_
   refine y_v rfl (r_pk_t rfl rfl) gT rfl ?_
   refine XH.nil ?_
   refine hK3 _ _ ?_
   refine XC.keep [(0, _), (3, _), (22, _)] ⟨rfl, rfl, rfl, trivial⟩ ?_
   refine XC.cond_t rfl ?_
   refine XC.seq fun K5 hK5 => ?_
   refine XC.region ?_
   refine x_v (r_as rfl) rfl ?_
   refine XL.nil ?_
   refine hK5 _ _ ?_
   refine XC.keep [(4, _)] ⟨rfl, trivial⟩ ?_
   refine XC.ret ?_
   have e : ¬ takeOk c m := fun h => hg13 h.2.1
   rw [take_non e, decide_eq_false e]
   exact fin1 rfl (⟨rfl, rfl⟩) gS
  ·refine y_vg rfl rfl rfl (r_fa fo35_9 rfl) gT rfl ?_
   refine y_vg rfl rfl rfl (r_ld ty3 rfl pK (by rfl)) gT rfl ?_
   refine y_vg rfl rfl rfl (r_mv rfl) gT rfl ?_
   refine y_vg rfl rfl rfl (r_nc rfl) gT rfl ?_
   refine y_vg rfl rfl rfl (r_fa fo71_2 rfl) gT rfl ?_
   refine y_vg rfl rfl rfl (r_fa fo69_0 rfl) gT rfl ?_
   refine y_vg rfl rfl rfl (r_ld ty3 rfl pK (by rfl)) gT rfl ?_
   refine y_vg rfl rfl rfl (r_lt rfl rfl) gT rfl ?_
   refine y_v rfl (r_pk_f rfl rfl) gT rfl ?_
   refine XH.nil ?_
   refine hK3 _ _ ?_
   refine XC.keep [(0, _), (3, _), (22, _)] ⟨rfl, rfl, rfl, trivial⟩ ?_
   refine XC.cond_d rfl (fun hc3 => ?_) (fun hc3 => ?_)
   ·refine XC.seq fun K6 hK6 => ?_
    refine XC.region ?_
    refine x_v (r_as rfl) rfl ?_
    refine XL.nil ?_
    refine hK6 _ _ ?_
    refine XC.keep [(4, _)] ⟨rfl, trivial⟩ ?_
    refine XC.ret ?_
    have e : ¬ takeOk c m := fun h => by have := h.2.2; omega
    rw [take_non e, decide_eq_false e]
    exact fin1 rfl (⟨rfl, rfl⟩) gS
   ·refine XC.skip ?_
    refine hK2 _ _ ?_
    refine XC.keep [(0, _), (3, _)] ⟨rfl, rfl, trivial⟩ ?_
    refine XC.seq fun K7 hK7 => ?_
    have hok : takeOk c m := ⟨by omega, Classical.not_not.1 hg13, by omega⟩
    have hto := take_eq hok
    refine XC.region ?_
    refine x_v (r_mv rfl) rfl ?_
    refine x_v (r_fa fo35_9 rfl) rfl ?_
    refine x_v (r_ld ty3 rfl pK (by rfl)) rfl ?_
    refine x_v (r_fa fo35_10 rfl) rfl ?_
    refine x_v (r_ld ty3 rfl pK (by rfl)) rfl ?_
    refine x_v (r_bd (vs := [_, _]) rfl ⟨rfl, rfl, rfl⟩ (bd69_0_1 _ _)) rfl ?_
    refine x_v (r_nc rfl) rfl ?_
    refine x_v (r_fa fo71_2 rfl) rfl ?_
    refine x_e (r_st ty69 rfl rfl rfl rfl rfl uD oV) ?_
    refine XL.nil ?_
    refine hK7 _ _ ?_
    refine XC.keep [(0, _), (3, _)] ⟨rfl, rfl, trivial⟩ ?_
    refine XC.seq fun K8 hK8 => ?_
    refine XC.draw [blk b3 35 [.int .i64 m.kind, .int .i64 m.term, .int .i64 m.index, .int .i64 m.prev, .int .i64 m.commit, .bool m.good, .slice m.eA m.es.length m.ec, str m.data, .slice m.hA m.hs.length m.hc, .int .i64 m.epoch, .int .i64 m.site, .int .i64 m.at1, .int .i64 m.at2, .int .i64 m.w1, .int .i64 m.w2, .slice m.oA m.ho.length m.oc, .slice m.pA m.ops.length m.pc], blk b 71 [.int .i64 c.site, .int .i64 c.epochs, .int .i64 m.epoch, .int .i64 m.site, .int .i64 c.heard, .int .i64 c.wants]] true [(0, false), (1, false), (2, false), (3, false), (4, false), (5, false), (6, false), (7, false), (8, false), (9, false), (10, true)] (by kernel_rfl) (by kernel_rfl) ?_
    refine y_v rfl (r_mv rfl) gT rfl ?_
    refine y_v rfl (r_mv rfl) gT rfl ?_
    refine y_v rfl (r_nc rfl) gT rfl ?_
    refine y_v rfl (r_fa fo71_3 rfl) gT rfl ?_
    refine y_v rfl (r_ld ty3 rfl pK (by rfl)) gT rfl ?_
    refine y_v rfl (r_fa fo35_9 rfl) gT rfl ?_
    refine y_v rfl (r_ld ty3 rfl pK (by rfl)) gT rfl ?_
    refine y_v rfl (r_max rfl rfl) gT rfl ?_
    refine y_v rfl (r_nc rfl) gT rfl ?_
    refine y_v rfl (r_fa fo71_3 rfl) gT rfl ?_
    refine y_e rfl (r_st ty3 rfl rfl rfl rfl rfl uD oV) (fun h => absurd h (by decide)) ?_
    refine XH.nil ?_
    refine hK8 _ _ ?_
    refine XC.keep [(0, _), (3, _)] ⟨rfl, rfl, trivial⟩ ?_
    refine XC.seq fun K9 hK9 => ?_
    refine XC.seq fun K10 hK10 => ?_
    refine XC.draw [blk b3 35 [.int .i64 m.kind, .int .i64 m.term, .int .i64 m.index, .int .i64 m.prev, .int .i64 m.commit, .bool m.good, .slice m.eA m.es.length m.ec, str m.data, .slice m.hA m.hs.length m.hc, .int .i64 m.epoch, .int .i64 m.site, .int .i64 m.at1, .int .i64 m.at2, .int .i64 m.w1, .int .i64 m.w2, .slice m.oA m.ho.length m.oc, .slice m.pA m.ops.length m.pc], blk b 71 [.int .i64 c.site, .int .i64 c.epochs, .int .i64 m.epoch, .int .i64 m.site, .int .i64 (max c.heard m.epoch), .int .i64 c.wants]] false [(0, false), (1, false), (2, false), (3, false), (4, false), (5, false), (6, false)] (by kernel_rfl) (by kernel_rfl) ?_
    refine y_v rfl (r_mv rfl) gT rfl ?_
    refine y_v rfl (r_nc rfl) gT rfl ?_
    refine y_v rfl (r_fa fo71_4 rfl) gT rfl ?_
    refine y_v rfl (r_ld ty3 rfl pK (by rfl)) gT rfl ?_
    refine y_v rfl (r_fa fo35_9 rfl) gT rfl ?_
    refine y_v rfl (r_ld ty3 rfl pK (by rfl)) gT rfl ?_
    refine y_v rfl (r_le rfl rfl) gT rfl ?_
    refine XH.nil ?_
    refine hK10 _ _ ?_
    refine XC.keep [(0, _), (47, _)] ⟨rfl, rfl, trivial⟩ ?_
    refine XC.cond_d rfl (fun hc4 => ?_) (fun hc4 => ?_)
    ·refine XC.region ?_
     refine x_v (r_mv rfl) rfl ?_
     refine x_v (r_nc rfl) rfl ?_
     refine x_v (r_fa fo71_4 rfl) rfl ?_
     refine x_e (r_st ty3 rfl rfl rfl rfl rfl uD oV) ?_
     refine XL.nil ?_
     refine hK9 _ _ ?_
     refine XC.keep [] trivial ?_
     refine XC.seq fun K11 hK11 => ?_
     refine XC.region ?_
     refine x_v (r_as rfl) rfl ?_
     refine XL.nil ?_
     refine hK11 _ _ ?_
     refine XC.keep [(4, _)] ⟨rfl, trivial⟩ ?_
     refine XC.ret ?_
     rw [decide_eq_true hok, hto, if_pos (by omega)]
     exact fin1 rfl (⟨rfl, rfl⟩) gS
    ·refine XC.skip ?_
     refine hK9 _ _ ?_
     refine XC.keep [] trivial ?_
     refine XC.seq fun K12 hK12 => ?_
     refine XC.region ?_
     refine x_v (r_as rfl) rfl ?_
     refine XL.nil ?_
     refine hK12 _ _ ?_
     refine XC.keep [(4, _)] ⟨rfl, trivial⟩ ?_
     refine XC.ret ?_
     rw [decide_eq_true hok, hto, if_neg (by omega)]
     exact fin1 rfl (⟨rfl, rfl⟩) gS
theorem wnext_tr {W0 : World} {Fr : List HP} {c : Cw} {r : Rh} (b lb : Nat) : Tr W0 Try.prog 25 [.pointer (some ⟨b, 0, none⟩), .pointer (some ⟨lb, 0, none⟩)] (blk b 71 (wc c) :: blk lb 93 (rdc r) :: Fr) (fun v Rs' => v = .tuple #[.agg (nextOf c r.fence).toArray, .bool (decide (nextOk c r.fence))] ∧ Rs' = blk b 71 (wc c) :: blk lb 93 (rdc r) :: Fr) := by
 unfold wc rdc
 have no : ¬ nextOk c r.fence → nextOf c r.fence = cmz 0 0 0 := fun q => by unfold nextOf; rw [if_neg q]
 have yes : nextOk c r.fence → nextOf c r.fence = cmz 4 c.tE c.site := fun q => by unfold nextOf; rw [if_pos q]
 refine Entry.tr (N := 39) (rs := [.cell 4 41, .tmp 5]) ⟨_, Try.func25, rfl, by kernel_rfl, rfl, rfl⟩ rfl ?_
 refine XC.seq fun K1 hK1 => ?_
 refine XC.region ?_
 refine x_a (r_al ty41 rfl) rfl fun b4 => ?_
 refine x_v (r_as rfl) rfl ?_
 refine XL.nil ?_
 refine hK1 _ _ ?_
 refine XC.keep [(0, _), (1, _), (4, _)] ⟨rfl, rfl, rfl, trivial⟩ ?_
 refine XC.seq fun K2 hK2 => ?_
 refine XC.seq fun K3 hK3 => ?_
 refine XC.draw [blk b 71 [.int .i64 c.site, .int .i64 c.epochs, .int .i64 c.tE, .int .i64 c.tS, .int .i64 c.heard, .int .i64 c.wants], blk lb 93 [.slice r.A r.n r.c, .slice r.gA r.gn r.gc, .int .i64 r.fence, .int .i64 r.set, .int .i64 r.quota, .int .i64 r.room]] false [(0, false), (1, false), (2, false), (3, false), (4, false), (5, false), (6, false), (7, false), (8, false), (9, false), (10, false), (11, false), (12, false), (13, false), (14, false), (15, false), (16, false), (17, false), (18, false), (19, false), (20, false), (21, false)] (by kernel_rfl) (by kernel_rfl) ?_
 refine y_v rfl (r_mv rfl) gT rfl ?_
 refine y_v rfl (r_nc rfl) gT rfl ?_
 refine y_v rfl (r_fa fo71_2 rfl) gT rfl ?_
 refine y_v rfl (r_fa fo69_0 rfl) gT rfl ?_
 refine y_v rfl (r_ld ty3 rfl pK (by rfl)) gT rfl ?_
 refine y_v rfl (r_mv rfl) gT rfl ?_
 refine y_v rfl (r_nc rfl) gT rfl ?_
 refine y_v rfl (r_fa fo93_2 rfl) gT rfl ?_
 refine y_v rfl (r_ld ty3 rfl pK (by rfl)) gT rfl ?_
 refine y_v rfl (r_le rfl rfl) gT rfl ?_
 refine y_v rfl (r_mv rfl) gT rfl ?_
 refine XH.splitd 16 rfl (fun hg16 => ?_) (fun hg16 => ?_)
 ·refine y_un rfl rfl rfl (fun _ h => Gets.own gS h) rfl ?_
  refine y_un rfl rfl rfl (fun _ h => Gets.own gS h) rfl ?_
  refine y_un rfl rfl rfl (fun _ h => Gets.own gS h) rfl ?_
  refine y_un rfl rfl rfl (fun _ h => Gets.own gS h) rfl ?_
  refine y_un rfl rfl rfl (fun _ h => Gets.own gS h) rfl ?_
  refine y_un rfl rfl rfl (fun _ h => Gets.own gS h) rfl ?_
  refine y_un rfl rfl rfl (fun _ h => Gets.own gS h) rfl ?_
  refine y_un rfl rfl rfl (fun _ h => Gets.own gS h) rfl ?_
  refine y_un rfl rfl rfl (fun _ h => Gets.own gS h) rfl ?_
  refine y_un rfl rfl rfl (fun _ h => Gets.own gS h) rfl ?_
  refine y_v rfl (r_pk_t rfl rfl) gT rfl ?_
  refine XH.nil ?_
  refine hK3 _ _ ?_
  refine XC.keep [(0, _), (4, _), (27, _)] ⟨rfl, rfl, rfl, trivial⟩ ?_
  refine XC.cond_t rfl ?_
  refine XC.seq fun K4 hK4 => ?_
  refine XC.region ?_
  refine x_v (r_bd (vs := []) rfl rfl bd41_z) rfl ?_
  refine x_e (r_st ty41 rfl rfl rfl rfl rfl uD oV) ?_
  refine x_v (r_as rfl) rfl ?_
  refine XL.nil ?_
  refine hK4 _ _ ?_
  refine XC.keep [(4, _), (5, _)] ⟨rfl, rfl, trivial⟩ ?_
  refine XC.ret ?_
  have e : ¬ nextOk c r.fence := fun q => by (have := q.2; omega)
  rw [no e, decide_eq_false e]
  exact finc2 ty41 rfl rfl pK (by rfl) (⟨rfl, rfl⟩) gS
 ·refine y_vg rfl rfl rfl (r_mv rfl) gT rfl ?_
  refine y_vg rfl rfl rfl (r_nc rfl) gT rfl ?_
  refine y_vg rfl rfl rfl (r_fa fo71_2 rfl) gT rfl ?_
  refine y_vg rfl rfl rfl (r_fa fo69_1 rfl) gT rfl ?_
  refine y_vg rfl rfl rfl (r_ld ty3 rfl pK (by rfl)) gT rfl ?_
  refine y_vg rfl rfl rfl (r_mv rfl) gT rfl ?_
  refine y_vg rfl rfl rfl (r_nc rfl) gT rfl ?_
  refine y_vg rfl rfl rfl (r_fa fo71_0 rfl) gT rfl ?_
  refine y_vg rfl rfl rfl (r_ld ty3 rfl pK (by rfl)) gT rfl ?_
  refine y_vg rfl rfl rfl (r_ne rfl rfl) gT rfl ?_
  refine y_v rfl (r_pk_f rfl rfl) gT rfl ?_
  refine XH.nil ?_
  refine hK3 _ _ ?_
  refine XC.keep [(0, _), (4, _), (27, _)] ⟨rfl, rfl, rfl, trivial⟩ ?_
  refine XC.cond_d rfl (fun hc2 => ?_) (fun hc2 => ?_)
  ·refine XC.seq fun K5 hK5 => ?_
   refine XC.region ?_
   refine x_v (r_bd (vs := []) rfl rfl bd41_z) rfl ?_
   refine x_e (r_st ty41 rfl rfl rfl rfl rfl uD oV) ?_
   refine x_v (r_as rfl) rfl ?_
   refine XL.nil ?_
   refine hK5 _ _ ?_
   refine XC.keep [(4, _), (5, _)] ⟨rfl, rfl, trivial⟩ ?_
   refine XC.ret ?_
   have e : ¬ nextOk c r.fence := fun q => by (have := q.1; omega)
   rw [no e, decide_eq_false e]
   exact finc2 ty41 rfl rfl pK (by rfl) (⟨rfl, rfl⟩) gS
  ·refine XC.skip ?_
   refine hK2 _ _ ?_
   refine XC.keep [(0, _), (4, _)] ⟨rfl, rfl, trivial⟩ ?_
   refine XC.seq fun K6 hK6 => ?_
   refine XC.draw [blk b 71 [.int .i64 c.site, .int .i64 c.epochs, .int .i64 c.tE, .int .i64 c.tS, .int .i64 c.heard, .int .i64 c.wants]] false [(0, false), (1, false), (2, false), (3, false), (4, false), (5, false), (6, false), (7, false), (8, false), (9, false), (10, true), (11, false)] (by kernel_rfl) (by kernel_rfl) ?_
   refine y_v rfl (r_mv rfl) gT rfl ?_
   refine y_v rfl (r_nc rfl) gT rfl ?_
   refine y_v rfl (r_fa fo71_2 rfl) gT rfl ?_
   refine y_v rfl (r_fa fo69_0 rfl) gT rfl ?_
   refine y_v rfl (r_ld ty3 rfl pK (by rfl)) gT rfl ?_
   refine y_v rfl (r_mv rfl) gT rfl ?_
   refine y_v rfl (r_nc rfl) gT rfl ?_
   refine y_v rfl (r_fa fo71_0 rfl) gT rfl ?_
   refine y_v rfl (r_ld ty3 rfl pK (by rfl)) gT rfl ?_
   refine y_v rfl (r_bd (vs := [_, _, _]) rfl ⟨rfl, rfl, rfl, rfl⟩ (bd41_0_1_2 _ _ _)) gT rfl ?_
   refine y_e rfl (r_st ty41 rfl rfl rfl rfl rfl uD oV) (fun _ _ h => Gets.own gS h) ?_
   refine y_v rfl (r_as rfl) gT rfl ?_
   refine XH.nil ?_
   refine hK6 _ _ ?_
   refine XC.keep [(4, _), (5, _)] ⟨rfl, rfl, trivial⟩ ?_
   refine XC.ret ?_
   have e : nextOk c r.fence := ⟨by omega, by omega⟩
   rw [yes e, decide_eq_true e]
   exact finc2 ty41 rfl rfl pK (by rfl) (⟨rfl, rfl⟩) gS
/-- Who holds the last epoch that began. -/
def holdR (g : Int × Int) (o : Pop) : Int × Int := if o.kind = 3 then (o.epoch, o.site) else g
def holdOf (L : List Pop) : Int × Int := L.foldl holdR (0, 0)
theorem hold_snoc (L : List Pop) (o : Pop) : holdOf (L ++ [o]) = holdR (holdOf L) o := by unfold holdOf; rw [List.foldl_append]; rfl
theorem fst_take_snoc {L : List Od} {i : Nat} {o : Od} (h : L[i]? = some o) : fst1 (L.take (i + 1)) = fst1 (L.take i) ++ [o.1] := by
 unfold fst1; rw [tk_snoc h, List.map_append]; rfl
theorem rhold_tr {W0 : World} {Fr : List HP} {r : Rh} (b : Nat) (L : List Od) (hLn : L.length = r.n) (hn : r.n ≤ 100000) : Tr W0 Try.prog 56 [.pointer (some ⟨b, 0, none⟩)] (blk b 93 (rdc r) :: sl r.A r.n r.c 39 9 (cells odc L) :: Fr) (fun v Rs' => v = .agg #[.int .i64 (holdOf (fst1 L)).1, .int .i64 (holdOf (fst1 L)).2] ∧ Rs' = blk b 93 (rdc r) :: sl r.A r.n r.c 39 9 (cells odc L) :: Fr) := by
 unfold rdc
 obtain ⟨A, n, c, gA, gn, gc, f, st, q, rm⟩ := r
 dsimp only at hLn hn ⊢
 subst hLn
 refine Entry.tr (N := 42) (rs := [.cell 2 69]) ⟨_, Try.func56, rfl, by kernel_rfl, rfl, rfl⟩ rfl ?_
 refine XC.seq fun K1 hK1 => ?_
 refine XC.region ?_
 refine x_a (r_al ty69 rfl) rfl fun b2 => ?_
 refine XL.nil ?_
 refine hK1 _ _ ?_
 refine XC.keep [(0, _), (2, _)] ⟨rfl, rfl, trivial⟩ ?_
 refine XC.seq fun K2 hK2 => ?_
 refine XC.region ?_
 refine x_v (r_bd (vs := []) rfl rfl bd69_z) rfl ?_
 refine x_a (r_al ty69 rfl) rfl fun b3 => ?_
 refine x_e (r_st ty69 rfl rfl rfl rfl rfl uD oV) ?_
 refine XL.nil ?_
 refine hK2 _ _ ?_
 refine XC.keep [(0, _), (2, _), (3, _)] ⟨rfl, rfl, rfl, trivial⟩ ?_
 refine XC.seq fun K3 hK3 => ?_
 refine XC.seq fun K4 hK4 => ?_
 refine XC.slnn (A := A) pK fun hsl hsA => ?_
 refine XC.region ?_
 refine x_v (r_as rfl) rfl ?_
 refine XL.nil ?_
 refine hK4 _ _ ?_
 refine XC.keep [(0, _), (2, _), (3, _), (4, _)] ⟨rfl, rfl, rfl, rfl, trivial⟩ ?_
 refine XC.block ?_
 refine XC.loop (σ := Nat × Int × Int) (fun s => [(0, .pointer (some ⟨b, 0, none⟩)), (2, .pointer (some ⟨b2, 0, none⟩)), (3, .pointer (some ⟨b3, 0, none⟩)), (4, .int .i64 (s.1 : Int))]) (fun s => blk b2 69 [.int .i64 0, .int .i64 0] :: blk b3 69 [.int .i64 s.2.1, .int .i64 s.2.2] :: blk b 93 [.slice A L.length c, .slice gA gn gc, .int .i64 f, .int .i64 st, .int .i64 q, .int .i64 rm] :: sl A L.length c 39 9 (cells odc L) :: Fr) (fun s => s.1 ≤ L.length ∧ s.2 = holdOf (fst1 (L.take s.1))) (fun s => L.length - s.1) (0, 0, 0) ?_ ⟨rfl, rfl, rfl, rfl, trivial⟩ gS ?_
 ·exact ⟨Nat.zero_le _, rfl⟩
 rintro ⟨i, gE, gB⟩ ⟨hi, hg⟩
 dsimp only at hi hg ⊢
 refine XC.seq fun K5 hK5 => ?_
 refine XC.seq fun K6 hK6 => ?_
 refine XC.region ?_
 refine x_v (r_mv rfl) rfl ?_
 refine x_v (r_mv rfl) rfl ?_
 refine x_v (r_nc rfl) rfl ?_
 refine x_v (r_fa fo93_0 rfl) rfl ?_
 refine x_v (r_ld ty33 rfl pK (by rfl)) rfl ?_
 refine x_v (r_lensl Try.underlying33 rfl) rfl ?_
 refine x_v (r_lt rfl rfl) rfl ?_
 refine XL.nil ?_
 refine hK6 _ _ ?_
 refine XC.keep [(0, _), (2, _), (3, _), (4, _), (12, _)] ⟨rfl, rfl, rfl, rfl, rfl, trivial⟩ ?_
 refine XC.cond_d rfl (fun hc1 => ?_) (fun hc1 => ?_)
 ·refine XC.skip ?_
  refine hK5 _ _ ?_
  refine XC.keep [(0, _), (2, _), (3, _), (4, _)] ⟨rfl, rfl, rfl, rfl, trivial⟩ ?_
  refine XC.seq fun K7 hK7 => ?_
  refine XC.block ?_
  refine XC.seq fun K8 hK8 => ?_
  obtain ⟨o, ho⟩ : ∃ o, L[i]? = some o := ⟨_, List.getElem?_eq_getElem (by omega)⟩
  have hsn := fst_take_snoc ho
  have hrd : Rdb W0 [sl A L.length c 39 9 (cells odc L)] A L.length 9 (cells odc L) := Rdb.of_sl (.head _ _) hsl hsA
  obtain ⟨sb, so, hsa, hat⟩ := hrd.at_ (by omega)
  subst hsa
  refine XC.region ?_
  refine x_v (r_mv rfl) rfl ?_
  refine x_v (r_nc rfl) rfl ?_
  refine x_v (r_fa fo93_0 rfl) rfl ?_
  refine x_v (r_ld ty33 rfl pK (by rfl)) rfl ?_
  refine x_v (r_mv rfl) rfl ?_
  refine x_v (r_ia (k := i) Try.underlying33 ty39 rfl rfl (by omega) (by omega)) rfl ?_
  refine x_v (r_fa fo39_2 rfl) rfl ?_
  refine x_v (r_ldr ty3 rfl (fun w hw => by rw [Nat.add_assoc]; exact hat w (Gets.own gS hw) _ _ (cells_get odc_len L _ _ ho 2 _ rfl))) rfl ?_
  refine x_v (r_eq rfl rfl) rfl ?_
  refine XL.nil ?_
  refine hK8 _ _ ?_
  refine XC.keep [(0, _), (2, _), (3, _), (4, _), (23, _)] ⟨rfl, rfl, rfl, rfl, rfl, trivial⟩ ?_
  refine XC.cond_d rfl (fun hc2 => ?_) (fun hc2 => ?_)
  ·refine XC.draw [blk b 93 [.slice (some ⟨sb, so, none⟩) L.length c, .slice gA gn gc, .int .i64 f, .int .i64 st, .int .i64 q, .int .i64 rm], sl (some ⟨sb, so, none⟩) L.length c 39 9 (cells odc L)] true [(0, false), (1, false), (2, false), (3, false), (4, false), (5, false), (6, false), (7, false), (8, false), (9, false), (10, false), (11, false), (12, false), (13, false), (14, false), (15, false), (16, false), (17, true)] (by kernel_rfl) (by kernel_rfl) ?_
   refine y_v rfl (r_mv rfl) gT rfl ?_
   refine y_v rfl (r_nc rfl) gT rfl ?_
   refine y_v rfl (r_fa fo93_0 rfl) gT rfl ?_
   refine y_v rfl (r_ld ty33 rfl pK (by rfl)) gT rfl ?_
   refine y_v rfl (r_mv rfl) gT rfl ?_
   refine y_v rfl (r_ia (k := i) Try.underlying33 ty39 rfl rfl (by omega) (by omega)) gT rfl ?_
   refine y_v rfl (r_fa fo39_1 rfl) gT rfl ?_
   refine y_v rfl (r_ldr ty3 rfl (fun w hw => by rw [Nat.add_assoc]; exact hat w (Gets.own gS hw) _ _ (cells_get odc_len L _ _ ho 1 _ rfl))) gT rfl ?_
   refine y_v rfl (r_mv rfl) gT rfl ?_
   refine y_v rfl (r_nc rfl) gT rfl ?_
   refine y_v rfl (r_fa fo93_0 rfl) gT rfl ?_
   refine y_v rfl (r_ld ty33 rfl pK (by rfl)) gT rfl ?_
   refine y_v rfl (r_mv rfl) gT rfl ?_
   refine y_v rfl (r_ia (k := i) Try.underlying33 ty39 rfl rfl (by omega) (by omega)) gT rfl ?_
   refine y_v rfl (r_fa fo39_3 rfl) gT rfl ?_
   refine y_v rfl (r_ldr ty3 rfl (fun w hw => by rw [Nat.add_assoc]; exact hat w (Gets.own gS hw) _ _ (cells_get odc_len L _ _ ho 3 _ rfl))) gT rfl ?_
   refine y_v rfl (r_bd (vs := [_, _]) rfl ⟨rfl, rfl, rfl⟩ (bd69_0_1 _ _)) gT rfl ?_
   refine y_e rfl (r_st ty69 rfl rfl rfl rfl rfl uD oV) (fun h => absurd h (by decide)) ?_
   refine XH.nil ?_
   refine hK7 _ _ ?_
   refine XC.keep [(0, _), (2, _), (3, _), (4, _)] ⟨rfl, rfl, rfl, rfl, trivial⟩ ?_
   refine XC.region ?_
   refine x_v (r_mv rfl) rfl ?_
   refine x_v (r_add rfl rfl (by omega)) rfl ?_
   refine x_v (r_as rfl) rfl ?_
   refine XL.nil ?_
   refine ⟨(i + 1, o.1.epoch, o.1.site), ?_, ?_, ⟨rfl, rfl, rfl, rfl, trivial⟩, gS⟩
   ·exact ⟨by dsimp only; omega, by dsimp only; rw [hsn, hold_snoc]; unfold holdR; rw [if_pos hc2]⟩
   ·dsimp only; omega
  ·refine XC.skip ?_
   refine hK7 _ _ ?_
   refine XC.keep [(0, _), (2, _), (3, _), (4, _)] ⟨rfl, rfl, rfl, rfl, trivial⟩ ?_
   refine XC.region ?_
   refine x_v (r_mv rfl) rfl ?_
   refine x_v (r_add rfl rfl (by omega)) rfl ?_
   refine x_v (r_as rfl) rfl ?_
   refine XL.nil ?_
   refine ⟨(i + 1, gE, gB), ?_, ?_, ⟨rfl, rfl, rfl, rfl, trivial⟩, gS⟩
   ·exact ⟨by dsimp only; omega, by dsimp only; rw [hsn, hold_snoc, ← hg]; unfold holdR; rw [if_neg hc2]⟩
   ·dsimp only; omega
 ·refine XC.exit rfl ?_
  refine hK3 _ _ ?_
  refine XC.keep [(2, _), (3, _)] ⟨rfl, rfl, trivial⟩ ?_
  refine XC.seq fun K9 hK9 => ?_
  refine XC.region ?_
  refine x_v (r_lda (l' := [_, _]) ty69 rfl pK rfl (Sub.get sU)) rfl ?_
  refine x_e (r_st ty69 rfl rfl rfl rfl rfl uD oV) ?_
  refine XL.nil ?_
  refine hK9 _ _ ?_
  refine XC.keep [(2, _)] ⟨rfl, trivial⟩ ?_
  refine XC.ret ?_
  have hgg : (gE, gB) = holdOf (fst1 L) := by rw [hg, List.take_of_length_le (by omega)]
  rw [← hgg]
  exact finc1 ty69 rfl pK (by rfl) (⟨rfl, rfl⟩) gS
end Go.Proofs.Ytheilpcbilnadaa

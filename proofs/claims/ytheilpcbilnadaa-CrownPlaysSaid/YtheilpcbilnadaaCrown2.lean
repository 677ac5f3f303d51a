/- Crowns: mails in memory; a grant that may be; what a crown takes. -/
import Derived.Test.YtheilpcbilnadaaCrown1
namespace Go.Proofs.Ytheilpcbilnadaa
open Go.Sx
set_option linter.unusedVariables false

structure En where
 term : Int
 data : List UInt8
def ec (e : En) : List Value := [.int .i64 e.term, str e.data]
theorem ec_len (e : En) : (ec e).length = 2 := rfl
theorem ec_one (e : En) : (ec e).all (·.oneCell') = true := rfl
/-- An operation. -/
structure Pop where
 n : Int
 epoch : Int
 kind : Int
 site : Int
 client : Int
 seq : Int
 name : List UInt8
 size : Int
 hs : List (List UInt8)
/-- An operation in memory: its hashes lie there. -/
abbrev Od := Pop × Option Addr × Nat
def odc (o : Od) : List Value := [.int .i64 o.1.n, .int .i64 o.1.epoch, .int .i64 o.1.kind, .int .i64 o.1.site, .int .i64 o.1.client, .int .i64 o.1.seq, str o.1.name, .int .i64 o.1.size, .slice o.2.1 o.1.hs.length o.2.2]
theorem odc_def (o : Od) : odc o = [.int .i64 o.1.n, .int .i64 o.1.epoch, .int .i64 o.1.kind, .int .i64 o.1.site, .int .i64 o.1.client, .int .i64 o.1.seq, str o.1.name, .int .i64 o.1.size, .slice o.2.1 o.1.hs.length o.2.2] := rfl
theorem odc_len (o : Od) : (odc o).length = 9 := rfl
theorem odc_one (o : Od) : (odc o).all (·.oneCell') = true := rfl
/-- A mail in memory. -/
structure Mal where
 kind : Int
 term : Int
 index : Int
 prev : Int
 commit : Int
 good : Bool
 es : List En
 eA : Option Addr
 ec : Nat
 data : List UInt8
 hs : List (List UInt8)
 hA : Option Addr
 hc : Nat
 epoch : Int
 site : Int
 at1 : Int
 at2 : Int
 w1 : Int
 w2 : Int
 ho : List Int
 oA : Option Addr
 oc : Nat
 ops : List Od
 pA : Option Addr
 pc : Nat
def mac (m : Mal) : List Value := [.int .i64 m.kind, .int .i64 m.term, .int .i64 m.index, .int .i64 m.prev, .int .i64 m.commit, .bool m.good, .slice m.eA m.es.length m.ec, str m.data, .slice m.hA m.hs.length m.hc, .int .i64 m.epoch, .int .i64 m.site, .int .i64 m.at1, .int .i64 m.at2, .int .i64 m.w1, .int .i64 m.w2, .slice m.oA m.ho.length m.oc, .slice m.pA m.ops.length m.pc]
def sv1 (s : List UInt8) : List Value := [str s]
def iv1 (i : Int) : List Value := [.int .i64 i]
theorem sv1_len (s : List UInt8) : (sv1 s).length = 1 := rfl
theorem sv1_one (s : List UInt8) : (sv1 s).all (·.oneCell') = true := rfl
theorem iv1_len (i : Int) : (iv1 i).length = 1 := rfl
theorem iv1_one (i : Int) : (iv1 i).all (·.oneCell') = true := rfl

theorem eq31 (a0 b0 : Int) (a1 b1 : Int) (w : World) : (Op.equalIn 10000 31 (.agg #[.int .i64 a0, .int .i64 a1]) (.agg #[.int .i64 b0, .int .i64 b1])).run Try.prog w = .ok (decide (a0 = b0 ∧ a1 = b1)) w := by
 rw [run_equalIn_struct w 9999 31 _ _ (by kernel_rfl) (by kernel_rfl)]
 have hf : (Program.fieldsOf Try.prog 31).toList = (Program.fieldsOf Try.prog 31).toList := rfl
 conv at hf => rhs; unfold Program.fieldsOf; rw [Try.underlying31]
 rw [hf]
 by_cases h0 : a0 = b0
 ·subst h0
  by_cases h1 : a1 = b1 <;> simp [Op.eqFields, part, isAgg, run_underlying Try.underlying3, run_equalIn_int, h1, Try.underlying3]
 ·simp [Op.eqFields, part, isAgg, run_underlying Try.underlying3, run_equalIn_int, h0, Try.underlying3]

def inR (n a b : Int) : Bool := decide (a ≤ n) && decide (n ≤ b)
theorem inR_yes {n a b : Int} (h : inR n a b = true) : a ≤ n ∧ n ≤ b := by unfold inR at h; rw [Bool.and_eq_true, decide_eq_true_eq, decide_eq_true_eq] at h; exact h
theorem inR_no {n a b : Int} (h : inR n a b = false) : ¬ (a ≤ n ∧ n ≤ b) := fun hh => by
 have : inR n a b = true := by unfold inR; rw [Bool.and_eq_true, decide_eq_true_eq, decide_eq_true_eq]; exact hh
 rw [h] at this; cases this
theorem inR_of {n a b : Int} (h : a ≤ n ∧ n ≤ b) : inR n a b = true := by unfold inR; rw [Bool.and_eq_true, decide_eq_true_eq, decide_eq_true_eq]; exact h
/-- One number is from one to another one. -/
theorem win1_tr {W0 : World} {Fr : List HP} (x a b : Int) (g : Nat) : Tr W0 Try.prog 59 [.int .i64 a, .int .i64 b, .slice (some ⟨g, 0, none⟩) 1 1] (blk g 3 [.int .i64 x] :: Fr) (fun v Rs' => v = .bool (decide (a ≤ x ∧ x ≤ b)) ∧ Rs' = blk g 3 [.int .i64 x] :: Fr) := by
 refine Entry.tr (N := 24) (rs := [.tmp 6]) ⟨_, Try.func59, rfl, by kernel_rfl, rfl, rfl⟩ rfl ?_
 refine XC.seq fun K1 hK1 => ?_
 refine XC.region ?_
 refine x_v (r_as rfl) rfl ?_
 refine XL.nil ?_
 refine hK1 _ _ ?_
 refine XC.keep [(0, _), (1, _), (2, _)] ⟨rfl, rfl, rfl, trivial⟩ ?_
 refine XC.seq fun K2 hK2 => ?_
 refine XC.seq fun K3 hK3 => ?_
 refine XC.region ?_
 refine x_v (r_mv rfl) rfl ?_
 refine x_v (r_lensl Try.underlying32 rfl) rfl ?_
 refine x_v (r_mv rfl) rfl ?_
 refine XL.nil ?_
 refine hK3 _ _ ?_
 refine XC.keep [(0, _), (1, _), (9, _), (10, _), (11, _)] ⟨rfl, rfl, rfl, rfl, rfl, trivial⟩ ?_
 refine XC.block ?_
 refine XC.loop (σ := Nat) (fun s => [(0, .int .i64 a), (1, .int .i64 b), (9, .slice (some ⟨g, 0, none⟩) 1 1), (10, .int .i64 1), (11, .int .i64 (s : Int))]) (fun s => blk g 3 [.int .i64 x] :: Fr) (fun s => s ≤ 1 ∧ (s = 1 → a ≤ x ∧ x ≤ b)) (fun s => 1 - s) 0 ?_ ⟨rfl, rfl, rfl, rfl, rfl, trivial⟩ gS ?_
 ·exact ⟨by omega, fun h => by cases h⟩
 rintro i ⟨hi, hin⟩
 refine XC.seq fun K4 hK4 => ?_
 refine XC.region ?_
 refine x_v (r_lt rfl rfl) rfl ?_
 refine XL.nil ?_
 refine hK4 _ _ ?_
 refine XC.keep [(0, _), (1, _), (9, _), (10, _), (11, _), (12, _)] ⟨rfl, rfl, rfl, rfl, rfl, rfl, trivial⟩ ?_
 refine XC.seq fun K5 hK5 => ?_
 refine XC.cond_d rfl (fun hc1 => ?_) (fun hc1 => ?_)
 ·refine XC.skip ?_
  refine hK5 _ _ ?_
  refine XC.keep [(0, _), (1, _), (9, _), (10, _), (11, _)] ⟨rfl, rfl, rfl, rfl, rfl, trivial⟩ ?_
  refine XC.seq fun K6 hK6 => ?_
  refine XC.block ?_
  refine XC.seq fun K7 hK7 => ?_
  obtain rfl : i = 0 := by omega
  refine XC.region ?_
  refine x_v (r_ia (k := 0) Try.underlying32 ty3 rfl rfl (by omega) (by omega)) rfl ?_
  refine x_v (r_ld ty3 rfl pK (by rfl)) rfl ?_
  refine x_v (r_as rfl) rfl ?_
  refine XL.nil ?_
  refine hK7 _ _ ?_
  refine XC.keep [(0, _), (1, _), (8, _), (9, _), (10, _), (11, _)] ⟨rfl, rfl, rfl, rfl, rfl, rfl, trivial⟩ ?_
  refine XC.seq fun K8 hK8 => ?_
  refine XC.region ?_
  refine x_v (r_mv rfl) rfl ?_
  refine x_v (r_mv rfl) rfl ?_
  refine x_v (r_lt rfl rfl) rfl ?_
  refine x_v (r_mv rfl) rfl ?_
  refine XL.splitd 18 rfl (fun hg18 => ?_) (fun hg18 => ?_)
  ·refine x_unwant rfl rfl rfl rfl rfl ?_
   refine x_unwant rfl rfl rfl rfl rfl ?_
   refine x_unwant rfl rfl rfl rfl rfl ?_
   refine x_v (r_pk_t rfl rfl) rfl ?_
   refine XL.nil ?_
   refine hK8 _ _ ?_
   refine XC.keep [(0, _), (1, _), (9, _), (10, _), (11, _), (22, _)] ⟨rfl, rfl, rfl, rfl, rfl, rfl, trivial⟩ ?_
   refine XC.cond_t rfl ?_
   refine XC.seq fun K9 hK9 => ?_
   refine XC.region ?_
   refine x_v (r_as rfl) rfl ?_
   refine XL.nil ?_
   refine hK9 _ _ ?_
   refine XC.keep [(6, _)] ⟨rfl, trivial⟩ ?_
   refine XC.ret ?_
   exact fin1 rfl (⟨congrArg Value.bool (decide_eq_false (by omega)).symm, rfl⟩) gS
  ·refine x_want rfl rfl rfl ?_
   refine x_v (r_mv rfl) rfl ?_
   refine x_want rfl rfl rfl ?_
   refine x_v (r_mv rfl) rfl ?_
   refine x_want rfl rfl rfl ?_
   refine x_v (r_gt rfl rfl) rfl ?_
   refine x_v (r_pk_f rfl rfl) rfl ?_
   refine XL.nil ?_
   refine hK8 _ _ ?_
   refine XC.keep [(0, _), (1, _), (9, _), (10, _), (11, _), (22, _)] ⟨rfl, rfl, rfl, rfl, rfl, rfl, trivial⟩ ?_
   refine XC.cond_d rfl (fun hc3 => ?_) (fun hc3 => ?_)
   ·refine XC.seq fun K10 hK10 => ?_
    refine XC.region ?_
    refine x_v (r_as rfl) rfl ?_
    refine XL.nil ?_
    refine hK10 _ _ ?_
    refine XC.keep [(6, _)] ⟨rfl, trivial⟩ ?_
    refine XC.ret ?_
    exact fin1 rfl (⟨congrArg Value.bool (decide_eq_false (by omega)).symm, rfl⟩) gS
   ·refine XC.skip ?_
    refine hK6 _ _ ?_
    refine XC.keep [(0, _), (1, _), (9, _), (10, _), (11, _)] ⟨rfl, rfl, rfl, rfl, rfl, trivial⟩ ?_
    refine XC.region ?_
    refine x_v (r_add rfl rfl (by omega)) rfl ?_
    refine x_v (r_mv rfl) rfl ?_
    refine XL.nil ?_
    refine ⟨0 + 1, ?_, ?_, ⟨rfl, rfl, rfl, rfl, rfl, trivial⟩, gS⟩
    ·exact ⟨by omega, fun _ => by omega⟩
    ·omega
 ·refine XC.exit rfl ?_
  refine hK2 _ _ ?_
  refine XC.keep [] trivial ?_
  refine XC.seq fun K11 hK11 => ?_
  refine XC.region ?_
  refine x_v (r_as rfl) rfl ?_
  refine XL.nil ?_
  refine hK11 _ _ ?_
  refine XC.keep [(6, _)] ⟨rfl, trivial⟩ ?_
  refine XC.ret ?_
  exact fin1 rfl (⟨congrArg Value.bool (decide_eq_true (hin (by omega))).symm, rfl⟩) gS
def placeOk (n e : Int) : Prop := 0 ≤ n ∧ n ≤ 80 ∧ 0 ≤ e ∧ e ≤ 16 ∧ (n = 0 ↔ e = 0)
instance (n e : Int) : Decidable (placeOk n e) := by unfold placeOk; infer_instance
theorem place_tr {W0 : World} {Fr : List HP} (n e : Int) : Tr W0 Try.prog 82 [.agg #[.int .i64 n, .int .i64 e]] Fr (fun v Rs' => v = .bool (decide (placeOk n e)) ∧ Rs' = Fr) := by
 refine Entry.tr (N := 22) (rs := [.tmp 2]) ⟨_, Try.func82, rfl, by kernel_rfl, rfl, rfl⟩ rfl ?_
 refine XC.seq fun K1 hK1 => ?_
 refine XC.region ?_
 refine x_a (r_bx rfl rfl) rfl fun b1 => ?_
 refine x_v (r_as rfl) rfl ?_
 refine XL.nil ?_
 refine hK1 _ _ ?_
 refine XC.keep [(1, _)] ⟨rfl, trivial⟩ ?_
 refine XC.seq fun K2 hK2 => ?_
 refine XC.region ?_
 refine x_v (r_fa fo31_0 rfl) rfl ?_
 refine x_v (r_ld ty3 rfl pK (by rfl)) rfl ?_
 refine x_a (r_bs (vs := [_]) rfl ⟨rfl, rfl⟩ (bs32_1_0 _)) rfl fun b5 => ?_
 refine x_c (r_call0 (args := [_, _, _]) ⟨rfl, rfl, rfl, rfl⟩ (win1_tr n 0 80 b5) gS) rfl ?_
 rintro _ _ ⟨rfl, rfl⟩
 refine x_v (r_mv rfl) rfl ?_
 refine XL.splitd 7 rfl (fun hg7 => ?_) (fun hg7 => ?_)
 ·refine x_want rfl rfl rfl ?_
  refine x_v (r_fa fo31_1 rfl) rfl ?_
  refine x_want rfl rfl rfl ?_
  refine x_v (r_ld ty3 rfl pK (by rfl)) rfl ?_
  refine x_want rfl rfl rfl ?_
  refine x_a (r_bs (vs := [_]) rfl ⟨rfl, rfl⟩ (bs32_1_0 _)) rfl fun b10 => ?_
  refine x_want rfl rfl rfl ?_
  refine x_c (r_call0 (args := [_, _, _]) ⟨rfl, rfl, rfl, rfl⟩ (win1_tr e 0 16 b10) gS) rfl ?_
  rintro _ _ ⟨rfl, rfl⟩
  refine x_v (r_pk_t rfl rfl) rfl ?_
  refine x_v (r_mv rfl) rfl ?_
  refine XL.splitd 13 rfl (fun hg13 => ?_) (fun hg13 => ?_)
  ·refine x_want rfl rfl rfl ?_
   refine x_v (r_fa fo31_0 rfl) rfl ?_
   refine x_want rfl rfl rfl ?_
   refine x_v (r_ld ty3 rfl pK (by rfl)) rfl ?_
   refine x_want rfl rfl rfl ?_
   refine x_v (r_eq rfl rfl) rfl ?_
   refine x_want rfl rfl rfl ?_
   refine x_v (r_fa fo31_1 rfl) rfl ?_
   refine x_want rfl rfl rfl ?_
   refine x_v (r_ld ty3 rfl pK (by rfl)) rfl ?_
   refine x_want rfl rfl rfl ?_
   refine x_v (r_eq rfl rfl) rfl ?_
   refine x_want rfl rfl rfl ?_
   refine x_v (r_beq Try.underlying4 rfl rfl) rfl ?_
   refine x_v (r_pk_t rfl rfl) rfl ?_
   refine x_v (r_as rfl) rfl ?_
   refine XL.nil ?_
   refine hK2 _ _ ?_
   refine XC.keep [(2, _)] ⟨rfl, trivial⟩ ?_
   refine XC.ret ?_
   exact fin1 rfl (⟨congrArg Value.bool (by rw [Bool.beq_eq_decide_eq, decide_eq_decide, decide_eq_decide]; unfold placeOk; omega), rfl⟩) gS
  ·refine x_unwant rfl rfl rfl rfl rfl ?_
   refine x_unwant rfl rfl rfl rfl rfl ?_
   refine x_unwant rfl rfl rfl rfl rfl ?_
   refine x_unwant rfl rfl rfl rfl rfl ?_
   refine x_unwant rfl rfl rfl rfl rfl ?_
   refine x_unwant rfl rfl rfl rfl rfl ?_
   refine x_unwant rfl rfl rfl rfl rfl ?_
   refine x_v (r_pk_f rfl rfl) rfl ?_
   refine x_v (r_as rfl) rfl ?_
   refine XL.nil ?_
   refine hK2 _ _ ?_
   refine XC.keep [(2, _)] ⟨rfl, trivial⟩ ?_
   refine XC.ret ?_
   exact fin1 rfl (⟨congrArg Value.bool (decide_eq_false (by unfold placeOk; omega)).symm, rfl⟩) gS
 ·refine x_unwant rfl rfl rfl rfl rfl ?_
  refine x_unwant rfl rfl rfl rfl rfl ?_
  refine x_unwant rfl rfl rfl rfl rfl ?_
  refine x_unwant rfl rfl rfl rfl rfl ?_
  refine x_v (r_pk_f rfl rfl) rfl ?_
  refine x_v (r_mv rfl) rfl ?_
  refine x_unwant rfl rfl rfl rfl rfl ?_
  refine x_unwant rfl rfl rfl rfl rfl ?_
  refine x_unwant rfl rfl rfl rfl rfl ?_
  refine x_unwant rfl rfl rfl rfl rfl ?_
  refine x_unwant rfl rfl rfl rfl rfl ?_
  refine x_unwant rfl rfl rfl rfl rfl ?_
  refine x_unwant rfl rfl rfl rfl rfl ?_
  refine x_v (r_pk_f rfl rfl) rfl ?_
  refine x_v (r_as rfl) rfl ?_
  refine XL.nil ?_
  refine hK2 _ _ ?_
  refine XC.keep [(2, _)] ⟨rfl, trivial⟩ ?_
  refine XC.ret ?_
  exact fin1 rfl (⟨congrArg Value.bool (decide_eq_false (by unfold placeOk; omega)).symm, rfl⟩) gS
def grantOk (m : Mal) : Prop := m.term = 0 ∧ m.index = 0 ∧ m.prev = 0 ∧ m.commit = 0 ∧ m.es.length = 0 ∧ m.good = false ∧ 0 ≤ m.site ∧ m.site ≤ 1 ∧ 0 ≤ m.epoch ∧ m.epoch ≤ 16 ∧ m.at1 = 0 ∧ m.at2 = 0 ∧ m.w1 = 0 ∧ m.w2 = 0 ∧ m.hs.length = 0 ∧ m.data.length = 0 ∧ m.ops.length = 0 ∧ m.ho.length = 0 ∧ (0 < m.epoch ∨ m.site = 0)
instance (m : Mal) : Decidable (grantOk m) := by unfold grantOk; infer_instance
/-- Lists that came in are not longer than memory is. -/
def Lens (m : Mal) : Prop := m.es.length ≤ 140737488355328 ∧ m.hs.length ≤ 140737488355328 ∧ m.ho.length ≤ 140737488355328 ∧ m.ops.length ≤ 140737488355328 ∧ m.data.length ≤ 140737488355328
theorem gno (m : Mal) (h : ¬ grantOk m) : Value.bool false = .bool (decide (grantOk m)) := by rw [decide_eq_false h]
theorem gyes (m : Mal) (h : grantOk m) : Value.bool true = .bool (decide (grantOk m)) := by rw [decide_eq_true h]
theorem other_tr {W0 : World} {Fr : List HP} (m : Mal) (hk : m.kind = 12) (hl : Lens m) : Tr W0 Try.prog 61 [.agg (mac m).toArray] Fr (fun v Rs' => v = .bool (decide (grantOk m)) ∧ Rs' = Fr) := by
 obtain ⟨hl1, hl2, hl3, hl4, hl5⟩ := hl
 refine Entry.tr (N := 249) (rs := [.tmp 2]) ⟨_, Try.func61, rfl, by kernel_rfl, rfl, rfl⟩ rfl ?_
 refine XC.seq fun K1 hK1 => ?_
 refine XC.region ?_
 refine x_a (r_bx rfl rfl) rfl fun b1 => ?_
 unfold mac
 refine x_v (r_as rfl) rfl ?_
 refine XL.nil ?_
 refine hK1 _ _ ?_
 refine XC.keep [(1, _)] ⟨rfl, trivial⟩ ?_
 refine XC.seq fun K2 hK2 => ?_
 refine XC.seq fun K3 hK3 => ?_
 refine XC.region ?_
 refine x_v (r_fa fo35_1 rfl) rfl ?_
 refine x_v (r_ld ty3 rfl pK (by rfl)) rfl ?_
 refine x_v (r_ne rfl rfl) rfl ?_
 refine x_v (r_mv rfl) rfl ?_
 refine XL.splitd 14 rfl (fun hg14 => ?_) (fun hg14 => ?_)
 ·refine x_unwant rfl rfl rfl rfl rfl ?_
  refine x_unwant rfl rfl rfl rfl rfl ?_
  refine x_unwant rfl rfl rfl rfl rfl ?_
  refine x_v (r_pk_t rfl rfl) rfl ?_
  refine x_v (r_mv rfl) rfl ?_
  refine x_unwant rfl rfl rfl rfl rfl ?_
  refine x_unwant rfl rfl rfl rfl rfl ?_
  refine x_unwant rfl rfl rfl rfl rfl ?_
  refine x_v (r_pk_t rfl rfl) rfl ?_
  refine x_v (r_mv rfl) rfl ?_
  refine x_unwant rfl rfl rfl rfl rfl ?_
  refine x_unwant rfl rfl rfl rfl rfl ?_
  refine x_unwant rfl rfl rfl rfl rfl ?_
  refine x_v (r_pk_t rfl rfl) rfl ?_
  refine x_v (r_mv rfl) rfl ?_
  refine x_unwant rfl rfl rfl rfl rfl ?_
  refine x_unwant rfl rfl rfl rfl rfl ?_
  refine x_unwant rfl rfl rfl rfl rfl ?_
  refine x_unwant rfl rfl rfl rfl rfl ?_
  refine x_v (r_pk_t rfl rfl) rfl ?_
  refine XL.nil ?_
  refine hK3 _ _ ?_
  refine XC.keep [(1, _), (34, _)] ⟨rfl, rfl, trivial⟩ ?_
  refine XC.cond_t rfl ?_
  refine XC.seq fun K4 hK4 => ?_
  refine XC.region ?_
  refine x_v (r_as rfl) rfl ?_
  refine XL.nil ?_
  refine hK4 _ _ ?_
  refine XC.keep [(2, _)] ⟨rfl, trivial⟩ ?_
  refine XC.ret ?_
  exact fin1 rfl (⟨gno m (fun h => by unfold grantOk at h; (try unfold placeOk at *); first | omega | (obtain ⟨_, _, _, _, _, hgood, _⟩ := h; simp_all)), rfl⟩) gS
 ·refine x_want rfl rfl rfl ?_
  refine x_v (r_fa fo35_2 rfl) rfl ?_
  refine x_want rfl rfl rfl ?_
  refine x_v (r_ld ty3 rfl pK (by rfl)) rfl ?_
  refine x_want rfl rfl rfl ?_
  refine x_v (r_ne rfl rfl) rfl ?_
  refine x_v (r_pk_f rfl rfl) rfl ?_
  refine x_v (r_mv rfl) rfl ?_
  refine XL.splitd 19 rfl (fun hg19 => ?_) (fun hg19 => ?_)
  ·refine x_unwant rfl rfl rfl rfl rfl ?_
   refine x_unwant rfl rfl rfl rfl rfl ?_
   refine x_unwant rfl rfl rfl rfl rfl ?_
   refine x_v (r_pk_t rfl rfl) rfl ?_
   refine x_v (r_mv rfl) rfl ?_
   refine x_unwant rfl rfl rfl rfl rfl ?_
   refine x_unwant rfl rfl rfl rfl rfl ?_
   refine x_unwant rfl rfl rfl rfl rfl ?_
   refine x_v (r_pk_t rfl rfl) rfl ?_
   refine x_v (r_mv rfl) rfl ?_
   refine x_unwant rfl rfl rfl rfl rfl ?_
   refine x_unwant rfl rfl rfl rfl rfl ?_
   refine x_unwant rfl rfl rfl rfl rfl ?_
   refine x_unwant rfl rfl rfl rfl rfl ?_
   refine x_v (r_pk_t rfl rfl) rfl ?_
   refine XL.nil ?_
   refine hK3 _ _ ?_
   refine XC.keep [(1, _), (34, _)] ⟨rfl, rfl, trivial⟩ ?_
   refine XC.cond_t rfl ?_
   refine XC.seq fun K5 hK5 => ?_
   refine XC.region ?_
   refine x_v (r_as rfl) rfl ?_
   refine XL.nil ?_
   refine hK5 _ _ ?_
   refine XC.keep [(2, _)] ⟨rfl, trivial⟩ ?_
   refine XC.ret ?_
   exact fin1 rfl (⟨gno m (fun h => by unfold grantOk at h; (try unfold placeOk at *); first | omega | (obtain ⟨_, _, _, _, _, hgood, _⟩ := h; simp_all)), rfl⟩) gS
  ·refine x_want rfl rfl rfl ?_
   refine x_v (r_fa fo35_3 rfl) rfl ?_
   refine x_want rfl rfl rfl ?_
   refine x_v (r_ld ty3 rfl pK (by rfl)) rfl ?_
   refine x_want rfl rfl rfl ?_
   refine x_v (r_ne rfl rfl) rfl ?_
   refine x_v (r_pk_f rfl rfl) rfl ?_
   refine x_v (r_mv rfl) rfl ?_
   refine XL.splitd 24 rfl (fun hg24 => ?_) (fun hg24 => ?_)
   ·refine x_unwant rfl rfl rfl rfl rfl ?_
    refine x_unwant rfl rfl rfl rfl rfl ?_
    refine x_unwant rfl rfl rfl rfl rfl ?_
    refine x_v (r_pk_t rfl rfl) rfl ?_
    refine x_v (r_mv rfl) rfl ?_
    refine x_unwant rfl rfl rfl rfl rfl ?_
    refine x_unwant rfl rfl rfl rfl rfl ?_
    refine x_unwant rfl rfl rfl rfl rfl ?_
    refine x_unwant rfl rfl rfl rfl rfl ?_
    refine x_v (r_pk_t rfl rfl) rfl ?_
    refine XL.nil ?_
    refine hK3 _ _ ?_
    refine XC.keep [(1, _), (34, _)] ⟨rfl, rfl, trivial⟩ ?_
    refine XC.cond_t rfl ?_
    refine XC.seq fun K6 hK6 => ?_
    refine XC.region ?_
    refine x_v (r_as rfl) rfl ?_
    refine XL.nil ?_
    refine hK6 _ _ ?_
    refine XC.keep [(2, _)] ⟨rfl, trivial⟩ ?_
    refine XC.ret ?_
    exact fin1 rfl (⟨gno m (fun h => by unfold grantOk at h; (try unfold placeOk at *); first | omega | (obtain ⟨_, _, _, _, _, hgood, _⟩ := h; simp_all)), rfl⟩) gS
   ·refine x_want rfl rfl rfl ?_
    refine x_v (r_fa fo35_4 rfl) rfl ?_
    refine x_want rfl rfl rfl ?_
    refine x_v (r_ld ty3 rfl pK (by rfl)) rfl ?_
    refine x_want rfl rfl rfl ?_
    refine x_v (r_ne rfl rfl) rfl ?_
    refine x_v (r_pk_f rfl rfl) rfl ?_
    refine x_v (r_mv rfl) rfl ?_
    refine XL.splitd 29 rfl (fun hg29 => ?_) (fun hg29 => ?_)
    ·refine x_unwant rfl rfl rfl rfl rfl ?_
     refine x_unwant rfl rfl rfl rfl rfl ?_
     refine x_unwant rfl rfl rfl rfl rfl ?_
     refine x_unwant rfl rfl rfl rfl rfl ?_
     refine x_v (r_pk_t rfl rfl) rfl ?_
     refine XL.nil ?_
     refine hK3 _ _ ?_
     refine XC.keep [(1, _), (34, _)] ⟨rfl, rfl, trivial⟩ ?_
     refine XC.cond_t rfl ?_
     refine XC.seq fun K7 hK7 => ?_
     refine XC.region ?_
     refine x_v (r_as rfl) rfl ?_
     refine XL.nil ?_
     refine hK7 _ _ ?_
     refine XC.keep [(2, _)] ⟨rfl, trivial⟩ ?_
     refine XC.ret ?_
     exact fin1 rfl (⟨gno m (fun h => by unfold grantOk at h; (try unfold placeOk at *); first | omega | (obtain ⟨_, _, _, _, _, hgood, _⟩ := h; simp_all)), rfl⟩) gS
    ·refine x_want rfl rfl rfl ?_
     refine x_v (r_fa fo35_6 rfl) rfl ?_
     refine x_want rfl rfl rfl ?_
     refine x_v (r_ld ty28 rfl pK (by rfl)) rfl ?_
     refine x_want rfl rfl rfl ?_
     refine x_v (r_lensl Try.underlying28 rfl) rfl ?_
     refine x_want rfl rfl rfl ?_
     refine x_v (r_gt rfl rfl) rfl ?_
     refine x_v (r_pk_f rfl rfl) rfl ?_
     refine XL.nil ?_
     refine hK3 _ _ ?_
     refine XC.keep [(1, _), (34, _)] ⟨rfl, rfl, trivial⟩ ?_
     refine XC.cond_d rfl (fun hc5 => ?_) (fun hc5 => ?_)
     ·refine XC.seq fun K8 hK8 => ?_
      refine XC.region ?_
      refine x_v (r_as rfl) rfl ?_
      refine XL.nil ?_
      refine hK8 _ _ ?_
      refine XC.keep [(2, _)] ⟨rfl, trivial⟩ ?_
      refine XC.ret ?_
      exact fin1 rfl (⟨gno m (fun h => by unfold grantOk at h; (try unfold placeOk at *); first | omega | (obtain ⟨_, _, _, _, _, hgood, _⟩ := h; simp_all)), rfl⟩) gS
     ·refine XC.skip ?_
      refine hK2 _ _ ?_
      refine XC.keep [(1, _)] ⟨rfl, trivial⟩ ?_
      refine XC.seq fun K9 hK9 => ?_
      refine XC.draw [blk b1 35 [.int .i64 m.kind, .int .i64 m.term, .int .i64 m.index, .int .i64 m.prev, .int .i64 m.commit, .bool m.good, .slice m.eA m.es.length m.ec, str m.data, .slice m.hA m.hs.length m.hc, .int .i64 m.epoch, .int .i64 m.site, .int .i64 m.at1, .int .i64 m.at2, .int .i64 m.w1, .int .i64 m.w2, .slice m.oA m.ho.length m.oc, .slice m.pA m.ops.length m.pc]] false [(0, false), (1, false), (2, false), (3, false), (4, false), (5, false), (6, false), (7, false)] (by kernel_rfl) (by kernel_rfl) ?_
      refine y_v rfl (r_fa fo35_8 rfl) gT rfl ?_
      refine y_v rfl (r_ld ty29 rfl pK (by rfl)) gT rfl ?_
      refine y_v rfl (r_lensl Try.underlying29 rfl) gT rfl ?_
      refine y_v rfl (r_fa fo35_7 rfl) gT rfl ?_
      refine y_v rfl (r_ld ty9 rfl pK (by rfl)) gT rfl ?_
      refine y_v rfl (r_lens Try.underlying9 rfl) gT rfl ?_
      refine y_v rfl (r_as rfl) gT rfl ?_
      refine y_v rfl (r_as rfl) gT rfl ?_
      refine XH.nil ?_
      refine hK9 _ _ ?_
      refine XC.keep [(1, _), (3, _), (4, _)] ⟨rfl, rfl, rfl, trivial⟩ ?_
      refine XC.seqcut (σ := Bool) (fun s => [(1, .pointer (some ⟨b1, 0, none⟩)), (3, .int .i64 (m.hs.length : Int)), (4, .int .i64 (m.data.length : Int)), (5, .bool s)]) (fun s => blk b1 35 [.int .i64 m.kind, .int .i64 m.term, .int .i64 m.index, .int .i64 m.prev, .int .i64 m.commit, .bool m.good, .slice m.eA m.es.length m.ec, str m.data, .slice m.hA m.hs.length m.hc, .int .i64 m.epoch, .int .i64 m.site, .int .i64 m.at1, .int .i64 m.at2, .int .i64 m.w1, .int .i64 m.w2, .slice m.oA m.ho.length m.oc, .slice m.pA m.ops.length m.pc] :: Fr) (fun s => True) ?_ ?_
      ·refine XC.region ?_
       refine x_v (r_fa fo35_9 rfl) rfl ?_
       refine x_v (r_ld ty3 rfl pK (by rfl)) rfl ?_
       refine x_v (r_eq rfl rfl) rfl ?_
       refine x_v (r_mv rfl) rfl ?_
       refine XL.splitd 44 rfl (fun hg44 => ?_) (fun hg44 => ?_)
       ·refine x_want rfl rfl rfl ?_
        refine x_v (r_fa fo35_10 rfl) rfl ?_
        refine x_want rfl rfl rfl ?_
        refine x_v (r_ld ty3 rfl pK (by rfl)) rfl ?_
        refine x_want rfl rfl rfl ?_
        refine x_v (r_eq rfl rfl) rfl ?_
        refine x_v (r_pk_t rfl rfl) rfl ?_
        refine x_v (r_as rfl) rfl ?_
        refine XL.nil ?_
        exact ⟨_, trivial, ⟨rfl, rfl, rfl, rfl, trivial⟩, gS⟩
       ·refine x_unwant rfl rfl rfl rfl rfl ?_
        refine x_unwant rfl rfl rfl rfl rfl ?_
        refine x_unwant rfl rfl rfl rfl rfl ?_
        refine x_v (r_pk_f rfl rfl) rfl ?_
        refine x_v (r_as rfl) rfl ?_
        refine XL.nil ?_
        exact ⟨_, trivial, ⟨rfl, rfl, rfl, rfl, trivial⟩, gS⟩
      ·rintro nb _
       refine XC.seq fun K11 hK11 => ?_
       refine XC.region ?_
       refine x_v (r_mv rfl) rfl ?_
       refine x_v (r_mv rfl) rfl ?_
       refine x_v (r_add rfl rfl (by omega)) rfl ?_
       refine x_v (r_fa fo35_14 rfl) rfl ?_
       refine x_v (r_ld ty33 rfl pK (by rfl)) rfl ?_
       refine x_v (r_lensl Try.underlying33 rfl) rfl ?_
       refine x_v (r_add rfl rfl (by omega)) rfl ?_
       refine x_v (r_eq rfl rfl) rfl ?_
       refine x_v (r_as rfl) rfl ?_
       refine XL.nil ?_
       refine hK11 _ _ ?_
       refine XC.keep [(1, _), (3, _), (4, _), (5, _), (6, _)] ⟨rfl, rfl, rfl, rfl, rfl, trivial⟩ ?_
       refine XC.seq fun K12 hK12 => ?_
       refine XC.region ?_
       refine x_v (r_fa fo35_13 rfl) rfl ?_
       refine x_v (r_ld ty32 rfl pK (by rfl)) rfl ?_
       refine x_v (r_lensl Try.underlying32 rfl) rfl ?_
       refine x_v (r_eq rfl rfl) rfl ?_
       refine x_v (r_as rfl) rfl ?_
       refine XL.nil ?_
       refine hK12 _ _ ?_
       refine XC.keep [(1, _), (3, _), (4, _), (5, _), (6, _), (7, _)] ⟨rfl, rfl, rfl, rfl, rfl, rfl, trivial⟩ ?_
       refine XC.seqcut (σ := Bool) (fun s => [(1, .pointer (some ⟨b1, 0, none⟩)), (3, .int .i64 (m.hs.length : Int)), (4, .int .i64 (m.data.length : Int)), (5, .bool nb), (6, .bool (decide ((m.hs.length : Int) + m.data.length + m.ops.length = 0))), (7, .bool (decide ((m.ho.length : Int) = 0))), (8, .bool s)]) (fun s => blk b1 35 [.int .i64 m.kind, .int .i64 m.term, .int .i64 m.index, .int .i64 m.prev, .int .i64 m.commit, .bool m.good, .slice m.eA m.es.length m.ec, str m.data, .slice m.hA m.hs.length m.hc, .int .i64 m.epoch, .int .i64 m.site, .int .i64 m.at1, .int .i64 m.at2, .int .i64 m.w1, .int .i64 m.w2, .slice m.oA m.ho.length m.oc, .slice m.pA m.ops.length m.pc] :: Fr) (fun s => s = decide (m.at1 = 0 ∧ m.at2 = 0 ∧ m.w1 = 0 ∧ m.w2 = 0)) ?_ ?_
       ·refine XC.region ?_
        refine x_v (r_fa fo35_11 rfl) rfl ?_
        refine x_v (r_lda (l' := [_, _]) ty31 rfl pK rfl (Sub.get sU)) rfl ?_
        refine x_v (r_bd (vs := []) rfl rfl bd31_z) rfl ?_
        refine x_v (r_steq (by kernel_rfl) (fun w => eq31 _ _ _ _ w) rfl rfl) rfl ?_
        refine x_v (r_mv rfl) rfl ?_
        refine XL.splitd 65 rfl (fun hg65 => ?_) (fun hg65 => ?_)
        ·refine x_want rfl rfl rfl ?_
         refine x_v (r_fa fo35_12 rfl) rfl ?_
         refine x_want rfl rfl rfl ?_
         refine x_v (r_lda (l' := [_, _]) ty31 rfl pK rfl (Sub.get sU)) rfl ?_
         refine x_want rfl rfl rfl ?_
         refine x_v (r_bd (vs := []) rfl rfl bd31_z) rfl ?_
         refine x_want rfl rfl rfl ?_
         refine x_v (r_steq (by kernel_rfl) (fun w => eq31 _ _ _ _ w) rfl rfl) rfl ?_
         refine x_v (r_pk_t rfl rfl) rfl ?_
         refine x_v (r_as rfl) rfl ?_
         refine XL.nil ?_
         exact ⟨decide (m.w1 = 0 ∧ m.w2 = 0), decide_eq_decide.2 (by omega), ⟨rfl, rfl, rfl, rfl, rfl, rfl, rfl, trivial⟩, gS⟩
        ·refine x_unwant rfl rfl rfl rfl rfl ?_
         refine x_unwant rfl rfl rfl rfl rfl ?_
         refine x_unwant rfl rfl rfl rfl rfl ?_
         refine x_unwant rfl rfl rfl rfl rfl ?_
         refine x_v (r_pk_f rfl rfl) rfl ?_
         refine x_v (r_as rfl) rfl ?_
         refine XL.nil ?_
         exact ⟨false, (decide_eq_false (by omega)).symm, ⟨rfl, rfl, rfl, rfl, rfl, rfl, rfl, trivial⟩, gS⟩
       ·rintro nw hnw
        subst hnw
        refine XC.seq fun K14 hK14 => ?_
        refine XC.seq fun K15 hK15 => ?_
        refine XC.region ?_
        refine x_v (r_fa fo35_10 rfl) rfl ?_
        refine x_v (r_ld ty3 rfl pK (by rfl)) rfl ?_
        refine x_a (r_bs (vs := [_]) rfl ⟨rfl, rfl⟩ (bs32_1_0 _)) rfl fun b73 => ?_
        refine x_c (r_call0 (args := [_, _, _]) ⟨rfl, rfl, rfl, rfl⟩ (win1_tr m.site 0 1 b73) gS) rfl ?_
        rintro _ _ ⟨rfl, rfl⟩
        refine x_v (r_not_d rfl) rfl ?_
        refine x_v (r_mv rfl) rfl ?_
        refine XL.splitd 76 rfl (fun hg76 => ?_) (fun hg76 => ?_)
        ·refine x_unwant rfl rfl rfl rfl rfl ?_
         refine x_unwant rfl rfl rfl rfl rfl ?_
         refine x_unwant rfl rfl rfl rfl rfl ?_
         refine x_unwant rfl rfl rfl rfl rfl ?_
         refine x_unwant rfl rfl rfl rfl rfl ?_
         refine x_v (r_pk_t rfl rfl) rfl ?_
         refine x_v (r_mv rfl) rfl ?_
         refine x_unwant rfl rfl rfl rfl rfl ?_
         refine x_unwant rfl rfl rfl rfl rfl ?_
         refine x_unwant rfl rfl rfl rfl rfl ?_
         refine x_unwant rfl rfl rfl rfl rfl ?_
         refine x_v (r_pk_t rfl rfl) rfl ?_
         refine x_v (r_mv rfl) rfl ?_
         refine x_unwant rfl rfl rfl rfl rfl ?_
         refine x_unwant rfl rfl rfl rfl rfl ?_
         refine x_unwant rfl rfl rfl rfl rfl ?_
         refine x_unwant rfl rfl rfl rfl rfl ?_
         refine x_v (r_pk_t rfl rfl) rfl ?_
         refine x_v (r_mv rfl) rfl ?_
         refine x_unwant rfl rfl rfl rfl rfl ?_
         refine x_unwant rfl rfl rfl rfl rfl ?_
         refine x_unwant rfl rfl rfl rfl rfl ?_
         refine x_unwantu rfl rfl rfl rfl rfl ?_
         refine x_unwantu rfl rfl rfl rfl rfl ?_
         refine x_unwantu rfl rfl rfl rfl rfl ?_
         refine x_unwant rfl rfl rfl rfl rfl ?_
         refine x_v (r_pk_t rfl rfl) rfl ?_
         refine XL.nil ?_
         refine hK15 _ _ ?_
         refine XC.keep [(1, _), (3, _), (4, _), (5, _), (6, _), (7, _), (8, _), (103, _)] ⟨rfl, rfl, rfl, rfl, rfl, rfl, rfl, rfl, trivial⟩ ?_
         refine XC.cond_t rfl ?_
         refine XC.seq fun K16 hK16 => ?_
         refine XC.region ?_
         refine x_v (r_as rfl) rfl ?_
         refine XL.nil ?_
         refine hK16 _ _ ?_
         refine XC.keep [(2, _)] ⟨rfl, trivial⟩ ?_
         refine XC.ret ?_
         exact fin1 rfl (⟨gno m (fun h => by unfold grantOk at h; (try unfold placeOk at *); first | omega | (obtain ⟨_, _, _, _, _, hgood, _⟩ := h; simp_all)), rfl⟩) gS
        ·refine x_want rfl rfl rfl ?_
         refine x_v (r_fa fo35_9 rfl) rfl ?_
         refine x_want rfl rfl rfl ?_
         refine x_v (r_ld ty3 rfl pK (by rfl)) rfl ?_
         refine x_want rfl rfl rfl ?_
         refine x_a (r_bs (vs := [_]) rfl ⟨rfl, rfl⟩ (bs32_1_0 _)) rfl fun b79 => ?_
         refine x_want rfl rfl rfl ?_
         refine x_c (r_call0 (args := [_, _, _]) ⟨rfl, rfl, rfl, rfl⟩ (win1_tr m.epoch 0 16 b79) gS) rfl ?_
         rintro _ _ ⟨rfl, rfl⟩
         refine x_want rfl rfl rfl ?_
         refine x_v (r_not_d rfl) rfl ?_
         refine x_v (r_pk_f rfl rfl) rfl ?_
         refine x_v (r_mv rfl) rfl ?_
         refine XL.splitd 83 rfl (fun hg83 => ?_) (fun hg83 => ?_)
         ·refine x_unwant rfl rfl rfl rfl rfl ?_
          refine x_unwant rfl rfl rfl rfl rfl ?_
          refine x_unwant rfl rfl rfl rfl rfl ?_
          refine x_unwant rfl rfl rfl rfl rfl ?_
          refine x_v (r_pk_t rfl rfl) rfl ?_
          refine x_v (r_mv rfl) rfl ?_
          refine x_unwant rfl rfl rfl rfl rfl ?_
          refine x_unwant rfl rfl rfl rfl rfl ?_
          refine x_unwant rfl rfl rfl rfl rfl ?_
          refine x_unwant rfl rfl rfl rfl rfl ?_
          refine x_v (r_pk_t rfl rfl) rfl ?_
          refine x_v (r_mv rfl) rfl ?_
          refine x_unwant rfl rfl rfl rfl rfl ?_
          refine x_unwant rfl rfl rfl rfl rfl ?_
          refine x_unwant rfl rfl rfl rfl rfl ?_
          refine x_unwantu rfl rfl rfl rfl rfl ?_
          refine x_unwantu rfl rfl rfl rfl rfl ?_
          refine x_unwantu rfl rfl rfl rfl rfl ?_
          refine x_unwant rfl rfl rfl rfl rfl ?_
          refine x_v (r_pk_t rfl rfl) rfl ?_
          refine XL.nil ?_
          refine hK15 _ _ ?_
          refine XC.keep [(1, _), (3, _), (4, _), (5, _), (6, _), (7, _), (8, _), (103, _)] ⟨rfl, rfl, rfl, rfl, rfl, rfl, rfl, rfl, trivial⟩ ?_
          refine XC.cond_t rfl ?_
          refine XC.seq fun K17 hK17 => ?_
          refine XC.region ?_
          refine x_v (r_as rfl) rfl ?_
          refine XL.nil ?_
          refine hK17 _ _ ?_
          refine XC.keep [(2, _)] ⟨rfl, trivial⟩ ?_
          refine XC.ret ?_
          exact fin1 rfl (⟨gno m (fun h => by unfold grantOk at h; (try unfold placeOk at *); first | omega | (obtain ⟨_, _, _, _, _, hgood, _⟩ := h; simp_all)), rfl⟩) gS
         ·refine x_want rfl rfl rfl ?_
          refine x_v (r_fa fo35_11 rfl) rfl ?_
          refine x_want rfl rfl rfl ?_
          refine x_v (r_lda (l' := [_, _]) ty31 rfl pK rfl (Sub.get sU)) rfl ?_
          refine x_want rfl rfl rfl ?_
          refine x_c (r_call0 (args := [_]) ⟨rfl, rfl⟩ (place_tr m.at1 m.at2) gS) rfl ?_
          rintro _ _ ⟨rfl, rfl⟩
          refine x_want rfl rfl rfl ?_
          refine x_v (r_not_d rfl) rfl ?_
          refine x_v (r_pk_f rfl rfl) rfl ?_
          refine x_v (r_mv rfl) rfl ?_
          refine XL.splitd 89 rfl (fun hg89 => ?_) (fun hg89 => ?_)
          ·refine x_unwant rfl rfl rfl rfl rfl ?_
           refine x_unwant rfl rfl rfl rfl rfl ?_
           refine x_unwant rfl rfl rfl rfl rfl ?_
           refine x_unwant rfl rfl rfl rfl rfl ?_
           refine x_v (r_pk_t rfl rfl) rfl ?_
           refine x_v (r_mv rfl) rfl ?_
           refine x_unwant rfl rfl rfl rfl rfl ?_
           refine x_unwant rfl rfl rfl rfl rfl ?_
           refine x_unwant rfl rfl rfl rfl rfl ?_
           refine x_unwantu rfl rfl rfl rfl rfl ?_
           refine x_unwantu rfl rfl rfl rfl rfl ?_
           refine x_unwantu rfl rfl rfl rfl rfl ?_
           refine x_unwant rfl rfl rfl rfl rfl ?_
           refine x_v (r_pk_t rfl rfl) rfl ?_
           refine XL.nil ?_
           refine hK15 _ _ ?_
           refine XC.keep [(1, _), (3, _), (4, _), (5, _), (6, _), (7, _), (8, _), (103, _)] ⟨rfl, rfl, rfl, rfl, rfl, rfl, rfl, rfl, trivial⟩ ?_
           refine XC.cond_t rfl ?_
           refine XC.seq fun K18 hK18 => ?_
           refine XC.region ?_
           refine x_v (r_as rfl) rfl ?_
           refine XL.nil ?_
           refine hK18 _ _ ?_
           refine XC.keep [(2, _)] ⟨rfl, trivial⟩ ?_
           refine XC.ret ?_
           exact fin1 rfl (⟨gno m (fun h => by unfold grantOk at h; (try unfold placeOk at *); first | omega | (obtain ⟨_, _, _, _, _, hgood, _⟩ := h; simp_all)), rfl⟩) gS
          ·refine x_want rfl rfl rfl ?_
           refine x_v (r_fa fo35_12 rfl) rfl ?_
           refine x_want rfl rfl rfl ?_
           refine x_v (r_lda (l' := [_, _]) ty31 rfl pK rfl (Sub.get sU)) rfl ?_
           refine x_want rfl rfl rfl ?_
           refine x_c (r_call0 (args := [_]) ⟨rfl, rfl⟩ (place_tr m.w1 m.w2) gS) rfl ?_
           rintro _ _ ⟨rfl, rfl⟩
           refine x_want rfl rfl rfl ?_
           refine x_v (r_not_d rfl) rfl ?_
           refine x_v (r_pk_f rfl rfl) rfl ?_
           refine x_v (r_mv rfl) rfl ?_
           refine XL.splitd 95 rfl (fun hg95 => ?_) (fun hg95 => ?_)
           ·refine x_unwant rfl rfl rfl rfl rfl ?_
            refine x_unwant rfl rfl rfl rfl rfl ?_
            refine x_unwant rfl rfl rfl rfl rfl ?_
            refine x_unwantu rfl rfl rfl rfl rfl ?_
            refine x_unwantu rfl rfl rfl rfl rfl ?_
            refine x_unwantu rfl rfl rfl rfl rfl ?_
            refine x_unwant rfl rfl rfl rfl rfl ?_
            refine x_v (r_pk_t rfl rfl) rfl ?_
            refine XL.nil ?_
            refine hK15 _ _ ?_
            refine XC.keep [(1, _), (3, _), (4, _), (5, _), (6, _), (7, _), (8, _), (103, _)] ⟨rfl, rfl, rfl, rfl, rfl, rfl, rfl, rfl, trivial⟩ ?_
            refine XC.cond_t rfl ?_
            refine XC.seq fun K19 hK19 => ?_
            refine XC.region ?_
            refine x_v (r_as rfl) rfl ?_
            refine XL.nil ?_
            refine hK19 _ _ ?_
            refine XC.keep [(2, _)] ⟨rfl, trivial⟩ ?_
            refine XC.ret ?_
            exact fin1 rfl (⟨gno m (fun h => by unfold grantOk at h; (try unfold placeOk at *); first | omega | (obtain ⟨_, _, _, _, _, hgood, _⟩ := h; simp_all)), rfl⟩) gS
           ·refine x_want rfl rfl rfl ?_
            refine x_v (r_fa fo35_5 rfl) rfl ?_
            refine x_want rfl rfl rfl ?_
            refine x_v (r_ld ty4 rfl pK (by rfl)) rfl ?_
            refine x_want rfl rfl rfl ?_
            refine x_v (r_mv rfl) rfl ?_
            refine XL.split 98 rfl (fun hg98 => ?_) (fun hg98 => ?_)
            ·refine x_want rfl rfl rfl ?_
             refine x_v (r_fa fo35_0 rfl) rfl ?_
             refine x_want rfl rfl rfl ?_
             refine x_v (r_ld ty3 rfl pK (by rfl)) rfl ?_
             refine x_want rfl rfl rfl ?_
             refine x_v (r_ne rfl rfl) rfl ?_
             refine x_want rfl rfl rfl ?_
             refine x_v (r_pk_t rfl rfl) rfl ?_
             refine x_v (r_pk_f rfl rfl) rfl ?_
             refine XL.nil ?_
             refine hK15 _ _ ?_
             refine XC.keep [(1, _), (3, _), (4, _), (5, _), (6, _), (7, _), (8, _), (103, _)] ⟨rfl, rfl, rfl, rfl, rfl, rfl, rfl, rfl, trivial⟩ ?_
             refine XC.cond_d rfl (fun hc10 => ?_) (fun hc10 => ?_)
             ·refine XC.seq fun K20 hK20 => ?_
              refine XC.region ?_
              refine x_v (r_as rfl) rfl ?_
              refine XL.nil ?_
              refine hK20 _ _ ?_
              refine XC.keep [(2, _)] ⟨rfl, trivial⟩ ?_
              refine XC.ret ?_
              exact fin1 rfl (⟨gno m (fun h => by unfold grantOk at h; (try unfold placeOk at *); first | omega | (obtain ⟨_, _, _, _, _, hgood, _⟩ := h; simp_all)), rfl⟩) gS
             ·exfalso; omega
            ·refine x_unwant rfl rfl rfl rfl rfl ?_
             refine x_unwant rfl rfl rfl rfl rfl ?_
             refine x_unwant rfl rfl rfl rfl rfl ?_
             refine x_want rfl rfl rfl ?_
             refine x_v (r_pk_f rfl rfl) rfl ?_
             refine x_v (r_pk_f rfl rfl) rfl ?_
             refine XL.nil ?_
             refine hK15 _ _ ?_
             refine XC.keep [(1, _), (3, _), (4, _), (5, _), (6, _), (7, _), (8, _), (103, _)] ⟨rfl, rfl, rfl, rfl, rfl, rfl, rfl, rfl, trivial⟩ ?_
             refine XC.cond_f rfl ?_
             refine XC.skip ?_
             refine hK14 _ _ ?_
             refine XC.keep [(1, _), (3, _), (4, _), (5, _), (6, _), (7, _), (8, _)] ⟨rfl, rfl, rfl, rfl, rfl, rfl, rfl, trivial⟩ ?_
             refine XC.seq fun K21 hK21 => ?_
             refine XC.seq fun K22 hK22 => ?_
             refine XC.region ?_
             refine x_v (r_fa fo35_0 rfl) rfl ?_
             refine x_v (r_ld ty3 rfl pK (by rfl)) rfl ?_
             refine XL.nil ?_
             refine hK22 _ _ ?_
             refine XC.keep [(1, _), (3, _), (4, _), (5, _), (6, _), (7, _), (8, _), (105, _)] ⟨rfl, rfl, rfl, rfl, rfl, rfl, rfl, rfl, trivial⟩ ?_
             refine XC.block ?_
             refine XC.seq fun K23 hK23 => ?_
             refine XC.region ?_
             refine x_v (r_eq rfl rfl) rfl ?_
             refine x_v (r_as rfl) rfl ?_
             refine XL.nil ?_
             refine hK23 _ _ ?_
             refine XC.keep [(1, _), (3, _), (4, _), (5, _), (6, _), (7, _), (8, _), (105, _), (106, _)] ⟨rfl, rfl, rfl, rfl, rfl, rfl, rfl, rfl, rfl, trivial⟩ ?_
             refine XC.cond_d rfl (fun hc12 => ?_) (fun hc12 => ?_)
             ·exfalso; omega
             ·refine XC.seq fun K24 hK24 => ?_
              refine XC.region ?_
              refine x_v (r_eq rfl rfl) rfl ?_
              refine x_v (r_as rfl) rfl ?_
              refine XL.nil ?_
              refine hK24 _ _ ?_
              refine XC.keep [(1, _), (3, _), (4, _), (5, _), (6, _), (7, _), (8, _), (105, _), (126, _)] ⟨rfl, rfl, rfl, rfl, rfl, rfl, rfl, rfl, rfl, trivial⟩ ?_
              refine XC.cond_d rfl (fun hc13 => ?_) (fun hc13 => ?_)
              ·exfalso; omega
              ·refine XC.seq fun K25 hK25 => ?_
               refine XC.region ?_
               refine x_v (r_eq rfl rfl) rfl ?_
               refine x_v (r_as rfl) rfl ?_
               refine XL.nil ?_
               refine hK25 _ _ ?_
               refine XC.keep [(1, _), (3, _), (4, _), (5, _), (6, _), (7, _), (8, _), (105, _), (159, _)] ⟨rfl, rfl, rfl, rfl, rfl, rfl, rfl, rfl, rfl, trivial⟩ ?_
               refine XC.cond_d rfl (fun hc14 => ?_) (fun hc14 => ?_)
               ·exfalso; omega
               ·refine XC.seq fun K26 hK26 => ?_
                refine XC.region ?_
                refine x_v (r_eq rfl rfl) rfl ?_
                refine x_v (r_as rfl) rfl ?_
                refine XL.nil ?_
                refine hK26 _ _ ?_
                refine XC.keep [(1, _), (3, _), (4, _), (6, _), (7, _), (8, _), (105, _), (181, _)] ⟨rfl, rfl, rfl, rfl, rfl, rfl, rfl, rfl, trivial⟩ ?_
                refine XC.cond_d rfl (fun hc15 => ?_) (fun hc15 => ?_)
                ·exfalso; omega
                ·refine XC.seq fun K27 hK27 => ?_
                 refine XC.region ?_
                 refine x_v (r_eq rfl rfl) rfl ?_
                 refine x_v (r_as rfl) rfl ?_
                 refine XL.nil ?_
                 refine hK27 _ _ ?_
                 refine XC.keep [(1, _), (6, _), (7, _), (8, _), (105, _), (200, _)] ⟨rfl, rfl, rfl, rfl, rfl, rfl, trivial⟩ ?_
                 refine XC.cond_d rfl (fun hc16 => ?_) (fun hc16 => ?_)
                 ·exfalso; omega
                 ·refine XC.seq fun K28 hK28 => ?_
                  refine XC.region ?_
                  refine x_v (r_eq rfl rfl) rfl ?_
                  refine x_v (r_as rfl) rfl ?_
                  refine XL.nil ?_
                  refine hK28 _ _ ?_
                  refine XC.keep [(1, _), (6, _), (7, _), (8, _), (105, _), (221, _)] ⟨rfl, rfl, rfl, rfl, rfl, rfl, trivial⟩ ?_
                  refine XC.cond_d rfl (fun hc17 => ?_) (fun hc17 => ?_)
                  ·exfalso; omega
                  ·refine XC.seq fun K29 hK29 => ?_
                   refine XC.region ?_
                   refine x_v (r_eq rfl rfl) rfl ?_
                   refine x_v (r_as rfl) rfl ?_
                   refine XL.nil ?_
                   refine hK29 _ _ ?_
                   refine XC.keep [(1, _), (6, _), (7, _), (8, _), (230, _)] ⟨rfl, rfl, rfl, rfl, rfl, trivial⟩ ?_
                   refine XC.cond_d rfl (fun hc18 => ?_) (fun hc18 => ?_)
                   ·refine XC.seq fun K30 hK30 => ?_
                    refine XC.region ?_
                    refine x_v (r_mv rfl) rfl ?_
                    refine x_v (r_mv rfl) rfl ?_
                    refine XL.splitd 233 rfl (fun hg233 => ?_) (fun hg233 => ?_)
                    ·refine x_want rfl rfl rfl ?_
                     refine x_v (r_mv rfl) rfl ?_
                     refine x_v (r_pk_t rfl rfl) rfl ?_
                     refine x_v (r_mv rfl) rfl ?_
                     refine XL.splitd 236 rfl (fun hg236 => ?_) (fun hg236 => ?_)
                     ·refine x_want rfl rfl rfl ?_
                      refine x_v (r_mv rfl) rfl ?_
                      refine x_v (r_pk_t rfl rfl) rfl ?_
                      refine x_v (r_mv rfl) rfl ?_
                      refine XL.splitd 239 rfl (fun hg239 => ?_) (fun hg239 => ?_)
                      ·refine x_want rfl rfl rfl ?_
                       refine x_v (r_fa fo35_9 rfl) rfl ?_
                       refine x_want rfl rfl rfl ?_
                       refine x_v (r_ld ty3 rfl pK (by rfl)) rfl ?_
                       refine x_want rfl rfl rfl ?_
                       refine x_v (r_gt rfl rfl) rfl ?_
                       refine x_want rfl rfl rfl ?_
                       refine x_v (r_mv rfl) rfl ?_
                       refine XL.splitd 243 rfl (fun hg243 => ?_) (fun hg243 => ?_)
                       ·refine x_unwant rfl rfl rfl rfl rfl ?_
                        refine x_unwant rfl rfl rfl rfl rfl ?_
                        refine x_unwant rfl rfl rfl rfl rfl ?_
                        refine x_want rfl rfl rfl ?_
                        refine x_v (r_pk_t rfl rfl) rfl ?_
                        refine x_v (r_pk_t rfl rfl) rfl ?_
                        refine x_v (r_as rfl) rfl ?_
                        refine XL.nil ?_
                        refine hK30 _ _ ?_
                        refine XC.keep [(2, _)] ⟨rfl, trivial⟩ ?_
                        refine XC.ret ?_
                        exact fin1 rfl (⟨gyes m ⟨by omega, by omega, by omega, by omega, by omega, hg98, by omega, by omega, by omega, by omega, by omega, by omega, by omega, by omega, by omega, by omega, by omega, by omega, by omega⟩, rfl⟩) gS
                       ·refine x_want rfl rfl rfl ?_
                        refine x_v (r_fa fo35_10 rfl) rfl ?_
                        refine x_want rfl rfl rfl ?_
                        refine x_v (r_ld ty3 rfl pK (by rfl)) rfl ?_
                        refine x_want rfl rfl rfl ?_
                        refine x_v (r_eq rfl rfl) rfl ?_
                        refine x_want rfl rfl rfl ?_
                        refine x_v (r_pk_f rfl rfl) rfl ?_
                        refine x_v (r_pk_t rfl rfl) rfl ?_
                        refine x_v (r_as rfl) rfl ?_
                        refine XL.nil ?_
                        refine hK30 _ _ ?_
                        refine XC.keep [(2, _)] ⟨rfl, trivial⟩ ?_
                        refine XC.ret ?_
                        exact fin1 rfl (⟨congrArg Value.bool (decide_eq_decide.2 ⟨fun h => ⟨by omega, by omega, by omega, by omega, by omega, hg98, by omega, by omega, by omega, by omega, by omega, by omega, by omega, by omega, by omega, by omega, by omega, by omega, by omega⟩, fun h => by unfold grantOk at h; omega⟩), rfl⟩) gS
                      ·refine x_unwant rfl rfl rfl rfl rfl ?_
                       refine x_unwant rfl rfl rfl rfl rfl ?_
                       refine x_unwant rfl rfl rfl rfl rfl ?_
                       refine x_unwant rfl rfl rfl rfl rfl ?_
                       refine x_unwantu rfl rfl rfl rfl rfl ?_
                       refine x_unwantu rfl rfl rfl rfl rfl ?_
                       refine x_unwantu rfl rfl rfl rfl rfl ?_
                       refine x_unwant rfl rfl rfl rfl rfl ?_
                       refine x_v (r_pk_f rfl rfl) rfl ?_
                       refine x_v (r_as rfl) rfl ?_
                       refine XL.nil ?_
                       refine hK30 _ _ ?_
                       refine XC.keep [(2, _)] ⟨rfl, trivial⟩ ?_
                       refine XC.ret ?_
                       exact fin1 rfl (⟨gno m (fun h => by unfold grantOk at h; (try unfold placeOk at *); first | omega | (obtain ⟨_, _, _, _, _, hgood, _⟩ := h; simp_all)), rfl⟩) gS
                     ·refine x_unwant rfl rfl rfl rfl rfl ?_
                      refine x_v (r_pk_f rfl rfl) rfl ?_
                      refine x_v (r_mv rfl) rfl ?_
                      refine x_unwant rfl rfl rfl rfl rfl ?_
                      refine x_unwant rfl rfl rfl rfl rfl ?_
                      refine x_unwant rfl rfl rfl rfl rfl ?_
                      refine x_unwant rfl rfl rfl rfl rfl ?_
                      refine x_unwantu rfl rfl rfl rfl rfl ?_
                      refine x_unwantu rfl rfl rfl rfl rfl ?_
                      refine x_unwantu rfl rfl rfl rfl rfl ?_
                      refine x_unwant rfl rfl rfl rfl rfl ?_
                      refine x_v (r_pk_f rfl rfl) rfl ?_
                      refine x_v (r_as rfl) rfl ?_
                      refine XL.nil ?_
                      refine hK30 _ _ ?_
                      refine XC.keep [(2, _)] ⟨rfl, trivial⟩ ?_
                      refine XC.ret ?_
                      exact fin1 rfl (⟨gno m (fun h => by unfold grantOk at h; (try unfold placeOk at *); first | omega | (obtain ⟨_, _, _, _, _, hgood, _⟩ := h; simp_all)), rfl⟩) gS
                    ·refine x_unwant rfl rfl rfl rfl rfl ?_
                     refine x_v (r_pk_f rfl rfl) rfl ?_
                     refine x_v (r_mv rfl) rfl ?_
                     refine x_unwant rfl rfl rfl rfl rfl ?_
                     refine x_v (r_pk_f rfl rfl) rfl ?_
                     refine x_v (r_mv rfl) rfl ?_
                     refine x_unwant rfl rfl rfl rfl rfl ?_
                     refine x_unwant rfl rfl rfl rfl rfl ?_
                     refine x_unwant rfl rfl rfl rfl rfl ?_
                     refine x_unwant rfl rfl rfl rfl rfl ?_
                     refine x_unwantu rfl rfl rfl rfl rfl ?_
                     refine x_unwantu rfl rfl rfl rfl rfl ?_
                     refine x_unwantu rfl rfl rfl rfl rfl ?_
                     refine x_unwant rfl rfl rfl rfl rfl ?_
                     refine x_v (r_pk_f rfl rfl) rfl ?_
                     refine x_v (r_as rfl) rfl ?_
                     refine XL.nil ?_
                     refine hK30 _ _ ?_
                     refine XC.keep [(2, _)] ⟨rfl, trivial⟩ ?_
                     refine XC.ret ?_
                     exact fin1 rfl (⟨gno m (fun h => by unfold grantOk at h; (try unfold placeOk at *); first | omega | (obtain ⟨_, _, _, _, _, hgood, _⟩ := h; simp_all)), rfl⟩) gS
                   ·exfalso; omega
end Go.Proofs.Ytheilpcbilnadaa

/- Scripts: the reference's small functions (47, 54) and the bound (28). -/
import Derived.Test.YtdppjmdjmbbclaaScript3
namespace Go.Proofs.Ytdppjmdjmbbclaa
open Go.Sx
set_option linter.unusedVariables false

def kz (s : List UInt8) : List Int := s.map fun b => (b.toNat : Int)
theorem kz_len (s : List UInt8) : (kz s).length = s.length := by simp [kz]
theorem keeps_tr {W0 : World} {Fr : List HP} (s : List UInt8) (hs : s.length ≤ 1000000) :
    Tr W0 Try.prog 47 [str s] Fr (fun v Rs' => ∃ A c, v = .slice A s.length c ∧ Rs' = sl A s.length c 3 1 (iv (kz s)) :: Fr) := by
  refine Entry.tr (N := 19) (rs := [.tmp 2]) ⟨_, Try.func47, rfl, by kernel_rfl, rfl, rfl⟩ rfl ?_
  refine XC.seq fun K1 hK1 => ?_
  refine XC.region ?_
  refine x_v (r_as rfl) rfl ?_
  refine XL.nil ?_
  refine hK1 _ _ ?_
  refine XC.keep [(0, _)] ⟨rfl, trivial⟩ ?_
  refine XC.seq fun K2 hK2 => ?_
  refine XC.region ?_
  refine x_v (r_as rfl) rfl ?_
  refine XL.nil ?_
  refine hK2 _ _ ?_
  refine XC.keep [(0, _), (3, _)] ⟨rfl, rfl, trivial⟩ ?_
  refine XC.seq fun K3 hK3 => ?_
  refine XC.seq fun K4 hK4 => ?_
  refine XC.nil_ 3 1 ?_
  refine XC.region ?_
  refine x_v (r_as rfl) rfl ?_
  refine XL.nil ?_
  refine hK4 _ _ ?_
  refine XC.keep [(0, _), (3, _), (4, _)] ⟨rfl, rfl, rfl, trivial⟩ ?_
  refine XC.block ?_
  refine XC.loop (σ := Nat × Option Addr × Nat) (fun s1 => [(0, str s), (3, .slice s1.2.1 s1.1 s1.2.2), (4, .int .i64 (s1.1 : Int))]) (fun s1 => sl s1.2.1 s1.1 s1.2.2 3 1 (iv (kz (s.take s1.1))) :: Fr) (fun s1 => s1.1 ≤ s.length) (fun s1 => s.length - s1.1) (0, none, 0) ?_ ⟨rfl, rfl, rfl, trivial⟩ (by repeat (first | exact Gets.done _ | exact Gets.all _ | (apply Gets.step; focus ((repeat (first | exact Pick.head _ _ | apply Pick.tail)); done)) | apply Gets.drop)) ?_
  · exact Nat.zero_le _
  rintro ⟨i, A, c⟩ hi
  dsimp only at hi ⊢
  refine XC.seq fun K5 hK5 => ?_
  refine XC.seq fun K6 hK6 => ?_
  refine XC.region ?_
  refine x_v (r_mv rfl) rfl ?_
  refine x_v (r_mv rfl) rfl ?_
  refine x_v (r_lens Try.underlying9 rfl) rfl ?_
  refine x_v (r_lt rfl rfl) rfl ?_
  refine XL.nil ?_
  refine hK6 _ _ ?_
  refine XC.keep [(0, _), (3, _), (4, _), (8, _)] ⟨rfl, rfl, rfl, rfl, trivial⟩ ?_
  refine XC.cond_d rfl (fun hc1 => ?_) (fun hc1 => ?_)
  · refine XC.skip ?_
    refine hK5 _ _ ?_
    refine XC.keep [(0, _), (3, _), (4, _)] ⟨rfl, rfl, rfl, trivial⟩ ?_
    refine XC.seq fun K7 hK7 => ?_
    refine XC.block ?_
    obtain ⟨ch, ho⟩ : ∃ ch, s[i]? = some ch := ⟨_, List.getElem?_eq_getElem (by omega)⟩
    have hch := UInt8.toNat_lt ch
    refine XC.region ?_
    refine x_v (r_mv rfl) rfl ?_
    refine x_v (r_mv rfl) rfl ?_
    refine x_v (r_mv rfl) rfl ?_
    refine x_v (r_six (k := i) Try.underlying9 rfl rfl (by omega) ho) rfl ?_
    refine x_v (r_cvn Try.underlying5 Try.underlying3 rfl (by rw [IntKind.wrap_i64]; omega)) rfl ?_
    refine x_a (r_bs (vs := [_]) rfl ⟨rfl, rfl⟩ (bs40_1_0 _)) rfl fun b16 => ?_
    refine x_a (r_app Try.underlying40 ty3 rfl (by decide) rfl rfl (by repeat (first | exact Pick.head _ _ | apply Pick.tail)) (Rdb.of_blk (b := b16) (n := 1) (sz := 1) (xs := [.int .i64 (ch.toNat : Int)]) (by repeat (first | exact Pick.head _ _ | apply Pick.tail)) 0 rfl (fun _ _ h => by rw [Nat.zero_add]; exact h)) rfl (by unfold maxLen; omega) (by omega)) rfl fun ⟨A17, c17⟩ => ?_
    dsimp only
    rw [show iv (kz (s.take i)) ++ [.int .i64 (ch.toNat : Int)] = iv (kz (s.take (i + 1))) by rw [tk_snoc ho]; simp [kz, iv]]
    refine x_v (r_as rfl) rfl ?_
    refine XL.nil ?_
    refine hK7 _ _ ?_
    refine XC.keep [(0, _), (3, _), (4, _)] ⟨rfl, rfl, rfl, trivial⟩ ?_
    refine XC.region ?_
    refine x_v (r_mv rfl) rfl ?_
    refine x_v (r_add rfl rfl (by omega)) rfl ?_
    refine x_v (r_as rfl) rfl ?_
    refine XL.nil ?_
    refine ⟨(i + 1, A17, c17), ?_, ?_, ⟨rfl, rfl, rfl, trivial⟩, (by repeat (first | exact Gets.done _ | exact Gets.all _ | (apply Gets.step; focus ((repeat (first | exact Pick.head _ _ | apply Pick.tail)); done)) | apply Gets.drop))⟩
    · dsimp only; omega
    · dsimp only; omega
  · refine XC.exit rfl ?_
    refine hK3 _ _ ?_
    refine XC.keep [(3, _)] ⟨rfl, trivial⟩ ?_
    refine XC.seq fun K8 hK8 => ?_
    refine XC.region ?_
    refine x_v (r_mv rfl) rfl ?_
    refine x_v (r_as rfl) rfl ?_
    refine XL.nil ?_
    refine hK8 _ _ ?_
    refine XC.keep [(2, _)] ⟨rfl, trivial⟩ ?_
    refine XC.ret ?_
    obtain rfl : i = s.length := by omega
    rw [List.take_length]
    exact fin1 rfl (⟨_, _, rfl, rfl⟩) (by repeat (first | exact Gets.done _ | exact Gets.all _ | (apply Gets.step; focus ((repeat (first | exact Pick.head _ _ | apply Pick.tail)); done)) | apply Gets.drop))

def rowS (k : Int) : List UInt8 := if k = 1 then [98, 98, 98, 98, 98, 98, 110, 100] else if k = 2 ∨ k = 3 ∨ k = 4 ∨ k = 9 ∨ k = 12 then [98] else if k = 5 ∨ k = 8 then [98, 98] else if k = 6 ∨ k = 7 then [98, 107] else if k = 10 then [98, 98, 112] else []
theorem row_tr {W0 : World} {Fr : List HP} (k : Int) : Tr W0 Try.prog 54 [.int .i64 k] Fr (fun v Rs' => v = str (rowS k) ∧ Rs' = Fr) := by
  refine Entry.tr (N := 20) (rs := [.tmp 2]) ⟨_, Try.func54, rfl, by kernel_rfl, rfl, rfl⟩ rfl ?_
  refine XC.seq fun K1 hK1 => ?_
  refine XC.region ?_
  refine x_v (r_as rfl) rfl ?_
  refine XL.nil ?_
  refine hK1 _ _ ?_
  refine XC.keep [(0, _)] ⟨rfl, trivial⟩ ?_
  refine XC.seq fun K2 hK2 => ?_
  refine XC.seq fun K3 hK3 => ?_
  refine XC.region ?_
  refine x_v (r_mv rfl) rfl ?_
  refine XL.nil ?_
  refine hK3 _ _ ?_
  refine XC.keep [(3, _)] ⟨rfl, trivial⟩ ?_
  refine XC.block ?_
  refine XC.seq fun K4 hK4 => ?_
  refine XC.region ?_
  refine x_v (r_eq rfl rfl) rfl ?_
  refine x_v (r_as rfl) rfl ?_
  refine XL.nil ?_
  refine hK4 _ _ ?_
  refine XC.keep [(3, _), (4, _)] ⟨rfl, rfl, trivial⟩ ?_
  refine XC.cond_d rfl (fun hc1 => ?_) (fun hc1 => ?_)
  · refine XC.seq fun K5 hK5 => ?_
    refine XC.region ?_
    refine x_v (r_as rfl) rfl ?_
    refine XL.nil ?_
    refine hK5 _ _ ?_
    refine XC.keep [(2, _)] ⟨rfl, trivial⟩ ?_
    refine XC.ret ?_
    exact fin1 rfl (⟨(by first | (exfalso; omega) | (unfold rowS; repeat (first | rw [if_pos (by omega)] | rw [if_neg (by omega)]))), rfl⟩) (by repeat (first | exact Gets.done _ | exact Gets.all _ | (apply Gets.step; focus ((repeat (first | exact Pick.head _ _ | apply Pick.tail)); done)) | apply Gets.drop))
  · refine XC.seq fun K6 hK6 => ?_
    refine XC.seq fun K7 hK7 => ?_
    refine XC.region ?_
    refine x_v (r_eq rfl rfl) rfl ?_
    refine x_v (r_as rfl) rfl ?_
    refine XL.nil ?_
    refine hK7 _ _ ?_
    refine XC.keep [(3, _), (6, _)] ⟨rfl, rfl, trivial⟩ ?_
    refine XC.cond_d rfl (fun hc2 => ?_) (fun hc2 => ?_)
    · refine XC.skip ?_
      refine hK6 _ _ ?_
      refine XC.keep [(3, _), (6, _)] ⟨rfl, rfl, trivial⟩ ?_
      refine XC.cond_d rfl (fun hc3 => ?_) (fun hc3 => ?_)
      · refine XC.seq fun K8 hK8 => ?_
        refine XC.region ?_
        refine x_v (r_as rfl) rfl ?_
        refine XL.nil ?_
        refine hK8 _ _ ?_
        refine XC.keep [(2, _)] ⟨rfl, trivial⟩ ?_
        refine XC.ret ?_
        exact fin1 rfl (⟨(by first | (exfalso; omega) | (unfold rowS; repeat (first | rw [if_pos (by omega)] | rw [if_neg (by omega)]))), rfl⟩) (by repeat (first | exact Gets.done _ | exact Gets.all _ | (apply Gets.step; focus ((repeat (first | exact Pick.head _ _ | apply Pick.tail)); done)) | apply Gets.drop))
      · refine XC.seq fun K9 hK9 => ?_
        refine XC.seq fun K10 hK10 => ?_
        refine XC.region ?_
        refine x_v (r_eq rfl rfl) rfl ?_
        refine x_v (r_as rfl) rfl ?_
        refine XL.nil ?_
        refine hK10 _ _ ?_
        refine XC.keep [(3, _), (12, _)] ⟨rfl, rfl, trivial⟩ ?_
        refine XC.cond_d rfl (fun hc4 => ?_) (fun hc4 => ?_)
        · refine XC.skip ?_
          refine hK9 _ _ ?_
          refine XC.keep [(3, _), (12, _)] ⟨rfl, rfl, trivial⟩ ?_
          refine XC.cond_d rfl (fun hc5 => ?_) (fun hc5 => ?_)
          · refine XC.seq fun K11 hK11 => ?_
            refine XC.region ?_
            refine x_v (r_as rfl) rfl ?_
            refine XL.nil ?_
            refine hK11 _ _ ?_
            refine XC.keep [(2, _)] ⟨rfl, trivial⟩ ?_
            refine XC.ret ?_
            exact fin1 rfl (⟨(by first | (exfalso; omega) | (unfold rowS; repeat (first | rw [if_pos (by omega)] | rw [if_neg (by omega)]))), rfl⟩) (by repeat (first | exact Gets.done _ | exact Gets.all _ | (apply Gets.step; focus ((repeat (first | exact Pick.head _ _ | apply Pick.tail)); done)) | apply Gets.drop))
          · refine XC.seq fun K12 hK12 => ?_
            refine XC.seq fun K13 hK13 => ?_
            refine XC.region ?_
            refine x_v (r_eq rfl rfl) rfl ?_
            refine x_v (r_as rfl) rfl ?_
            refine XL.nil ?_
            refine hK13 _ _ ?_
            refine XC.keep [(3, _), (15, _)] ⟨rfl, rfl, trivial⟩ ?_
            refine XC.cond_d rfl (fun hc6 => ?_) (fun hc6 => ?_)
            · refine XC.skip ?_
              refine hK12 _ _ ?_
              refine XC.keep [(3, _), (15, _)] ⟨rfl, rfl, trivial⟩ ?_
              refine XC.cond_d rfl (fun hc7 => ?_) (fun hc7 => ?_)
              · refine XC.seq fun K14 hK14 => ?_
                refine XC.region ?_
                refine x_v (r_as rfl) rfl ?_
                refine XL.nil ?_
                refine hK14 _ _ ?_
                refine XC.keep [(2, _)] ⟨rfl, trivial⟩ ?_
                refine XC.ret ?_
                exact fin1 rfl (⟨(by first | (exfalso; omega) | (unfold rowS; repeat (first | rw [if_pos (by omega)] | rw [if_neg (by omega)]))), rfl⟩) (by repeat (first | exact Gets.done _ | exact Gets.all _ | (apply Gets.step; focus ((repeat (first | exact Pick.head _ _ | apply Pick.tail)); done)) | apply Gets.drop))
              · refine XC.seq fun K15 hK15 => ?_
                refine XC.region ?_
                refine x_v (r_eq rfl rfl) rfl ?_
                refine x_v (r_as rfl) rfl ?_
                refine XL.nil ?_
                refine hK15 _ _ ?_
                refine XC.keep [(18, _)] ⟨rfl, trivial⟩ ?_
                refine XC.cond_d rfl (fun hc8 => ?_) (fun hc8 => ?_)
                · refine XC.seq fun K16 hK16 => ?_
                  refine XC.region ?_
                  refine x_v (r_as rfl) rfl ?_
                  refine XL.nil ?_
                  refine hK16 _ _ ?_
                  refine XC.keep [(2, _)] ⟨rfl, trivial⟩ ?_
                  refine XC.ret ?_
                  exact fin1 rfl (⟨(by first | (exfalso; omega) | (unfold rowS; repeat (first | rw [if_pos (by omega)] | rw [if_neg (by omega)]))), rfl⟩) (by repeat (first | exact Gets.done _ | exact Gets.all _ | (apply Gets.step; focus ((repeat (first | exact Pick.head _ _ | apply Pick.tail)); done)) | apply Gets.drop))
                · refine XC.skip ?_
                  refine hK2 _ _ ?_
                  refine XC.keep [] trivial ?_
                  refine XC.seq fun K17 hK17 => ?_
                  refine XC.region ?_
                  refine x_v (r_as rfl) rfl ?_
                  refine XL.nil ?_
                  refine hK17 _ _ ?_
                  refine XC.keep [(2, _)] ⟨rfl, trivial⟩ ?_
                  refine XC.ret ?_
                  exact fin1 rfl (⟨(by first | (exfalso; omega) | (unfold rowS; repeat (first | rw [if_pos (by omega)] | rw [if_neg (by omega)]))), rfl⟩) (by repeat (first | exact Gets.done _ | exact Gets.all _ | (apply Gets.step; focus ((repeat (first | exact Pick.head _ _ | apply Pick.tail)); done)) | apply Gets.drop))
            · refine XC.region ?_
              refine x_v (r_eq rfl rfl) rfl ?_
              refine x_v (r_as rfl) rfl ?_
              refine XL.nil ?_
              refine hK12 _ _ ?_
              refine XC.keep [(3, _), (15, _)] ⟨rfl, rfl, trivial⟩ ?_
              refine XC.cond_d rfl (fun hc9 => ?_) (fun hc9 => ?_)
              · refine XC.seq fun K18 hK18 => ?_
                refine XC.region ?_
                refine x_v (r_as rfl) rfl ?_
                refine XL.nil ?_
                refine hK18 _ _ ?_
                refine XC.keep [(2, _)] ⟨rfl, trivial⟩ ?_
                refine XC.ret ?_
                exact fin1 rfl (⟨(by first | (exfalso; omega) | (unfold rowS; repeat (first | rw [if_pos (by omega)] | rw [if_neg (by omega)]))), rfl⟩) (by repeat (first | exact Gets.done _ | exact Gets.all _ | (apply Gets.step; focus ((repeat (first | exact Pick.head _ _ | apply Pick.tail)); done)) | apply Gets.drop))
              · refine XC.seq fun K19 hK19 => ?_
                refine XC.region ?_
                refine x_v (r_eq rfl rfl) rfl ?_
                refine x_v (r_as rfl) rfl ?_
                refine XL.nil ?_
                refine hK19 _ _ ?_
                refine XC.keep [(18, _)] ⟨rfl, trivial⟩ ?_
                refine XC.cond_d rfl (fun hc10 => ?_) (fun hc10 => ?_)
                · refine XC.seq fun K20 hK20 => ?_
                  refine XC.region ?_
                  refine x_v (r_as rfl) rfl ?_
                  refine XL.nil ?_
                  refine hK20 _ _ ?_
                  refine XC.keep [(2, _)] ⟨rfl, trivial⟩ ?_
                  refine XC.ret ?_
                  exact fin1 rfl (⟨(by first | (exfalso; omega) | (unfold rowS; repeat (first | rw [if_pos (by omega)] | rw [if_neg (by omega)]))), rfl⟩) (by repeat (first | exact Gets.done _ | exact Gets.all _ | (apply Gets.step; focus ((repeat (first | exact Pick.head _ _ | apply Pick.tail)); done)) | apply Gets.drop))
                · refine XC.skip ?_
                  refine hK2 _ _ ?_
                  refine XC.keep [] trivial ?_
                  refine XC.seq fun K21 hK21 => ?_
                  refine XC.region ?_
                  refine x_v (r_as rfl) rfl ?_
                  refine XL.nil ?_
                  refine hK21 _ _ ?_
                  refine XC.keep [(2, _)] ⟨rfl, trivial⟩ ?_
                  refine XC.ret ?_
                  exact fin1 rfl (⟨(by first | (exfalso; omega) | (unfold rowS; repeat (first | rw [if_pos (by omega)] | rw [if_neg (by omega)]))), rfl⟩) (by repeat (first | exact Gets.done _ | exact Gets.all _ | (apply Gets.step; focus ((repeat (first | exact Pick.head _ _ | apply Pick.tail)); done)) | apply Gets.drop))
        · refine XC.region ?_
          refine x_v (r_eq rfl rfl) rfl ?_
          refine x_v (r_as rfl) rfl ?_
          refine XL.nil ?_
          refine hK9 _ _ ?_
          refine XC.keep [(3, _), (12, _)] ⟨rfl, rfl, trivial⟩ ?_
          refine XC.cond_d rfl (fun hc11 => ?_) (fun hc11 => ?_)
          · refine XC.seq fun K22 hK22 => ?_
            refine XC.region ?_
            refine x_v (r_as rfl) rfl ?_
            refine XL.nil ?_
            refine hK22 _ _ ?_
            refine XC.keep [(2, _)] ⟨rfl, trivial⟩ ?_
            refine XC.ret ?_
            exact fin1 rfl (⟨(by first | (exfalso; omega) | (unfold rowS; repeat (first | rw [if_pos (by omega)] | rw [if_neg (by omega)]))), rfl⟩) (by repeat (first | exact Gets.done _ | exact Gets.all _ | (apply Gets.step; focus ((repeat (first | exact Pick.head _ _ | apply Pick.tail)); done)) | apply Gets.drop))
          · refine XC.seq fun K23 hK23 => ?_
            refine XC.seq fun K24 hK24 => ?_
            refine XC.region ?_
            refine x_v (r_eq rfl rfl) rfl ?_
            refine x_v (r_as rfl) rfl ?_
            refine XL.nil ?_
            refine hK24 _ _ ?_
            refine XC.keep [(3, _), (15, _)] ⟨rfl, rfl, trivial⟩ ?_
            refine XC.cond_d rfl (fun hc12 => ?_) (fun hc12 => ?_)
            · refine XC.skip ?_
              refine hK23 _ _ ?_
              refine XC.keep [(3, _), (15, _)] ⟨rfl, rfl, trivial⟩ ?_
              refine XC.cond_d rfl (fun hc13 => ?_) (fun hc13 => ?_)
              · refine XC.seq fun K25 hK25 => ?_
                refine XC.region ?_
                refine x_v (r_as rfl) rfl ?_
                refine XL.nil ?_
                refine hK25 _ _ ?_
                refine XC.keep [(2, _)] ⟨rfl, trivial⟩ ?_
                refine XC.ret ?_
                exact fin1 rfl (⟨(by first | (exfalso; omega) | (unfold rowS; repeat (first | rw [if_pos (by omega)] | rw [if_neg (by omega)]))), rfl⟩) (by repeat (first | exact Gets.done _ | exact Gets.all _ | (apply Gets.step; focus ((repeat (first | exact Pick.head _ _ | apply Pick.tail)); done)) | apply Gets.drop))
              · refine XC.seq fun K26 hK26 => ?_
                refine XC.region ?_
                refine x_v (r_eq rfl rfl) rfl ?_
                refine x_v (r_as rfl) rfl ?_
                refine XL.nil ?_
                refine hK26 _ _ ?_
                refine XC.keep [(18, _)] ⟨rfl, trivial⟩ ?_
                refine XC.cond_d rfl (fun hc14 => ?_) (fun hc14 => ?_)
                · refine XC.seq fun K27 hK27 => ?_
                  refine XC.region ?_
                  refine x_v (r_as rfl) rfl ?_
                  refine XL.nil ?_
                  refine hK27 _ _ ?_
                  refine XC.keep [(2, _)] ⟨rfl, trivial⟩ ?_
                  refine XC.ret ?_
                  exact fin1 rfl (⟨(by first | (exfalso; omega) | (unfold rowS; repeat (first | rw [if_pos (by omega)] | rw [if_neg (by omega)]))), rfl⟩) (by repeat (first | exact Gets.done _ | exact Gets.all _ | (apply Gets.step; focus ((repeat (first | exact Pick.head _ _ | apply Pick.tail)); done)) | apply Gets.drop))
                · refine XC.skip ?_
                  refine hK2 _ _ ?_
                  refine XC.keep [] trivial ?_
                  refine XC.seq fun K28 hK28 => ?_
                  refine XC.region ?_
                  refine x_v (r_as rfl) rfl ?_
                  refine XL.nil ?_
                  refine hK28 _ _ ?_
                  refine XC.keep [(2, _)] ⟨rfl, trivial⟩ ?_
                  refine XC.ret ?_
                  exact fin1 rfl (⟨(by first | (exfalso; omega) | (unfold rowS; repeat (first | rw [if_pos (by omega)] | rw [if_neg (by omega)]))), rfl⟩) (by repeat (first | exact Gets.done _ | exact Gets.all _ | (apply Gets.step; focus ((repeat (first | exact Pick.head _ _ | apply Pick.tail)); done)) | apply Gets.drop))
            · refine XC.region ?_
              refine x_v (r_eq rfl rfl) rfl ?_
              refine x_v (r_as rfl) rfl ?_
              refine XL.nil ?_
              refine hK23 _ _ ?_
              refine XC.keep [(3, _), (15, _)] ⟨rfl, rfl, trivial⟩ ?_
              refine XC.cond_d rfl (fun hc15 => ?_) (fun hc15 => ?_)
              · refine XC.seq fun K29 hK29 => ?_
                refine XC.region ?_
                refine x_v (r_as rfl) rfl ?_
                refine XL.nil ?_
                refine hK29 _ _ ?_
                refine XC.keep [(2, _)] ⟨rfl, trivial⟩ ?_
                refine XC.ret ?_
                exact fin1 rfl (⟨(by first | (exfalso; omega) | (unfold rowS; repeat (first | rw [if_pos (by omega)] | rw [if_neg (by omega)]))), rfl⟩) (by repeat (first | exact Gets.done _ | exact Gets.all _ | (apply Gets.step; focus ((repeat (first | exact Pick.head _ _ | apply Pick.tail)); done)) | apply Gets.drop))
              · refine XC.seq fun K30 hK30 => ?_
                refine XC.region ?_
                refine x_v (r_eq rfl rfl) rfl ?_
                refine x_v (r_as rfl) rfl ?_
                refine XL.nil ?_
                refine hK30 _ _ ?_
                refine XC.keep [(18, _)] ⟨rfl, trivial⟩ ?_
                refine XC.cond_d rfl (fun hc16 => ?_) (fun hc16 => ?_)
                · refine XC.seq fun K31 hK31 => ?_
                  refine XC.region ?_
                  refine x_v (r_as rfl) rfl ?_
                  refine XL.nil ?_
                  refine hK31 _ _ ?_
                  refine XC.keep [(2, _)] ⟨rfl, trivial⟩ ?_
                  refine XC.ret ?_
                  exact fin1 rfl (⟨(by first | (exfalso; omega) | (unfold rowS; repeat (first | rw [if_pos (by omega)] | rw [if_neg (by omega)]))), rfl⟩) (by repeat (first | exact Gets.done _ | exact Gets.all _ | (apply Gets.step; focus ((repeat (first | exact Pick.head _ _ | apply Pick.tail)); done)) | apply Gets.drop))
                · refine XC.skip ?_
                  refine hK2 _ _ ?_
                  refine XC.keep [] trivial ?_
                  refine XC.seq fun K32 hK32 => ?_
                  refine XC.region ?_
                  refine x_v (r_as rfl) rfl ?_
                  refine XL.nil ?_
                  refine hK32 _ _ ?_
                  refine XC.keep [(2, _)] ⟨rfl, trivial⟩ ?_
                  refine XC.ret ?_
                  exact fin1 rfl (⟨(by first | (exfalso; omega) | (unfold rowS; repeat (first | rw [if_pos (by omega)] | rw [if_neg (by omega)]))), rfl⟩) (by repeat (first | exact Gets.done _ | exact Gets.all _ | (apply Gets.step; focus ((repeat (first | exact Pick.head _ _ | apply Pick.tail)); done)) | apply Gets.drop))
    · refine XC.seq fun K33 hK33 => ?_
      refine XC.region ?_
      refine x_v (r_eq rfl rfl) rfl ?_
      refine x_v (r_as rfl) rfl ?_
      refine XL.nil ?_
      refine hK33 _ _ ?_
      refine XC.keep [(3, _), (6, _)] ⟨rfl, rfl, trivial⟩ ?_
      refine XC.cond_d rfl (fun hc17 => ?_) (fun hc17 => ?_)
      · refine XC.skip ?_
        refine hK6 _ _ ?_
        refine XC.keep [(3, _), (6, _)] ⟨rfl, rfl, trivial⟩ ?_
        refine XC.cond_d rfl (fun hc18 => ?_) (fun hc18 => ?_)
        · refine XC.seq fun K34 hK34 => ?_
          refine XC.region ?_
          refine x_v (r_as rfl) rfl ?_
          refine XL.nil ?_
          refine hK34 _ _ ?_
          refine XC.keep [(2, _)] ⟨rfl, trivial⟩ ?_
          refine XC.ret ?_
          exact fin1 rfl (⟨(by first | (exfalso; omega) | (unfold rowS; repeat (first | rw [if_pos (by omega)] | rw [if_neg (by omega)]))), rfl⟩) (by repeat (first | exact Gets.done _ | exact Gets.all _ | (apply Gets.step; focus ((repeat (first | exact Pick.head _ _ | apply Pick.tail)); done)) | apply Gets.drop))
        · refine XC.seq fun K35 hK35 => ?_
          refine XC.seq fun K36 hK36 => ?_
          refine XC.region ?_
          refine x_v (r_eq rfl rfl) rfl ?_
          refine x_v (r_as rfl) rfl ?_
          refine XL.nil ?_
          refine hK36 _ _ ?_
          refine XC.keep [(3, _), (12, _)] ⟨rfl, rfl, trivial⟩ ?_
          refine XC.cond_d rfl (fun hc19 => ?_) (fun hc19 => ?_)
          · refine XC.skip ?_
            refine hK35 _ _ ?_
            refine XC.keep [(3, _), (12, _)] ⟨rfl, rfl, trivial⟩ ?_
            refine XC.cond_d rfl (fun hc20 => ?_) (fun hc20 => ?_)
            · refine XC.seq fun K37 hK37 => ?_
              refine XC.region ?_
              refine x_v (r_as rfl) rfl ?_
              refine XL.nil ?_
              refine hK37 _ _ ?_
              refine XC.keep [(2, _)] ⟨rfl, trivial⟩ ?_
              refine XC.ret ?_
              exact fin1 rfl (⟨(by first | (exfalso; omega) | (unfold rowS; repeat (first | rw [if_pos (by omega)] | rw [if_neg (by omega)]))), rfl⟩) (by repeat (first | exact Gets.done _ | exact Gets.all _ | (apply Gets.step; focus ((repeat (first | exact Pick.head _ _ | apply Pick.tail)); done)) | apply Gets.drop))
            · refine XC.seq fun K38 hK38 => ?_
              refine XC.seq fun K39 hK39 => ?_
              refine XC.region ?_
              refine x_v (r_eq rfl rfl) rfl ?_
              refine x_v (r_as rfl) rfl ?_
              refine XL.nil ?_
              refine hK39 _ _ ?_
              refine XC.keep [(3, _), (15, _)] ⟨rfl, rfl, trivial⟩ ?_
              refine XC.cond_d rfl (fun hc21 => ?_) (fun hc21 => ?_)
              · refine XC.skip ?_
                refine hK38 _ _ ?_
                refine XC.keep [(3, _), (15, _)] ⟨rfl, rfl, trivial⟩ ?_
                refine XC.cond_d rfl (fun hc22 => ?_) (fun hc22 => ?_)
                · refine XC.seq fun K40 hK40 => ?_
                  refine XC.region ?_
                  refine x_v (r_as rfl) rfl ?_
                  refine XL.nil ?_
                  refine hK40 _ _ ?_
                  refine XC.keep [(2, _)] ⟨rfl, trivial⟩ ?_
                  refine XC.ret ?_
                  exact fin1 rfl (⟨(by first | (exfalso; omega) | (unfold rowS; repeat (first | rw [if_pos (by omega)] | rw [if_neg (by omega)]))), rfl⟩) (by repeat (first | exact Gets.done _ | exact Gets.all _ | (apply Gets.step; focus ((repeat (first | exact Pick.head _ _ | apply Pick.tail)); done)) | apply Gets.drop))
                · refine XC.seq fun K41 hK41 => ?_
                  refine XC.region ?_
                  refine x_v (r_eq rfl rfl) rfl ?_
                  refine x_v (r_as rfl) rfl ?_
                  refine XL.nil ?_
                  refine hK41 _ _ ?_
                  refine XC.keep [(18, _)] ⟨rfl, trivial⟩ ?_
                  refine XC.cond_d rfl (fun hc23 => ?_) (fun hc23 => ?_)
                  · refine XC.seq fun K42 hK42 => ?_
                    refine XC.region ?_
                    refine x_v (r_as rfl) rfl ?_
                    refine XL.nil ?_
                    refine hK42 _ _ ?_
                    refine XC.keep [(2, _)] ⟨rfl, trivial⟩ ?_
                    refine XC.ret ?_
                    exact fin1 rfl (⟨(by first | (exfalso; omega) | (unfold rowS; repeat (first | rw [if_pos (by omega)] | rw [if_neg (by omega)]))), rfl⟩) (by repeat (first | exact Gets.done _ | exact Gets.all _ | (apply Gets.step; focus ((repeat (first | exact Pick.head _ _ | apply Pick.tail)); done)) | apply Gets.drop))
                  · refine XC.skip ?_
                    refine hK2 _ _ ?_
                    refine XC.keep [] trivial ?_
                    refine XC.seq fun K43 hK43 => ?_
                    refine XC.region ?_
                    refine x_v (r_as rfl) rfl ?_
                    refine XL.nil ?_
                    refine hK43 _ _ ?_
                    refine XC.keep [(2, _)] ⟨rfl, trivial⟩ ?_
                    refine XC.ret ?_
                    exact fin1 rfl (⟨(by first | (exfalso; omega) | (unfold rowS; repeat (first | rw [if_pos (by omega)] | rw [if_neg (by omega)]))), rfl⟩) (by repeat (first | exact Gets.done _ | exact Gets.all _ | (apply Gets.step; focus ((repeat (first | exact Pick.head _ _ | apply Pick.tail)); done)) | apply Gets.drop))
              · refine XC.region ?_
                refine x_v (r_eq rfl rfl) rfl ?_
                refine x_v (r_as rfl) rfl ?_
                refine XL.nil ?_
                refine hK38 _ _ ?_
                refine XC.keep [(3, _), (15, _)] ⟨rfl, rfl, trivial⟩ ?_
                refine XC.cond_d rfl (fun hc24 => ?_) (fun hc24 => ?_)
                · refine XC.seq fun K44 hK44 => ?_
                  refine XC.region ?_
                  refine x_v (r_as rfl) rfl ?_
                  refine XL.nil ?_
                  refine hK44 _ _ ?_
                  refine XC.keep [(2, _)] ⟨rfl, trivial⟩ ?_
                  refine XC.ret ?_
                  exact fin1 rfl (⟨(by first | (exfalso; omega) | (unfold rowS; repeat (first | rw [if_pos (by omega)] | rw [if_neg (by omega)]))), rfl⟩) (by repeat (first | exact Gets.done _ | exact Gets.all _ | (apply Gets.step; focus ((repeat (first | exact Pick.head _ _ | apply Pick.tail)); done)) | apply Gets.drop))
                · refine XC.seq fun K45 hK45 => ?_
                  refine XC.region ?_
                  refine x_v (r_eq rfl rfl) rfl ?_
                  refine x_v (r_as rfl) rfl ?_
                  refine XL.nil ?_
                  refine hK45 _ _ ?_
                  refine XC.keep [(18, _)] ⟨rfl, trivial⟩ ?_
                  refine XC.cond_d rfl (fun hc25 => ?_) (fun hc25 => ?_)
                  · refine XC.seq fun K46 hK46 => ?_
                    refine XC.region ?_
                    refine x_v (r_as rfl) rfl ?_
                    refine XL.nil ?_
                    refine hK46 _ _ ?_
                    refine XC.keep [(2, _)] ⟨rfl, trivial⟩ ?_
                    refine XC.ret ?_
                    exact fin1 rfl (⟨(by first | (exfalso; omega) | (unfold rowS; repeat (first | rw [if_pos (by omega)] | rw [if_neg (by omega)]))), rfl⟩) (by repeat (first | exact Gets.done _ | exact Gets.all _ | (apply Gets.step; focus ((repeat (first | exact Pick.head _ _ | apply Pick.tail)); done)) | apply Gets.drop))
                  · refine XC.skip ?_
                    refine hK2 _ _ ?_
                    refine XC.keep [] trivial ?_
                    refine XC.seq fun K47 hK47 => ?_
                    refine XC.region ?_
                    refine x_v (r_as rfl) rfl ?_
                    refine XL.nil ?_
                    refine hK47 _ _ ?_
                    refine XC.keep [(2, _)] ⟨rfl, trivial⟩ ?_
                    refine XC.ret ?_
                    exact fin1 rfl (⟨(by first | (exfalso; omega) | (unfold rowS; repeat (first | rw [if_pos (by omega)] | rw [if_neg (by omega)]))), rfl⟩) (by repeat (first | exact Gets.done _ | exact Gets.all _ | (apply Gets.step; focus ((repeat (first | exact Pick.head _ _ | apply Pick.tail)); done)) | apply Gets.drop))
          · refine XC.region ?_
            refine x_v (r_eq rfl rfl) rfl ?_
            refine x_v (r_as rfl) rfl ?_
            refine XL.nil ?_
            refine hK35 _ _ ?_
            refine XC.keep [(3, _), (12, _)] ⟨rfl, rfl, trivial⟩ ?_
            refine XC.cond_d rfl (fun hc26 => ?_) (fun hc26 => ?_)
            · refine XC.seq fun K48 hK48 => ?_
              refine XC.region ?_
              refine x_v (r_as rfl) rfl ?_
              refine XL.nil ?_
              refine hK48 _ _ ?_
              refine XC.keep [(2, _)] ⟨rfl, trivial⟩ ?_
              refine XC.ret ?_
              exact fin1 rfl (⟨(by first | (exfalso; omega) | (unfold rowS; repeat (first | rw [if_pos (by omega)] | rw [if_neg (by omega)]))), rfl⟩) (by repeat (first | exact Gets.done _ | exact Gets.all _ | (apply Gets.step; focus ((repeat (first | exact Pick.head _ _ | apply Pick.tail)); done)) | apply Gets.drop))
            · refine XC.seq fun K49 hK49 => ?_
              refine XC.seq fun K50 hK50 => ?_
              refine XC.region ?_
              refine x_v (r_eq rfl rfl) rfl ?_
              refine x_v (r_as rfl) rfl ?_
              refine XL.nil ?_
              refine hK50 _ _ ?_
              refine XC.keep [(3, _), (15, _)] ⟨rfl, rfl, trivial⟩ ?_
              refine XC.cond_d rfl (fun hc27 => ?_) (fun hc27 => ?_)
              · refine XC.skip ?_
                refine hK49 _ _ ?_
                refine XC.keep [(3, _), (15, _)] ⟨rfl, rfl, trivial⟩ ?_
                refine XC.cond_d rfl (fun hc28 => ?_) (fun hc28 => ?_)
                · refine XC.seq fun K51 hK51 => ?_
                  refine XC.region ?_
                  refine x_v (r_as rfl) rfl ?_
                  refine XL.nil ?_
                  refine hK51 _ _ ?_
                  refine XC.keep [(2, _)] ⟨rfl, trivial⟩ ?_
                  refine XC.ret ?_
                  exact fin1 rfl (⟨(by first | (exfalso; omega) | (unfold rowS; repeat (first | rw [if_pos (by omega)] | rw [if_neg (by omega)]))), rfl⟩) (by repeat (first | exact Gets.done _ | exact Gets.all _ | (apply Gets.step; focus ((repeat (first | exact Pick.head _ _ | apply Pick.tail)); done)) | apply Gets.drop))
                · refine XC.seq fun K52 hK52 => ?_
                  refine XC.region ?_
                  refine x_v (r_eq rfl rfl) rfl ?_
                  refine x_v (r_as rfl) rfl ?_
                  refine XL.nil ?_
                  refine hK52 _ _ ?_
                  refine XC.keep [(18, _)] ⟨rfl, trivial⟩ ?_
                  refine XC.cond_d rfl (fun hc29 => ?_) (fun hc29 => ?_)
                  · refine XC.seq fun K53 hK53 => ?_
                    refine XC.region ?_
                    refine x_v (r_as rfl) rfl ?_
                    refine XL.nil ?_
                    refine hK53 _ _ ?_
                    refine XC.keep [(2, _)] ⟨rfl, trivial⟩ ?_
                    refine XC.ret ?_
                    exact fin1 rfl (⟨(by first | (exfalso; omega) | (unfold rowS; repeat (first | rw [if_pos (by omega)] | rw [if_neg (by omega)]))), rfl⟩) (by repeat (first | exact Gets.done _ | exact Gets.all _ | (apply Gets.step; focus ((repeat (first | exact Pick.head _ _ | apply Pick.tail)); done)) | apply Gets.drop))
                  · refine XC.skip ?_
                    refine hK2 _ _ ?_
                    refine XC.keep [] trivial ?_
                    refine XC.seq fun K54 hK54 => ?_
                    refine XC.region ?_
                    refine x_v (r_as rfl) rfl ?_
                    refine XL.nil ?_
                    refine hK54 _ _ ?_
                    refine XC.keep [(2, _)] ⟨rfl, trivial⟩ ?_
                    refine XC.ret ?_
                    exact fin1 rfl (⟨(by first | (exfalso; omega) | (unfold rowS; repeat (first | rw [if_pos (by omega)] | rw [if_neg (by omega)]))), rfl⟩) (by repeat (first | exact Gets.done _ | exact Gets.all _ | (apply Gets.step; focus ((repeat (first | exact Pick.head _ _ | apply Pick.tail)); done)) | apply Gets.drop))
              · refine XC.region ?_
                refine x_v (r_eq rfl rfl) rfl ?_
                refine x_v (r_as rfl) rfl ?_
                refine XL.nil ?_
                refine hK49 _ _ ?_
                refine XC.keep [(3, _), (15, _)] ⟨rfl, rfl, trivial⟩ ?_
                refine XC.cond_d rfl (fun hc30 => ?_) (fun hc30 => ?_)
                · refine XC.seq fun K55 hK55 => ?_
                  refine XC.region ?_
                  refine x_v (r_as rfl) rfl ?_
                  refine XL.nil ?_
                  refine hK55 _ _ ?_
                  refine XC.keep [(2, _)] ⟨rfl, trivial⟩ ?_
                  refine XC.ret ?_
                  exact fin1 rfl (⟨(by first | (exfalso; omega) | (unfold rowS; repeat (first | rw [if_pos (by omega)] | rw [if_neg (by omega)]))), rfl⟩) (by repeat (first | exact Gets.done _ | exact Gets.all _ | (apply Gets.step; focus ((repeat (first | exact Pick.head _ _ | apply Pick.tail)); done)) | apply Gets.drop))
                · refine XC.seq fun K56 hK56 => ?_
                  refine XC.region ?_
                  refine x_v (r_eq rfl rfl) rfl ?_
                  refine x_v (r_as rfl) rfl ?_
                  refine XL.nil ?_
                  refine hK56 _ _ ?_
                  refine XC.keep [(18, _)] ⟨rfl, trivial⟩ ?_
                  refine XC.cond_d rfl (fun hc31 => ?_) (fun hc31 => ?_)
                  · refine XC.seq fun K57 hK57 => ?_
                    refine XC.region ?_
                    refine x_v (r_as rfl) rfl ?_
                    refine XL.nil ?_
                    refine hK57 _ _ ?_
                    refine XC.keep [(2, _)] ⟨rfl, trivial⟩ ?_
                    refine XC.ret ?_
                    exact fin1 rfl (⟨(by first | (exfalso; omega) | (unfold rowS; repeat (first | rw [if_pos (by omega)] | rw [if_neg (by omega)]))), rfl⟩) (by repeat (first | exact Gets.done _ | exact Gets.all _ | (apply Gets.step; focus ((repeat (first | exact Pick.head _ _ | apply Pick.tail)); done)) | apply Gets.drop))
                  · refine XC.skip ?_
                    refine hK2 _ _ ?_
                    refine XC.keep [] trivial ?_
                    refine XC.seq fun K58 hK58 => ?_
                    refine XC.region ?_
                    refine x_v (r_as rfl) rfl ?_
                    refine XL.nil ?_
                    refine hK58 _ _ ?_
                    refine XC.keep [(2, _)] ⟨rfl, trivial⟩ ?_
                    refine XC.ret ?_
                    exact fin1 rfl (⟨(by first | (exfalso; omega) | (unfold rowS; repeat (first | rw [if_pos (by omega)] | rw [if_neg (by omega)]))), rfl⟩) (by repeat (first | exact Gets.done _ | exact Gets.all _ | (apply Gets.step; focus ((repeat (first | exact Pick.head _ _ | apply Pick.tail)); done)) | apply Gets.drop))
      · refine XC.seq fun K59 hK59 => ?_
        refine XC.region ?_
        refine x_v (r_eq rfl rfl) rfl ?_
        refine x_v (r_as rfl) rfl ?_
        refine XL.nil ?_
        refine hK59 _ _ ?_
        refine XC.keep [(3, _), (6, _)] ⟨rfl, rfl, trivial⟩ ?_
        refine XC.cond_d rfl (fun hc32 => ?_) (fun hc32 => ?_)
        · refine XC.skip ?_
          refine hK6 _ _ ?_
          refine XC.keep [(3, _), (6, _)] ⟨rfl, rfl, trivial⟩ ?_
          refine XC.cond_d rfl (fun hc33 => ?_) (fun hc33 => ?_)
          · refine XC.seq fun K60 hK60 => ?_
            refine XC.region ?_
            refine x_v (r_as rfl) rfl ?_
            refine XL.nil ?_
            refine hK60 _ _ ?_
            refine XC.keep [(2, _)] ⟨rfl, trivial⟩ ?_
            refine XC.ret ?_
            exact fin1 rfl (⟨(by first | (exfalso; omega) | (unfold rowS; repeat (first | rw [if_pos (by omega)] | rw [if_neg (by omega)]))), rfl⟩) (by repeat (first | exact Gets.done _ | exact Gets.all _ | (apply Gets.step; focus ((repeat (first | exact Pick.head _ _ | apply Pick.tail)); done)) | apply Gets.drop))
          · refine XC.seq fun K61 hK61 => ?_
            refine XC.seq fun K62 hK62 => ?_
            refine XC.region ?_
            refine x_v (r_eq rfl rfl) rfl ?_
            refine x_v (r_as rfl) rfl ?_
            refine XL.nil ?_
            refine hK62 _ _ ?_
            refine XC.keep [(3, _), (12, _)] ⟨rfl, rfl, trivial⟩ ?_
            refine XC.cond_d rfl (fun hc34 => ?_) (fun hc34 => ?_)
            · refine XC.skip ?_
              refine hK61 _ _ ?_
              refine XC.keep [(3, _), (12, _)] ⟨rfl, rfl, trivial⟩ ?_
              refine XC.cond_d rfl (fun hc35 => ?_) (fun hc35 => ?_)
              · refine XC.seq fun K63 hK63 => ?_
                refine XC.region ?_
                refine x_v (r_as rfl) rfl ?_
                refine XL.nil ?_
                refine hK63 _ _ ?_
                refine XC.keep [(2, _)] ⟨rfl, trivial⟩ ?_
                refine XC.ret ?_
                exact fin1 rfl (⟨(by first | (exfalso; omega) | (unfold rowS; repeat (first | rw [if_pos (by omega)] | rw [if_neg (by omega)]))), rfl⟩) (by repeat (first | exact Gets.done _ | exact Gets.all _ | (apply Gets.step; focus ((repeat (first | exact Pick.head _ _ | apply Pick.tail)); done)) | apply Gets.drop))
              · refine XC.seq fun K64 hK64 => ?_
                refine XC.seq fun K65 hK65 => ?_
                refine XC.region ?_
                refine x_v (r_eq rfl rfl) rfl ?_
                refine x_v (r_as rfl) rfl ?_
                refine XL.nil ?_
                refine hK65 _ _ ?_
                refine XC.keep [(3, _), (15, _)] ⟨rfl, rfl, trivial⟩ ?_
                refine XC.cond_d rfl (fun hc36 => ?_) (fun hc36 => ?_)
                · refine XC.skip ?_
                  refine hK64 _ _ ?_
                  refine XC.keep [(3, _), (15, _)] ⟨rfl, rfl, trivial⟩ ?_
                  refine XC.cond_d rfl (fun hc37 => ?_) (fun hc37 => ?_)
                  · refine XC.seq fun K66 hK66 => ?_
                    refine XC.region ?_
                    refine x_v (r_as rfl) rfl ?_
                    refine XL.nil ?_
                    refine hK66 _ _ ?_
                    refine XC.keep [(2, _)] ⟨rfl, trivial⟩ ?_
                    refine XC.ret ?_
                    exact fin1 rfl (⟨(by first | (exfalso; omega) | (unfold rowS; repeat (first | rw [if_pos (by omega)] | rw [if_neg (by omega)]))), rfl⟩) (by repeat (first | exact Gets.done _ | exact Gets.all _ | (apply Gets.step; focus ((repeat (first | exact Pick.head _ _ | apply Pick.tail)); done)) | apply Gets.drop))
                  · refine XC.seq fun K67 hK67 => ?_
                    refine XC.region ?_
                    refine x_v (r_eq rfl rfl) rfl ?_
                    refine x_v (r_as rfl) rfl ?_
                    refine XL.nil ?_
                    refine hK67 _ _ ?_
                    refine XC.keep [(18, _)] ⟨rfl, trivial⟩ ?_
                    refine XC.cond_d rfl (fun hc38 => ?_) (fun hc38 => ?_)
                    · refine XC.seq fun K68 hK68 => ?_
                      refine XC.region ?_
                      refine x_v (r_as rfl) rfl ?_
                      refine XL.nil ?_
                      refine hK68 _ _ ?_
                      refine XC.keep [(2, _)] ⟨rfl, trivial⟩ ?_
                      refine XC.ret ?_
                      exact fin1 rfl (⟨(by first | (exfalso; omega) | (unfold rowS; repeat (first | rw [if_pos (by omega)] | rw [if_neg (by omega)]))), rfl⟩) (by repeat (first | exact Gets.done _ | exact Gets.all _ | (apply Gets.step; focus ((repeat (first | exact Pick.head _ _ | apply Pick.tail)); done)) | apply Gets.drop))
                    · refine XC.skip ?_
                      refine hK2 _ _ ?_
                      refine XC.keep [] trivial ?_
                      refine XC.seq fun K69 hK69 => ?_
                      refine XC.region ?_
                      refine x_v (r_as rfl) rfl ?_
                      refine XL.nil ?_
                      refine hK69 _ _ ?_
                      refine XC.keep [(2, _)] ⟨rfl, trivial⟩ ?_
                      refine XC.ret ?_
                      exact fin1 rfl (⟨(by first | (exfalso; omega) | (unfold rowS; repeat (first | rw [if_pos (by omega)] | rw [if_neg (by omega)]))), rfl⟩) (by repeat (first | exact Gets.done _ | exact Gets.all _ | (apply Gets.step; focus ((repeat (first | exact Pick.head _ _ | apply Pick.tail)); done)) | apply Gets.drop))
                · refine XC.region ?_
                  refine x_v (r_eq rfl rfl) rfl ?_
                  refine x_v (r_as rfl) rfl ?_
                  refine XL.nil ?_
                  refine hK64 _ _ ?_
                  refine XC.keep [(3, _), (15, _)] ⟨rfl, rfl, trivial⟩ ?_
                  refine XC.cond_d rfl (fun hc39 => ?_) (fun hc39 => ?_)
                  · refine XC.seq fun K70 hK70 => ?_
                    refine XC.region ?_
                    refine x_v (r_as rfl) rfl ?_
                    refine XL.nil ?_
                    refine hK70 _ _ ?_
                    refine XC.keep [(2, _)] ⟨rfl, trivial⟩ ?_
                    refine XC.ret ?_
                    exact fin1 rfl (⟨(by first | (exfalso; omega) | (unfold rowS; repeat (first | rw [if_pos (by omega)] | rw [if_neg (by omega)]))), rfl⟩) (by repeat (first | exact Gets.done _ | exact Gets.all _ | (apply Gets.step; focus ((repeat (first | exact Pick.head _ _ | apply Pick.tail)); done)) | apply Gets.drop))
                  · refine XC.seq fun K71 hK71 => ?_
                    refine XC.region ?_
                    refine x_v (r_eq rfl rfl) rfl ?_
                    refine x_v (r_as rfl) rfl ?_
                    refine XL.nil ?_
                    refine hK71 _ _ ?_
                    refine XC.keep [(18, _)] ⟨rfl, trivial⟩ ?_
                    refine XC.cond_d rfl (fun hc40 => ?_) (fun hc40 => ?_)
                    · refine XC.seq fun K72 hK72 => ?_
                      refine XC.region ?_
                      refine x_v (r_as rfl) rfl ?_
                      refine XL.nil ?_
                      refine hK72 _ _ ?_
                      refine XC.keep [(2, _)] ⟨rfl, trivial⟩ ?_
                      refine XC.ret ?_
                      exact fin1 rfl (⟨(by first | (exfalso; omega) | (unfold rowS; repeat (first | rw [if_pos (by omega)] | rw [if_neg (by omega)]))), rfl⟩) (by repeat (first | exact Gets.done _ | exact Gets.all _ | (apply Gets.step; focus ((repeat (first | exact Pick.head _ _ | apply Pick.tail)); done)) | apply Gets.drop))
                    · refine XC.skip ?_
                      refine hK2 _ _ ?_
                      refine XC.keep [] trivial ?_
                      refine XC.seq fun K73 hK73 => ?_
                      refine XC.region ?_
                      refine x_v (r_as rfl) rfl ?_
                      refine XL.nil ?_
                      refine hK73 _ _ ?_
                      refine XC.keep [(2, _)] ⟨rfl, trivial⟩ ?_
                      refine XC.ret ?_
                      exact fin1 rfl (⟨(by first | (exfalso; omega) | (unfold rowS; repeat (first | rw [if_pos (by omega)] | rw [if_neg (by omega)]))), rfl⟩) (by repeat (first | exact Gets.done _ | exact Gets.all _ | (apply Gets.step; focus ((repeat (first | exact Pick.head _ _ | apply Pick.tail)); done)) | apply Gets.drop))
            · refine XC.region ?_
              refine x_v (r_eq rfl rfl) rfl ?_
              refine x_v (r_as rfl) rfl ?_
              refine XL.nil ?_
              refine hK61 _ _ ?_
              refine XC.keep [(3, _), (12, _)] ⟨rfl, rfl, trivial⟩ ?_
              refine XC.cond_d rfl (fun hc41 => ?_) (fun hc41 => ?_)
              · refine XC.seq fun K74 hK74 => ?_
                refine XC.region ?_
                refine x_v (r_as rfl) rfl ?_
                refine XL.nil ?_
                refine hK74 _ _ ?_
                refine XC.keep [(2, _)] ⟨rfl, trivial⟩ ?_
                refine XC.ret ?_
                exact fin1 rfl (⟨(by first | (exfalso; omega) | (unfold rowS; repeat (first | rw [if_pos (by omega)] | rw [if_neg (by omega)]))), rfl⟩) (by repeat (first | exact Gets.done _ | exact Gets.all _ | (apply Gets.step; focus ((repeat (first | exact Pick.head _ _ | apply Pick.tail)); done)) | apply Gets.drop))
              · refine XC.seq fun K75 hK75 => ?_
                refine XC.seq fun K76 hK76 => ?_
                refine XC.region ?_
                refine x_v (r_eq rfl rfl) rfl ?_
                refine x_v (r_as rfl) rfl ?_
                refine XL.nil ?_
                refine hK76 _ _ ?_
                refine XC.keep [(3, _), (15, _)] ⟨rfl, rfl, trivial⟩ ?_
                refine XC.cond_d rfl (fun hc42 => ?_) (fun hc42 => ?_)
                · refine XC.skip ?_
                  refine hK75 _ _ ?_
                  refine XC.keep [(3, _), (15, _)] ⟨rfl, rfl, trivial⟩ ?_
                  refine XC.cond_d rfl (fun hc43 => ?_) (fun hc43 => ?_)
                  · refine XC.seq fun K77 hK77 => ?_
                    refine XC.region ?_
                    refine x_v (r_as rfl) rfl ?_
                    refine XL.nil ?_
                    refine hK77 _ _ ?_
                    refine XC.keep [(2, _)] ⟨rfl, trivial⟩ ?_
                    refine XC.ret ?_
                    exact fin1 rfl (⟨(by first | (exfalso; omega) | (unfold rowS; repeat (first | rw [if_pos (by omega)] | rw [if_neg (by omega)]))), rfl⟩) (by repeat (first | exact Gets.done _ | exact Gets.all _ | (apply Gets.step; focus ((repeat (first | exact Pick.head _ _ | apply Pick.tail)); done)) | apply Gets.drop))
                  · refine XC.seq fun K78 hK78 => ?_
                    refine XC.region ?_
                    refine x_v (r_eq rfl rfl) rfl ?_
                    refine x_v (r_as rfl) rfl ?_
                    refine XL.nil ?_
                    refine hK78 _ _ ?_
                    refine XC.keep [(18, _)] ⟨rfl, trivial⟩ ?_
                    refine XC.cond_d rfl (fun hc44 => ?_) (fun hc44 => ?_)
                    · refine XC.seq fun K79 hK79 => ?_
                      refine XC.region ?_
                      refine x_v (r_as rfl) rfl ?_
                      refine XL.nil ?_
                      refine hK79 _ _ ?_
                      refine XC.keep [(2, _)] ⟨rfl, trivial⟩ ?_
                      refine XC.ret ?_
                      exact fin1 rfl (⟨(by first | (exfalso; omega) | (unfold rowS; repeat (first | rw [if_pos (by omega)] | rw [if_neg (by omega)]))), rfl⟩) (by repeat (first | exact Gets.done _ | exact Gets.all _ | (apply Gets.step; focus ((repeat (first | exact Pick.head _ _ | apply Pick.tail)); done)) | apply Gets.drop))
                    · refine XC.skip ?_
                      refine hK2 _ _ ?_
                      refine XC.keep [] trivial ?_
                      refine XC.seq fun K80 hK80 => ?_
                      refine XC.region ?_
                      refine x_v (r_as rfl) rfl ?_
                      refine XL.nil ?_
                      refine hK80 _ _ ?_
                      refine XC.keep [(2, _)] ⟨rfl, trivial⟩ ?_
                      refine XC.ret ?_
                      exact fin1 rfl (⟨(by first | (exfalso; omega) | (unfold rowS; repeat (first | rw [if_pos (by omega)] | rw [if_neg (by omega)]))), rfl⟩) (by repeat (first | exact Gets.done _ | exact Gets.all _ | (apply Gets.step; focus ((repeat (first | exact Pick.head _ _ | apply Pick.tail)); done)) | apply Gets.drop))
                · refine XC.region ?_
                  refine x_v (r_eq rfl rfl) rfl ?_
                  refine x_v (r_as rfl) rfl ?_
                  refine XL.nil ?_
                  refine hK75 _ _ ?_
                  refine XC.keep [(3, _), (15, _)] ⟨rfl, rfl, trivial⟩ ?_
                  refine XC.cond_d rfl (fun hc45 => ?_) (fun hc45 => ?_)
                  · refine XC.seq fun K81 hK81 => ?_
                    refine XC.region ?_
                    refine x_v (r_as rfl) rfl ?_
                    refine XL.nil ?_
                    refine hK81 _ _ ?_
                    refine XC.keep [(2, _)] ⟨rfl, trivial⟩ ?_
                    refine XC.ret ?_
                    exact fin1 rfl (⟨(by first | (exfalso; omega) | (unfold rowS; repeat (first | rw [if_pos (by omega)] | rw [if_neg (by omega)]))), rfl⟩) (by repeat (first | exact Gets.done _ | exact Gets.all _ | (apply Gets.step; focus ((repeat (first | exact Pick.head _ _ | apply Pick.tail)); done)) | apply Gets.drop))
                  · refine XC.seq fun K82 hK82 => ?_
                    refine XC.region ?_
                    refine x_v (r_eq rfl rfl) rfl ?_
                    refine x_v (r_as rfl) rfl ?_
                    refine XL.nil ?_
                    refine hK82 _ _ ?_
                    refine XC.keep [(18, _)] ⟨rfl, trivial⟩ ?_
                    refine XC.cond_d rfl (fun hc46 => ?_) (fun hc46 => ?_)
                    · refine XC.seq fun K83 hK83 => ?_
                      refine XC.region ?_
                      refine x_v (r_as rfl) rfl ?_
                      refine XL.nil ?_
                      refine hK83 _ _ ?_
                      refine XC.keep [(2, _)] ⟨rfl, trivial⟩ ?_
                      refine XC.ret ?_
                      exact fin1 rfl (⟨(by first | (exfalso; omega) | (unfold rowS; repeat (first | rw [if_pos (by omega)] | rw [if_neg (by omega)]))), rfl⟩) (by repeat (first | exact Gets.done _ | exact Gets.all _ | (apply Gets.step; focus ((repeat (first | exact Pick.head _ _ | apply Pick.tail)); done)) | apply Gets.drop))
                    · refine XC.skip ?_
                      refine hK2 _ _ ?_
                      refine XC.keep [] trivial ?_
                      refine XC.seq fun K84 hK84 => ?_
                      refine XC.region ?_
                      refine x_v (r_as rfl) rfl ?_
                      refine XL.nil ?_
                      refine hK84 _ _ ?_
                      refine XC.keep [(2, _)] ⟨rfl, trivial⟩ ?_
                      refine XC.ret ?_
                      exact fin1 rfl (⟨(by first | (exfalso; omega) | (unfold rowS; repeat (first | rw [if_pos (by omega)] | rw [if_neg (by omega)]))), rfl⟩) (by repeat (first | exact Gets.done _ | exact Gets.all _ | (apply Gets.step; focus ((repeat (first | exact Pick.head _ _ | apply Pick.tail)); done)) | apply Gets.drop))
        · refine XC.seq fun K85 hK85 => ?_
          refine XC.region ?_
          refine x_v (r_eq rfl rfl) rfl ?_
          refine x_v (r_as rfl) rfl ?_
          refine XL.nil ?_
          refine hK85 _ _ ?_
          refine XC.keep [(3, _), (6, _)] ⟨rfl, rfl, trivial⟩ ?_
          refine XC.cond_d rfl (fun hc47 => ?_) (fun hc47 => ?_)
          · refine XC.skip ?_
            refine hK6 _ _ ?_
            refine XC.keep [(3, _), (6, _)] ⟨rfl, rfl, trivial⟩ ?_
            refine XC.cond_d rfl (fun hc48 => ?_) (fun hc48 => ?_)
            · refine XC.seq fun K86 hK86 => ?_
              refine XC.region ?_
              refine x_v (r_as rfl) rfl ?_
              refine XL.nil ?_
              refine hK86 _ _ ?_
              refine XC.keep [(2, _)] ⟨rfl, trivial⟩ ?_
              refine XC.ret ?_
              exact fin1 rfl (⟨(by first | (exfalso; omega) | (unfold rowS; repeat (first | rw [if_pos (by omega)] | rw [if_neg (by omega)]))), rfl⟩) (by repeat (first | exact Gets.done _ | exact Gets.all _ | (apply Gets.step; focus ((repeat (first | exact Pick.head _ _ | apply Pick.tail)); done)) | apply Gets.drop))
            · refine XC.seq fun K87 hK87 => ?_
              refine XC.seq fun K88 hK88 => ?_
              refine XC.region ?_
              refine x_v (r_eq rfl rfl) rfl ?_
              refine x_v (r_as rfl) rfl ?_
              refine XL.nil ?_
              refine hK88 _ _ ?_
              refine XC.keep [(3, _), (12, _)] ⟨rfl, rfl, trivial⟩ ?_
              refine XC.cond_d rfl (fun hc49 => ?_) (fun hc49 => ?_)
              · refine XC.skip ?_
                refine hK87 _ _ ?_
                refine XC.keep [(3, _), (12, _)] ⟨rfl, rfl, trivial⟩ ?_
                refine XC.cond_d rfl (fun hc50 => ?_) (fun hc50 => ?_)
                · refine XC.seq fun K89 hK89 => ?_
                  refine XC.region ?_
                  refine x_v (r_as rfl) rfl ?_
                  refine XL.nil ?_
                  refine hK89 _ _ ?_
                  refine XC.keep [(2, _)] ⟨rfl, trivial⟩ ?_
                  refine XC.ret ?_
                  exact fin1 rfl (⟨(by first | (exfalso; omega) | (unfold rowS; repeat (first | rw [if_pos (by omega)] | rw [if_neg (by omega)]))), rfl⟩) (by repeat (first | exact Gets.done _ | exact Gets.all _ | (apply Gets.step; focus ((repeat (first | exact Pick.head _ _ | apply Pick.tail)); done)) | apply Gets.drop))
                · refine XC.seq fun K90 hK90 => ?_
                  refine XC.seq fun K91 hK91 => ?_
                  refine XC.region ?_
                  refine x_v (r_eq rfl rfl) rfl ?_
                  refine x_v (r_as rfl) rfl ?_
                  refine XL.nil ?_
                  refine hK91 _ _ ?_
                  refine XC.keep [(3, _), (15, _)] ⟨rfl, rfl, trivial⟩ ?_
                  refine XC.cond_d rfl (fun hc51 => ?_) (fun hc51 => ?_)
                  · refine XC.skip ?_
                    refine hK90 _ _ ?_
                    refine XC.keep [(3, _), (15, _)] ⟨rfl, rfl, trivial⟩ ?_
                    refine XC.cond_d rfl (fun hc52 => ?_) (fun hc52 => ?_)
                    · refine XC.seq fun K92 hK92 => ?_
                      refine XC.region ?_
                      refine x_v (r_as rfl) rfl ?_
                      refine XL.nil ?_
                      refine hK92 _ _ ?_
                      refine XC.keep [(2, _)] ⟨rfl, trivial⟩ ?_
                      refine XC.ret ?_
                      exact fin1 rfl (⟨(by first | (exfalso; omega) | (unfold rowS; repeat (first | rw [if_pos (by omega)] | rw [if_neg (by omega)]))), rfl⟩) (by repeat (first | exact Gets.done _ | exact Gets.all _ | (apply Gets.step; focus ((repeat (first | exact Pick.head _ _ | apply Pick.tail)); done)) | apply Gets.drop))
                    · refine XC.seq fun K93 hK93 => ?_
                      refine XC.region ?_
                      refine x_v (r_eq rfl rfl) rfl ?_
                      refine x_v (r_as rfl) rfl ?_
                      refine XL.nil ?_
                      refine hK93 _ _ ?_
                      refine XC.keep [(18, _)] ⟨rfl, trivial⟩ ?_
                      refine XC.cond_d rfl (fun hc53 => ?_) (fun hc53 => ?_)
                      · refine XC.seq fun K94 hK94 => ?_
                        refine XC.region ?_
                        refine x_v (r_as rfl) rfl ?_
                        refine XL.nil ?_
                        refine hK94 _ _ ?_
                        refine XC.keep [(2, _)] ⟨rfl, trivial⟩ ?_
                        refine XC.ret ?_
                        exact fin1 rfl (⟨(by first | (exfalso; omega) | (unfold rowS; repeat (first | rw [if_pos (by omega)] | rw [if_neg (by omega)]))), rfl⟩) (by repeat (first | exact Gets.done _ | exact Gets.all _ | (apply Gets.step; focus ((repeat (first | exact Pick.head _ _ | apply Pick.tail)); done)) | apply Gets.drop))
                      · refine XC.skip ?_
                        refine hK2 _ _ ?_
                        refine XC.keep [] trivial ?_
                        refine XC.seq fun K95 hK95 => ?_
                        refine XC.region ?_
                        refine x_v (r_as rfl) rfl ?_
                        refine XL.nil ?_
                        refine hK95 _ _ ?_
                        refine XC.keep [(2, _)] ⟨rfl, trivial⟩ ?_
                        refine XC.ret ?_
                        exact fin1 rfl (⟨(by first | (exfalso; omega) | (unfold rowS; repeat (first | rw [if_pos (by omega)] | rw [if_neg (by omega)]))), rfl⟩) (by repeat (first | exact Gets.done _ | exact Gets.all _ | (apply Gets.step; focus ((repeat (first | exact Pick.head _ _ | apply Pick.tail)); done)) | apply Gets.drop))
                  · refine XC.region ?_
                    refine x_v (r_eq rfl rfl) rfl ?_
                    refine x_v (r_as rfl) rfl ?_
                    refine XL.nil ?_
                    refine hK90 _ _ ?_
                    refine XC.keep [(3, _), (15, _)] ⟨rfl, rfl, trivial⟩ ?_
                    refine XC.cond_d rfl (fun hc54 => ?_) (fun hc54 => ?_)
                    · refine XC.seq fun K96 hK96 => ?_
                      refine XC.region ?_
                      refine x_v (r_as rfl) rfl ?_
                      refine XL.nil ?_
                      refine hK96 _ _ ?_
                      refine XC.keep [(2, _)] ⟨rfl, trivial⟩ ?_
                      refine XC.ret ?_
                      exact fin1 rfl (⟨(by first | (exfalso; omega) | (unfold rowS; repeat (first | rw [if_pos (by omega)] | rw [if_neg (by omega)]))), rfl⟩) (by repeat (first | exact Gets.done _ | exact Gets.all _ | (apply Gets.step; focus ((repeat (first | exact Pick.head _ _ | apply Pick.tail)); done)) | apply Gets.drop))
                    · refine XC.seq fun K97 hK97 => ?_
                      refine XC.region ?_
                      refine x_v (r_eq rfl rfl) rfl ?_
                      refine x_v (r_as rfl) rfl ?_
                      refine XL.nil ?_
                      refine hK97 _ _ ?_
                      refine XC.keep [(18, _)] ⟨rfl, trivial⟩ ?_
                      refine XC.cond_d rfl (fun hc55 => ?_) (fun hc55 => ?_)
                      · refine XC.seq fun K98 hK98 => ?_
                        refine XC.region ?_
                        refine x_v (r_as rfl) rfl ?_
                        refine XL.nil ?_
                        refine hK98 _ _ ?_
                        refine XC.keep [(2, _)] ⟨rfl, trivial⟩ ?_
                        refine XC.ret ?_
                        exact fin1 rfl (⟨(by first | (exfalso; omega) | (unfold rowS; repeat (first | rw [if_pos (by omega)] | rw [if_neg (by omega)]))), rfl⟩) (by repeat (first | exact Gets.done _ | exact Gets.all _ | (apply Gets.step; focus ((repeat (first | exact Pick.head _ _ | apply Pick.tail)); done)) | apply Gets.drop))
                      · refine XC.skip ?_
                        refine hK2 _ _ ?_
                        refine XC.keep [] trivial ?_
                        refine XC.seq fun K99 hK99 => ?_
                        refine XC.region ?_
                        refine x_v (r_as rfl) rfl ?_
                        refine XL.nil ?_
                        refine hK99 _ _ ?_
                        refine XC.keep [(2, _)] ⟨rfl, trivial⟩ ?_
                        refine XC.ret ?_
                        exact fin1 rfl (⟨(by first | (exfalso; omega) | (unfold rowS; repeat (first | rw [if_pos (by omega)] | rw [if_neg (by omega)]))), rfl⟩) (by repeat (first | exact Gets.done _ | exact Gets.all _ | (apply Gets.step; focus ((repeat (first | exact Pick.head _ _ | apply Pick.tail)); done)) | apply Gets.drop))
              · refine XC.region ?_
                refine x_v (r_eq rfl rfl) rfl ?_
                refine x_v (r_as rfl) rfl ?_
                refine XL.nil ?_
                refine hK87 _ _ ?_
                refine XC.keep [(3, _), (12, _)] ⟨rfl, rfl, trivial⟩ ?_
                refine XC.cond_d rfl (fun hc56 => ?_) (fun hc56 => ?_)
                · refine XC.seq fun K100 hK100 => ?_
                  refine XC.region ?_
                  refine x_v (r_as rfl) rfl ?_
                  refine XL.nil ?_
                  refine hK100 _ _ ?_
                  refine XC.keep [(2, _)] ⟨rfl, trivial⟩ ?_
                  refine XC.ret ?_
                  exact fin1 rfl (⟨(by first | (exfalso; omega) | (unfold rowS; repeat (first | rw [if_pos (by omega)] | rw [if_neg (by omega)]))), rfl⟩) (by repeat (first | exact Gets.done _ | exact Gets.all _ | (apply Gets.step; focus ((repeat (first | exact Pick.head _ _ | apply Pick.tail)); done)) | apply Gets.drop))
                · refine XC.seq fun K101 hK101 => ?_
                  refine XC.seq fun K102 hK102 => ?_
                  refine XC.region ?_
                  refine x_v (r_eq rfl rfl) rfl ?_
                  refine x_v (r_as rfl) rfl ?_
                  refine XL.nil ?_
                  refine hK102 _ _ ?_
                  refine XC.keep [(3, _), (15, _)] ⟨rfl, rfl, trivial⟩ ?_
                  refine XC.cond_d rfl (fun hc57 => ?_) (fun hc57 => ?_)
                  · refine XC.skip ?_
                    refine hK101 _ _ ?_
                    refine XC.keep [(3, _), (15, _)] ⟨rfl, rfl, trivial⟩ ?_
                    refine XC.cond_d rfl (fun hc58 => ?_) (fun hc58 => ?_)
                    · refine XC.seq fun K103 hK103 => ?_
                      refine XC.region ?_
                      refine x_v (r_as rfl) rfl ?_
                      refine XL.nil ?_
                      refine hK103 _ _ ?_
                      refine XC.keep [(2, _)] ⟨rfl, trivial⟩ ?_
                      refine XC.ret ?_
                      exact fin1 rfl (⟨(by first | (exfalso; omega) | (unfold rowS; repeat (first | rw [if_pos (by omega)] | rw [if_neg (by omega)]))), rfl⟩) (by repeat (first | exact Gets.done _ | exact Gets.all _ | (apply Gets.step; focus ((repeat (first | exact Pick.head _ _ | apply Pick.tail)); done)) | apply Gets.drop))
                    · refine XC.seq fun K104 hK104 => ?_
                      refine XC.region ?_
                      refine x_v (r_eq rfl rfl) rfl ?_
                      refine x_v (r_as rfl) rfl ?_
                      refine XL.nil ?_
                      refine hK104 _ _ ?_
                      refine XC.keep [(18, _)] ⟨rfl, trivial⟩ ?_
                      refine XC.cond_d rfl (fun hc59 => ?_) (fun hc59 => ?_)
                      · refine XC.seq fun K105 hK105 => ?_
                        refine XC.region ?_
                        refine x_v (r_as rfl) rfl ?_
                        refine XL.nil ?_
                        refine hK105 _ _ ?_
                        refine XC.keep [(2, _)] ⟨rfl, trivial⟩ ?_
                        refine XC.ret ?_
                        exact fin1 rfl (⟨(by first | (exfalso; omega) | (unfold rowS; repeat (first | rw [if_pos (by omega)] | rw [if_neg (by omega)]))), rfl⟩) (by repeat (first | exact Gets.done _ | exact Gets.all _ | (apply Gets.step; focus ((repeat (first | exact Pick.head _ _ | apply Pick.tail)); done)) | apply Gets.drop))
                      · refine XC.skip ?_
                        refine hK2 _ _ ?_
                        refine XC.keep [] trivial ?_
                        refine XC.seq fun K106 hK106 => ?_
                        refine XC.region ?_
                        refine x_v (r_as rfl) rfl ?_
                        refine XL.nil ?_
                        refine hK106 _ _ ?_
                        refine XC.keep [(2, _)] ⟨rfl, trivial⟩ ?_
                        refine XC.ret ?_
                        exact fin1 rfl (⟨(by first | (exfalso; omega) | (unfold rowS; repeat (first | rw [if_pos (by omega)] | rw [if_neg (by omega)]))), rfl⟩) (by repeat (first | exact Gets.done _ | exact Gets.all _ | (apply Gets.step; focus ((repeat (first | exact Pick.head _ _ | apply Pick.tail)); done)) | apply Gets.drop))
                  · refine XC.region ?_
                    refine x_v (r_eq rfl rfl) rfl ?_
                    refine x_v (r_as rfl) rfl ?_
                    refine XL.nil ?_
                    refine hK101 _ _ ?_
                    refine XC.keep [(3, _), (15, _)] ⟨rfl, rfl, trivial⟩ ?_
                    refine XC.cond_d rfl (fun hc60 => ?_) (fun hc60 => ?_)
                    · refine XC.seq fun K107 hK107 => ?_
                      refine XC.region ?_
                      refine x_v (r_as rfl) rfl ?_
                      refine XL.nil ?_
                      refine hK107 _ _ ?_
                      refine XC.keep [(2, _)] ⟨rfl, trivial⟩ ?_
                      refine XC.ret ?_
                      exact fin1 rfl (⟨(by first | (exfalso; omega) | (unfold rowS; repeat (first | rw [if_pos (by omega)] | rw [if_neg (by omega)]))), rfl⟩) (by repeat (first | exact Gets.done _ | exact Gets.all _ | (apply Gets.step; focus ((repeat (first | exact Pick.head _ _ | apply Pick.tail)); done)) | apply Gets.drop))
                    · refine XC.seq fun K108 hK108 => ?_
                      refine XC.region ?_
                      refine x_v (r_eq rfl rfl) rfl ?_
                      refine x_v (r_as rfl) rfl ?_
                      refine XL.nil ?_
                      refine hK108 _ _ ?_
                      refine XC.keep [(18, _)] ⟨rfl, trivial⟩ ?_
                      refine XC.cond_d rfl (fun hc61 => ?_) (fun hc61 => ?_)
                      · refine XC.seq fun K109 hK109 => ?_
                        refine XC.region ?_
                        refine x_v (r_as rfl) rfl ?_
                        refine XL.nil ?_
                        refine hK109 _ _ ?_
                        refine XC.keep [(2, _)] ⟨rfl, trivial⟩ ?_
                        refine XC.ret ?_
                        exact fin1 rfl (⟨(by first | (exfalso; omega) | (unfold rowS; repeat (first | rw [if_pos (by omega)] | rw [if_neg (by omega)]))), rfl⟩) (by repeat (first | exact Gets.done _ | exact Gets.all _ | (apply Gets.step; focus ((repeat (first | exact Pick.head _ _ | apply Pick.tail)); done)) | apply Gets.drop))
                      · refine XC.skip ?_
                        refine hK2 _ _ ?_
                        refine XC.keep [] trivial ?_
                        refine XC.seq fun K110 hK110 => ?_
                        refine XC.region ?_
                        refine x_v (r_as rfl) rfl ?_
                        refine XL.nil ?_
                        refine hK110 _ _ ?_
                        refine XC.keep [(2, _)] ⟨rfl, trivial⟩ ?_
                        refine XC.ret ?_
                        exact fin1 rfl (⟨(by first | (exfalso; omega) | (unfold rowS; repeat (first | rw [if_pos (by omega)] | rw [if_neg (by omega)]))), rfl⟩) (by repeat (first | exact Gets.done _ | exact Gets.all _ | (apply Gets.step; focus ((repeat (first | exact Pick.head _ _ | apply Pick.tail)); done)) | apply Gets.drop))
          · refine XC.region ?_
            refine x_v (r_eq rfl rfl) rfl ?_
            refine x_v (r_as rfl) rfl ?_
            refine XL.nil ?_
            refine hK6 _ _ ?_
            refine XC.keep [(3, _), (6, _)] ⟨rfl, rfl, trivial⟩ ?_
            refine XC.cond_d rfl (fun hc62 => ?_) (fun hc62 => ?_)
            · refine XC.seq fun K111 hK111 => ?_
              refine XC.region ?_
              refine x_v (r_as rfl) rfl ?_
              refine XL.nil ?_
              refine hK111 _ _ ?_
              refine XC.keep [(2, _)] ⟨rfl, trivial⟩ ?_
              refine XC.ret ?_
              exact fin1 rfl (⟨(by first | (exfalso; omega) | (unfold rowS; repeat (first | rw [if_pos (by omega)] | rw [if_neg (by omega)]))), rfl⟩) (by repeat (first | exact Gets.done _ | exact Gets.all _ | (apply Gets.step; focus ((repeat (first | exact Pick.head _ _ | apply Pick.tail)); done)) | apply Gets.drop))
            · refine XC.seq fun K112 hK112 => ?_
              refine XC.seq fun K113 hK113 => ?_
              refine XC.region ?_
              refine x_v (r_eq rfl rfl) rfl ?_
              refine x_v (r_as rfl) rfl ?_
              refine XL.nil ?_
              refine hK113 _ _ ?_
              refine XC.keep [(3, _), (12, _)] ⟨rfl, rfl, trivial⟩ ?_
              refine XC.cond_d rfl (fun hc63 => ?_) (fun hc63 => ?_)
              · refine XC.skip ?_
                refine hK112 _ _ ?_
                refine XC.keep [(3, _), (12, _)] ⟨rfl, rfl, trivial⟩ ?_
                refine XC.cond_d rfl (fun hc64 => ?_) (fun hc64 => ?_)
                · refine XC.seq fun K114 hK114 => ?_
                  refine XC.region ?_
                  refine x_v (r_as rfl) rfl ?_
                  refine XL.nil ?_
                  refine hK114 _ _ ?_
                  refine XC.keep [(2, _)] ⟨rfl, trivial⟩ ?_
                  refine XC.ret ?_
                  exact fin1 rfl (⟨(by first | (exfalso; omega) | (unfold rowS; repeat (first | rw [if_pos (by omega)] | rw [if_neg (by omega)]))), rfl⟩) (by repeat (first | exact Gets.done _ | exact Gets.all _ | (apply Gets.step; focus ((repeat (first | exact Pick.head _ _ | apply Pick.tail)); done)) | apply Gets.drop))
                · refine XC.seq fun K115 hK115 => ?_
                  refine XC.seq fun K116 hK116 => ?_
                  refine XC.region ?_
                  refine x_v (r_eq rfl rfl) rfl ?_
                  refine x_v (r_as rfl) rfl ?_
                  refine XL.nil ?_
                  refine hK116 _ _ ?_
                  refine XC.keep [(3, _), (15, _)] ⟨rfl, rfl, trivial⟩ ?_
                  refine XC.cond_d rfl (fun hc65 => ?_) (fun hc65 => ?_)
                  · refine XC.skip ?_
                    refine hK115 _ _ ?_
                    refine XC.keep [(3, _), (15, _)] ⟨rfl, rfl, trivial⟩ ?_
                    refine XC.cond_d rfl (fun hc66 => ?_) (fun hc66 => ?_)
                    · refine XC.seq fun K117 hK117 => ?_
                      refine XC.region ?_
                      refine x_v (r_as rfl) rfl ?_
                      refine XL.nil ?_
                      refine hK117 _ _ ?_
                      refine XC.keep [(2, _)] ⟨rfl, trivial⟩ ?_
                      refine XC.ret ?_
                      exact fin1 rfl (⟨(by first | (exfalso; omega) | (unfold rowS; repeat (first | rw [if_pos (by omega)] | rw [if_neg (by omega)]))), rfl⟩) (by repeat (first | exact Gets.done _ | exact Gets.all _ | (apply Gets.step; focus ((repeat (first | exact Pick.head _ _ | apply Pick.tail)); done)) | apply Gets.drop))
                    · refine XC.seq fun K118 hK118 => ?_
                      refine XC.region ?_
                      refine x_v (r_eq rfl rfl) rfl ?_
                      refine x_v (r_as rfl) rfl ?_
                      refine XL.nil ?_
                      refine hK118 _ _ ?_
                      refine XC.keep [(18, _)] ⟨rfl, trivial⟩ ?_
                      refine XC.cond_d rfl (fun hc67 => ?_) (fun hc67 => ?_)
                      · refine XC.seq fun K119 hK119 => ?_
                        refine XC.region ?_
                        refine x_v (r_as rfl) rfl ?_
                        refine XL.nil ?_
                        refine hK119 _ _ ?_
                        refine XC.keep [(2, _)] ⟨rfl, trivial⟩ ?_
                        refine XC.ret ?_
                        exact fin1 rfl (⟨(by first | (exfalso; omega) | (unfold rowS; repeat (first | rw [if_pos (by omega)] | rw [if_neg (by omega)]))), rfl⟩) (by repeat (first | exact Gets.done _ | exact Gets.all _ | (apply Gets.step; focus ((repeat (first | exact Pick.head _ _ | apply Pick.tail)); done)) | apply Gets.drop))
                      · refine XC.skip ?_
                        refine hK2 _ _ ?_
                        refine XC.keep [] trivial ?_
                        refine XC.seq fun K120 hK120 => ?_
                        refine XC.region ?_
                        refine x_v (r_as rfl) rfl ?_
                        refine XL.nil ?_
                        refine hK120 _ _ ?_
                        refine XC.keep [(2, _)] ⟨rfl, trivial⟩ ?_
                        refine XC.ret ?_
                        exact fin1 rfl (⟨(by first | (exfalso; omega) | (unfold rowS; repeat (first | rw [if_pos (by omega)] | rw [if_neg (by omega)]))), rfl⟩) (by repeat (first | exact Gets.done _ | exact Gets.all _ | (apply Gets.step; focus ((repeat (first | exact Pick.head _ _ | apply Pick.tail)); done)) | apply Gets.drop))
                  · refine XC.region ?_
                    refine x_v (r_eq rfl rfl) rfl ?_
                    refine x_v (r_as rfl) rfl ?_
                    refine XL.nil ?_
                    refine hK115 _ _ ?_
                    refine XC.keep [(3, _), (15, _)] ⟨rfl, rfl, trivial⟩ ?_
                    refine XC.cond_d rfl (fun hc68 => ?_) (fun hc68 => ?_)
                    · refine XC.seq fun K121 hK121 => ?_
                      refine XC.region ?_
                      refine x_v (r_as rfl) rfl ?_
                      refine XL.nil ?_
                      refine hK121 _ _ ?_
                      refine XC.keep [(2, _)] ⟨rfl, trivial⟩ ?_
                      refine XC.ret ?_
                      exact fin1 rfl (⟨(by first | (exfalso; omega) | (unfold rowS; repeat (first | rw [if_pos (by omega)] | rw [if_neg (by omega)]))), rfl⟩) (by repeat (first | exact Gets.done _ | exact Gets.all _ | (apply Gets.step; focus ((repeat (first | exact Pick.head _ _ | apply Pick.tail)); done)) | apply Gets.drop))
                    · refine XC.seq fun K122 hK122 => ?_
                      refine XC.region ?_
                      refine x_v (r_eq rfl rfl) rfl ?_
                      refine x_v (r_as rfl) rfl ?_
                      refine XL.nil ?_
                      refine hK122 _ _ ?_
                      refine XC.keep [(18, _)] ⟨rfl, trivial⟩ ?_
                      refine XC.cond_d rfl (fun hc69 => ?_) (fun hc69 => ?_)
                      · refine XC.seq fun K123 hK123 => ?_
                        refine XC.region ?_
                        refine x_v (r_as rfl) rfl ?_
                        refine XL.nil ?_
                        refine hK123 _ _ ?_
                        refine XC.keep [(2, _)] ⟨rfl, trivial⟩ ?_
                        refine XC.ret ?_
                        exact fin1 rfl (⟨(by first | (exfalso; omega) | (unfold rowS; repeat (first | rw [if_pos (by omega)] | rw [if_neg (by omega)]))), rfl⟩) (by repeat (first | exact Gets.done _ | exact Gets.all _ | (apply Gets.step; focus ((repeat (first | exact Pick.head _ _ | apply Pick.tail)); done)) | apply Gets.drop))
                      · refine XC.skip ?_
                        refine hK2 _ _ ?_
                        refine XC.keep [] trivial ?_
                        refine XC.seq fun K124 hK124 => ?_
                        refine XC.region ?_
                        refine x_v (r_as rfl) rfl ?_
                        refine XL.nil ?_
                        refine hK124 _ _ ?_
                        refine XC.keep [(2, _)] ⟨rfl, trivial⟩ ?_
                        refine XC.ret ?_
                        exact fin1 rfl (⟨(by first | (exfalso; omega) | (unfold rowS; repeat (first | rw [if_pos (by omega)] | rw [if_neg (by omega)]))), rfl⟩) (by repeat (first | exact Gets.done _ | exact Gets.all _ | (apply Gets.step; focus ((repeat (first | exact Pick.head _ _ | apply Pick.tail)); done)) | apply Gets.drop))
              · refine XC.region ?_
                refine x_v (r_eq rfl rfl) rfl ?_
                refine x_v (r_as rfl) rfl ?_
                refine XL.nil ?_
                refine hK112 _ _ ?_
                refine XC.keep [(3, _), (12, _)] ⟨rfl, rfl, trivial⟩ ?_
                refine XC.cond_d rfl (fun hc70 => ?_) (fun hc70 => ?_)
                · refine XC.seq fun K125 hK125 => ?_
                  refine XC.region ?_
                  refine x_v (r_as rfl) rfl ?_
                  refine XL.nil ?_
                  refine hK125 _ _ ?_
                  refine XC.keep [(2, _)] ⟨rfl, trivial⟩ ?_
                  refine XC.ret ?_
                  exact fin1 rfl (⟨(by first | (exfalso; omega) | (unfold rowS; repeat (first | rw [if_pos (by omega)] | rw [if_neg (by omega)]))), rfl⟩) (by repeat (first | exact Gets.done _ | exact Gets.all _ | (apply Gets.step; focus ((repeat (first | exact Pick.head _ _ | apply Pick.tail)); done)) | apply Gets.drop))
                · refine XC.seq fun K126 hK126 => ?_
                  refine XC.seq fun K127 hK127 => ?_
                  refine XC.region ?_
                  refine x_v (r_eq rfl rfl) rfl ?_
                  refine x_v (r_as rfl) rfl ?_
                  refine XL.nil ?_
                  refine hK127 _ _ ?_
                  refine XC.keep [(3, _), (15, _)] ⟨rfl, rfl, trivial⟩ ?_
                  refine XC.cond_d rfl (fun hc71 => ?_) (fun hc71 => ?_)
                  · refine XC.skip ?_
                    refine hK126 _ _ ?_
                    refine XC.keep [(3, _), (15, _)] ⟨rfl, rfl, trivial⟩ ?_
                    refine XC.cond_d rfl (fun hc72 => ?_) (fun hc72 => ?_)
                    · refine XC.seq fun K128 hK128 => ?_
                      refine XC.region ?_
                      refine x_v (r_as rfl) rfl ?_
                      refine XL.nil ?_
                      refine hK128 _ _ ?_
                      refine XC.keep [(2, _)] ⟨rfl, trivial⟩ ?_
                      refine XC.ret ?_
                      exact fin1 rfl (⟨(by first | (exfalso; omega) | (unfold rowS; repeat (first | rw [if_pos (by omega)] | rw [if_neg (by omega)]))), rfl⟩) (by repeat (first | exact Gets.done _ | exact Gets.all _ | (apply Gets.step; focus ((repeat (first | exact Pick.head _ _ | apply Pick.tail)); done)) | apply Gets.drop))
                    · refine XC.seq fun K129 hK129 => ?_
                      refine XC.region ?_
                      refine x_v (r_eq rfl rfl) rfl ?_
                      refine x_v (r_as rfl) rfl ?_
                      refine XL.nil ?_
                      refine hK129 _ _ ?_
                      refine XC.keep [(18, _)] ⟨rfl, trivial⟩ ?_
                      refine XC.cond_d rfl (fun hc73 => ?_) (fun hc73 => ?_)
                      · refine XC.seq fun K130 hK130 => ?_
                        refine XC.region ?_
                        refine x_v (r_as rfl) rfl ?_
                        refine XL.nil ?_
                        refine hK130 _ _ ?_
                        refine XC.keep [(2, _)] ⟨rfl, trivial⟩ ?_
                        refine XC.ret ?_
                        exact fin1 rfl (⟨(by first | (exfalso; omega) | (unfold rowS; repeat (first | rw [if_pos (by omega)] | rw [if_neg (by omega)]))), rfl⟩) (by repeat (first | exact Gets.done _ | exact Gets.all _ | (apply Gets.step; focus ((repeat (first | exact Pick.head _ _ | apply Pick.tail)); done)) | apply Gets.drop))
                      · refine XC.skip ?_
                        refine hK2 _ _ ?_
                        refine XC.keep [] trivial ?_
                        refine XC.seq fun K131 hK131 => ?_
                        refine XC.region ?_
                        refine x_v (r_as rfl) rfl ?_
                        refine XL.nil ?_
                        refine hK131 _ _ ?_
                        refine XC.keep [(2, _)] ⟨rfl, trivial⟩ ?_
                        refine XC.ret ?_
                        exact fin1 rfl (⟨(by first | (exfalso; omega) | (unfold rowS; repeat (first | rw [if_pos (by omega)] | rw [if_neg (by omega)]))), rfl⟩) (by repeat (first | exact Gets.done _ | exact Gets.all _ | (apply Gets.step; focus ((repeat (first | exact Pick.head _ _ | apply Pick.tail)); done)) | apply Gets.drop))
                  · refine XC.region ?_
                    refine x_v (r_eq rfl rfl) rfl ?_
                    refine x_v (r_as rfl) rfl ?_
                    refine XL.nil ?_
                    refine hK126 _ _ ?_
                    refine XC.keep [(3, _), (15, _)] ⟨rfl, rfl, trivial⟩ ?_
                    refine XC.cond_d rfl (fun hc74 => ?_) (fun hc74 => ?_)
                    · refine XC.seq fun K132 hK132 => ?_
                      refine XC.region ?_
                      refine x_v (r_as rfl) rfl ?_
                      refine XL.nil ?_
                      refine hK132 _ _ ?_
                      refine XC.keep [(2, _)] ⟨rfl, trivial⟩ ?_
                      refine XC.ret ?_
                      exact fin1 rfl (⟨(by first | (exfalso; omega) | (unfold rowS; repeat (first | rw [if_pos (by omega)] | rw [if_neg (by omega)]))), rfl⟩) (by repeat (first | exact Gets.done _ | exact Gets.all _ | (apply Gets.step; focus ((repeat (first | exact Pick.head _ _ | apply Pick.tail)); done)) | apply Gets.drop))
                    · refine XC.seq fun K133 hK133 => ?_
                      refine XC.region ?_
                      refine x_v (r_eq rfl rfl) rfl ?_
                      refine x_v (r_as rfl) rfl ?_
                      refine XL.nil ?_
                      refine hK133 _ _ ?_
                      refine XC.keep [(18, _)] ⟨rfl, trivial⟩ ?_
                      refine XC.cond_d rfl (fun hc75 => ?_) (fun hc75 => ?_)
                      · refine XC.seq fun K134 hK134 => ?_
                        refine XC.region ?_
                        refine x_v (r_as rfl) rfl ?_
                        refine XL.nil ?_
                        refine hK134 _ _ ?_
                        refine XC.keep [(2, _)] ⟨rfl, trivial⟩ ?_
                        refine XC.ret ?_
                        exact fin1 rfl (⟨(by first | (exfalso; omega) | (unfold rowS; repeat (first | rw [if_pos (by omega)] | rw [if_neg (by omega)]))), rfl⟩) (by repeat (first | exact Gets.done _ | exact Gets.all _ | (apply Gets.step; focus ((repeat (first | exact Pick.head _ _ | apply Pick.tail)); done)) | apply Gets.drop))
                      · refine XC.skip ?_
                        refine hK2 _ _ ?_
                        refine XC.keep [] trivial ?_
                        refine XC.seq fun K135 hK135 => ?_
                        refine XC.region ?_
                        refine x_v (r_as rfl) rfl ?_
                        refine XL.nil ?_
                        refine hK135 _ _ ?_
                        refine XC.keep [(2, _)] ⟨rfl, trivial⟩ ?_
                        refine XC.ret ?_
                        exact fin1 rfl (⟨(by first | (exfalso; omega) | (unfold rowS; repeat (first | rw [if_pos (by omega)] | rw [if_neg (by omega)]))), rfl⟩) (by repeat (first | exact Gets.done _ | exact Gets.all _ | (apply Gets.step; focus ((repeat (first | exact Pick.head _ _ | apply Pick.tail)); done)) | apply Gets.drop))
end Go.Proofs.Ytdppjmdjmbbclaa

/- Scripts: one act's bytes, by the reference (function 46). -/
import Derived.Test.YtdppjmdjmbbclaaScript4
namespace Go.Proofs.Ytdppjmdjmbbclaa
open Go.Sx
set_option linter.unusedVariables false

abbrev OneT := Nat × List Int × List (List UInt8)
/-- A letter's value at a place. -/
def valAt (s : List UInt8) (q : Nat) (at_ : Nat) : Option (Nat × Nat) :=
  match s[at_]? with
  | none => none
  | some b => if q = 112 ∨ q = 100 then (match s[at_ + 1]? with | none => none | some b2 => some (b.toNat + 256 * b2.toNat, at_ + 2)) else some (b.toNat, at_ + 1)
def sizeOf_ (q n : Nat) : Option Nat := if q = 110 then some (n % 32) else if q = 100 then some (n % 1024) else if q = 107 then some (n % 8) else none
def stp (s : List UInt8) (st : OneT) (c : UInt8) : Option OneT :=
  match valAt s c.toNat st.1 with
  | none => none
  | some (n, at_) => match sizeOf_ c.toNat n with
    | none => some (at_, st.2.1 ++ [(n : Int)], st.2.2)
    | some z => if s.length < at_ + z then none else some (at_ + z, st.2.1, st.2.2 ++ [(s.drop at_).take z])
def oneF (s : List UInt8) (at_ : Nat) : Option OneT := (rowS (((s[at_]?).getD 0).toNat % 16 : Nat)).foldlM (stp s) (at_ + 1, [], [])

theorem fold_snoc {s : List UInt8} {r : List UInt8} {i : Nat} {c : UInt8} {st0 st : OneT} (h : (r.take i).foldlM (stp s) st0 = some st) (hc : r[i]? = some c) : (r.take (i + 1)).foldlM (stp s) st0 = stp s st c := by
  rw [tk_snoc hc, List.foldlM_append, h]; simp
theorem fold_none {s : List UInt8} {r : List UInt8} {i : Nat} {c : UInt8} {st0 st : OneT} (h : (r.take i).foldlM (stp s) st0 = some st) (hc : r[i]? = some c) (hn : stp s st c = none) : r.foldlM (stp s) st0 = none := by
  rw [← List.take_append_drop (i + 1) r, List.foldlM_append, fold_snoc h hc, hn]; rfl
theorem rowS_len (k : Int) : (rowS k).length ≤ 8 := by unfold rowS; repeat (first | split | decide)

def OneQ (s : List UInt8) (at_ : Nat) (Fr : List HP) (v : Value) (Rs' : List HP) : Prop :=
  (oneF s at_ = none ∧ v = .tuple #[.slice none 0 0, .slice none 0 0, .int .i64 0, .bool false] ∧ Rs' = Fr) ∨
  ∃ st A c B d, oneF s at_ = some st ∧ v = .tuple #[.slice A st.2.1.length c, .slice B st.2.2.length d, .int .i64 (st.1 : Int), .bool true] ∧ Rs' = sl A st.2.1.length c 3 1 (iv st.2.1) :: sl B st.2.2.length d 9 1 (st.2.2.map str) :: Fr

theorem stp_some {w8 : List UInt8} {st : OneT} {q : UInt8} {n a2 : Nat} (h : valAt w8 q.toNat st.1 = some (n, a2)) : stp w8 st q = match sizeOf_ q.toNat n with
    | none => some (a2, st.2.1 ++ [(n : Int)], st.2.2)
    | some z => if w8.length < a2 + z then none else some (a2 + z, st.2.1, st.2.2 ++ [(w8.drop a2).take z]) := by
  unfold stp; rw [h]

theorem ref_one_tr {W0 : World} {Fr : List HP} (w8 : List UInt8) (a : Nat) (ha : a < w8.length) (hl : w8.length ≤ 1000000) :
    Tr W0 Try.prog 46 [str w8, .int .i64 (a : Int)] Fr (OneQ w8 a Fr) := by
  obtain ⟨ch, ho⟩ : ∃ ch, w8[a]? = some ch := ⟨_, List.getElem?_eq_getElem ha⟩
  have hch := UInt8.toNat_lt ch
  refine Entry.tr (N := 101) (rs := [.tmp 4, .tmp 5, .tmp 6, .tmp 7]) ⟨_, Try.func46, rfl, by kernel_rfl, rfl, rfl⟩ rfl ?_
  refine XC.seq fun K1 hK1 => ?_
  refine XC.region ?_
  refine x_v (r_as rfl) rfl ?_
  refine x_v (r_as rfl) rfl ?_
  refine x_v (r_as rfl) rfl ?_
  refine x_v (r_as rfl) rfl ?_
  refine XL.nil ?_
  refine hK1 _ _ ?_
  refine XC.keep [(0, _), (1, _)] ⟨rfl, rfl, trivial⟩ ?_
  refine XC.seq fun K2 hK2 => ?_
  refine XC.region ?_
  refine x_v (r_as rfl) rfl ?_
  refine XL.nil ?_
  refine hK2 _ _ ?_
  refine XC.keep [(0, _), (1, _), (8, _)] ⟨rfl, rfl, rfl, trivial⟩ ?_
  refine XC.seq fun K3 hK3 => ?_
  refine XC.region ?_
  refine x_v (r_as rfl) rfl ?_
  refine XL.nil ?_
  refine hK3 _ _ ?_
  refine XC.keep [(0, _), (1, _), (8, _), (9, _)] ⟨rfl, rfl, rfl, rfl, trivial⟩ ?_
  refine XC.seq fun K4 hK4 => ?_
  refine XC.region ?_
  refine x_v (r_mv rfl) rfl ?_
  refine x_v (r_mv rfl) rfl ?_
  refine x_v (r_six (k := a) Try.underlying9 rfl rfl (by omega) ho) rfl ?_
  refine x_v (r_cvn Try.underlying5 Try.underlying3 rfl (by rw [IntKind.wrap_i64]; omega)) rfl ?_
  refine x_v (r_rem rfl rfl (by omega)) rfl ?_
  refine x_c (r_call0 (args := [_]) ⟨rfl, rfl⟩ (row_tr _) (by repeat (first | exact Gets.done _ | exact Gets.all _ | (apply Gets.step; focus ((repeat (first | exact Pick.head _ _ | apply Pick.tail)); done)) | apply Gets.drop))) rfl ?_
  rintro _ _ ⟨rfl, hRs⟩
  rw [hRs]
  have hr8 := rowS_len ((ch.toNat : Int) % 16)
  have hof : oneF w8 a = (rowS ((ch.toNat : Int) % 16)).foldlM (stp w8) (a + 1, [], []) := by unfold oneF; rw [ho]; rfl
  generalize rowS ((ch.toNat : Int) % 16) = r at hr8 hof ⊢
  refine x_v (r_as rfl) rfl ?_
  refine XL.nil ?_
  refine hK4 _ _ ?_
  refine XC.keep [(0, _), (1, _), (8, _), (9, _), (10, _)] ⟨rfl, rfl, rfl, rfl, rfl, trivial⟩ ?_
  refine XC.seq fun K5 hK5 => ?_
  refine XC.region ?_
  refine x_v (r_mv rfl) rfl ?_
  refine x_v (r_add rfl rfl (by omega)) rfl ?_
  refine x_v (r_as rfl) rfl ?_
  refine XL.nil ?_
  refine hK5 _ _ ?_
  refine XC.keep [(0, _), (1, _), (8, _), (9, _), (10, _)] ⟨rfl, rfl, rfl, rfl, rfl, trivial⟩ ?_
  refine XC.seq fun K6 hK6 => ?_
  refine XC.seq fun K7 hK7 => ?_
  refine XC.nil_ 9 1 ?_
  refine XC.nil_ 3 1 ?_
  refine XC.region ?_
  refine x_v (r_as rfl) rfl ?_
  refine XL.nil ?_
  refine hK7 _ _ ?_
  refine XC.keep [(0, _), (1, _), (8, _), (9, _), (10, _), (11, _)] ⟨rfl, rfl, rfl, rfl, rfl, rfl, trivial⟩ ?_
  refine XC.block ?_
  refine XC.loop (σ := Nat × OneT × (Option Addr × Nat) × (Option Addr × Nat)) (fun s => [(0, str w8), (1, .int .i64 (s.2.1.1 : Int)), (8, .slice s.2.2.1.1 s.2.1.2.1.length s.2.2.1.2), (9, .slice s.2.2.2.1 s.2.1.2.2.length s.2.2.2.2), (10, str r), (11, .int .i64 (s.1 : Int))]) (fun s => sl s.2.2.1.1 s.2.1.2.1.length s.2.2.1.2 3 1 (iv s.2.1.2.1) :: sl s.2.2.2.1 s.2.1.2.2.length s.2.2.2.2 9 1 (s.2.1.2.2.map str) :: Fr) (fun s => s.1 ≤ r.length ∧ (r.take s.1).foldlM (stp w8) (a + 1, [], []) = some s.2.1 ∧ s.2.1.1 ≤ w8.length ∧ s.2.1.2.1.length ≤ s.1 ∧ s.2.1.2.2.length ≤ s.1) (fun s => r.length - s.1) (0, (a + 1, [], []), (none, 0), (none, 0)) ?_ ⟨rfl, rfl, rfl, rfl, rfl, rfl, trivial⟩ (by repeat (first | exact Gets.done _ | exact Gets.all _ | (apply Gets.step; focus ((repeat (first | exact Pick.head _ _ | apply Pick.tail)); done)) | apply Gets.drop)) ?_
  · exact ⟨Nat.zero_le _, rfl, by dsimp only; omega, Nat.le_refl _, Nat.le_refl _⟩
  rintro ⟨i, ⟨at_, nums, texts⟩, ⟨A, c⟩, ⟨B, d⟩⟩ ⟨hi, hI, hat, hn1, hn2⟩
  dsimp only at hi hI hat hn1 hn2 ⊢
  refine XC.seq fun K8 hK8 => ?_
  refine XC.seq fun K9 hK9 => ?_
  refine XC.region ?_
  refine x_v (r_mv rfl) rfl ?_
  refine x_v (r_mv rfl) rfl ?_
  refine x_v (r_lens Try.underlying9 rfl) rfl ?_
  refine x_v (r_lt rfl rfl) rfl ?_
  refine XL.nil ?_
  refine hK9 _ _ ?_
  refine XC.keep [(0, _), (1, _), (8, _), (9, _), (10, _), (11, _), (25, _)] ⟨rfl, rfl, rfl, rfl, rfl, rfl, rfl, trivial⟩ ?_
  refine XC.cond_d rfl (fun hc1 => ?_) (fun hc1 => ?_)
  · refine XC.skip ?_
    refine hK8 _ _ ?_
    refine XC.keep [(0, _), (1, _), (8, _), (9, _), (10, _), (11, _)] ⟨rfl, rfl, rfl, rfl, rfl, rfl, trivial⟩ ?_
    refine XC.seq fun K10 hK10 => ?_
    refine XC.block ?_
    refine XC.seq fun K11 hK11 => ?_
    refine XC.seq fun K12 hK12 => ?_
    obtain ⟨q, hq⟩ : ∃ q, r[i]? = some q := ⟨_, List.getElem?_eq_getElem (by omega)⟩
    have hq8 := UInt8.toNat_lt q
    refine XC.region ?_
    refine x_v (r_mv rfl) rfl ?_
    refine x_v (r_mv rfl) rfl ?_
    refine x_v (r_lens Try.underlying9 rfl) rfl ?_
    refine x_v (r_ge rfl rfl) rfl ?_
    refine XL.nil ?_
    refine hK12 _ _ ?_
    refine XC.keep [(0, _), (1, _), (8, _), (9, _), (10, _), (11, _), (31, _)] ⟨rfl, rfl, rfl, rfl, rfl, rfl, rfl, trivial⟩ ?_
    refine XC.cond_d rfl (fun hc2 => ?_) (fun hc2 => ?_)
    · refine XC.seq fun K13 hK13 => ?_
      refine XC.region ?_
      refine x_v (r_as rfl) rfl ?_
      refine x_v (r_as rfl) rfl ?_
      refine x_v (r_as rfl) rfl ?_
      refine x_v (r_as rfl) rfl ?_
      refine XL.nil ?_
      refine hK13 _ _ ?_
      refine XC.keep [(4, _), (5, _), (6, _), (7, _)] ⟨rfl, rfl, rfl, rfl, trivial⟩ ?_
      refine XC.ret ?_
      exact fin4 rfl rfl rfl rfl (Or.inl ⟨hof.trans (fold_none hI hq (by unfold stp valAt; rw [List.getElem?_eq_none (by dsimp only; omega)])), rfl, rfl⟩) (by repeat (first | exact Gets.done _ | exact Gets.all _ | (apply Gets.step; focus ((repeat (first | exact Pick.head _ _ | apply Pick.tail)); done)) | apply Gets.drop))
    · refine XC.skip ?_
      refine hK11 _ _ ?_
      refine XC.keep [(0, _), (1, _), (8, _), (9, _), (10, _), (11, _)] ⟨rfl, rfl, rfl, rfl, rfl, rfl, trivial⟩ ?_
      refine XC.seq fun K14 hK14 => ?_
      obtain ⟨b1, hb1⟩ : ∃ b1, w8[at_]? = some b1 := ⟨_, List.getElem?_eq_getElem (by omega)⟩
      have hb8 := UInt8.toNat_lt b1
      refine XC.region ?_
      refine x_v (r_mv rfl) rfl ?_
      refine x_v (r_mv rfl) rfl ?_
      refine x_v (r_six (k := at_) Try.underlying9 rfl rfl (by omega) hb1) rfl ?_
      refine x_v (r_cvn Try.underlying5 Try.underlying3 rfl (by rw [IntKind.wrap_i64]; omega)) rfl ?_
      refine x_v (r_as rfl) rfl ?_
      refine XL.nil ?_
      refine hK14 _ _ ?_
      refine XC.keep [(0, _), (1, _), (8, _), (9, _), (10, _), (11, _), (12, _)] ⟨rfl, rfl, rfl, rfl, rfl, rfl, rfl, trivial⟩ ?_
      refine XC.seq fun K15 hK15 => ?_
      refine XC.region ?_
      refine x_v (r_mv rfl) rfl ?_
      refine x_v (r_add rfl rfl (by omega)) rfl ?_
      refine x_v (r_as rfl) rfl ?_
      refine XL.nil ?_
      refine hK15 _ _ ?_
      refine XC.keep [(0, _), (1, _), (8, _), (9, _), (10, _), (11, _), (12, _)] ⟨rfl, rfl, rfl, rfl, rfl, rfl, rfl, trivial⟩ ?_
      refine XC.seqcut (σ := Nat × Nat) (fun s => [(0, str w8), (1, .int .i64 (s.2 : Int)), (8, .slice A nums.length c), (9, .slice B texts.length d), (10, str r), (11, .int .i64 (i : Int)), (12, .int .i64 (s.1 : Int))]) (fun s => sl A nums.length c 3 1 (iv nums) :: sl B texts.length d 9 1 (texts.map str) :: Fr) (fun s => valAt w8 q.toNat at_ = some s ∧ s.2 ≤ w8.length ∧ s.1 < 65536) ?_ ?_
      · refine XC.seq fun K17 hK17 => ?_
        refine XC.region ?_
        refine x_v (r_mv rfl) rfl ?_
        refine x_v (r_mv rfl) rfl ?_
        refine x_v (r_six (k := i) Try.underlying9 rfl rfl (by omega) hq) rfl ?_
        refine x_v (r_eq rfl rfl) rfl ?_
        refine x_v (r_mv rfl) rfl ?_
        refine XL.splitd 42 rfl (fun hg42 => ?_) (fun hg42 => ?_)
        · refine x_unwant rfl rfl rfl rfl rfl ?_
          refine x_unwant rfl rfl rfl rfl rfl ?_
          refine x_unwant rfl rfl rfl rfl rfl ?_
          refine x_unwant rfl rfl rfl rfl rfl ?_
          refine x_v (r_pk_t rfl rfl) rfl ?_
          refine XL.nil ?_
          refine hK17 _ _ ?_
          refine XC.keep [(0, _), (1, _), (8, _), (9, _), (10, _), (11, _), (12, _), (47, _)] ⟨rfl, rfl, rfl, rfl, rfl, rfl, rfl, rfl, trivial⟩ ?_
          refine XC.cond_t rfl ?_
          refine XC.seq fun K18 hK18 => ?_
          refine XC.seq fun K19 hK19 => ?_
          refine XC.region ?_
          refine x_v (r_mv rfl) rfl ?_
          refine x_v (r_mv rfl) rfl ?_
          refine x_v (r_lens Try.underlying9 rfl) rfl ?_
          refine x_v (r_ge rfl rfl) rfl ?_
          refine XL.nil ?_
          refine hK19 _ _ ?_
          refine XC.keep [(0, _), (1, _), (8, _), (9, _), (10, _), (11, _), (12, _), (51, _)] ⟨rfl, rfl, rfl, rfl, rfl, rfl, rfl, rfl, trivial⟩ ?_
          refine XC.cond_d rfl (fun hc4 => ?_) (fun hc4 => ?_)
          · refine XC.seq fun K20 hK20 => ?_
            refine XC.region ?_
            refine x_v (r_as rfl) rfl ?_
            refine x_v (r_as rfl) rfl ?_
            refine x_v (r_as rfl) rfl ?_
            refine x_v (r_as rfl) rfl ?_
            refine XL.nil ?_
            refine hK20 _ _ ?_
            refine XC.keep [(4, _), (5, _), (6, _), (7, _)] ⟨rfl, rfl, rfl, rfl, trivial⟩ ?_
            refine XC.ret ?_
            exact fin4 rfl rfl rfl rfl (Or.inl ⟨hof.trans (fold_none hI hq (by unfold stp valAt; dsimp only; rw [hb1]; dsimp only; rw [if_pos (by omega), List.getElem?_eq_none (by omega)])), rfl, rfl⟩) (by repeat (first | exact Gets.done _ | exact Gets.all _ | (apply Gets.step; focus ((repeat (first | exact Pick.head _ _ | apply Pick.tail)); done)) | apply Gets.drop))
          · refine XC.skip ?_
            refine hK18 _ _ ?_
            refine XC.keep [(0, _), (1, _), (8, _), (9, _), (10, _), (11, _), (12, _)] ⟨rfl, rfl, rfl, rfl, rfl, rfl, rfl, trivial⟩ ?_
            refine XC.seq fun K21 hK21 => ?_
            obtain ⟨b2, hb2⟩ : ∃ b2, w8[at_ + 1]? = some b2 := ⟨_, List.getElem?_eq_getElem (by omega)⟩
            have hb9 := UInt8.toNat_lt b2
            refine XC.region ?_
            refine x_v (r_mv rfl) rfl ?_
            refine x_v (r_mv rfl) rfl ?_
            refine x_v (r_mv rfl) rfl ?_
            refine x_v (r_six (k := at_ + 1) Try.underlying9 rfl rfl (by omega) hb2) rfl ?_
            refine x_v (r_cvn Try.underlying5 Try.underlying3 rfl (by rw [IntKind.wrap_i64]; omega)) rfl ?_
            refine x_v (r_mul rfl rfl (by omega)) rfl ?_
            refine x_v (r_add rfl rfl (by omega)) rfl ?_
            refine x_v (r_as rfl) rfl ?_
            refine XL.nil ?_
            refine hK21 _ _ ?_
            refine XC.keep [(0, _), (1, _), (8, _), (9, _), (10, _), (11, _), (12, _)] ⟨rfl, rfl, rfl, rfl, rfl, rfl, rfl, trivial⟩ ?_
            refine XC.region ?_
            refine x_v (r_mv rfl) rfl ?_
            refine x_v (r_add rfl rfl (by omega)) rfl ?_
            refine x_v (r_as rfl) rfl ?_
            refine XL.nil ?_
            exact ⟨(b1.toNat + 256 * b2.toNat, at_ + 2), ⟨by unfold valAt; rw [hb1]; dsimp only; rw [if_pos (by omega), hb2], by dsimp only; omega, by dsimp only; omega⟩, ⟨rfl, rfl, rfl, rfl, rfl, rfl, rfl, trivial⟩, (by repeat (first | exact Gets.done _ | exact Gets.all _ | (apply Gets.step; focus ((repeat (first | exact Pick.head _ _ | apply Pick.tail)); done)) | apply Gets.drop))⟩
        · refine x_want rfl rfl rfl ?_
          refine x_v (r_mv rfl) rfl ?_
          refine x_want rfl rfl rfl ?_
          refine x_v (r_mv rfl) rfl ?_
          refine x_want rfl rfl rfl ?_
          refine x_v (r_six (k := i) Try.underlying9 rfl rfl (by omega) hq) rfl ?_
          refine x_want rfl rfl rfl ?_
          refine x_v (r_eq rfl rfl) rfl ?_
          refine x_v (r_pk_f rfl rfl) rfl ?_
          refine XL.nil ?_
          refine hK17 _ _ ?_
          refine XC.keep [(0, _), (1, _), (8, _), (9, _), (10, _), (11, _), (12, _), (47, _)] ⟨rfl, rfl, rfl, rfl, rfl, rfl, rfl, rfl, trivial⟩ ?_
          refine XC.cond_d rfl (fun hc5 => ?_) (fun hc5 => ?_)
          · refine XC.seq fun K22 hK22 => ?_
            refine XC.seq fun K23 hK23 => ?_
            refine XC.region ?_
            refine x_v (r_mv rfl) rfl ?_
            refine x_v (r_mv rfl) rfl ?_
            refine x_v (r_lens Try.underlying9 rfl) rfl ?_
            refine x_v (r_ge rfl rfl) rfl ?_
            refine XL.nil ?_
            refine hK23 _ _ ?_
            refine XC.keep [(0, _), (1, _), (8, _), (9, _), (10, _), (11, _), (12, _), (51, _)] ⟨rfl, rfl, rfl, rfl, rfl, rfl, rfl, rfl, trivial⟩ ?_
            refine XC.cond_d rfl (fun hc6 => ?_) (fun hc6 => ?_)
            · refine XC.seq fun K24 hK24 => ?_
              refine XC.region ?_
              refine x_v (r_as rfl) rfl ?_
              refine x_v (r_as rfl) rfl ?_
              refine x_v (r_as rfl) rfl ?_
              refine x_v (r_as rfl) rfl ?_
              refine XL.nil ?_
              refine hK24 _ _ ?_
              refine XC.keep [(4, _), (5, _), (6, _), (7, _)] ⟨rfl, rfl, rfl, rfl, trivial⟩ ?_
              refine XC.ret ?_
              exact fin4 rfl rfl rfl rfl (Or.inl ⟨hof.trans (fold_none hI hq (by unfold stp valAt; dsimp only; rw [hb1]; dsimp only; rw [if_pos (by omega), List.getElem?_eq_none (by omega)])), rfl, rfl⟩) (by repeat (first | exact Gets.done _ | exact Gets.all _ | (apply Gets.step; focus ((repeat (first | exact Pick.head _ _ | apply Pick.tail)); done)) | apply Gets.drop))
            · refine XC.skip ?_
              refine hK22 _ _ ?_
              refine XC.keep [(0, _), (1, _), (8, _), (9, _), (10, _), (11, _), (12, _)] ⟨rfl, rfl, rfl, rfl, rfl, rfl, rfl, trivial⟩ ?_
              refine XC.seq fun K25 hK25 => ?_
              obtain ⟨b2, hb2⟩ : ∃ b2, w8[at_ + 1]? = some b2 := ⟨_, List.getElem?_eq_getElem (by omega)⟩
              have hb9 := UInt8.toNat_lt b2
              refine XC.region ?_
              refine x_v (r_mv rfl) rfl ?_
              refine x_v (r_mv rfl) rfl ?_
              refine x_v (r_mv rfl) rfl ?_
              refine x_v (r_six (k := at_ + 1) Try.underlying9 rfl rfl (by omega) hb2) rfl ?_
              refine x_v (r_cvn Try.underlying5 Try.underlying3 rfl (by rw [IntKind.wrap_i64]; omega)) rfl ?_
              refine x_v (r_mul rfl rfl (by omega)) rfl ?_
              refine x_v (r_add rfl rfl (by omega)) rfl ?_
              refine x_v (r_as rfl) rfl ?_
              refine XL.nil ?_
              refine hK25 _ _ ?_
              refine XC.keep [(0, _), (1, _), (8, _), (9, _), (10, _), (11, _), (12, _)] ⟨rfl, rfl, rfl, rfl, rfl, rfl, rfl, trivial⟩ ?_
              refine XC.region ?_
              refine x_v (r_mv rfl) rfl ?_
              refine x_v (r_add rfl rfl (by omega)) rfl ?_
              refine x_v (r_as rfl) rfl ?_
              refine XL.nil ?_
              exact ⟨(b1.toNat + 256 * b2.toNat, at_ + 2), ⟨by unfold valAt; rw [hb1]; dsimp only; rw [if_pos (by omega), hb2], by dsimp only; omega, by dsimp only; omega⟩, ⟨rfl, rfl, rfl, rfl, rfl, rfl, rfl, trivial⟩, (by repeat (first | exact Gets.done _ | exact Gets.all _ | (apply Gets.step; focus ((repeat (first | exact Pick.head _ _ | apply Pick.tail)); done)) | apply Gets.drop))⟩
          · refine XC.skip ?_
            exact ⟨(b1.toNat, at_ + 1), ⟨by unfold valAt; rw [hb1]; dsimp only; rw [if_neg (by omega)], by dsimp only; omega, by dsimp only; omega⟩, ⟨rfl, rfl, rfl, rfl, rfl, rfl, rfl, trivial⟩, (by repeat (first | exact Gets.done _ | exact Gets.all _ | (apply Gets.step; focus ((repeat (first | exact Pick.head _ _ | apply Pick.tail)); done)) | apply Gets.drop))⟩
      · rintro ⟨n, a2⟩ ⟨hv, ha2, hn6⟩
        dsimp only at ha2 hn6 ⊢
        refine XC.seq fun K26 hK26 => ?_
        refine XC.region ?_
        refine x_v (r_as rfl) rfl ?_
        refine XL.nil ?_
        refine hK26 _ _ ?_
        refine XC.keep [(0, _), (1, _), (8, _), (9, _), (10, _), (11, _), (12, _)] ⟨rfl, rfl, rfl, rfl, rfl, rfl, rfl, trivial⟩ ?_
        refine XC.seqcut (σ := Nat) (fun s => [(0, str w8), (1, .int .i64 (a2 : Int)), (8, .slice A nums.length c), (9, .slice B texts.length d), (10, str r), (11, .int .i64 (i : Int)), (13, .int .i64 (s : Int))]) (fun s => sl A nums.length c 3 1 (iv nums) :: sl B texts.length d 9 1 (texts.map str) :: Fr) (fun s => sizeOf_ q.toNat n = some s ∧ s < 65536) ?_ ?_
        · refine XC.seq fun K28 hK28 => ?_
          refine XC.region ?_
          refine x_v (r_mv rfl) rfl ?_
          refine x_v (r_mv rfl) rfl ?_
          refine x_v (r_six (k := i) Try.underlying9 rfl rfl (by omega) hq) rfl ?_
          refine XL.nil ?_
          refine hK28 _ _ ?_
          refine XC.keep [(0, _), (1, _), (8, _), (9, _), (10, _), (11, _), (12, _), (63, _)] ⟨rfl, rfl, rfl, rfl, rfl, rfl, rfl, rfl, trivial⟩ ?_
          refine XC.block ?_
          refine XC.seq fun K29 hK29 => ?_
          refine XC.region ?_
          refine x_v (r_eq rfl rfl) rfl ?_
          refine x_v (r_as rfl) rfl ?_
          refine XL.nil ?_
          refine hK29 _ _ ?_
          refine XC.keep [(0, _), (1, _), (8, _), (9, _), (10, _), (11, _), (12, _), (63, _), (68, _)] ⟨rfl, rfl, rfl, rfl, rfl, rfl, rfl, rfl, rfl, trivial⟩ ?_
          refine XC.cond_d rfl (fun hc7 => ?_) (fun hc7 => ?_)
          · refine XC.region ?_
            refine x_v (r_mv rfl) rfl ?_
            refine x_v (r_rem rfl rfl (by omega)) rfl ?_
            refine x_v (r_as rfl) rfl ?_
            refine XL.nil ?_
            exact ⟨n % 32, ⟨by unfold sizeOf_; rw [if_pos (by omega)], by omega⟩, ⟨rfl, rfl, rfl, rfl, rfl, rfl, rfl, trivial⟩, (by repeat (first | exact Gets.done _ | exact Gets.all _ | (apply Gets.step; focus ((repeat (first | exact Pick.head _ _ | apply Pick.tail)); done)) | apply Gets.drop))⟩
          · refine XC.seq fun K30 hK30 => ?_
            refine XC.region ?_
            refine x_v (r_eq rfl rfl) rfl ?_
            refine x_v (r_as rfl) rfl ?_
            refine XL.nil ?_
            refine hK30 _ _ ?_
            refine XC.keep [(0, _), (1, _), (8, _), (9, _), (10, _), (11, _), (12, _), (63, _), (72, _)] ⟨rfl, rfl, rfl, rfl, rfl, rfl, rfl, rfl, rfl, trivial⟩ ?_
            refine XC.cond_d rfl (fun hc8 => ?_) (fun hc8 => ?_)
            · refine XC.region ?_
              refine x_v (r_mv rfl) rfl ?_
              refine x_v (r_rem rfl rfl (by omega)) rfl ?_
              refine x_v (r_as rfl) rfl ?_
              refine XL.nil ?_
              exact ⟨n % 1024, ⟨by unfold sizeOf_; rw [if_neg (by omega), if_pos (by omega)], by omega⟩, ⟨rfl, rfl, rfl, rfl, rfl, rfl, rfl, trivial⟩, (by repeat (first | exact Gets.done _ | exact Gets.all _ | (apply Gets.step; focus ((repeat (first | exact Pick.head _ _ | apply Pick.tail)); done)) | apply Gets.drop))⟩
            · refine XC.seq fun K31 hK31 => ?_
              refine XC.region ?_
              refine x_v (r_eq rfl rfl) rfl ?_
              refine x_v (r_as rfl) rfl ?_
              refine XL.nil ?_
              refine hK31 _ _ ?_
              refine XC.keep [(0, _), (1, _), (8, _), (9, _), (10, _), (11, _), (12, _), (76, _)] ⟨rfl, rfl, rfl, rfl, rfl, rfl, rfl, rfl, trivial⟩ ?_
              refine XC.cond_d rfl (fun hc9 => ?_) (fun hc9 => ?_)
              · refine XC.region ?_
                refine x_v (r_mv rfl) rfl ?_
                refine x_v (r_rem rfl rfl (by omega)) rfl ?_
                refine x_v (r_as rfl) rfl ?_
                refine XL.nil ?_
                exact ⟨n % 8, ⟨by unfold sizeOf_; rw [if_neg (by omega), if_neg (by omega), if_pos (by omega)], by omega⟩, ⟨rfl, rfl, rfl, rfl, rfl, rfl, rfl, trivial⟩, (by repeat (first | exact Gets.done _ | exact Gets.all _ | (apply Gets.step; focus ((repeat (first | exact Pick.head _ _ | apply Pick.tail)); done)) | apply Gets.drop))⟩
              · refine XC.seq fun K32 hK32 => ?_
                refine XC.region ?_
                refine x_v (r_mv rfl) rfl ?_
                refine x_v (r_mv rfl) rfl ?_
                refine x_a (r_bs (vs := [_]) rfl ⟨rfl, rfl⟩ (bs40_1_0 _)) rfl fun b66 => ?_
                refine x_a (r_app Try.underlying40 ty3 rfl (by decide) rfl rfl (by repeat (first | exact Pick.head _ _ | apply Pick.tail)) (Rdb.of_blk (b := b66) (n := 1) (sz := 1) (xs := [.int .i64 (n : Int)]) (by repeat (first | exact Pick.head _ _ | apply Pick.tail)) 0 rfl (fun _ _ h => by rw [Nat.zero_add]; exact h)) rfl (by unfold maxLen; omega) (by omega)) rfl fun ⟨A67, c67⟩ => ?_
                dsimp only
                rw [show nums.length + 1 = (nums ++ [(n : Int)]).length by simp, show iv nums ++ [.int .i64 (n : Int)] = iv (nums ++ [(n : Int)]) by simp [iv]]
                refine x_v (r_as rfl) rfl ?_
                refine XL.nil ?_
                refine hK32 _ _ ?_
                refine XC.keep [(0, _), (1, _), (8, _), (9, _), (10, _), (11, _)] ⟨rfl, rfl, rfl, rfl, rfl, rfl, trivial⟩ ?_
                refine XC.exit rfl ?_
                refine hK10 _ _ ?_
                refine XC.keep [(0, _), (1, _), (8, _), (9, _), (10, _), (11, _)] ⟨rfl, rfl, rfl, rfl, rfl, rfl, trivial⟩ ?_
                refine XC.region ?_
                refine x_v (r_mv rfl) rfl ?_
                refine x_v (r_add rfl rfl (by omega)) rfl ?_
                refine x_v (r_as rfl) rfl ?_
                refine XL.nil ?_
                refine ⟨(i + 1, (a2, nums ++ [(n : Int)], texts), (A67, c67), (B, d)), ?_, ?_, ⟨rfl, rfl, rfl, rfl, rfl, rfl, trivial⟩, (by repeat (first | exact Gets.done _ | exact Gets.all _ | (apply Gets.step; focus ((repeat (first | exact Pick.head _ _ | apply Pick.tail)); done)) | apply Gets.drop))⟩
                · exact ⟨by dsimp only; omega, by dsimp only; rw [fold_snoc hI hq, stp_some hv, show sizeOf_ q.toNat n = none by unfold sizeOf_; rw [if_neg (by omega), if_neg (by omega), if_neg (by omega)]], by dsimp only; omega, by simp; omega, by dsimp only; omega⟩
                · dsimp only; omega
        · rintro z ⟨hz, hz6⟩
          refine XC.seq fun K33 hK33 => ?_
          refine XC.seq fun K34 hK34 => ?_
          refine XC.region ?_
          refine x_v (r_mv rfl) rfl ?_
          refine x_v (r_mv rfl) rfl ?_
          refine x_v (r_lens Try.underlying9 rfl) rfl ?_
          refine x_v (r_mv rfl) rfl ?_
          refine x_v (r_sub rfl rfl (by omega)) rfl ?_
          refine x_v (r_gt rfl rfl) rfl ?_
          refine XL.nil ?_
          refine hK34 _ _ ?_
          refine XC.keep [(0, _), (1, _), (8, _), (9, _), (10, _), (11, _), (13, _), (85, _)] ⟨rfl, rfl, rfl, rfl, rfl, rfl, rfl, rfl, trivial⟩ ?_
          refine XC.cond_d rfl (fun hc10 => ?_) (fun hc10 => ?_)
          · refine XC.seq fun K35 hK35 => ?_
            refine XC.region ?_
            refine x_v (r_as rfl) rfl ?_
            refine x_v (r_as rfl) rfl ?_
            refine x_v (r_as rfl) rfl ?_
            refine x_v (r_as rfl) rfl ?_
            refine XL.nil ?_
            refine hK35 _ _ ?_
            refine XC.keep [(4, _), (5, _), (6, _), (7, _)] ⟨rfl, rfl, rfl, rfl, trivial⟩ ?_
            refine XC.ret ?_
            exact fin4 rfl rfl rfl rfl (Or.inl ⟨hof.trans (fold_none hI hq (by rw [stp_some hv, hz]; dsimp only; rw [if_pos (by omega)])), rfl, rfl⟩) (by repeat (first | exact Gets.done _ | exact Gets.all _ | (apply Gets.step; focus ((repeat (first | exact Pick.head _ _ | apply Pick.tail)); done)) | apply Gets.drop))
          · refine XC.skip ?_
            refine hK33 _ _ ?_
            refine XC.keep [(0, _), (1, _), (8, _), (9, _), (10, _), (11, _), (13, _)] ⟨rfl, rfl, rfl, rfl, rfl, rfl, rfl, trivial⟩ ?_
            refine XC.seq fun K36 hK36 => ?_
            refine XC.region ?_
            refine x_v (r_mv rfl) rfl ?_
            refine x_v (r_mv rfl) rfl ?_
            refine x_v (r_mv rfl) rfl ?_
            refine x_v (r_mv rfl) rfl ?_
            refine x_v (r_mv rfl) rfl ?_
            refine x_v (r_add rfl rfl (by omega)) rfl ?_
            refine x_v (r_ssl (a2) (a2 + z) Try.underlying9 rfl ⟨_, by rfl⟩ ⟨_, by rfl⟩ (by omega) (by omega)) rfl ?_
            rw [show a2 + z - a2 = z by omega]
            refine x_a (r_bs (vs := [_]) rfl ⟨rfl, rfl⟩ (bs88_1_0 _)) rfl fun b93 => ?_
            refine x_a (r_app Try.underlying88 ty9 rfl (by decide) rfl rfl (by repeat (first | exact Pick.head _ _ | apply Pick.tail)) (Rdb.of_blk (b := b93) (n := 1) (sz := 1) (xs := [str ((w8.drop a2).take z)]) (by repeat (first | exact Pick.head _ _ | apply Pick.tail)) 0 rfl (fun _ _ h => by rw [Nat.zero_add]; exact h)) rfl (by unfold maxLen; omega) (by omega)) rfl fun ⟨A94, c94⟩ => ?_
            dsimp only
            rw [show texts.length + 1 = (texts ++ [(w8.drop a2).take z]).length by simp, show texts.map str ++ [str ((w8.drop a2).take z)] = (texts ++ [(w8.drop a2).take z]).map str by simp]
            refine x_v (r_as rfl) rfl ?_
            refine XL.nil ?_
            refine hK36 _ _ ?_
            refine XC.keep [(0, _), (1, _), (8, _), (9, _), (10, _), (11, _), (13, _)] ⟨rfl, rfl, rfl, rfl, rfl, rfl, rfl, trivial⟩ ?_
            refine XC.region ?_
            refine x_v (r_mv rfl) rfl ?_
            refine x_v (r_mv rfl) rfl ?_
            refine x_v (r_add rfl rfl (by omega)) rfl ?_
            refine x_v (r_as rfl) rfl ?_
            refine XL.nil ?_
            refine hK10 _ _ ?_
            refine XC.keep [(0, _), (1, _), (8, _), (9, _), (10, _), (11, _)] ⟨rfl, rfl, rfl, rfl, rfl, rfl, trivial⟩ ?_
            refine XC.region ?_
            refine x_v (r_mv rfl) rfl ?_
            refine x_v (r_add rfl rfl (by omega)) rfl ?_
            refine x_v (r_as rfl) rfl ?_
            refine XL.nil ?_
            refine ⟨(i + 1, (a2 + z, nums, texts ++ [(w8.drop a2).take z]), (A, c), (A94, c94)), ?_, ?_, ⟨rfl, rfl, rfl, rfl, rfl, rfl, trivial⟩, (by repeat (first | exact Gets.done _ | exact Gets.all _ | (apply Gets.step; focus ((repeat (first | exact Pick.head _ _ | apply Pick.tail)); done)) | apply Gets.drop))⟩
            · exact ⟨by dsimp only; omega, by dsimp only; rw [fold_snoc hI hq, stp_some hv, hz]; dsimp only; rw [if_neg (by omega)], by dsimp only; omega, by dsimp only; omega, by simp; omega⟩
            · dsimp only; omega
  · refine XC.exit rfl ?_
    refine hK6 _ _ ?_
    refine XC.keep [(1, _), (8, _), (9, _)] ⟨rfl, rfl, rfl, trivial⟩ ?_
    refine XC.seq fun K37 hK37 => ?_
    refine XC.region ?_
    refine x_v (r_mv rfl) rfl ?_
    refine x_v (r_mv rfl) rfl ?_
    refine x_v (r_mv rfl) rfl ?_
    refine x_v (r_as rfl) rfl ?_
    refine x_v (r_as rfl) rfl ?_
    refine x_v (r_as rfl) rfl ?_
    refine x_v (r_as rfl) rfl ?_
    refine XL.nil ?_
    refine hK37 _ _ ?_
    refine XC.keep [(4, _), (5, _), (6, _), (7, _)] ⟨rfl, rfl, rfl, rfl, trivial⟩ ?_
    refine XC.ret ?_
    obtain rfl : i = r.length := by omega
    rw [List.take_length] at hI
    exact fin4 rfl rfl rfl rfl (Or.inr ⟨(at_, nums, texts), A, c, B, d, hof.trans hI, rfl, rfl⟩) (by repeat (first | exact Gets.done _ | exact Gets.all _ | (apply Gets.step; focus ((repeat (first | exact Pick.head _ _ | apply Pick.tail)); done)) | apply Gets.drop))
end Go.Proofs.Ytdppjmdjmbbclaa

/- Scripts: the reference's reading (function 27). -/
import Derived.Test.YtdppjmdjmbbclaaScript14
namespace Go.Proofs.Ytdppjmdjmbbclaa
open Go.Sx
set_option linter.unusedVariables false

/-- A list of acts is returned. -/
def Out (W0 : World) (Fr : List HP) (F : List Av) (v : Value) (Rs' : List HP) : Prop :=
  ∃ A c L, v = .slice A L.length c ∧ RdA W0 Rs' A L ∧ L.map Ac.v = F ∧ (∀ w, Own W0 w Rs' → Own W0 w Fr) ∧ L.length ≤ c

theorem rda_take {W0 : World} {F2 : List HP} {A : Option Addr} {c : Nat} {L : List Ac} {m : Nat} (hm : m ≤ L.length) (hA : 0 < L.length → ∃ g, A = some ⟨g, 0, none⟩) (hl : L.length ≤ 140737488355328)
    (hk : ∀ x ∈ L, Rdb W0 F2 x.A x.n 1 (iv x.ks) ∧ x.n ≤ 7) : RdA W0 (sl A L.length c 83 12 (cells ac L) :: F2) A (L.take m) := by
  have h1 : Rdb W0 (sl A L.length c 83 12 (cells ac L) :: F2) A L.length 12 (cells ac L) := Rdb.of_sl (.head _ _) (by rw [cells_len ac_len]) hA
  refine ⟨⟨by rw [cells_len ac_len], fun hn => ?_⟩, fun a ha => (hk a (List.mem_of_mem_take ha)).1.mono fun w h => h.tail, by rw [List.length_take]; omega, fun a ha => by have := (hk a (List.mem_of_mem_take ha)).2; omega⟩
  obtain ⟨b, o, e, k⟩ := h1.at_ (by rw [List.length_take] at hn; omega)
  refine ⟨b, o, e, fun w hw j u hu => k w hw j u ?_⟩
  rw [← cells_take ac_len, List.getElem?_take] at hu
  split at hu
  · exact hu
  · cases hu

/-- What holds between two acts of the reading. -/
structure RI (W0 : World) (Fr : List HP) (s : List UInt8) (a f : Nat) (L : List Ac) (F2 : List HP) : Prop where
  ha : a ≤ s.length
  hf : s.length - a ≤ f
  eq : readR s s.length 0 = L.map Ac.v ++ readR s f a
  own : ∀ w, Own W0 w F2 → Own W0 w Fr
  ks : ∀ x ∈ L, Rdb W0 F2 x.A x.n 1 (iv x.ks) ∧ x.n ≤ 7
  le : L.length ≤ 255 * a

theorem oneF_le {s : List UInt8} {a : Nat} {b : UInt8} {st : OneT} (hb : s[a]? = some b) (h1 : oneF s a = some st) : a + 1 ≤ st.1 ∧ st.1 ≤ s.length := by
  unfold oneF at h1
  have := fold_len _ h1
  have ha := (List.getElem?_eq_some_iff.1 hb).1
  exact ⟨this.1, this.2.1 ha⟩

theorem RI.step {W0 : World} {Fr : List HP} {s : List UInt8} {a f : Nat} {L : List Ac} {F2 F3 : List HP} (h : RI W0 Fr s a f L F2) {b : UInt8} {st : OneT} (hb : s[a]? = some b) (h1 : oneF s a = some st) (news : List Ac) (hm : news.map Ac.v = actsOf (b.toNat % 16) st.2.1 st.2.2)
    (hk : ∀ x ∈ news, Rdb W0 F3 x.A x.n 1 (iv x.ks) ∧ x.n ≤ 7) (hl : news.length ≤ 255) (ho : ∀ w, Own W0 w F3 → Own W0 w F2) : RI W0 Fr s st.1 (f - 1) (L ++ news) F3 := by
  have ha := (List.getElem?_eq_some_iff.1 hb).1
  have h2 := oneF_le hb h1
  obtain ⟨f', rfl⟩ : ∃ f', f = f' + 1 := ⟨f - 1, by have := h.hf; omega⟩
  refine ⟨h2.2, by have := h.hf; omega, ?_, fun w hw => h.own w (ho w hw), fun x hx => ?_, ?_⟩
  · rw [h.eq]
    conv => lhs; unfold readR
    rw [hb]; dsimp only
    rw [h1]; simp [hm]
  · rcases List.mem_append.1 hx with hx | hx
    · exact ⟨(h.ks x hx).1.mono ho, (h.ks x hx).2⟩
    · exact hk x hx
  · have := h.le
    rw [List.length_append]; omega
theorem RI.stop {W0 : World} {Fr : List HP} {s : List UInt8} {a f : Nat} {L : List Ac} {F2 : List HP} (h : RI W0 Fr s a f L F2) (hs : s[a]? = none ∨ oneF s a = none) : readR s s.length 0 = L.map Ac.v := by
  rw [h.eq]
  have : readR s f a = [] := by
    cases f with
    | zero => rfl
    | succ f =>
      unfold readR
      rcases hs with hs | hs
      · rw [hs]
      · cases hb : s[a]? with
        | none => rfl
        | some b => rw [hs]
  rw [this, List.append_nil]

theorem nums_at {W0 : World} {g n c : Nat} {ns : List Int} : ∀ j, j < ns.length → ∀ w, Own W0 w [sl (some ⟨g, 0, none⟩) n c 3 1 (iv ns)] → w.cell? ⟨g, 0 + j * 1, none⟩ = some (.int .i64 (ns.getD j 0)) := by
  intro j hj w hw
  have hl := hw.sl_len.1
  have hr : Rdb W0 [sl (some ⟨g, 0, none⟩) n c 3 1 (iv ns)] (some ⟨g, 0, none⟩) n 1 (iv ns) := Rdb.of_sl (.head _ _) hl (fun _ => ⟨g, rfl⟩)
  have hln : ns.length = n := by simpa [iv] using hl
  obtain ⟨b, o, e, k⟩ := hr.at_ (by omega)
  simp only [Option.some.injEq, Addr.mk.injEq, and_true] at e
  obtain ⟨rfl, rfl⟩ := e
  have := k w hw j (.int .i64 (ns.getD j 0)) (by simp [iv, hj])
  simpa using this
theorem texts_at {W0 : World} {g n c : Nat} {ts : List (List UInt8)} : ∀ j, j < ts.length → ∀ w, Own W0 w [sl (some ⟨g, 0, none⟩) n c 9 1 (ts.map str)] → w.cell? ⟨g, 0 + j * 1, none⟩ = some (str (ts.getD j [])) := by
  intro j hj w hw
  have hl := hw.sl_len.1
  have hr : Rdb W0 [sl (some ⟨g, 0, none⟩) n c 9 1 (ts.map str)] (some ⟨g, 0, none⟩) n 1 (ts.map str) := Rdb.of_sl (.head _ _) hl (fun _ => ⟨g, rfl⟩)
  have hln : ts.length = n := by simpa using hl
  obtain ⟨b, o, e, k⟩ := hr.at_ (by omega)
  simp only [Option.some.injEq, Addr.mk.injEq, and_true] at e
  obtain ⟨rfl, rfl⟩ := e
  have := k w hw j (str (ts.getD j [])) (by simp [hj])
  simpa using this

theorem oneF_lens {s : List UInt8} {a : Nat} {b : UInt8} {st : OneT} (hb : s[a]? = some b) (h1 : oneF s a = some st) : st.2.1.length = ((rowS ((b.toNat % 16 : Nat) : Int)).filter isN).length ∧ st.2.2.length = ((rowS ((b.toNat % 16 : Nat) : Int)).filter fun q => !isN q).length := by
  unfold oneF at h1
  rw [hb] at h1
  have := fold_len _ h1
  simpa using this.2.2

theorem textV_le (t : Tp) (n : Nat) : (textV t n).length ≤ n := by
  unfold textV; split
  · simp
  · rw [List.length_take]; omega
theorem oneF_k {s : List UInt8} {a : Nat} {b : UInt8} {st : OneT} (hb : s[a]? = some b) (h1 : oneF s a = some st) (hk : b.toNat % 16 = 6 ∨ b.toNat % 16 = 7) : (st.2.2.getD 0 []).length ≤ 7 := by
  unfold oneF at h1
  rw [hb] at h1
  simp only [Option.getD_some] at h1
  rw [show rowS ((b.toNat % 16 : Nat) : Int) = [98, 107] by rcases hk with h | h <;> rw [h] <;> decide] at h1
  simp only [List.foldlM_cons, List.foldlM_nil, Option.bind_eq_bind] at h1
  rcases stp_b (s := s) (a := a + 1) (n := []) (t := []) with ⟨e, _⟩ | ⟨e, _, _⟩
  · rw [e] at h1; cases h1
  rw [e] at h1; simp only [Option.bind_some] at h1
  rcases stp_t (s := s) (a := a + 1 + 1) (n := [] ++ [(oneV (at_ s (a + 1)) : Int)]) (t := []) 107 8 (.inr ⟨rfl, rfl⟩) with ⟨e, _⟩ | ⟨e1, e, _⟩
  · rw [e] at h1; cases h1
  rw [e] at h1; simp only [Option.bind_some, Option.pure_def, Option.some.injEq] at h1
  subst h1
  have := textV_le (oneS (at_ s (a + 1 + 1))) (oneV (at_ s (a + 1 + 1)) % 8)
  simp only [List.nil_append, List.getD_cons_zero]
  omega
theorem oneF_n {s : List UInt8} {a : Nat} {b : UInt8} {st : OneT} (hb : s[a]? = some b) (h1 : oneF s a = some st) (hk : b.toNat % 16 = 12) : 0 ≤ st.2.1.getD 0 0 ∧ st.2.1.getD 0 0 ≤ 255 := by
  unfold oneF at h1
  rw [hb] at h1
  simp only [Option.getD_some] at h1
  rw [hk, show rowS ((12 : Nat) : Int) = [98] by decide] at h1
  simp only [List.foldlM_cons, List.foldlM_nil, Option.bind_eq_bind] at h1
  rcases stp_b (s := s) (a := a + 1) (n := []) (t := []) with ⟨e, _⟩ | ⟨e, _, _⟩
  · rw [e] at h1; cases h1
  rw [e] at h1; simp only [Option.bind_some, Option.pure_def, Option.some.injEq] at h1
  subst h1
  have := oneV_lt (at_ s (a + 1))
  simp only [List.nil_append, List.getD_cons_zero]
  omega

/-- Kind 11's acts in memory. -/
def tk (i : Nat) : Ac := ⟨5, (i : Int), 0, (i : Int), none, 0, 0, [], zq⟩
def dl : Ac := ⟨2, 0, 0, 0, none, 0, 0, [], zq⟩
theorem rep_snoc {α : Type} (x : α) (i : Nat) : List.replicate i x ++ [x] = List.replicate (i + 1) x := by
  rw [List.replicate_succ']

theorem ref_read_tr {W0 : World} {Fr : List HP} (s : List UInt8) (hs : s.length ≤ 1000000) : Tr W0 Try.prog 27 [str s] Fr (Out W0 Fr (refReadF s)) := by
  obtain ⟨m, hm, hm2⟩ : ∃ m : Nat, min (s.length : Int) 16384 = (m : Int) ∧ m = min s.length 16384 := ⟨_, by omega, rfl⟩
  obtain ⟨w8, hw8⟩ : ∃ w8, w8 = s.take 16384 := ⟨_, rfl⟩
  have hwl : w8.length ≤ 16384 := by rw [hw8, List.length_take]; omega
  have hF : refReadF s = (readR w8 w8.length 0).take 4000 := by rw [hw8]; rfl
  rw [hF]
  refine Entry.tr (N := 166) (rs := [.tmp 2]) ⟨_, Try.func27, rfl, by kernel_rfl, rfl, rfl⟩ rfl ?_
  refine XC.seq fun K1 hK1 => ?_
  refine XC.region ?_
  refine x_v (r_as rfl) rfl ?_
  refine XL.nil ?_
  refine hK1 _ _ ?_
  refine XC.keep [(0, _)] ⟨rfl, trivial⟩ ?_
  refine XC.seq fun K2 hK2 => ?_
  refine XC.region ?_
  refine x_v (r_mv rfl) rfl ?_
  refine x_v (r_mv rfl) rfl ?_
  refine x_v (r_lens Try.underlying9 rfl) rfl ?_
  refine x_v (r_min rfl rfl) rfl ?_
  rw [hm]
  refine x_v (r_ssl (0) (m) Try.underlying9 rfl rfl ⟨_, by rfl⟩ (by omega) (by omega)) rfl ?_
  rw [show (s.drop 0).take (m - 0) = w8 by rw [hw8, List.drop_zero, Nat.sub_zero]; rcases Nat.le_total s.length 16384 with h | h; rw [List.take_of_length_le (by omega), List.take_of_length_le (by omega)]; rw [show m = 16384 by omega]]
  refine x_v (r_as rfl) rfl ?_
  refine XL.nil ?_
  refine hK2 _ _ ?_
  refine XC.keep [(0, _)] ⟨rfl, trivial⟩ ?_
  refine XC.seq fun K3 hK3 => ?_
  refine XC.region ?_
  refine x_v (r_as rfl) rfl ?_
  refine XL.nil ?_
  refine hK3 _ _ ?_
  refine XC.keep [(0, _), (3, _)] ⟨rfl, rfl, trivial⟩ ?_
  refine XC.seq fun K4 hK4 => ?_
  refine XC.nil_ 83 12 ?_
  refine XC.region ?_
  refine x_v (r_as rfl) rfl ?_
  refine XL.nil ?_
  refine hK4 _ _ ?_
  refine XC.keep [(0, _), (3, _), (4, _)] ⟨rfl, rfl, rfl, trivial⟩ ?_
  refine XC.seqcut (σ := List Ac × (Option Addr × Nat) × List HP) (fun s3 => [(3, .slice s3.2.1.1 s3.1.length s3.2.1.2)]) (fun s3 => sl s3.2.1.1 s3.1.length s3.2.1.2 83 12 (cells ac s3.1) :: s3.2.2) (fun s3 => readR w8 w8.length 0 = s3.1.map Ac.v ∧ (∀ w, Own W0 w s3.2.2 → Own W0 w Fr) ∧ (∀ x ∈ s3.1, Rdb W0 s3.2.2 x.A x.n 1 (iv x.ks) ∧ x.n ≤ 7) ∧ s3.1.length ≤ 255 * 16384) ?_ ?_
  · refine XC.block ?_
    refine XC.loop (σ := Nat × Nat × List Ac × (Option Addr × Nat) × List HP) (fun s1 => [(0, str w8), (3, .slice s1.2.2.2.1.1 s1.2.2.1.length s1.2.2.2.1.2), (4, .int .i64 (s1.1 : Int))]) (fun s1 => sl s1.2.2.2.1.1 s1.2.2.1.length s1.2.2.2.1.2 83 12 (cells ac s1.2.2.1) :: s1.2.2.2.2) (fun s1 => RI W0 Fr w8 s1.1 s1.2.1 s1.2.2.1 s1.2.2.2.2) (fun s1 => w8.length - s1.1) (0, w8.length, [], (none, 0), Fr) ?_ ⟨rfl, rfl, rfl, trivial⟩ (by repeat (first | exact Gets.done _ | exact Gets.all _ | (apply Gets.step; focus ((repeat (first | exact Pick.head _ _ | apply Pick.tail)); done)) | apply Gets.drop)) ?_
    · exact ⟨Nat.zero_le _, Nat.le_refl _, by simp, fun _ h => h, by simp, by simp⟩
    rintro ⟨a, f, L, ⟨A, c⟩, F2⟩ hI
    dsimp only at hI ⊢
    have hal := hI.ha
    have hLl := hI.le
    refine XC.seq fun K6 hK6 => ?_
    refine XC.seq fun K7 hK7 => ?_
    refine XC.region ?_
    refine x_v (r_mv rfl) rfl ?_
    refine x_v (r_mv rfl) rfl ?_
    refine x_v (r_lens Try.underlying9 rfl) rfl ?_
    refine x_v (r_lt rfl rfl) rfl ?_
    refine XL.nil ?_
    refine hK7 _ _ ?_
    refine XC.keep [(0, _), (3, _), (4, _), (20, _)] ⟨rfl, rfl, rfl, rfl, trivial⟩ ?_
    refine XC.cond_d rfl (fun hc1 => ?_) (fun hc1 => ?_)
    · refine XC.skip ?_
      refine hK6 _ _ ?_
      refine XC.keep [(0, _), (3, _), (4, _)] ⟨rfl, rfl, rfl, trivial⟩ ?_
      refine XC.block ?_
      refine XC.seq fun K8 hK8 => ?_
      obtain ⟨b, hb⟩ : ∃ b, w8[a]? = some b := ⟨_, List.getElem?_eq_getElem (by omega)⟩
      have hb8 := UInt8.toNat_lt b
      refine XC.region ?_
      refine x_v (r_mv rfl) rfl ?_
      refine x_v (r_mv rfl) rfl ?_
      refine x_v (r_six (k := a) Try.underlying9 rfl rfl (by omega) hb) rfl ?_
      refine x_v (r_cvn Try.underlying5 Try.underlying3 rfl (by rw [IntKind.wrap_i64]; omega)) rfl ?_
      refine x_v (r_rem rfl rfl (by omega)) rfl ?_
      refine x_v (r_as rfl) rfl ?_
      refine XL.nil ?_
      refine hK8 _ _ ?_
      refine XC.keep [(0, _), (3, _), (4, _), (5, _)] ⟨rfl, rfl, rfl, rfl, trivial⟩ ?_
      refine XC.seq fun K9 hK9 => ?_
      refine XC.region ?_
      refine x_v (r_mv rfl) rfl ?_
      refine x_v (r_mv rfl) rfl ?_
      refine x_c (r_call0 (args := [_, _]) ⟨rfl, rfl, rfl⟩ (ref_one_tr w8 a (by omega) (by omega)) (by repeat (first | exact Gets.done _ | exact Gets.all _ | (apply Gets.step; focus ((repeat (first | exact Pick.head _ _ | apply Pick.tail)); done)) | apply Gets.drop))) rfl ?_
      rintro _ _ hq
      rcases hq with ⟨h1, rfl, rfl⟩ | ⟨st, An, cn, Bt, ct, h1, rfl, rfl⟩
      · refine x_v (r_mv rfl) rfl ?_
        refine x_v (r_ex rfl rfl) rfl ?_
        refine x_v (r_ex rfl rfl) rfl ?_
        refine x_v (r_ex rfl rfl) rfl ?_
        refine x_v (r_ex rfl rfl) rfl ?_
        refine x_v (r_as rfl) rfl ?_
        refine x_v (r_as rfl) rfl ?_
        refine x_v (r_as rfl) rfl ?_
        refine x_v (r_as rfl) rfl ?_
        refine XL.nil ?_
        refine hK9 _ _ ?_
        refine XC.keep [(0, _), (3, _), (5, _), (6, _), (7, _), (8, _), (9, _)] ⟨rfl, rfl, rfl, rfl, rfl, rfl, rfl, trivial⟩ ?_
        refine XC.seq fun K10 hK10 => ?_
        refine XC.seq fun K11 hK11 => ?_
        refine XC.region ?_
        refine x_v (r_mv rfl) rfl ?_
        refine x_v (r_not rfl) rfl ?_
        refine XL.nil ?_
        refine hK11 _ _ ?_
        refine XC.keep [(0, _), (3, _), (5, _), (6, _), (7, _), (8, _), (35, _)] ⟨rfl, rfl, rfl, rfl, rfl, rfl, rfl, trivial⟩ ?_
        refine XC.cond rfl (fun hc2 => ?_) (fun hc2 => ?_)
        · refine XC.exit rfl ?_
          exact ⟨(L, (A, c), F2), ⟨hI.stop (.inr h1), hI.own, hI.ks, by dsimp only; omega⟩, ⟨rfl, trivial⟩, (by repeat (first | exact Gets.done _ | exact Gets.all _ | (apply Gets.step; focus ((repeat (first | exact Pick.head _ _ | apply Pick.tail)); done)) | apply Gets.drop))⟩
        · exfalso; simp at hc2
      · have hst := oneF_le hb h1
        have hlen := oneF_lens hb h1
        refine x_v (r_mv rfl) rfl ?_
        refine x_v (r_ex rfl rfl) rfl ?_
        refine x_v (r_ex rfl rfl) rfl ?_
        refine x_v (r_ex rfl rfl) rfl ?_
        refine x_v (r_ex rfl rfl) rfl ?_
        refine x_v (r_as rfl) rfl ?_
        refine x_v (r_as rfl) rfl ?_
        refine x_v (r_as rfl) rfl ?_
        refine x_v (r_as rfl) rfl ?_
        refine XL.nil ?_
        refine hK9 _ _ ?_
        refine XC.keep [(0, _), (3, _), (5, _), (6, _), (7, _), (8, _), (9, _)] ⟨rfl, rfl, rfl, rfl, rfl, rfl, rfl, trivial⟩ ?_
        refine XC.seq fun K12 hK12 => ?_
        refine XC.seq fun K13 hK13 => ?_
        refine XC.region ?_
        refine x_v (r_mv rfl) rfl ?_
        refine x_v (r_not rfl) rfl ?_
        refine XL.nil ?_
        refine hK13 _ _ ?_
        refine XC.keep [(0, _), (3, _), (5, _), (6, _), (7, _), (8, _), (35, _)] ⟨rfl, rfl, rfl, rfl, rfl, rfl, rfl, trivial⟩ ?_
        refine XC.cond rfl (fun hc3 => ?_) (fun hc3 => ?_)
        · exfalso; simp at hc3
        · refine XC.skip ?_
          refine hK12 _ _ ?_
          refine XC.keep [(0, _), (3, _), (5, _), (6, _), (7, _), (8, _)] ⟨rfl, rfl, rfl, rfl, rfl, rfl, trivial⟩ ?_
          refine XC.seq fun K14 hK14 => ?_
          refine XC.region ?_
          refine x_v (r_mv rfl) rfl ?_
          refine x_v (r_as rfl) rfl ?_
          refine XL.nil ?_
          refine hK14 _ _ ?_
          refine XC.keep [(0, _), (3, _), (4, _), (5, _), (6, _), (7, _)] ⟨rfl, rfl, rfl, rfl, rfl, rfl, trivial⟩ ?_
          refine XC.seq fun K15 hK15 => ?_
          refine XC.region ?_
          refine x_v (r_mv rfl) rfl ?_
          refine XL.nil ?_
          refine hK15 _ _ ?_
          refine XC.keep [(0, _), (3, _), (4, _), (5, _), (6, _), (7, _), (37, _)] ⟨rfl, rfl, rfl, rfl, rfl, rfl, rfl, trivial⟩ ?_
          refine XC.block ?_
          refine XC.seq fun K16 hK16 => ?_
          refine XC.region ?_
          refine x_v (r_eq rfl rfl) rfl ?_
          refine x_v (r_as rfl) rfl ?_
          refine XL.nil ?_
          refine hK16 _ _ ?_
          refine XC.keep [(0, _), (3, _), (4, _), (5, _), (6, _), (7, _), (37, _), (38, _)] ⟨rfl, rfl, rfl, rfl, rfl, rfl, rfl, rfl, trivial⟩ ?_
          refine XC.cond_d rfl (fun hc4 => ?_) (fun hc4 => ?_)
          · have hk : b.toNat % 16 = 1 := by omega
            rw [hk] at hlen
            have hn6 : st.2.1.length = 6 := hlen.1
            have ht2 : st.2.2.length = 2 := hlen.2
            refine XC.slnn (A := An) (by repeat (first | exact Pick.head _ _ | apply Pick.tail)) fun hlA hA => ?_
            refine XC.slnn (A := Bt) (by repeat (first | exact Pick.head _ _ | apply Pick.tail)) fun hlB hB => ?_
            obtain ⟨gn, rfl⟩ := hA (by omega)
            obtain ⟨gt, rfl⟩ := hB (by omega)
            obtain ⟨nw, hnw⟩ : ∃ nw : Ac, nw = ⟨1, st.2.1.getD 0 0, 0, 0, none, 0, 0, [], ⟨st.2.1.getD 1 0, st.2.1.getD 2 0, st.2.1.getD 3 0, st.2.2.getD 0 [], st.2.2.getD 1 [], st.2.1.getD 4 0, st.2.1.getD 5 0⟩⟩ := ⟨_, rfl⟩
            refine XC.draw [sl (some ⟨gn, 0, none⟩) st.2.1.length cn 3 1 (iv st.2.1), sl (some ⟨gt, 0, none⟩) st.2.2.length ct 9 1 (st.2.2.map str)] false [(0, false), (1, false), (2, false), (3, false), (4, false), (5, false), (6, false), (7, false), (8, false), (9, false), (10, false), (11, false), (12, false), (13, false), (14, false), (15, false), (16, false), (17, false), (18, false), (19, false), (20, false), (21, false), (22, false), (23, false), (24, false), (25, false), (26, false), (27, true), (28, true), (29, false)] (by kernel_rfl) (by kernel_rfl) ?_
            refine y_v rfl (r_mv rfl) (fun _ h => Gets.own (by repeat (first | exact Gets.done _ | exact Gets.all _ | (apply Gets.step; focus ((repeat (first | exact Pick.head _ _ | apply Pick.tail)); done)) | apply Gets.drop)) h) rfl ?_
            refine y_v rfl (r_mv rfl) (fun _ h => Gets.own (by repeat (first | exact Gets.done _ | exact Gets.all _ | (apply Gets.step; focus ((repeat (first | exact Pick.head _ _ | apply Pick.tail)); done)) | apply Gets.drop)) h) rfl ?_
            refine y_v rfl (r_ia (k := 0) Try.underlying40 ty3 rfl rfl (by omega) (by omega)) (fun _ h => Gets.own (by repeat (first | exact Gets.done _ | exact Gets.all _ | (apply Gets.step; focus ((repeat (first | exact Pick.head _ _ | apply Pick.tail)); done)) | apply Gets.drop)) h) rfl ?_
            refine y_v rfl (r_ldr ty3 rfl (fun w hw => nums_at (ns := st.2.1) 0 (by omega) w (Gets.own (by repeat (first | exact Gets.done _ | exact Gets.all _ | (apply Gets.step; focus ((repeat (first | exact Pick.head _ _ | apply Pick.tail)); done)) | apply Gets.drop)) hw))) (fun _ h => Gets.own (by repeat (first | exact Gets.done _ | exact Gets.all _ | (apply Gets.step; focus ((repeat (first | exact Pick.head _ _ | apply Pick.tail)); done)) | apply Gets.drop)) h) rfl ?_
            refine y_v rfl (r_mv rfl) (fun _ h => Gets.own (by repeat (first | exact Gets.done _ | exact Gets.all _ | (apply Gets.step; focus ((repeat (first | exact Pick.head _ _ | apply Pick.tail)); done)) | apply Gets.drop)) h) rfl ?_
            refine y_v rfl (r_ia (k := 1) Try.underlying40 ty3 rfl rfl (by omega) (by omega)) (fun _ h => Gets.own (by repeat (first | exact Gets.done _ | exact Gets.all _ | (apply Gets.step; focus ((repeat (first | exact Pick.head _ _ | apply Pick.tail)); done)) | apply Gets.drop)) h) rfl ?_
            refine y_v rfl (r_ldr ty3 rfl (fun w hw => nums_at (ns := st.2.1) 1 (by omega) w (Gets.own (by repeat (first | exact Gets.done _ | exact Gets.all _ | (apply Gets.step; focus ((repeat (first | exact Pick.head _ _ | apply Pick.tail)); done)) | apply Gets.drop)) hw))) (fun _ h => Gets.own (by repeat (first | exact Gets.done _ | exact Gets.all _ | (apply Gets.step; focus ((repeat (first | exact Pick.head _ _ | apply Pick.tail)); done)) | apply Gets.drop)) h) rfl ?_
            refine y_v rfl (r_mv rfl) (fun _ h => Gets.own (by repeat (first | exact Gets.done _ | exact Gets.all _ | (apply Gets.step; focus ((repeat (first | exact Pick.head _ _ | apply Pick.tail)); done)) | apply Gets.drop)) h) rfl ?_
            refine y_v rfl (r_ia (k := 2) Try.underlying40 ty3 rfl rfl (by omega) (by omega)) (fun _ h => Gets.own (by repeat (first | exact Gets.done _ | exact Gets.all _ | (apply Gets.step; focus ((repeat (first | exact Pick.head _ _ | apply Pick.tail)); done)) | apply Gets.drop)) h) rfl ?_
            refine y_v rfl (r_ldr ty3 rfl (fun w hw => nums_at (ns := st.2.1) 2 (by omega) w (Gets.own (by repeat (first | exact Gets.done _ | exact Gets.all _ | (apply Gets.step; focus ((repeat (first | exact Pick.head _ _ | apply Pick.tail)); done)) | apply Gets.drop)) hw))) (fun _ h => Gets.own (by repeat (first | exact Gets.done _ | exact Gets.all _ | (apply Gets.step; focus ((repeat (first | exact Pick.head _ _ | apply Pick.tail)); done)) | apply Gets.drop)) h) rfl ?_
            refine y_v rfl (r_mv rfl) (fun _ h => Gets.own (by repeat (first | exact Gets.done _ | exact Gets.all _ | (apply Gets.step; focus ((repeat (first | exact Pick.head _ _ | apply Pick.tail)); done)) | apply Gets.drop)) h) rfl ?_
            refine y_v rfl (r_ia (k := 3) Try.underlying40 ty3 rfl rfl (by omega) (by omega)) (fun _ h => Gets.own (by repeat (first | exact Gets.done _ | exact Gets.all _ | (apply Gets.step; focus ((repeat (first | exact Pick.head _ _ | apply Pick.tail)); done)) | apply Gets.drop)) h) rfl ?_
            refine y_v rfl (r_ldr ty3 rfl (fun w hw => nums_at (ns := st.2.1) 3 (by omega) w (Gets.own (by repeat (first | exact Gets.done _ | exact Gets.all _ | (apply Gets.step; focus ((repeat (first | exact Pick.head _ _ | apply Pick.tail)); done)) | apply Gets.drop)) hw))) (fun _ h => Gets.own (by repeat (first | exact Gets.done _ | exact Gets.all _ | (apply Gets.step; focus ((repeat (first | exact Pick.head _ _ | apply Pick.tail)); done)) | apply Gets.drop)) h) rfl ?_
            refine y_v rfl (r_mv rfl) (fun _ h => Gets.own (by repeat (first | exact Gets.done _ | exact Gets.all _ | (apply Gets.step; focus ((repeat (first | exact Pick.head _ _ | apply Pick.tail)); done)) | apply Gets.drop)) h) rfl ?_
            refine y_v rfl (r_ia (k := 4) Try.underlying40 ty3 rfl rfl (by omega) (by omega)) (fun _ h => Gets.own (by repeat (first | exact Gets.done _ | exact Gets.all _ | (apply Gets.step; focus ((repeat (first | exact Pick.head _ _ | apply Pick.tail)); done)) | apply Gets.drop)) h) rfl ?_
            refine y_v rfl (r_ldr ty3 rfl (fun w hw => nums_at (ns := st.2.1) 4 (by omega) w (Gets.own (by repeat (first | exact Gets.done _ | exact Gets.all _ | (apply Gets.step; focus ((repeat (first | exact Pick.head _ _ | apply Pick.tail)); done)) | apply Gets.drop)) hw))) (fun _ h => Gets.own (by repeat (first | exact Gets.done _ | exact Gets.all _ | (apply Gets.step; focus ((repeat (first | exact Pick.head _ _ | apply Pick.tail)); done)) | apply Gets.drop)) h) rfl ?_
            refine y_v rfl (r_mv rfl) (fun _ h => Gets.own (by repeat (first | exact Gets.done _ | exact Gets.all _ | (apply Gets.step; focus ((repeat (first | exact Pick.head _ _ | apply Pick.tail)); done)) | apply Gets.drop)) h) rfl ?_
            refine y_v rfl (r_ia (k := 5) Try.underlying40 ty3 rfl rfl (by omega) (by omega)) (fun _ h => Gets.own (by repeat (first | exact Gets.done _ | exact Gets.all _ | (apply Gets.step; focus ((repeat (first | exact Pick.head _ _ | apply Pick.tail)); done)) | apply Gets.drop)) h) rfl ?_
            refine y_v rfl (r_ldr ty3 rfl (fun w hw => nums_at (ns := st.2.1) 5 (by omega) w (Gets.own (by repeat (first | exact Gets.done _ | exact Gets.all _ | (apply Gets.step; focus ((repeat (first | exact Pick.head _ _ | apply Pick.tail)); done)) | apply Gets.drop)) hw))) (fun _ h => Gets.own (by repeat (first | exact Gets.done _ | exact Gets.all _ | (apply Gets.step; focus ((repeat (first | exact Pick.head _ _ | apply Pick.tail)); done)) | apply Gets.drop)) h) rfl ?_
            refine y_v rfl (r_mv rfl) (fun _ h => Gets.own (by repeat (first | exact Gets.done _ | exact Gets.all _ | (apply Gets.step; focus ((repeat (first | exact Pick.head _ _ | apply Pick.tail)); done)) | apply Gets.drop)) h) rfl ?_
            refine y_v rfl (r_ia (k := 0) Try.underlying88 ty9 rfl rfl (by omega) (by omega)) (fun _ h => Gets.own (by repeat (first | exact Gets.done _ | exact Gets.all _ | (apply Gets.step; focus ((repeat (first | exact Pick.head _ _ | apply Pick.tail)); done)) | apply Gets.drop)) h) rfl ?_
            refine y_v rfl (r_ldr ty9 rfl (fun w hw => texts_at (ts := st.2.2) 0 (by omega) w (Gets.own (by repeat (first | exact Gets.done _ | exact Gets.all _ | (apply Gets.step; focus ((repeat (first | exact Pick.head _ _ | apply Pick.tail)); done)) | apply Gets.drop)) hw))) (fun _ h => Gets.own (by repeat (first | exact Gets.done _ | exact Gets.all _ | (apply Gets.step; focus ((repeat (first | exact Pick.head _ _ | apply Pick.tail)); done)) | apply Gets.drop)) h) rfl ?_
            refine y_v rfl (r_mv rfl) (fun _ h => Gets.own (by repeat (first | exact Gets.done _ | exact Gets.all _ | (apply Gets.step; focus ((repeat (first | exact Pick.head _ _ | apply Pick.tail)); done)) | apply Gets.drop)) h) rfl ?_
            refine y_v rfl (r_ia (k := 1) Try.underlying88 ty9 rfl rfl (by omega) (by omega)) (fun _ h => Gets.own (by repeat (first | exact Gets.done _ | exact Gets.all _ | (apply Gets.step; focus ((repeat (first | exact Pick.head _ _ | apply Pick.tail)); done)) | apply Gets.drop)) h) rfl ?_
            refine y_v rfl (r_ldr ty9 rfl (fun w hw => texts_at (ts := st.2.2) 1 (by omega) w (Gets.own (by repeat (first | exact Gets.done _ | exact Gets.all _ | (apply Gets.step; focus ((repeat (first | exact Pick.head _ _ | apply Pick.tail)); done)) | apply Gets.drop)) hw))) (fun _ h => Gets.own (by repeat (first | exact Gets.done _ | exact Gets.all _ | (apply Gets.step; focus ((repeat (first | exact Pick.head _ _ | apply Pick.tail)); done)) | apply Gets.drop)) h) rfl ?_
            refine y_v rfl (r_bd (vs := [_, _, _, _, _, _, _]) rfl ⟨rfl, rfl, rfl, rfl, rfl, rfl, rfl, rfl⟩ (bd81_0_1_2_5_6_3_4 _ _ _ _ _ _ _)) (fun _ h => Gets.own (by repeat (first | exact Gets.done _ | exact Gets.all _ | (apply Gets.step; focus ((repeat (first | exact Pick.head _ _ | apply Pick.tail)); done)) | apply Gets.drop)) h) rfl ?_
            refine y_v rfl (r_bd (vs := [_, _, _]) rfl ⟨rfl, rfl, rfl, rfl⟩ (bd83_0_1_5 _ _ _ _ _ _ _ _ _)) (fun _ h => Gets.own (by repeat (first | exact Gets.done _ | exact Gets.all _ | (apply Gets.step; focus ((repeat (first | exact Pick.head _ _ | apply Pick.tail)); done)) | apply Gets.drop)) h) rfl ?_
            refine y_a rfl (r_bs (vs := [_]) rfl ⟨rfl, rfl⟩ (bs56_1_0 _ _ _ _ _ _ _ _ _ _ _ _ _ _)) (fun _ _ _ h => Gets.own (by repeat (first | exact Gets.done _ | exact Gets.all _ | (apply Gets.step; focus ((repeat (first | exact Pick.head _ _ | apply Pick.tail)); done)) | apply Gets.drop)) h) rfl fun b67 => ?_
            refine y_a rfl (r_app Try.underlying56 ty83 rfl (by decide) rfl rfl (by repeat (first | exact Pick.head _ _ | apply Pick.tail)) (Rdb.of_blk (b := b67) (n := 1) (sz := 12) (xs := ac nw) (by repeat (first | exact Pick.head _ _ | apply Pick.tail)) 0 rfl (fun _ _ h => by rw [hnw] at h; rw [Nat.zero_add]; exact h)) (ac_one _) (by unfold maxLen; omega) (by omega)) (fun _ _ _ h => Gets.own (by repeat (first | exact Gets.done _ | exact Gets.all _ | (apply Gets.step; focus ((repeat (first | exact Pick.head _ _ | apply Pick.tail)); done)) | apply Gets.drop)) h) rfl fun ⟨A68, c68⟩ => ?_
            dsimp only
            rw [show L.length + 1 = (L ++ [nw]).length by simp, ← cells_one ac nw, ← cells_app]
            refine y_v rfl (r_as rfl) (fun _ h => Gets.own (by repeat (first | exact Gets.done _ | exact Gets.all _ | (apply Gets.step; focus ((repeat (first | exact Pick.head _ _ | apply Pick.tail)); done)) | apply Gets.drop)) h) rfl ?_
            refine XH.nil ?_
            refine ⟨(st.1, f - 1, L ++ [nw], (A68, c68), F2), ?_, ?_, ⟨rfl, rfl, rfl, trivial⟩, (by repeat (first | exact Gets.done _ | exact Gets.all _ | (apply Gets.step; focus ((repeat (first | exact Pick.head _ _ | apply Pick.tail)); done)) | apply Gets.drop))⟩
            · exact hI.step hb h1 [nw] (by rw [hk]; simp [actsOf, hnw, Ac.v]) (by simp [hnw]; exact Rdb.nil _ _ _) (by simp) (fun _ h => h)
            · dsimp only; omega
          · refine XC.seqcut (σ := Bool) (fun p => [(0, str w8), (3, .slice A L.length c), (4, .int .i64 (st.1 : Int)), (5, .int .i64 ((b.toNat : Int) % 16)), (6, .slice An st.2.1.length cn), (7, .slice Bt st.2.2.length ct), (37, .int .i64 ((b.toNat : Int) % 16)), (69, .bool p)]) (fun p => sl An st.2.1.length cn 3 1 (iv st.2.1) :: sl Bt st.2.2.length ct 9 1 (st.2.2.map str) :: sl A L.length c 83 12 (cells ac L) :: F2) (fun p => p = true ↔ (b.toNat % 16 = 2 ∨ b.toNat % 16 = 3 ∨ b.toNat % 16 = 4 ∨ b.toNat % 16 = 9)) ?_ ?_
            · refine XC.seq fun K18 hK18 => ?_
              refine XC.region ?_
              refine x_v (r_eq rfl rfl) rfl ?_
              refine x_v (r_as rfl) rfl ?_
              refine XL.nil ?_
              refine hK18 _ _ ?_
              refine XC.keep [(0, _), (3, _), (4, _), (5, _), (6, _), (7, _), (37, _), (69, _)] ⟨rfl, rfl, rfl, rfl, rfl, rfl, rfl, rfl, trivial⟩ ?_
              refine XC.cond_d rfl (fun hc5 => ?_) (fun hc5 => ?_)
              · refine XC.skip ?_
                exact ⟨_, by simp only [decide_eq_true_eq]; omega, ⟨rfl, rfl, rfl, rfl, rfl, rfl, rfl, rfl, trivial⟩, (by repeat (first | exact Gets.done _ | exact Gets.all _ | (apply Gets.step; focus ((repeat (first | exact Pick.head _ _ | apply Pick.tail)); done)) | apply Gets.drop))⟩
              · refine XC.seq fun K19 hK19 => ?_
                refine XC.region ?_
                refine x_v (r_eq rfl rfl) rfl ?_
                refine x_v (r_as rfl) rfl ?_
                refine XL.nil ?_
                refine hK19 _ _ ?_
                refine XC.keep [(0, _), (3, _), (4, _), (5, _), (6, _), (7, _), (37, _), (69, _)] ⟨rfl, rfl, rfl, rfl, rfl, rfl, rfl, rfl, trivial⟩ ?_
                refine XC.cond_d rfl (fun hc6 => ?_) (fun hc6 => ?_)
                · refine XC.skip ?_
                  exact ⟨_, by simp only [decide_eq_true_eq]; omega, ⟨rfl, rfl, rfl, rfl, rfl, rfl, rfl, rfl, trivial⟩, (by repeat (first | exact Gets.done _ | exact Gets.all _ | (apply Gets.step; focus ((repeat (first | exact Pick.head _ _ | apply Pick.tail)); done)) | apply Gets.drop))⟩
                · refine XC.seq fun K20 hK20 => ?_
                  refine XC.region ?_
                  refine x_v (r_eq rfl rfl) rfl ?_
                  refine x_v (r_as rfl) rfl ?_
                  refine XL.nil ?_
                  refine hK20 _ _ ?_
                  refine XC.keep [(0, _), (3, _), (4, _), (5, _), (6, _), (7, _), (37, _), (69, _)] ⟨rfl, rfl, rfl, rfl, rfl, rfl, rfl, rfl, trivial⟩ ?_
                  refine XC.cond_d rfl (fun hc7 => ?_) (fun hc7 => ?_)
                  · refine XC.skip ?_
                    exact ⟨_, by simp only [decide_eq_true_eq]; omega, ⟨rfl, rfl, rfl, rfl, rfl, rfl, rfl, rfl, trivial⟩, (by repeat (first | exact Gets.done _ | exact Gets.all _ | (apply Gets.step; focus ((repeat (first | exact Pick.head _ _ | apply Pick.tail)); done)) | apply Gets.drop))⟩
                  · refine XC.region ?_
                    refine x_v (r_eq rfl rfl) rfl ?_
                    refine x_v (r_as rfl) rfl ?_
                    refine XL.nil ?_
                    exact ⟨_, by simp only [decide_eq_true_eq]; omega, ⟨rfl, rfl, rfl, rfl, rfl, rfl, rfl, rfl, trivial⟩, (by repeat (first | exact Gets.done _ | exact Gets.all _ | (apply Gets.step; focus ((repeat (first | exact Pick.head _ _ | apply Pick.tail)); done)) | apply Gets.drop))⟩
            · rintro p hp
              refine XC.cond rfl (fun hc8 => ?_) (fun hc8 => ?_)
              · have hk := hp.1 hc8
                have hn6 : st.2.1.length = 1 := by rw [hlen.1]; rcases hk with h | h | h | h <;> rw [h] <;> rfl
                refine XC.slnn (A := An) (by repeat (first | exact Pick.head _ _ | apply Pick.tail)) fun hlA hA => ?_
                obtain ⟨gn, rfl⟩ := hA (by omega)
                obtain ⟨nw, hnw⟩ : ∃ nw : Ac, nw = ⟨(b.toNat : Int) % 16, 0, st.2.1.getD 0 0, 0, none, 0, 0, [], zq⟩ := ⟨_, rfl⟩
                refine XC.region ?_
                refine x_v (r_mv rfl) rfl ?_
                refine x_v (r_mv rfl) rfl ?_
                refine x_v (r_mv rfl) rfl ?_
                refine x_v (r_ia (k := 0) Try.underlying40 ty3 rfl rfl (by omega) (by omega)) rfl ?_
                refine x_v (r_ldr ty3 rfl (fun w hw => nums_at (ns := st.2.1) 0 (by omega) w (Gets.own (by repeat (first | exact Gets.done _ | exact Gets.all _ | (apply Gets.step; focus ((repeat (first | exact Pick.head _ _ | apply Pick.tail)); done)) | apply Gets.drop)) hw))) rfl ?_
                refine x_v (r_bd (vs := [_, _]) rfl ⟨rfl, rfl, rfl⟩ (bd83_0_2 _ _)) rfl ?_
                refine x_a (r_bs (vs := [_]) rfl ⟨rfl, rfl⟩ (bs56_1_0 _ _ _ _ _ _ _ _ _ _ _ _ _ _)) rfl fun b80 => ?_
                refine x_a (r_app Try.underlying56 ty83 rfl (by decide) rfl rfl (by repeat (first | exact Pick.head _ _ | apply Pick.tail)) (Rdb.of_blk (b := b80) (n := 1) (sz := 12) (xs := ac nw) (by repeat (first | exact Pick.head _ _ | apply Pick.tail)) 0 rfl (fun _ _ h => by rw [hnw] at h; rw [Nat.zero_add]; exact h)) (ac_one _) (by unfold maxLen; omega) (by omega)) rfl fun ⟨A81, c81⟩ => ?_
                dsimp only
                rw [show L.length + 1 = (L ++ [nw]).length by simp, ← cells_one ac nw, ← cells_app]
                refine x_v (r_as rfl) rfl ?_
                refine XL.nil ?_
                refine ⟨(st.1, f - 1, L ++ [nw], (A81, c81), F2), ?_, ?_, ⟨rfl, rfl, rfl, trivial⟩, (by repeat (first | exact Gets.done _ | exact Gets.all _ | (apply Gets.step; focus ((repeat (first | exact Pick.head _ _ | apply Pick.tail)); done)) | apply Gets.drop))⟩
                · exact hI.step hb h1 [nw] (by unfold actsOf; rw [if_neg (by omega), if_pos (by omega)]; simp [hnw, Ac.v]) (by simp [hnw]; exact Rdb.nil _ _ _) (by simp) (fun _ h => h)
                · dsimp only; omega
              · have hnk : ¬ (b.toNat % 16 = 2 ∨ b.toNat % 16 = 3 ∨ b.toNat % 16 = 4 ∨ b.toNat % 16 = 9) := fun h => Bool.noConfusion (hc8.symm.trans (hp.2 h))
                refine XC.seq fun K21 hK21 => ?_
                refine XC.region ?_
                refine x_v (r_eq rfl rfl) rfl ?_
                refine x_v (r_as rfl) rfl ?_
                refine XL.nil ?_
                refine hK21 _ _ ?_
                refine XC.keep [(0, _), (3, _), (4, _), (5, _), (6, _), (7, _), (37, _), (82, _)] ⟨rfl, rfl, rfl, rfl, rfl, rfl, rfl, rfl, trivial⟩ ?_
                refine XC.cond_d rfl (fun hc9 => ?_) (fun hc9 => ?_)
                · have hk : b.toNat % 16 = 5 := by omega
                  rw [hk] at hlen
                  have hn6 : st.2.1.length = 2 := hlen.1
                  refine XC.slnn (A := An) (by repeat (first | exact Pick.head _ _ | apply Pick.tail)) fun hlA hA => ?_
                  obtain ⟨gn, rfl⟩ := hA (by omega)
                  obtain ⟨nw, hnw⟩ : ∃ nw : Ac, nw = ⟨5, st.2.1.getD 0 0, 0, st.2.1.getD 1 0, none, 0, 0, [], zq⟩ := ⟨_, rfl⟩
                  refine XC.draw [sl (some ⟨gn, 0, none⟩) st.2.1.length cn 3 1 (iv st.2.1)] false [(0, false), (1, false), (2, false), (3, false), (4, false), (5, false), (6, false), (7, false), (8, true), (9, true), (10, false)] (by kernel_rfl) (by kernel_rfl) ?_
                  refine y_v rfl (r_mv rfl) (fun _ h => Gets.own (by repeat (first | exact Gets.done _ | exact Gets.all _ | (apply Gets.step; focus ((repeat (first | exact Pick.head _ _ | apply Pick.tail)); done)) | apply Gets.drop)) h) rfl ?_
                  refine y_v rfl (r_mv rfl) (fun _ h => Gets.own (by repeat (first | exact Gets.done _ | exact Gets.all _ | (apply Gets.step; focus ((repeat (first | exact Pick.head _ _ | apply Pick.tail)); done)) | apply Gets.drop)) h) rfl ?_
                  refine y_v rfl (r_ia (k := 0) Try.underlying40 ty3 rfl rfl (by omega) (by omega)) (fun _ h => Gets.own (by repeat (first | exact Gets.done _ | exact Gets.all _ | (apply Gets.step; focus ((repeat (first | exact Pick.head _ _ | apply Pick.tail)); done)) | apply Gets.drop)) h) rfl ?_
                  refine y_v rfl (r_ldr ty3 rfl (fun w hw => nums_at (ns := st.2.1) 0 (by omega) w (Gets.own (by repeat (first | exact Gets.done _ | exact Gets.all _ | (apply Gets.step; focus ((repeat (first | exact Pick.head _ _ | apply Pick.tail)); done)) | apply Gets.drop)) hw))) (fun _ h => Gets.own (by repeat (first | exact Gets.done _ | exact Gets.all _ | (apply Gets.step; focus ((repeat (first | exact Pick.head _ _ | apply Pick.tail)); done)) | apply Gets.drop)) h) rfl ?_
                  refine y_v rfl (r_mv rfl) (fun _ h => Gets.own (by repeat (first | exact Gets.done _ | exact Gets.all _ | (apply Gets.step; focus ((repeat (first | exact Pick.head _ _ | apply Pick.tail)); done)) | apply Gets.drop)) h) rfl ?_
                  refine y_v rfl (r_ia (k := 1) Try.underlying40 ty3 rfl rfl (by omega) (by omega)) (fun _ h => Gets.own (by repeat (first | exact Gets.done _ | exact Gets.all _ | (apply Gets.step; focus ((repeat (first | exact Pick.head _ _ | apply Pick.tail)); done)) | apply Gets.drop)) h) rfl ?_
                  refine y_v rfl (r_ldr ty3 rfl (fun w hw => nums_at (ns := st.2.1) 1 (by omega) w (Gets.own (by repeat (first | exact Gets.done _ | exact Gets.all _ | (apply Gets.step; focus ((repeat (first | exact Pick.head _ _ | apply Pick.tail)); done)) | apply Gets.drop)) hw))) (fun _ h => Gets.own (by repeat (first | exact Gets.done _ | exact Gets.all _ | (apply Gets.step; focus ((repeat (first | exact Pick.head _ _ | apply Pick.tail)); done)) | apply Gets.drop)) h) rfl ?_
                  refine y_v rfl (r_bd (vs := [_, _, _]) rfl ⟨rfl, rfl, rfl, rfl⟩ (bd83_0_1_3 _ _ _)) (fun _ h => Gets.own (by repeat (first | exact Gets.done _ | exact Gets.all _ | (apply Gets.step; focus ((repeat (first | exact Pick.head _ _ | apply Pick.tail)); done)) | apply Gets.drop)) h) rfl ?_
                  refine y_a rfl (r_bs (vs := [_]) rfl ⟨rfl, rfl⟩ (bs56_1_0 _ _ _ _ _ _ _ _ _ _ _ _ _ _)) (fun _ _ _ h => Gets.own (by repeat (first | exact Gets.done _ | exact Gets.all _ | (apply Gets.step; focus ((repeat (first | exact Pick.head _ _ | apply Pick.tail)); done)) | apply Gets.drop)) h) rfl fun b92 => ?_
                  refine y_a rfl (r_app Try.underlying56 ty83 rfl (by decide) rfl rfl (by repeat (first | exact Pick.head _ _ | apply Pick.tail)) (Rdb.of_blk (b := b92) (n := 1) (sz := 12) (xs := ac nw) (by repeat (first | exact Pick.head _ _ | apply Pick.tail)) 0 rfl (fun _ _ h => by rw [hnw] at h; rw [Nat.zero_add]; exact h)) (ac_one _) (by unfold maxLen; omega) (by omega)) (fun _ _ _ h => Gets.own (by repeat (first | exact Gets.done _ | exact Gets.all _ | (apply Gets.step; focus ((repeat (first | exact Pick.head _ _ | apply Pick.tail)); done)) | apply Gets.drop)) h) rfl fun ⟨A93, c93⟩ => ?_
                  dsimp only
                  rw [show L.length + 1 = (L ++ [nw]).length by simp, ← cells_one ac nw, ← cells_app]
                  refine y_v rfl (r_as rfl) (fun _ h => Gets.own (by repeat (first | exact Gets.done _ | exact Gets.all _ | (apply Gets.step; focus ((repeat (first | exact Pick.head _ _ | apply Pick.tail)); done)) | apply Gets.drop)) h) rfl ?_
                  refine XH.nil ?_
                  refine ⟨(st.1, f - 1, L ++ [nw], (A93, c93), F2), ?_, ?_, ⟨rfl, rfl, rfl, trivial⟩, (by repeat (first | exact Gets.done _ | exact Gets.all _ | (apply Gets.step; focus ((repeat (first | exact Pick.head _ _ | apply Pick.tail)); done)) | apply Gets.drop))⟩
                  · exact hI.step hb h1 [nw] (by rw [hk]; simp [actsOf, hnw, Ac.v]) (by simp [hnw]; exact Rdb.nil _ _ _) (by simp) (fun _ h => h)
                  · dsimp only; omega
                · refine XC.seqcut (σ := Bool) (fun p => [(0, str w8), (3, .slice A L.length c), (4, .int .i64 (st.1 : Int)), (5, .int .i64 ((b.toNat : Int) % 16)), (6, .slice An st.2.1.length cn), (7, .slice Bt st.2.2.length ct), (37, .int .i64 ((b.toNat : Int) % 16)), (94, .bool p)]) (fun p => sl An st.2.1.length cn 3 1 (iv st.2.1) :: sl Bt st.2.2.length ct 9 1 (st.2.2.map str) :: sl A L.length c 83 12 (cells ac L) :: F2) (fun p => p = true ↔ (b.toNat % 16 = 6 ∨ b.toNat % 16 = 7)) ?_ ?_
                  · refine XC.seq fun K23 hK23 => ?_
                    refine XC.region ?_
                    refine x_v (r_eq rfl rfl) rfl ?_
                    refine x_v (r_as rfl) rfl ?_
                    refine XL.nil ?_
                    refine hK23 _ _ ?_
                    refine XC.keep [(0, _), (3, _), (4, _), (5, _), (6, _), (7, _), (37, _), (94, _)] ⟨rfl, rfl, rfl, rfl, rfl, rfl, rfl, rfl, trivial⟩ ?_
                    refine XC.cond_d rfl (fun hc10 => ?_) (fun hc10 => ?_)
                    · refine XC.skip ?_
                      exact ⟨_, by simp only [decide_eq_true_eq]; omega, ⟨rfl, rfl, rfl, rfl, rfl, rfl, rfl, rfl, trivial⟩, (by repeat (first | exact Gets.done _ | exact Gets.all _ | (apply Gets.step; focus ((repeat (first | exact Pick.head _ _ | apply Pick.tail)); done)) | apply Gets.drop))⟩
                    · refine XC.region ?_
                      refine x_v (r_eq rfl rfl) rfl ?_
                      refine x_v (r_as rfl) rfl ?_
                      refine XL.nil ?_
                      exact ⟨_, by simp only [decide_eq_true_eq]; omega, ⟨rfl, rfl, rfl, rfl, rfl, rfl, rfl, rfl, trivial⟩, (by repeat (first | exact Gets.done _ | exact Gets.all _ | (apply Gets.step; focus ((repeat (first | exact Pick.head _ _ | apply Pick.tail)); done)) | apply Gets.drop))⟩
                  · rintro p hp
                    refine XC.cond rfl (fun hc11 => ?_) (fun hc11 => ?_)
                    · have hk := hp.1 hc11
                      have hn6 : st.2.1.length = 1 := by rw [hlen.1]; rcases hk with h | h <;> rw [h] <;> rfl
                      have ht2 : st.2.2.length = 1 := by rw [hlen.2]; rcases hk with h | h <;> rw [h] <;> rfl
                      have ht7 : (st.2.2.getD 0 []).length ≤ 7 := oneF_k hb h1 hk
                      refine XC.slnn (A := An) (by repeat (first | exact Pick.head _ _ | apply Pick.tail)) fun hlA hA => ?_
                      refine XC.slnn (A := Bt) (by repeat (first | exact Pick.head _ _ | apply Pick.tail)) fun hlB hB => ?_
                      obtain ⟨gn, rfl⟩ := hA (by omega)
                      obtain ⟨gt, rfl⟩ := hB (by omega)
                      refine XC.draw [sl (some ⟨gn, 0, none⟩) st.2.1.length cn 3 1 (iv st.2.1), sl (some ⟨gt, 0, none⟩) st.2.2.length ct 9 1 (st.2.2.map str)] false [(0, false), (1, false), (2, false), (3, false), (4, false), (5, false), (6, false), (7, false), (8, true), (9, false), (10, true), (11, true), (12, false)] (by kernel_rfl) (by kernel_rfl) ?_
                      refine y_v rfl (r_mv rfl) (fun _ h => Gets.own (by repeat (first | exact Gets.done _ | exact Gets.all _ | (apply Gets.step; focus ((repeat (first | exact Pick.head _ _ | apply Pick.tail)); done)) | apply Gets.drop)) h) rfl ?_
                      refine y_v rfl (r_mv rfl) (fun _ h => Gets.own (by repeat (first | exact Gets.done _ | exact Gets.all _ | (apply Gets.step; focus ((repeat (first | exact Pick.head _ _ | apply Pick.tail)); done)) | apply Gets.drop)) h) rfl ?_
                      refine y_v rfl (r_mv rfl) (fun _ h => Gets.own (by repeat (first | exact Gets.done _ | exact Gets.all _ | (apply Gets.step; focus ((repeat (first | exact Pick.head _ _ | apply Pick.tail)); done)) | apply Gets.drop)) h) rfl ?_
                      refine y_v rfl (r_ia (k := 0) Try.underlying40 ty3 rfl rfl (by omega) (by omega)) (fun _ h => Gets.own (by repeat (first | exact Gets.done _ | exact Gets.all _ | (apply Gets.step; focus ((repeat (first | exact Pick.head _ _ | apply Pick.tail)); done)) | apply Gets.drop)) h) rfl ?_
                      refine y_v rfl (r_ldr ty3 rfl (fun w hw => nums_at (ns := st.2.1) 0 (by omega) w (Gets.own (by repeat (first | exact Gets.done _ | exact Gets.all _ | (apply Gets.step; focus ((repeat (first | exact Pick.head _ _ | apply Pick.tail)); done)) | apply Gets.drop)) hw))) (fun _ h => Gets.own (by repeat (first | exact Gets.done _ | exact Gets.all _ | (apply Gets.step; focus ((repeat (first | exact Pick.head _ _ | apply Pick.tail)); done)) | apply Gets.drop)) h) rfl ?_
                      refine y_v rfl (r_mv rfl) (fun _ h => Gets.own (by repeat (first | exact Gets.done _ | exact Gets.all _ | (apply Gets.step; focus ((repeat (first | exact Pick.head _ _ | apply Pick.tail)); done)) | apply Gets.drop)) h) rfl ?_
                      refine y_v rfl (r_ia (k := 0) Try.underlying88 ty9 rfl rfl (by omega) (by omega)) (fun _ h => Gets.own (by repeat (first | exact Gets.done _ | exact Gets.all _ | (apply Gets.step; focus ((repeat (first | exact Pick.head _ _ | apply Pick.tail)); done)) | apply Gets.drop)) h) rfl ?_
                      refine y_v rfl (r_ldr ty9 rfl (fun w hw => texts_at (ts := st.2.2) 0 (by omega) w (Gets.own (by repeat (first | exact Gets.done _ | exact Gets.all _ | (apply Gets.step; focus ((repeat (first | exact Pick.head _ _ | apply Pick.tail)); done)) | apply Gets.drop)) hw))) (fun _ h => Gets.own (by repeat (first | exact Gets.done _ | exact Gets.all _ | (apply Gets.step; focus ((repeat (first | exact Pick.head _ _ | apply Pick.tail)); done)) | apply Gets.drop)) h) rfl ?_
                      refine y_c rfl (r_call0 (args := [_]) ⟨rfl, rfl⟩ (keeps_tr _ (by omega)) (by repeat (first | exact Gets.done _ | exact Gets.all _ | (apply Gets.step; focus ((repeat (first | exact Pick.head _ _ | apply Pick.tail)); done)) | apply Gets.drop))) (by rintro _ _ _ _ ⟨A105, c105, rfl, rfl⟩ h; exact Gets.own (by repeat (first | exact Gets.done _ | exact Gets.all _ | (apply Gets.step; focus ((repeat (first | exact Pick.head _ _ | apply Pick.tail)); done)) | apply Gets.drop)) h) rfl ?_
                      rintro _ _ ⟨A105, c105, rfl, rfl⟩
                      refine XH.slnn (A := A105) (by repeat (first | exact Pick.head _ _ | apply Pick.tail)) fun hkl hkA => ?_
                      obtain ⟨nw, hnw⟩ : ∃ nw : Ac, nw = ⟨(b.toNat : Int) % 16, st.2.1.getD 0 0, 0, 0, A105, (st.2.2.getD 0 []).length, c105, kz (st.2.2.getD 0 []), zq⟩ := ⟨_, rfl⟩
                      refine y_v rfl (r_bd (vs := [_, _, _]) rfl ⟨rfl, rfl, rfl, rfl⟩ (bd83_0_1_4 _ _ _ _ _)) (fun _ h => Gets.own (by repeat (first | exact Gets.done _ | exact Gets.all _ | (apply Gets.step; focus ((repeat (first | exact Pick.head _ _ | apply Pick.tail)); done)) | apply Gets.drop)) h) rfl ?_
                      refine y_a rfl (r_bs (vs := [_]) rfl ⟨rfl, rfl⟩ (bs56_1_0 _ _ _ _ _ _ _ _ _ _ _ _ _ _)) (fun _ _ _ h => Gets.own (by repeat (first | exact Gets.done _ | exact Gets.all _ | (apply Gets.step; focus ((repeat (first | exact Pick.head _ _ | apply Pick.tail)); done)) | apply Gets.drop)) h) rfl fun b107 => ?_
                      refine y_a rfl (r_app Try.underlying56 ty83 rfl (by decide) rfl rfl (by repeat (first | exact Pick.head _ _ | apply Pick.tail)) (Rdb.of_blk (b := b107) (n := 1) (sz := 12) (xs := ac nw) (by repeat (first | exact Pick.head _ _ | apply Pick.tail)) 0 rfl (fun _ _ h => by rw [hnw] at h; rw [Nat.zero_add]; exact h)) (ac_one _) (by unfold maxLen; omega) (by omega)) (fun _ _ _ h => Gets.own (by repeat (first | exact Gets.done _ | exact Gets.all _ | (apply Gets.step; focus ((repeat (first | exact Pick.head _ _ | apply Pick.tail)); done)) | apply Gets.drop)) h) rfl fun ⟨A108, c108⟩ => ?_
                      dsimp only
                      rw [show L.length + 1 = (L ++ [nw]).length by simp, ← cells_one ac nw, ← cells_app]
                      refine y_v rfl (r_as rfl) (fun _ h => Gets.own (by repeat (first | exact Gets.done _ | exact Gets.all _ | (apply Gets.step; focus ((repeat (first | exact Pick.head _ _ | apply Pick.tail)); done)) | apply Gets.drop)) h) rfl ?_
                      refine XH.nil ?_
                      refine ⟨(st.1, f - 1, L ++ [nw], (A108, c108), sl A105 (st.2.2.getD 0 []).length c105 3 1 (iv (kz (st.2.2.getD 0 []))) :: F2), ?_, ?_, ⟨rfl, rfl, rfl, trivial⟩, (by repeat (first | exact Gets.done _ | exact Gets.all _ | (apply Gets.step; focus ((repeat (first | exact Pick.head _ _ | apply Pick.tail)); done)) | apply Gets.drop))⟩
                      · exact hI.step hb h1 [nw] (by unfold actsOf; rw [if_neg (by omega), if_neg (by omega), if_neg (by omega), if_pos (by omega)]; simp [hnw, Ac.v]) (by simp only [List.mem_singleton, forall_eq, hnw]; exact ⟨Rdb.of_sl (.head _ _) (by rw [hkl]) hkA, ht7⟩) (by simp) (fun _ h => h.tail)
                      · dsimp only; omega
                    · have hnk2 : ¬ (b.toNat % 16 = 6 ∨ b.toNat % 16 = 7) := fun h => Bool.noConfusion (hc11.symm.trans (hp.2 h))
                      refine XC.seq fun K24 hK24 => ?_
                      refine XC.region ?_
                      refine x_v (r_eq rfl rfl) rfl ?_
                      refine x_v (r_as rfl) rfl ?_
                      refine XL.nil ?_
                      refine hK24 _ _ ?_
                      refine XC.keep [(0, _), (3, _), (4, _), (6, _), (37, _), (109, _)] ⟨rfl, rfl, rfl, rfl, rfl, rfl, trivial⟩ ?_
                      refine XC.cond_d rfl (fun hc12 => ?_) (fun hc12 => ?_)
                      · have hk : b.toNat % 16 = 8 := by omega
                        rw [hk] at hlen
                        have hn6 : st.2.1.length = 2 := hlen.1
                        refine XC.slnn (A := An) (by repeat (first | exact Pick.head _ _ | apply Pick.tail)) fun hlA hA => ?_
                        obtain ⟨gn, rfl⟩ := hA (by omega)
                        obtain ⟨nw, hnw⟩ : ∃ nw : Ac, nw = ⟨8, st.2.1.getD 0 0, st.2.1.getD 1 0, 0, none, 0, 0, [], zq⟩ := ⟨_, rfl⟩
                        refine XC.draw [sl (some ⟨gn, 0, none⟩) st.2.1.length cn 3 1 (iv st.2.1)] false [(0, false), (1, false), (2, false), (3, false), (4, false), (5, false), (6, false), (7, false), (8, true), (9, true), (10, false)] (by kernel_rfl) (by kernel_rfl) ?_
                        refine y_v rfl (r_mv rfl) (fun _ h => Gets.own (by repeat (first | exact Gets.done _ | exact Gets.all _ | (apply Gets.step; focus ((repeat (first | exact Pick.head _ _ | apply Pick.tail)); done)) | apply Gets.drop)) h) rfl ?_
                        refine y_v rfl (r_mv rfl) (fun _ h => Gets.own (by repeat (first | exact Gets.done _ | exact Gets.all _ | (apply Gets.step; focus ((repeat (first | exact Pick.head _ _ | apply Pick.tail)); done)) | apply Gets.drop)) h) rfl ?_
                        refine y_v rfl (r_ia (k := 0) Try.underlying40 ty3 rfl rfl (by omega) (by omega)) (fun _ h => Gets.own (by repeat (first | exact Gets.done _ | exact Gets.all _ | (apply Gets.step; focus ((repeat (first | exact Pick.head _ _ | apply Pick.tail)); done)) | apply Gets.drop)) h) rfl ?_
                        refine y_v rfl (r_ldr ty3 rfl (fun w hw => nums_at (ns := st.2.1) 0 (by omega) w (Gets.own (by repeat (first | exact Gets.done _ | exact Gets.all _ | (apply Gets.step; focus ((repeat (first | exact Pick.head _ _ | apply Pick.tail)); done)) | apply Gets.drop)) hw))) (fun _ h => Gets.own (by repeat (first | exact Gets.done _ | exact Gets.all _ | (apply Gets.step; focus ((repeat (first | exact Pick.head _ _ | apply Pick.tail)); done)) | apply Gets.drop)) h) rfl ?_
                        refine y_v rfl (r_mv rfl) (fun _ h => Gets.own (by repeat (first | exact Gets.done _ | exact Gets.all _ | (apply Gets.step; focus ((repeat (first | exact Pick.head _ _ | apply Pick.tail)); done)) | apply Gets.drop)) h) rfl ?_
                        refine y_v rfl (r_ia (k := 1) Try.underlying40 ty3 rfl rfl (by omega) (by omega)) (fun _ h => Gets.own (by repeat (first | exact Gets.done _ | exact Gets.all _ | (apply Gets.step; focus ((repeat (first | exact Pick.head _ _ | apply Pick.tail)); done)) | apply Gets.drop)) h) rfl ?_
                        refine y_v rfl (r_ldr ty3 rfl (fun w hw => nums_at (ns := st.2.1) 1 (by omega) w (Gets.own (by repeat (first | exact Gets.done _ | exact Gets.all _ | (apply Gets.step; focus ((repeat (first | exact Pick.head _ _ | apply Pick.tail)); done)) | apply Gets.drop)) hw))) (fun _ h => Gets.own (by repeat (first | exact Gets.done _ | exact Gets.all _ | (apply Gets.step; focus ((repeat (first | exact Pick.head _ _ | apply Pick.tail)); done)) | apply Gets.drop)) h) rfl ?_
                        refine y_v rfl (r_bd (vs := [_, _, _]) rfl ⟨rfl, rfl, rfl, rfl⟩ (bd83_0_1_2 _ _ _)) (fun _ h => Gets.own (by repeat (first | exact Gets.done _ | exact Gets.all _ | (apply Gets.step; focus ((repeat (first | exact Pick.head _ _ | apply Pick.tail)); done)) | apply Gets.drop)) h) rfl ?_
                        refine y_a rfl (r_bs (vs := [_]) rfl ⟨rfl, rfl⟩ (bs56_1_0 _ _ _ _ _ _ _ _ _ _ _ _ _ _)) (fun _ _ _ h => Gets.own (by repeat (first | exact Gets.done _ | exact Gets.all _ | (apply Gets.step; focus ((repeat (first | exact Pick.head _ _ | apply Pick.tail)); done)) | apply Gets.drop)) h) rfl fun b119 => ?_
                        refine y_a rfl (r_app Try.underlying56 ty83 rfl (by decide) rfl rfl (by repeat (first | exact Pick.head _ _ | apply Pick.tail)) (Rdb.of_blk (b := b119) (n := 1) (sz := 12) (xs := ac nw) (by repeat (first | exact Pick.head _ _ | apply Pick.tail)) 0 rfl (fun _ _ h => by rw [hnw] at h; rw [Nat.zero_add]; exact h)) (ac_one _) (by unfold maxLen; omega) (by omega)) (fun _ _ _ h => Gets.own (by repeat (first | exact Gets.done _ | exact Gets.all _ | (apply Gets.step; focus ((repeat (first | exact Pick.head _ _ | apply Pick.tail)); done)) | apply Gets.drop)) h) rfl fun ⟨A120, c120⟩ => ?_
                        dsimp only
                        rw [show L.length + 1 = (L ++ [nw]).length by simp, ← cells_one ac nw, ← cells_app]
                        refine y_v rfl (r_as rfl) (fun _ h => Gets.own (by repeat (first | exact Gets.done _ | exact Gets.all _ | (apply Gets.step; focus ((repeat (first | exact Pick.head _ _ | apply Pick.tail)); done)) | apply Gets.drop)) h) rfl ?_
                        refine XH.nil ?_
                        refine ⟨(st.1, f - 1, L ++ [nw], (A120, c120), F2), ?_, ?_, ⟨rfl, rfl, rfl, trivial⟩, (by repeat (first | exact Gets.done _ | exact Gets.all _ | (apply Gets.step; focus ((repeat (first | exact Pick.head _ _ | apply Pick.tail)); done)) | apply Gets.drop))⟩
                        · exact hI.step hb h1 [nw] (by rw [hk]; simp [actsOf, hnw, Ac.v]) (by simp [hnw]; exact Rdb.nil _ _ _) (by simp) (fun _ h => h)
                        · dsimp only; omega
                      · refine XC.seq fun K25 hK25 => ?_
                        refine XC.region ?_
                        refine x_v (r_eq rfl rfl) rfl ?_
                        refine x_v (r_as rfl) rfl ?_
                        refine XL.nil ?_
                        refine hK25 _ _ ?_
                        refine XC.keep [(0, _), (3, _), (4, _), (6, _), (37, _), (121, _)] ⟨rfl, rfl, rfl, rfl, rfl, rfl, trivial⟩ ?_
                        refine XC.cond_d rfl (fun hc13 => ?_) (fun hc13 => ?_)
                        · have hk : b.toNat % 16 = 10 := by omega
                          rw [hk] at hlen
                          have hn6 : st.2.1.length = 3 := hlen.1
                          refine XC.slnn (A := An) (by repeat (first | exact Pick.head _ _ | apply Pick.tail)) fun hlA hA => ?_
                          obtain ⟨gn, rfl⟩ := hA (by omega)
                          obtain ⟨nw, hnw⟩ : ∃ nw : Ac, nw = ⟨10, st.2.1.getD 0 0, st.2.1.getD 1 0, st.2.1.getD 2 0, none, 0, 0, [], zq⟩ := ⟨_, rfl⟩
                          refine XC.draw [sl (some ⟨gn, 0, none⟩) st.2.1.length cn 3 1 (iv st.2.1)] false [(0, false), (1, false), (2, false), (3, false), (4, false), (5, false), (6, false), (7, false), (8, false), (9, false), (10, false), (11, true), (12, true), (13, false)] (by kernel_rfl) (by kernel_rfl) ?_
                          refine y_v rfl (r_mv rfl) (fun _ h => Gets.own (by repeat (first | exact Gets.done _ | exact Gets.all _ | (apply Gets.step; focus ((repeat (first | exact Pick.head _ _ | apply Pick.tail)); done)) | apply Gets.drop)) h) rfl ?_
                          refine y_v rfl (r_mv rfl) (fun _ h => Gets.own (by repeat (first | exact Gets.done _ | exact Gets.all _ | (apply Gets.step; focus ((repeat (first | exact Pick.head _ _ | apply Pick.tail)); done)) | apply Gets.drop)) h) rfl ?_
                          refine y_v rfl (r_ia (k := 0) Try.underlying40 ty3 rfl rfl (by omega) (by omega)) (fun _ h => Gets.own (by repeat (first | exact Gets.done _ | exact Gets.all _ | (apply Gets.step; focus ((repeat (first | exact Pick.head _ _ | apply Pick.tail)); done)) | apply Gets.drop)) h) rfl ?_
                          refine y_v rfl (r_ldr ty3 rfl (fun w hw => nums_at (ns := st.2.1) 0 (by omega) w (Gets.own (by repeat (first | exact Gets.done _ | exact Gets.all _ | (apply Gets.step; focus ((repeat (first | exact Pick.head _ _ | apply Pick.tail)); done)) | apply Gets.drop)) hw))) (fun _ h => Gets.own (by repeat (first | exact Gets.done _ | exact Gets.all _ | (apply Gets.step; focus ((repeat (first | exact Pick.head _ _ | apply Pick.tail)); done)) | apply Gets.drop)) h) rfl ?_
                          refine y_v rfl (r_mv rfl) (fun _ h => Gets.own (by repeat (first | exact Gets.done _ | exact Gets.all _ | (apply Gets.step; focus ((repeat (first | exact Pick.head _ _ | apply Pick.tail)); done)) | apply Gets.drop)) h) rfl ?_
                          refine y_v rfl (r_ia (k := 1) Try.underlying40 ty3 rfl rfl (by omega) (by omega)) (fun _ h => Gets.own (by repeat (first | exact Gets.done _ | exact Gets.all _ | (apply Gets.step; focus ((repeat (first | exact Pick.head _ _ | apply Pick.tail)); done)) | apply Gets.drop)) h) rfl ?_
                          refine y_v rfl (r_ldr ty3 rfl (fun w hw => nums_at (ns := st.2.1) 1 (by omega) w (Gets.own (by repeat (first | exact Gets.done _ | exact Gets.all _ | (apply Gets.step; focus ((repeat (first | exact Pick.head _ _ | apply Pick.tail)); done)) | apply Gets.drop)) hw))) (fun _ h => Gets.own (by repeat (first | exact Gets.done _ | exact Gets.all _ | (apply Gets.step; focus ((repeat (first | exact Pick.head _ _ | apply Pick.tail)); done)) | apply Gets.drop)) h) rfl ?_
                          refine y_v rfl (r_mv rfl) (fun _ h => Gets.own (by repeat (first | exact Gets.done _ | exact Gets.all _ | (apply Gets.step; focus ((repeat (first | exact Pick.head _ _ | apply Pick.tail)); done)) | apply Gets.drop)) h) rfl ?_
                          refine y_v rfl (r_ia (k := 2) Try.underlying40 ty3 rfl rfl (by omega) (by omega)) (fun _ h => Gets.own (by repeat (first | exact Gets.done _ | exact Gets.all _ | (apply Gets.step; focus ((repeat (first | exact Pick.head _ _ | apply Pick.tail)); done)) | apply Gets.drop)) h) rfl ?_
                          refine y_v rfl (r_ldr ty3 rfl (fun w hw => nums_at (ns := st.2.1) 2 (by omega) w (Gets.own (by repeat (first | exact Gets.done _ | exact Gets.all _ | (apply Gets.step; focus ((repeat (first | exact Pick.head _ _ | apply Pick.tail)); done)) | apply Gets.drop)) hw))) (fun _ h => Gets.own (by repeat (first | exact Gets.done _ | exact Gets.all _ | (apply Gets.step; focus ((repeat (first | exact Pick.head _ _ | apply Pick.tail)); done)) | apply Gets.drop)) h) rfl ?_
                          refine y_v rfl (r_bd (vs := [_, _, _, _]) rfl ⟨rfl, rfl, rfl, rfl, rfl⟩ (bd83_0_1_2_3 _ _ _ _)) (fun _ h => Gets.own (by repeat (first | exact Gets.done _ | exact Gets.all _ | (apply Gets.step; focus ((repeat (first | exact Pick.head _ _ | apply Pick.tail)); done)) | apply Gets.drop)) h) rfl ?_
                          refine y_a rfl (r_bs (vs := [_]) rfl ⟨rfl, rfl⟩ (bs56_1_0 _ _ _ _ _ _ _ _ _ _ _ _ _ _)) (fun _ _ _ h => Gets.own (by repeat (first | exact Gets.done _ | exact Gets.all _ | (apply Gets.step; focus ((repeat (first | exact Pick.head _ _ | apply Pick.tail)); done)) | apply Gets.drop)) h) rfl fun b134 => ?_
                          refine y_a rfl (r_app Try.underlying56 ty83 rfl (by decide) rfl rfl (by repeat (first | exact Pick.head _ _ | apply Pick.tail)) (Rdb.of_blk (b := b134) (n := 1) (sz := 12) (xs := ac nw) (by repeat (first | exact Pick.head _ _ | apply Pick.tail)) 0 rfl (fun _ _ h => by rw [hnw] at h; rw [Nat.zero_add]; exact h)) (ac_one _) (by unfold maxLen; omega) (by omega)) (fun _ _ _ h => Gets.own (by repeat (first | exact Gets.done _ | exact Gets.all _ | (apply Gets.step; focus ((repeat (first | exact Pick.head _ _ | apply Pick.tail)); done)) | apply Gets.drop)) h) rfl fun ⟨A135, c135⟩ => ?_
                          dsimp only
                          rw [show L.length + 1 = (L ++ [nw]).length by simp, ← cells_one ac nw, ← cells_app]
                          refine y_v rfl (r_as rfl) (fun _ h => Gets.own (by repeat (first | exact Gets.done _ | exact Gets.all _ | (apply Gets.step; focus ((repeat (first | exact Pick.head _ _ | apply Pick.tail)); done)) | apply Gets.drop)) h) rfl ?_
                          refine XH.nil ?_
                          refine ⟨(st.1, f - 1, L ++ [nw], (A135, c135), F2), ?_, ?_, ⟨rfl, rfl, rfl, trivial⟩, (by repeat (first | exact Gets.done _ | exact Gets.all _ | (apply Gets.step; focus ((repeat (first | exact Pick.head _ _ | apply Pick.tail)); done)) | apply Gets.drop))⟩
                          · exact hI.step hb h1 [nw] (by rw [hk]; simp [actsOf, hnw, Ac.v]) (by simp [hnw]; exact Rdb.nil _ _ _) (by simp) (fun _ h => h)
                          · dsimp only; omega
                        · refine XC.seq fun K26 hK26 => ?_
                          refine XC.region ?_
                          refine x_v (r_eq rfl rfl) rfl ?_
                          refine x_v (r_as rfl) rfl ?_
                          refine XL.nil ?_
                          refine hK26 _ _ ?_
                          refine XC.keep [(0, _), (3, _), (4, _), (6, _), (37, _), (136, _)] ⟨rfl, rfl, rfl, rfl, rfl, rfl, trivial⟩ ?_
                          refine XC.cond_d rfl (fun hc14 => ?_) (fun hc14 => ?_)
                          · have hk : b.toNat % 16 = 11 := by omega
                            refine XC.seq fun K27 hK27 => ?_
                            refine XC.region ?_
                            refine x_v (r_as rfl) rfl ?_
                            refine XL.nil ?_
                            refine hK27 _ _ ?_
                            refine XC.keep [(0, _), (3, _), (4, _), (10, _)] ⟨rfl, rfl, rfl, rfl, trivial⟩ ?_
                            refine XC.block ?_
                            refine XC.loop (σ := Nat × List Ac × Option Addr × Nat) (fun s2 => [(0, str w8), (3, .slice s2.2.2.1 s2.2.1.length s2.2.2.2), (4, .int .i64 (st.1 : Int)), (10, .int .i64 (s2.1 : Int))]) (fun s2 => sl s2.2.2.1 s2.2.1.length s2.2.2.2 83 12 (cells ac s2.2.1) :: F2) (fun s2 => s2.1 ≤ 6 ∧ s2.2.1 = L ++ (List.range s2.1).map tk) (fun s2 => 6 - s2.1) (0, L, A, c) ?_ ⟨rfl, rfl, rfl, rfl, trivial⟩ (by repeat (first | exact Gets.done _ | exact Gets.all _ | (apply Gets.step; focus ((repeat (first | exact Pick.head _ _ | apply Pick.tail)); done)) | apply Gets.drop)) ?_
                            · exact ⟨Nat.zero_le _, by simp⟩
                            rintro ⟨i, N, A2, c2⟩ ⟨hi6, hN⟩
                            dsimp only at hi6 hN ⊢
                            have hNl : N.length = L.length + i := by rw [hN]; simp
                            refine XC.seq fun K28 hK28 => ?_
                            refine XC.seq fun K29 hK29 => ?_
                            refine XC.region ?_
                            refine x_v (r_mv rfl) rfl ?_
                            refine x_v (r_lt rfl rfl) rfl ?_
                            refine XL.nil ?_
                            refine hK29 _ _ ?_
                            refine XC.keep [(0, _), (3, _), (4, _), (10, _), (139, _)] ⟨rfl, rfl, rfl, rfl, rfl, trivial⟩ ?_
                            refine XC.cond_d rfl (fun hc15 => ?_) (fun hc15 => ?_)
                            · refine XC.skip ?_
                              refine hK28 _ _ ?_
                              refine XC.keep [(0, _), (3, _), (4, _), (10, _)] ⟨rfl, rfl, rfl, rfl, trivial⟩ ?_
                              refine XC.seq fun K30 hK30 => ?_
                              refine XC.block ?_
                              refine XC.region ?_
                              refine x_v (r_mv rfl) rfl ?_
                              refine x_v (r_mv rfl) rfl ?_
                              refine x_v (r_mv rfl) rfl ?_
                              refine x_v (r_bd (vs := [_, _, _]) rfl ⟨rfl, rfl, rfl, rfl⟩ (bd83_0_1_3 _ _ _)) rfl ?_
                              refine x_a (r_bs (vs := [_]) rfl ⟨rfl, rfl⟩ (bs56_1_0 _ _ _ _ _ _ _ _ _ _ _ _ _ _)) rfl fun b146 => ?_
                              refine x_a (r_app Try.underlying56 ty83 rfl (by decide) rfl rfl (by repeat (first | exact Pick.head _ _ | apply Pick.tail)) (Rdb.of_blk (b := b146) (n := 1) (sz := 12) (xs := ac (tk i)) (by repeat (first | exact Pick.head _ _ | apply Pick.tail)) 0 rfl (fun _ _ h => by rw [Nat.zero_add]; exact h)) (ac_one _) (by unfold maxLen; omega) (by omega)) rfl fun ⟨A147, c147⟩ => ?_
                              dsimp only
                              rw [show N.length + 1 = (N ++ [tk i]).length by simp, ← cells_one ac (tk i), ← cells_app]
                              refine x_v (r_as rfl) rfl ?_
                              refine XL.nil ?_
                              refine hK30 _ _ ?_
                              refine XC.keep [(0, _), (3, _), (4, _), (10, _)] ⟨rfl, rfl, rfl, rfl, trivial⟩ ?_
                              refine XC.region ?_
                              refine x_v (r_mv rfl) rfl ?_
                              refine x_v (r_add rfl rfl (by omega)) rfl ?_
                              refine x_v (r_as rfl) rfl ?_
                              refine XL.nil ?_
                              refine ⟨(i + 1, N ++ [tk i], A147, c147), ?_, ?_, ⟨rfl, rfl, rfl, rfl, trivial⟩, (by repeat (first | exact Gets.done _ | exact Gets.all _ | (apply Gets.step; focus ((repeat (first | exact Pick.head _ _ | apply Pick.tail)); done)) | apply Gets.drop))⟩
                              · exact ⟨by dsimp only; omega, by dsimp only; rw [hN, List.append_assoc, List.range_succ, List.map_append]; rfl⟩
                              · dsimp only; omega
                            · obtain rfl : i = 6 := by omega
                              refine XC.exit rfl ?_
                              refine ⟨(st.1, f - 1, N, (A2, c2), F2), ?_, ?_, ⟨rfl, rfl, rfl, trivial⟩, (by repeat (first | exact Gets.done _ | exact Gets.all _ | (apply Gets.step; focus ((repeat (first | exact Pick.head _ _ | apply Pick.tail)); done)) | apply Gets.drop))⟩
                              · dsimp only; rw [hN]; exact hI.step hb h1 ((List.range 6).map tk) (by rw [hk]; simp [actsOf, tk, Ac.v, List.map_map]) (by simp only [List.mem_map]; rintro x ⟨i, _, rfl⟩; exact ⟨Rdb.nil _ _ _, Nat.zero_le _⟩) (by simp) (fun _ h => h)
                              · dsimp only; omega
                          · refine XC.seq fun K31 hK31 => ?_
                            refine XC.region ?_
                            refine x_v (r_eq rfl rfl) rfl ?_
                            refine x_v (r_as rfl) rfl ?_
                            refine XL.nil ?_
                            refine hK31 _ _ ?_
                            refine XC.keep [(0, _), (3, _), (4, _), (6, _), (148, _)] ⟨rfl, rfl, rfl, rfl, rfl, trivial⟩ ?_
                            refine XC.cond_d rfl (fun hc16 => ?_) (fun hc16 => ?_)
                            · have hk : b.toNat % 16 = 12 := by omega
                              rw [hk] at hlen
                              have hn6 : st.2.1.length = 1 := hlen.1
                              have hn0 := oneF_n hb h1 hk
                              refine XC.slnn (A := An) (by repeat (first | exact Pick.head _ _ | apply Pick.tail)) fun hlA hA => ?_
                              obtain ⟨gn, rfl⟩ := hA (by omega)
                              obtain ⟨mm, hmm⟩ : ∃ mm, mm = (st.2.1.getD 0 0).toNat := ⟨_, rfl⟩
                              refine XC.seq fun K32 hK32 => ?_
                              refine XC.region ?_
                              refine x_v (r_as rfl) rfl ?_
                              refine XL.nil ?_
                              refine hK32 _ _ ?_
                              refine XC.keep [(0, _), (3, _), (4, _), (6, _), (11, _)] ⟨rfl, rfl, rfl, rfl, rfl, trivial⟩ ?_
                              refine XC.block ?_
                              refine XC.loop (σ := Nat × List Ac × Option Addr × Nat) (fun s2 => [(0, str w8), (3, .slice s2.2.2.1 s2.2.1.length s2.2.2.2), (4, .int .i64 (st.1 : Int)), (6, .slice (some ⟨gn, 0, none⟩) st.2.1.length cn), (11, .int .i64 (s2.1 : Int))]) (fun s2 => sl (some ⟨gn, 0, none⟩) st.2.1.length cn 3 1 (iv st.2.1) :: sl s2.2.2.1 s2.2.1.length s2.2.2.2 83 12 (cells ac s2.2.1) :: F2) (fun s2 => s2.1 ≤ (st.2.1.getD 0 0).toNat ∧ s2.2.1 = L ++ List.replicate s2.1 dl) (fun s2 => (st.2.1.getD 0 0).toNat - s2.1) (0, L, A, c) ?_ ⟨rfl, rfl, rfl, rfl, rfl, trivial⟩ (by repeat (first | exact Gets.done _ | exact Gets.all _ | (apply Gets.step; focus ((repeat (first | exact Pick.head _ _ | apply Pick.tail)); done)) | apply Gets.drop)) ?_
                              · exact ⟨Nat.zero_le _, by simp⟩
                              rintro ⟨i, N, A2, c2⟩ ⟨hi6, hN⟩
                              dsimp only at hi6 hN ⊢
                              have hNl : N.length = L.length + i := by rw [hN]; simp
                              refine XC.seq fun K33 hK33 => ?_
                              refine XC.seq fun K34 hK34 => ?_
                              refine XC.region ?_
                              refine x_v (r_mv rfl) rfl ?_
                              refine x_v (r_mv rfl) rfl ?_
                              refine x_v (r_ia (k := 0) Try.underlying40 ty3 rfl rfl (by omega) (by omega)) rfl ?_
                              refine x_v (r_ldr ty3 rfl (fun w hw => nums_at (ns := st.2.1) 0 (by omega) w (Gets.own (by repeat (first | exact Gets.done _ | exact Gets.all _ | (apply Gets.step; focus ((repeat (first | exact Pick.head _ _ | apply Pick.tail)); done)) | apply Gets.drop)) hw))) rfl ?_
                              refine x_v (r_lt rfl rfl) rfl ?_
                              refine XL.nil ?_
                              refine hK34 _ _ ?_
                              refine XC.keep [(0, _), (3, _), (4, _), (6, _), (11, _), (154, _)] ⟨rfl, rfl, rfl, rfl, rfl, rfl, trivial⟩ ?_
                              refine XC.cond_d rfl (fun hc17 => ?_) (fun hc17 => ?_)
                              · refine XC.skip ?_
                                refine hK33 _ _ ?_
                                refine XC.keep [(0, _), (3, _), (4, _), (6, _), (11, _)] ⟨rfl, rfl, rfl, rfl, rfl, trivial⟩ ?_
                                refine XC.seq fun K35 hK35 => ?_
                                refine XC.block ?_
                                refine XC.region ?_
                                refine x_v (r_mv rfl) rfl ?_
                                refine x_v (r_bd (vs := [_]) rfl ⟨rfl, rfl⟩ (bd83_0 _)) rfl ?_
                                refine x_a (r_bs (vs := [_]) rfl ⟨rfl, rfl⟩ (bs56_1_0 _ _ _ _ _ _ _ _ _ _ _ _ _ _)) rfl fun b159 => ?_
                                refine x_a (r_app Try.underlying56 ty83 rfl (by decide) rfl rfl (by repeat (first | exact Pick.head _ _ | apply Pick.tail)) (Rdb.of_blk (b := b159) (n := 1) (sz := 12) (xs := ac dl) (by repeat (first | exact Pick.head _ _ | apply Pick.tail)) 0 rfl (fun _ _ h => by rw [Nat.zero_add]; exact h)) (ac_one _) (by unfold maxLen; omega) (by omega)) rfl fun ⟨A160, c160⟩ => ?_
                                dsimp only
                                rw [show N.length + 1 = (N ++ [dl]).length by simp, ← cells_one ac dl, ← cells_app]
                                refine x_v (r_as rfl) rfl ?_
                                refine XL.nil ?_
                                refine hK35 _ _ ?_
                                refine XC.keep [(0, _), (3, _), (4, _), (6, _), (11, _)] ⟨rfl, rfl, rfl, rfl, rfl, trivial⟩ ?_
                                refine XC.region ?_
                                refine x_v (r_mv rfl) rfl ?_
                                refine x_v (r_add rfl rfl (by omega)) rfl ?_
                                refine x_v (r_as rfl) rfl ?_
                                refine XL.nil ?_
                                refine ⟨(i + 1, N ++ [dl], A160, c160), ?_, ?_, ⟨rfl, rfl, rfl, rfl, rfl, trivial⟩, (by repeat (first | exact Gets.done _ | exact Gets.all _ | (apply Gets.step; focus ((repeat (first | exact Pick.head _ _ | apply Pick.tail)); done)) | apply Gets.drop))⟩
                                · exact ⟨by dsimp only; omega, by dsimp only; rw [hN, List.append_assoc, rep_snoc]⟩
                                · dsimp only; omega
                              · obtain rfl : i = (st.2.1.getD 0 0).toNat := by omega
                                refine XC.exit rfl ?_
                                refine ⟨(st.1, f - 1, N, (A2, c2), F2), ?_, ?_, ⟨rfl, rfl, rfl, trivial⟩, (by repeat (first | exact Gets.done _ | exact Gets.all _ | (apply Gets.step; focus ((repeat (first | exact Pick.head _ _ | apply Pick.tail)); done)) | apply Gets.drop))⟩
                                · dsimp only; rw [hN]; exact hI.step hb h1 (List.replicate (st.2.1.getD 0 0).toNat dl) (by rw [hk]; simp [actsOf, dl, Ac.v]) (fun x hx => by rw [List.eq_of_mem_replicate hx]; exact ⟨Rdb.nil _ _ _, Nat.zero_le _⟩) (by rw [List.length_replicate]; omega) (fun _ h => h)
                                · dsimp only; omega
                            · refine XC.skip ?_
                              refine ⟨(st.1, f - 1, L, (A, c), F2), ?_, ?_, ⟨rfl, rfl, rfl, trivial⟩, (by repeat (first | exact Gets.done _ | exact Gets.all _ | (apply Gets.step; focus ((repeat (first | exact Pick.head _ _ | apply Pick.tail)); done)) | apply Gets.drop))⟩
                              · have := hI.step (F3 := F2) hb h1 [] (by unfold actsOf; (repeat rw [if_neg (by omega)]); rfl) (by simp) (by simp) (fun _ h => h); rw [List.append_nil] at this; exact this
                              · dsimp only; omega
    · refine XC.exit rfl ?_
      exact ⟨(L, (A, c), F2), ⟨hI.stop (.inl (List.getElem?_eq_none (by omega))), hI.own, hI.ks, by dsimp only; omega⟩, ⟨rfl, trivial⟩, (by repeat (first | exact Gets.done _ | exact Gets.all _ | (apply Gets.step; focus ((repeat (first | exact Pick.head _ _ | apply Pick.tail)); done)) | apply Gets.drop))⟩
  · rintro ⟨L, ⟨A, c⟩, F2⟩ ⟨hR, hO, hK, hLn⟩
    dsimp only at hR hO hK hLn ⊢
    refine XC.seq fun K36 hK36 => ?_
    obtain ⟨m4, hm4, hm5⟩ : ∃ m4 : Nat, min (L.length : Int) 4000 = (m4 : Int) ∧ m4 = min L.length 4000 := ⟨_, by omega, rfl⟩
    refine XC.slnn (A := A) (by repeat (first | exact Pick.head _ _ | apply Pick.tail)) fun hlA hA => ?_
    refine XC.sllen (A := A) (by repeat (first | exact Pick.head _ _ | apply Pick.tail)) fun _ hLc _ => ?_
    refine XC.region ?_
    refine x_v (r_mv rfl) rfl ?_
    refine x_v (r_mv rfl) rfl ?_
    refine x_v (r_lensl Try.underlying56 rfl) rfl ?_
    refine x_v (r_min rfl rfl) rfl ?_
    rw [hm4]
    refine x_v (r_sll0 m4 Try.underlying56 ty83 rfl ⟨_, by rfl⟩ (by omega)) rfl ?_
    refine x_v (r_as rfl) rfl ?_
    refine XL.nil ?_
    refine hK36 _ _ ?_
    refine XC.keep [(2, _)] ⟨rfl, trivial⟩ ?_
    refine XC.ret ?_
    exact fin1 rfl (⟨A, c, L.take m4, by rw [List.length_take, show min m4 L.length = m4 by omega], rda_take (by omega) hA (by omega) hK, by rw [hR, List.map_take, hm5]; rw [show min L.length 4000 = min 4000 (L.map Ac.v).length by simp; omega, List.take_eq_take_min.symm], fun w h => hO w h.tail, by rw [List.length_take]; omega⟩) (by repeat (first | exact Gets.done _ | exact Gets.all _ | (apply Gets.step; focus ((repeat (first | exact Pick.head _ _ | apply Pick.tail)); done)) | apply Gets.drop))
end Go.Proofs.Ytdppjmdjmbbclaa

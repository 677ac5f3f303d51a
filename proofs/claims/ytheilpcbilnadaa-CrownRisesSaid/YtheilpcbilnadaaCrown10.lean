/- Crowns: what a crown heard never falls (function 3). -/
import Derived.Test.YtheilpcbilnadaaCrown9
namespace Go.Proofs.Ytheilpcbilnadaa
open Go.Sx
set_option linter.unusedVariables false

/-- What a crown knows may be. -/
structure Ri (ep : Int) (c : Cw) : Prop where
  e0 : ep ≤ 16
  e1 : c.epochs = ep
  h1 : c.heard ≤ 16
  w0 : 0 ≤ c.wants
  w1 : c.wants ≤ ep
/-- What became of it may be, where it was told so much. -/
structure Rn (c c2 : Cw) (told : Int) : Prop where
  h : c.heard ≤ c2.heard
  t : told ≤ c2.heard
  w : 0 < c.wants → c2.wants ≠ c.wants → c2.wants = 0 ∧ c.wants ≤ told
  g : 0 < c2.wants → told < c2.wants
theorem want_cases {ep : Int} {c : Cw} (h : Ri ep c) (f : Int) : (0 < c.wants ∧ wantOf c f = (c, 0)) ∨ (c.wants = 0 ∧ wantOf c f = (c, 125)) ∨ (c.wants = 0 ∧ 0 ≤ f ∧ topOf c f < ep ∧ wantOf c f = ({ c with wants := topOf c f + 1 }, 0)) := by
  have h0 := h.w0; have h1 := h.e1
  unfold wantOf
  split
  · exact .inl ⟨by assumption, rfl⟩
  · split
    · exact .inr (.inl ⟨by omega, rfl⟩)
    · exact .inr (.inr ⟨by omega, by omega, by omega, rfl⟩)
theorem want_ri {ep : Int} {c : Cw} (h : Ri ep c) (f : Int) : Ri ep (wantOf c f).1 := by
  have h0 := h.w0; have h1 := h.e1; have h2 := h.w1; have h3 := h.e0; have h4 := h.h1
  rcases want_cases h f with ⟨_, e⟩ | ⟨_, e⟩ | ⟨a, b, d, e⟩
  · rw [e]; exact h
  · rw [e]; exact h
  · rw [e]; have : f ≤ topOf c f := by unfold topOf; omega
    exact ⟨h3, h1, h4, by dsimp only; omega, by dsimp only; omega⟩
theorem want_rn {ep : Int} {c : Cw} (h : Ri ep c) (f : Int) (hh : 0 ≤ c.heard) : Rn c (wantOf c f).1 0 := by
  rcases want_cases h f with ⟨a, e⟩ | ⟨a, e⟩ | ⟨a, b, d, e⟩
  · rw [e]; exact ⟨Int.le_refl _, hh, fun _ q => absurd rfl q, fun q => q⟩
  · rw [e]; exact ⟨Int.le_refl _, hh, fun _ q => absurd rfl q, fun q => q⟩
  · rw [e]; have : f ≤ topOf c f := by unfold topOf; omega
    exact ⟨Int.le_refl _, hh, fun q => by omega, fun q => by dsimp only at q ⊢; omega⟩
theorem want_odd1 {ep : Int} {c : Cw} (h : Ri ep c) {f : Int} (hw : c.wants = 0) (hh : (decide (¬ (wantOf c f).2 = 0) != decide ((wantOf c f).1.wants = 0)) = true) : False := by
  rcases want_cases h f with ⟨a, e⟩ | ⟨a, e⟩ | ⟨a, b, d, e⟩
  · omega
  · rw [e] at hh; simp [hw] at hh
  · rw [e] at hh; have : f ≤ topOf c f := by unfold topOf; omega
    simp at hh; omega
theorem want_odd2 {ep : Int} {c : Cw} (h : Ri ep c) {f : Int} (hw : ¬ c.wants = 0) (hh : (decide (¬ (wantOf c f).2 = 0) != false) = true) : False := by
  rcases want_cases h f with ⟨a, e⟩ | ⟨a, e⟩ | ⟨a, b, d, e⟩
  · rw [e] at hh; simp at hh
  · omega
  · omega
theorem want_res {ep : Int} {c : Cw} (h : Ri ep c) (f : Int) : (wantOf c f).2 = 0 ∨ (wantOf c f).2 = 125 := by
  rcases want_cases h f with ⟨a, e⟩ | ⟨a, e⟩ | ⟨a, b, d, e⟩ <;> rw [e]
  · exact .inl rfl
  · exact .inr rfl
  · exact .inl rfl
theorem hear_ri {ep : Int} {c : Cw} (h : Ri ep c) (f : Int) : Ri ep (hearOf c f) := by
  unfold hearOf; split
  · rename_i q; exact ⟨h.e0, h.e1, q.2, h.w0, h.w1⟩
  · exact h
theorem hear_le (c : Cw) (f : Int) : c.heard ≤ (hearOf c f).heard ∧ (f ≤ 16 → f ≤ (hearOf c f).heard) := by
  unfold hearOf; split
  · dsimp only; omega
  · omega
theorem hear_rn {c : Cw} (f : Int) (hh : 0 ≤ c.heard) : Rn c (hearOf c f) 0 := by
  have := (hear_le c f).1
  exact ⟨this, by omega, fun _ q => absurd (hear_wants c f) q, fun q => q⟩
theorem take_ri {ep : Int} {c : Cw} (h : Ri ep c) (m : Mal) : Ri ep (takeOf c m) := by
  unfold takeOf; split
  · have q := hear_ri (ep := ep) (c := { c with tE := m.epoch, tS := m.site }) ⟨h.e0, h.e1, h.h1, h.w0, h.w1⟩ m.epoch
    exact ⟨q.e0, q.e1, q.h1, by dsimp only; split; exact Int.le_refl _; exact h.w0, by dsimp only; have := h.w0; have := h.w1; split <;> omega⟩
  · exact h
theorem take_rn {ep : Int} {c : Cw} (h : Ri ep c) (m : Mal) (ht : takeOk c m) : Rn c (takeOf c m) m.epoch := by
  have hg := ht.2.1
  unfold takeOf; rw [if_pos ht]
  have q := hear_le { c with tE := m.epoch, tS := m.site } m.epoch
  unfold grantOk at hg
  refine ⟨q.1, q.2 (by omega), fun a b => ?_, fun a => ?_⟩
  · dsimp only at b ⊢; split at b
    · rename_i w; rw [if_pos w]; exact ⟨rfl, w⟩
    · exact absurd rfl b
  · dsimp only at a ⊢; split at a
    · omega
    · rename_i w; rw [if_neg w]; omega
theorem take_no {c : Cw} {m : Mal} (h : ¬ takeOk c m) : takeOf c m = c := by unfold takeOf; rw [if_neg h]
theorem rn_same {c : Cw} (hh : 0 ≤ c.heard) : Rn c c 0 := ⟨Int.le_refl _, hh, fun _ q => absurd rfl q, fun q => q⟩

theorem rises_bad {W0 : World} {Fr : List HP} (st ep : Int) (XA : Option Addr) (xc n : Nat) (hne : ¬ newOk st ep) : Tr W0 Try.prog 3 [.int .i64 st, .int .i64 ep, .slice XA n xc] Fr (fun v Rs' => v = .bool true) := by
  refine Entry.tr (N := 139) (rs := [.tmp 6]) ⟨_, Try.func3, rfl, by kernel_rfl, rfl, rfl⟩ rfl ?_
  refine XC.seq fun K1 hK1 => ?_
  refine XC.region ?_
  refine x_v (r_as rfl) rfl ?_
  refine XL.nil ?_
  refine hK1 _ _ ?_
  refine XC.keep [(0, _), (1, _), (2, _)] ⟨rfl, rfl, rfl, trivial⟩ ?_
  refine XC.seq fun K2 hK2 => ?_
  refine XC.region ?_
  refine x_v (r_mv rfl) rfl ?_
  refine x_v (r_mv rfl) rfl ?_
  refine x_c (r_call0 (args := [_, _]) ⟨rfl, rfl, rfl⟩ (cnewbad_tr st ep hne) (by repeat (first | exact Gets.done _ | exact Gets.all _ | (apply Gets.step; focus ((repeat (first | exact Pick.head _ _ | apply Pick.tail)); done)) | apply Gets.drop))) rfl ?_
  rintro _ _ ⟨rfl, rfl⟩
  refine x_v (r_mv rfl) rfl ?_
  refine x_v (r_ex rfl rfl) rfl ?_
  refine x_v (r_ex rfl rfl) rfl ?_
  refine x_v (r_as rfl) rfl ?_
  refine x_v (r_as rfl) rfl ?_
  refine XL.nil ?_
  refine hK2 _ _ ?_
  refine XC.keep [(1, _), (2, _), (7, _), (8, _)] ⟨rfl, rfl, rfl, rfl, trivial⟩ ?_
  refine XC.seq fun K3 hK3 => ?_
  refine XC.seq fun K4 hK4 => ?_
  refine XC.region ?_
  refine x_c (r_call0 (args := []) rfl (awake_tr) (by repeat (first | exact Gets.done _ | exact Gets.all _ | (apply Gets.step; focus ((repeat (first | exact Pick.head _ _ | apply Pick.tail)); done)) | apply Gets.drop))) rfl ?_
  rintro _ _ ⟨rfl, rfl⟩
  refine x_v (r_not rfl) rfl ?_
  refine x_v (r_mv rfl) rfl ?_
  refine x_want rfl rfl rfl ?_
  refine x_v (r_mv rfl) rfl ?_
  refine x_want rfl rfl rfl ?_
  refine x_v (r_ne rfl rfl) rfl ?_
  refine x_v (r_pk_f rfl rfl) rfl ?_
  refine x_v (r_mv rfl) rfl ?_
  refine XL.splitd 27 rfl (fun hg27 => ?_) (fun hg27 => ?_)
  · refine x_unwant rfl rfl rfl rfl rfl ?_
    refine x_unwant rfl rfl rfl rfl rfl ?_
    refine x_unwant rfl rfl rfl rfl rfl ?_
    refine x_v (r_pk_t rfl rfl) rfl ?_
    refine XL.nil ?_
    refine hK4 _ _ ?_
    refine XC.keep [(1, _), (2, _), (7, _), (31, _)] ⟨rfl, rfl, rfl, rfl, trivial⟩ ?_
    refine XC.cond_t rfl ?_
    refine XC.seq fun K5 hK5 => ?_
    refine XC.region ?_
    refine x_c (r_call0 (args := []) rfl (awake_tr) (by repeat (first | exact Gets.done _ | exact Gets.all _ | (apply Gets.step; focus ((repeat (first | exact Pick.head _ _ | apply Pick.tail)); done)) | apply Gets.drop))) rfl ?_
    rintro _ _ ⟨rfl, rfl⟩
    refine x_v (r_as rfl) rfl ?_
    refine XL.nil ?_
    refine hK5 _ _ ?_
    refine XC.keep [(6, _)] ⟨rfl, trivial⟩ ?_
    refine XC.ret ?_
    exact fin1 rfl (rfl) (by repeat (first | exact Gets.done _ | exact Gets.all _ | (apply Gets.step; focus ((repeat (first | exact Pick.head _ _ | apply Pick.tail)); done)) | apply Gets.drop))
  · exfalso; exact hg27 (by decide)
theorem rises_tr {W0 : World} {Fr : List HP} (st ep : Int) (XA : Option Addr) (xc : Nat) (T : List Tp) (hr : ∀ Fr, Rdb W0 Fr XA T.length 35 (cells tpc T)) (hok : ∀ t ∈ T, OkM W0 t.m ∧ OkC W0 t.c) (hne : newOk st ep) : Tr W0 Try.prog 3 [.int .i64 st, .int .i64 ep, .slice XA T.length xc] Fr (fun v Rs' => v = .bool true) := by
  have hne' : 0 ≤ st ∧ st < 2 ∧ 1 ≤ ep ∧ ep ≤ 16 := hne
  refine Entry.tr (N := 139) (rs := [.tmp 6]) ⟨_, Try.func3, rfl, by kernel_rfl, rfl, rfl⟩ rfl ?_
  refine XC.seq fun K1 hK1 => ?_
  refine XC.region ?_
  refine x_v (r_as rfl) rfl ?_
  refine XL.nil ?_
  refine hK1 _ _ ?_
  refine XC.keep [(0, _), (1, _), (2, _)] ⟨rfl, rfl, rfl, trivial⟩ ?_
  refine XC.seq fun K2 hK2 => ?_
  refine XC.region ?_
  refine x_v (r_mv rfl) rfl ?_
  refine x_v (r_mv rfl) rfl ?_
  refine x_c (r_call0 (args := [_, _]) ⟨rfl, rfl, rfl⟩ (cnew_tr st ep hne) (by repeat (first | exact Gets.done _ | exact Gets.all _ | (apply Gets.step; focus ((repeat (first | exact Pick.head _ _ | apply Pick.tail)); done)) | apply Gets.drop))) rfl ?_
  rintro _ _ ⟨cb, rfl, rfl⟩
  refine x_v (r_mv rfl) rfl ?_
  refine x_v (r_ex rfl rfl) rfl ?_
  refine x_v (r_ex rfl rfl) rfl ?_
  refine x_v (r_as rfl) rfl ?_
  refine x_v (r_as rfl) rfl ?_
  refine XL.nil ?_
  refine hK2 _ _ ?_
  refine XC.keep [(1, _), (2, _), (7, _), (8, _)] ⟨rfl, rfl, rfl, rfl, trivial⟩ ?_
  refine XC.seq fun K3 hK3 => ?_
  refine XC.seq fun K4 hK4 => ?_
  refine XC.region ?_
  refine x_c (r_call0 (args := []) rfl (awake_tr) (by repeat (first | exact Gets.done _ | exact Gets.all _ | (apply Gets.step; focus ((repeat (first | exact Pick.head _ _ | apply Pick.tail)); done)) | apply Gets.drop))) rfl ?_
  rintro _ _ ⟨rfl, hRs⟩
  rw [hRs]
  refine x_v (r_not rfl) rfl ?_
  refine x_v (r_mv rfl) rfl ?_
  refine x_want rfl rfl rfl ?_
  refine x_v (r_mv rfl) rfl ?_
  refine x_want rfl rfl rfl ?_
  refine x_v (r_ne rfl rfl) rfl ?_
  refine x_v (r_pk_f rfl rfl) rfl ?_
  refine x_v (r_mv rfl) rfl ?_
  refine XL.splitd 27 rfl (fun hg27 => ?_) (fun hg27 => ?_)
  · exfalso; exact hg27 rfl
  · refine x_want rfl rfl rfl ?_
    refine x_v (r_mv rfl) rfl ?_
    refine x_want rfl rfl rfl ?_
    refine x_v (r_lensl Try.underlying22 rfl) rfl ?_
    refine x_want rfl rfl rfl ?_
    refine x_v (r_gt rfl rfl) rfl ?_
    refine x_v (r_pk_f rfl rfl) rfl ?_
    refine XL.nil ?_
    refine hK4 _ _ ?_
    refine XC.keep [(1, _), (2, _), (7, _), (31, _)] ⟨rfl, rfl, rfl, rfl, trivial⟩ ?_
    refine XC.cond_d rfl (fun hc1 => ?_) (fun hc1 => ?_)
    · refine XC.seq fun K5 hK5 => ?_
      refine XC.region ?_
      refine x_c (r_call0 (args := []) rfl (awake_tr) (by repeat (first | exact Gets.done _ | exact Gets.all _ | (apply Gets.step; focus ((repeat (first | exact Pick.head _ _ | apply Pick.tail)); done)) | apply Gets.drop))) rfl ?_
      rintro _ _ ⟨rfl, hRs2⟩
      rw [hRs2]
      refine x_v (r_as rfl) rfl ?_
      refine XL.nil ?_
      refine hK5 _ _ ?_
      refine XC.keep [(6, _)] ⟨rfl, trivial⟩ ?_
      refine XC.ret ?_
      exact fin1 rfl (rfl) (by repeat (first | exact Gets.done _ | exact Gets.all _ | (apply Gets.step; focus ((repeat (first | exact Pick.head _ _ | apply Pick.tail)); done)) | apply Gets.drop))
    · refine XC.skip ?_
      refine hK3 _ _ ?_
      refine XC.keep [(1, _), (2, _), (7, _)] ⟨rfl, rfl, rfl, trivial⟩ ?_
      refine XC.seq fun K6 hK6 => ?_
      refine XC.seq fun K7 hK7 => ?_
      refine XC.region ?_
      refine x_v (r_mv rfl) rfl ?_
      refine x_v (r_lensl Try.underlying22 rfl) rfl ?_
      refine x_v (r_mv rfl) rfl ?_
      refine XL.nil ?_
      refine hK7 _ _ ?_
      refine XC.keep [(1, _), (7, _), (33, _), (34, _), (35, _)] ⟨rfl, rfl, rfl, rfl, rfl, trivial⟩ ?_
      refine XC.block ?_
      refine XC.loop (σ := Nat × Cw) (fun s => [(1, .int .i64 ep), (7, .pointer (some ⟨cb, 0, none⟩)), (33, .slice XA T.length xc), (34, .int .i64 (T.length : Int)), (35, .int .i64 (s.1 : Int))]) (fun s => blk cb 81 (cc s.2) :: Fr) (fun s => s.1 ≤ T.length ∧ Ri ep s.2 ∧ 0 ≤ s.2.heard) (fun s => T.length - s.1) (0, ⟨0, 0, 0, 0, st, ep⟩) ?_ ⟨rfl, rfl, rfl, rfl, rfl, trivial⟩ (by repeat (first | exact Gets.done _ | exact Gets.all _ | (apply Gets.step; focus ((repeat (first | exact Pick.head _ _ | apply Pick.tail)); done)) | apply Gets.drop)) ?_
      · exact ⟨Nat.zero_le _, ⟨hne'.2.2.2, rfl, by dsimp only; omega, Int.le_refl _, by dsimp only; omega⟩, Int.le_refl _⟩
      rintro ⟨i, c⟩ ⟨hi, hri, hhd⟩
      dsimp only at hi hri hhd ⊢
      refine XC.seq fun K8 hK8 => ?_
      refine XC.region ?_
      refine x_v (r_lt rfl rfl) rfl ?_
      refine XL.nil ?_
      refine hK8 _ _ ?_
      refine XC.keep [(1, _), (7, _), (33, _), (34, _), (35, _), (36, _)] ⟨rfl, rfl, rfl, rfl, rfl, rfl, trivial⟩ ?_
      refine XC.seq fun K9 hK9 => ?_
      refine XC.cond_d rfl (fun hc2 => ?_) (fun hc2 => ?_)
      · refine XC.skip ?_
        refine hK9 _ _ ?_
        refine XC.keep [(1, _), (7, _), (33, _), (34, _), (35, _)] ⟨rfl, rfl, rfl, rfl, rfl, trivial⟩ ?_
        refine XC.seq fun K10 hK10 => ?_
        refine XC.block ?_
        refine XC.seq fun K11 hK11 => ?_
        obtain ⟨t, ht⟩ : ∃ t, T[i]? = some t := ⟨_, List.getElem?_eq_getElem (by omega)⟩
        obtain ⟨ob, oo, rfl, hat⟩ := (hr []).at_ (by omega)
        have hto := hok t (List.mem_of_getElem? ht)
        refine XC.region ?_
        refine x_v (r_ia (k := i) Try.underlying22 ty43 rfl rfl (by omega) (by omega)) rfl ?_
        refine x_v (r_ldar (l' := tpc t) ty43 rfl rfl (fun w hw j u hu => by rw [Nat.add_assoc]; exact hat w (Gets.own (by repeat (first | exact Gets.done _ | exact Gets.all _ | (apply Gets.step; focus ((repeat (first | exact Pick.head _ _ | apply Pick.tail)); done)) | apply Gets.drop)) hw) _ u (cells_get tpc_len T _ _ ht j u hu))) rfl ?_
        unfold tpc
        refine x_a (r_al ty43 rfl) rfl fun b10 => ?_
        refine x_e (r_st ty43 rfl rfl rfl rfl rfl (by repeat (first | exact Upd.head _ _ _ | apply Upd.tail)) (by repeat (first | exact Over.nil _ | apply Over.put | apply Over.skip))) ?_
        refine XL.nil ?_
        refine hK11 _ _ ?_
        refine XC.keep [(1, _), (7, _), (10, _), (33, _), (34, _), (35, _)] ⟨rfl, rfl, rfl, rfl, rfl, rfl, trivial⟩ ?_
        refine XC.seq fun K12 hK12 => ?_
        refine XC.seq fun K13 hK13 => ?_
        refine XC.region ?_
        refine x_v (r_lda (l' := [_, _, _, _, _, _, _, _, _, _, _, _, _, _, _, _, _, _, _, _, _, _, _, _, _, _, _, _, _, _, _, _, _, _, _]) ty43 rfl (by repeat (first | exact Pick.head _ _ | apply Pick.tail)) rfl (Sub.get (by repeat (first | exact Sub.nil _ | apply Sub.take | apply Sub.skip)))) rfl ?_
        refine x_c (r_call0 (args := [_]) ⟨rfl, rfl⟩ (heavy_tr t hto.1 hto.2) (by repeat (first | exact Gets.done _ | exact Gets.all _ | (apply Gets.step; focus ((repeat (first | exact Pick.head _ _ | apply Pick.tail)); done)) | apply Gets.drop))) rfl ?_
        rintro _ _ ⟨⟨g40, rfl⟩, rfl⟩
        refine XL.nil ?_
        refine hK13 _ _ ?_
        refine XC.keep [(1, _), (7, _), (10, _), (33, _), (34, _), (35, _), (40, _)] ⟨rfl, rfl, rfl, rfl, rfl, rfl, rfl, trivial⟩ ?_
        refine XC.cond rfl (fun hc3 => ?_) (fun hc3 => ?_)
        · refine XC.seq fun K14 hK14 => ?_
          refine XC.region ?_
          refine x_v (r_as rfl) rfl ?_
          refine XL.nil ?_
          refine hK14 _ _ ?_
          refine XC.keep [(6, _)] ⟨rfl, trivial⟩ ?_
          refine XC.ret ?_
          exact fin1 rfl (rfl) (by repeat (first | exact Gets.done _ | exact Gets.all _ | (apply Gets.step; focus ((repeat (first | exact Pick.head _ _ | apply Pick.tail)); done)) | apply Gets.drop))
        · refine XC.skip ?_
          refine hK12 _ _ ?_
          refine XC.keep [(1, _), (7, _), (10, _), (33, _), (34, _), (35, _)] ⟨rfl, rfl, rfl, rfl, rfl, rfl, trivial⟩ ?_
          refine XC.seq fun K15 hK15 => ?_
          refine XC.region ?_
          refine x_v (r_mv rfl) rfl ?_
          refine x_c (r_call0 (args := [_]) ⟨rfl, rfl⟩ (heard_tr (c := c) cb) (by repeat (first | exact Gets.done _ | exact Gets.all _ | (apply Gets.step; focus ((repeat (first | exact Pick.head _ _ | apply Pick.tail)); done)) | apply Gets.drop))) rfl ?_
          rintro _ _ ⟨rfl, rfl⟩
          refine x_v (r_mv rfl) rfl ?_
          refine x_c (r_call0 (args := [_]) ⟨rfl, rfl⟩ (wants_tr (c := c) cb) (by repeat (first | exact Gets.done _ | exact Gets.all _ | (apply Gets.step; focus ((repeat (first | exact Pick.head _ _ | apply Pick.tail)); done)) | apply Gets.drop))) rfl ?_
          rintro _ _ ⟨rfl, rfl⟩
          refine x_v (r_as rfl) rfl ?_
          refine x_v (r_as rfl) rfl ?_
          refine x_v (r_as rfl) rfl ?_
          refine XL.nil ?_
          refine hK15 _ _ ?_
          refine XC.keep [(1, _), (7, _), (10, _), (11, _), (12, _), (13, _), (33, _), (34, _), (35, _)] ⟨rfl, rfl, rfl, rfl, rfl, rfl, rfl, rfl, rfl, trivial⟩ ?_
          refine XC.seqcut (σ := Cw × Int) (fun s => [(1, .int .i64 ep), (7, .pointer (some ⟨cb, 0, none⟩)), (11, .int .i64 c.heard), (12, .int .i64 c.wants), (13, .int .i64 s.2), (33, .slice (some ⟨ob, oo, none⟩) T.length xc), (34, .int .i64 (T.length : Int)), (35, .int .i64 (i : Int))]) (fun s => blk cb 81 (cc s.1) :: Fr) (fun s => Ri ep s.1 ∧ Rn c s.1 s.2) ?_ ?_
          · refine XC.seq fun K17 hK17 => ?_
            refine XC.region ?_
            refine x_v (r_fa fo43_0 rfl) rfl ?_
            refine x_v (r_ld ty3 rfl (by repeat (first | exact Pick.head _ _ | apply Pick.tail)) (by rfl)) rfl ?_
            refine XL.nil ?_
            refine hK17 _ _ ?_
            refine XC.keep [(1, _), (7, _), (10, _), (11, _), (12, _), (13, _), (33, _), (34, _), (35, _), (46, _)] ⟨rfl, rfl, rfl, rfl, rfl, rfl, rfl, rfl, rfl, rfl, trivial⟩ ?_
            refine XC.block ?_
            refine XC.seq fun K18 hK18 => ?_
            refine XC.region ?_
            refine x_v (r_eq rfl rfl) rfl ?_
            refine x_v (r_as rfl) rfl ?_
            refine XL.nil ?_
            refine hK18 _ _ ?_
            refine XC.keep [(1, _), (7, _), (10, _), (11, _), (12, _), (13, _), (33, _), (34, _), (35, _), (46, _), (51, _)] ⟨rfl, rfl, rfl, rfl, rfl, rfl, rfl, rfl, rfl, rfl, rfl, trivial⟩ ?_
            refine XC.cond_d rfl (fun hc4 => ?_) (fun hc4 => ?_)
            · refine XC.seq fun K19 hK19 => ?_
              refine XC.region ?_
              refine x_v (r_mv rfl) rfl ?_
              refine x_v (r_fa fo43_1 rfl) rfl ?_
              refine x_v (r_ld ty3 rfl (by repeat (first | exact Pick.head _ _ | apply Pick.tail)) (by rfl)) rfl ?_
              refine x_c (r_call0 (args := [_, _]) ⟨rfl, rfl, rfl⟩ (want_tr (c := c) cb t.n (by rw [hri.e1]; exact hri.e0)) (by repeat (first | exact Gets.done _ | exact Gets.all _ | (apply Gets.step; focus ((repeat (first | exact Pick.head _ _ | apply Pick.tail)); done)) | apply Gets.drop))) rfl ?_
              rintro _ _ ⟨rfl, rfl⟩
              refine x_v (r_as rfl) rfl ?_
              refine XL.nil ?_
              refine hK19 _ _ ?_
              refine XC.keep [(1, _), (7, _), (11, _), (12, _), (13, _), (14, _), (33, _), (34, _), (35, _)] ⟨rfl, rfl, rfl, rfl, rfl, rfl, rfl, rfl, rfl, trivial⟩ ?_
              refine XC.seq fun K20 hK20 => ?_
              refine XC.region ?_
              refine x_v (r_mv rfl) rfl ?_
              refine x_v (r_ne rfl rfl) rfl ?_
              refine x_v (r_mv rfl) rfl ?_
              refine x_v (r_eq rfl rfl) rfl ?_
              refine x_v (r_mv rfl) rfl ?_
              refine XL.splitd 61 rfl (fun hg61 => ?_) (fun hg61 => ?_)
              · refine x_want rfl rfl rfl ?_
                refine x_v (r_mv rfl) rfl ?_
                refine x_want rfl rfl rfl ?_
                refine x_c (r_call0 (args := [_]) ⟨rfl, rfl⟩ (wants_tr (c := (wantOf c t.n).1) cb) (by repeat (first | exact Gets.done _ | exact Gets.all _ | (apply Gets.step; focus ((repeat (first | exact Pick.head _ _ | apply Pick.tail)); done)) | apply Gets.drop))) rfl ?_
                rintro _ _ ⟨rfl, rfl⟩
                refine x_want rfl rfl rfl ?_
                refine x_v (r_eq rfl rfl) rfl ?_
                refine x_v (r_pk_t rfl rfl) rfl ?_
                refine x_v (r_bne Try.underlying4 rfl rfl) rfl ?_
                refine x_v (r_mv rfl) rfl ?_
                refine XL.split 67 rfl (fun hg67 => ?_) (fun hg67 => ?_)
                · exfalso; first | exact want_odd1 hri hg61 hg67 | exact want_odd2 hri hg61 hg67
                · refine x_want rfl rfl rfl ?_
                  refine x_v (r_mv rfl) rfl ?_
                  refine x_want rfl rfl rfl ?_
                  refine x_v (r_ne rfl rfl) rfl ?_
                  refine x_want rfl rfl rfl ?_
                  refine x_v (r_mv rfl) rfl ?_
                  refine XL.splitd 70 rfl (fun hg70 => ?_) (fun hg70 => ?_)
                  · refine x_want rfl rfl rfl ?_
                    refine x_v (r_mv rfl) rfl ?_
                    refine x_want rfl rfl rfl ?_
                    refine x_v (r_ne rfl rfl) rfl ?_
                    refine x_want rfl rfl rfl ?_
                    refine x_v (r_pk_t rfl rfl) rfl ?_
                    refine x_v (r_pk_f rfl rfl) rfl ?_
                    refine XL.nil ?_
                    refine hK20 _ _ ?_
                    refine XC.keep [(1, _), (7, _), (11, _), (12, _), (13, _), (33, _), (34, _), (35, _), (74, _)] ⟨rfl, rfl, rfl, rfl, rfl, rfl, rfl, rfl, rfl, trivial⟩ ?_
                    refine XC.cond_d rfl (fun hc5 => ?_) (fun hc5 => ?_)
                    · exfalso; have := want_res hri t.n; omega
                    · refine XC.skip ?_
                      exact ⟨((wantOf c t.n).1, 0), ⟨want_ri hri t.n, want_rn hri t.n hhd⟩, ⟨rfl, rfl, rfl, rfl, rfl, rfl, rfl, rfl, trivial⟩, (by repeat (first | exact Gets.done _ | exact Gets.all _ | (apply Gets.step; focus ((repeat (first | exact Pick.head _ _ | apply Pick.tail)); done)) | apply Gets.drop))⟩
                  · refine x_unwant rfl rfl rfl rfl rfl ?_
                    refine x_unwant rfl rfl rfl rfl rfl ?_
                    refine x_want rfl rfl rfl ?_
                    refine x_v (r_pk_f rfl rfl) rfl ?_
                    refine x_v (r_pk_f rfl rfl) rfl ?_
                    refine XL.nil ?_
                    refine hK20 _ _ ?_
                    refine XC.keep [(1, _), (7, _), (11, _), (12, _), (13, _), (33, _), (34, _), (35, _), (74, _)] ⟨rfl, rfl, rfl, rfl, rfl, rfl, rfl, rfl, rfl, trivial⟩ ?_
                    refine XC.cond_f rfl ?_
                    refine XC.skip ?_
                    exact ⟨((wantOf c t.n).1, 0), ⟨want_ri hri t.n, want_rn hri t.n hhd⟩, ⟨rfl, rfl, rfl, rfl, rfl, rfl, rfl, rfl, trivial⟩, (by repeat (first | exact Gets.done _ | exact Gets.all _ | (apply Gets.step; focus ((repeat (first | exact Pick.head _ _ | apply Pick.tail)); done)) | apply Gets.drop))⟩
              · refine x_unwant rfl rfl rfl rfl rfl ?_
                refine x_unwant rfl rfl rfl rfl rfl ?_
                refine x_unwant rfl rfl rfl rfl rfl ?_
                refine x_v (r_pk_f rfl rfl) rfl ?_
                refine x_v (r_bne Try.underlying4 rfl rfl) rfl ?_
                refine x_v (r_mv rfl) rfl ?_
                refine XL.split 67 rfl (fun hg67 => ?_) (fun hg67 => ?_)
                · exfalso; first | exact want_odd1 hri hg61 hg67 | exact want_odd2 hri hg61 hg67
                · refine x_want rfl rfl rfl ?_
                  refine x_v (r_mv rfl) rfl ?_
                  refine x_want rfl rfl rfl ?_
                  refine x_v (r_ne rfl rfl) rfl ?_
                  refine x_want rfl rfl rfl ?_
                  refine x_v (r_mv rfl) rfl ?_
                  refine XL.splitd 70 rfl (fun hg70 => ?_) (fun hg70 => ?_)
                  · refine x_want rfl rfl rfl ?_
                    refine x_v (r_mv rfl) rfl ?_
                    refine x_want rfl rfl rfl ?_
                    refine x_v (r_ne rfl rfl) rfl ?_
                    refine x_want rfl rfl rfl ?_
                    refine x_v (r_pk_t rfl rfl) rfl ?_
                    refine x_v (r_pk_f rfl rfl) rfl ?_
                    refine XL.nil ?_
                    refine hK20 _ _ ?_
                    refine XC.keep [(1, _), (7, _), (11, _), (12, _), (13, _), (33, _), (34, _), (35, _), (74, _)] ⟨rfl, rfl, rfl, rfl, rfl, rfl, rfl, rfl, rfl, trivial⟩ ?_
                    refine XC.cond_d rfl (fun hc7 => ?_) (fun hc7 => ?_)
                    · exfalso; have := want_res hri t.n; omega
                    · refine XC.skip ?_
                      exact ⟨((wantOf c t.n).1, 0), ⟨want_ri hri t.n, want_rn hri t.n hhd⟩, ⟨rfl, rfl, rfl, rfl, rfl, rfl, rfl, rfl, trivial⟩, (by repeat (first | exact Gets.done _ | exact Gets.all _ | (apply Gets.step; focus ((repeat (first | exact Pick.head _ _ | apply Pick.tail)); done)) | apply Gets.drop))⟩
                  · refine x_unwant rfl rfl rfl rfl rfl ?_
                    refine x_unwant rfl rfl rfl rfl rfl ?_
                    refine x_want rfl rfl rfl ?_
                    refine x_v (r_pk_f rfl rfl) rfl ?_
                    refine x_v (r_pk_f rfl rfl) rfl ?_
                    refine XL.nil ?_
                    refine hK20 _ _ ?_
                    refine XC.keep [(1, _), (7, _), (11, _), (12, _), (13, _), (33, _), (34, _), (35, _), (74, _)] ⟨rfl, rfl, rfl, rfl, rfl, rfl, rfl, rfl, rfl, trivial⟩ ?_
                    refine XC.cond_f rfl ?_
                    refine XC.skip ?_
                    exact ⟨((wantOf c t.n).1, 0), ⟨want_ri hri t.n, want_rn hri t.n hhd⟩, ⟨rfl, rfl, rfl, rfl, rfl, rfl, rfl, rfl, trivial⟩, (by repeat (first | exact Gets.done _ | exact Gets.all _ | (apply Gets.step; focus ((repeat (first | exact Pick.head _ _ | apply Pick.tail)); done)) | apply Gets.drop))⟩
            · refine XC.seq fun K21 hK21 => ?_
              refine XC.region ?_
              refine x_v (r_eq rfl rfl) rfl ?_
              refine x_v (r_as rfl) rfl ?_
              refine XL.nil ?_
              refine hK21 _ _ ?_
              refine XC.keep [(1, _), (7, _), (10, _), (11, _), (12, _), (13, _), (33, _), (34, _), (35, _), (75, _)] ⟨rfl, rfl, rfl, rfl, rfl, rfl, rfl, rfl, rfl, rfl, trivial⟩ ?_
              refine XC.cond_d rfl (fun hc9 => ?_) (fun hc9 => ?_)
              · refine XC.seq fun K22 hK22 => ?_
                refine XC.region ?_
                refine x_v (r_mv rfl) rfl ?_
                refine x_v (r_fa fo43_2 rfl) rfl ?_
                refine x_v (r_lda (l' := [_, _, _, _, _, _, _, _, _, _, _, _, _, _, _, _, _]) ty35 rfl (by repeat (first | exact Pick.head _ _ | apply Pick.tail)) rfl (Sub.get (by repeat (first | exact Sub.nil _ | apply Sub.take | apply Sub.skip)))) rfl ?_
                refine x_c (r_call0 (args := [_]) ⟨rfl, rfl⟩ (own15_tr t.m hto.1) (by repeat (first | exact Gets.done _ | exact Gets.all _ | (apply Gets.step; focus ((repeat (first | exact Pick.head _ _ | apply Pick.tail)); done)) | apply Gets.drop))) rfl ?_
                rintro _ _ ⟨⟨a80, b80, c80, d80, e80, f80, L80, g80, i80, hf80, rfl⟩, rfl⟩
                have hm80 : Lens { t.m with eA := a80, ec := b80, hA := c80, hc := d80, oA := e80, oc := f80, ops := L80, pA := g80, pc := i80 } := (by have q := hto.1.lens; have := fst_len hf80; obtain ⟨q1, q2, q3, q4, q5⟩ := q; exact ⟨q1, q2, q3, by dsimp only; omega, q5⟩)
                obtain ⟨m2, hm2⟩ : ∃ m2 : Mal, m2 = { t.m with eA := a80, ec := b80, hA := c80, hc := d80, oA := e80, oc := f80, ops := L80, pA := g80, pc := i80 } := ⟨_, rfl⟩
                have hm2e : m2.epoch = t.m.epoch := by rw [hm2]
                rw [← hm2] at hm80 ⊢
                refine x_c (r_call0 (args := [_, _]) ⟨rfl, rfl, rfl⟩ (take_tr (c := c) cb m2 hm80) (by repeat (first | exact Gets.done _ | exact Gets.all _ | (apply Gets.step; focus ((repeat (first | exact Pick.head _ _ | apply Pick.tail)); done)) | apply Gets.drop))) rfl ?_
                rintro _ _ ⟨rfl, rfl⟩
                refine XL.nil ?_
                refine hK22 _ _ ?_
                refine XC.keep [(1, _), (7, _), (10, _), (11, _), (12, _), (13, _), (33, _), (34, _), (35, _), (81, _)] ⟨rfl, rfl, rfl, rfl, rfl, rfl, rfl, rfl, rfl, rfl, trivial⟩ ?_
                refine XC.cond_d rfl (fun hc10 => ?_) (fun hc10 => ?_)
                · refine XC.region ?_
                  refine x_v (r_fa fo43_2 rfl) rfl ?_
                  refine x_v (r_fa fo35_9 rfl) rfl ?_
                  refine x_v (r_ld ty3 rfl (by repeat (first | exact Pick.head _ _ | apply Pick.tail)) (by rfl)) rfl ?_
                  refine x_v (r_as rfl) rfl ?_
                  refine XL.nil ?_
                  exact ⟨(takeOf c m2, t.m.epoch), ⟨take_ri hri m2, by have := take_rn hri m2 hc10; rw [hm2e] at this; exact this⟩, ⟨rfl, rfl, rfl, rfl, rfl, rfl, rfl, rfl, trivial⟩, (by repeat (first | exact Gets.done _ | exact Gets.all _ | (apply Gets.step; focus ((repeat (first | exact Pick.head _ _ | apply Pick.tail)); done)) | apply Gets.drop))⟩
                · refine XC.skip ?_
                  exact ⟨(takeOf c m2, 0), ⟨take_ri hri m2, by rw [take_no hc10]; exact rn_same hhd⟩, ⟨rfl, rfl, rfl, rfl, rfl, rfl, rfl, rfl, trivial⟩, (by repeat (first | exact Gets.done _ | exact Gets.all _ | (apply Gets.step; focus ((repeat (first | exact Pick.head _ _ | apply Pick.tail)); done)) | apply Gets.drop))⟩
              · refine XC.region ?_
                refine x_v (r_mv rfl) rfl ?_
                refine x_v (r_fa fo43_1 rfl) rfl ?_
                refine x_v (r_ld ty3 rfl (by repeat (first | exact Pick.head _ _ | apply Pick.tail)) (by rfl)) rfl ?_
                refine x_c (r_call0 (args := [_, _]) ⟨rfl, rfl, rfl⟩ (hear_tr (c := c) cb t.n) (by repeat (first | exact Gets.done _ | exact Gets.all _ | (apply Gets.step; focus ((repeat (first | exact Pick.head _ _ | apply Pick.tail)); done)) | apply Gets.drop))) rfl ?_
                rintro _ _ ⟨rfl, rfl⟩
                refine XL.nil ?_
                exact ⟨(hearOf c t.n, 0), ⟨hear_ri hri t.n, hear_rn t.n hhd⟩, ⟨rfl, rfl, rfl, rfl, rfl, rfl, rfl, rfl, trivial⟩, (by repeat (first | exact Gets.done _ | exact Gets.all _ | (apply Gets.step; focus ((repeat (first | exact Pick.head _ _ | apply Pick.tail)); done)) | apply Gets.drop))⟩
          · rintro ⟨c2, told⟩ ⟨hr2, hrn⟩
            dsimp only at hr2 hrn ⊢
            have k1 := hr2.h1
            have k2 := hr2.w1
            have k3 := hr2.w0
            have k4 := hrn.h
            have k5 := hrn.t
            have k6 := hrn.w
            have k7 := hrn.g
            refine XC.seq fun K23 hK23 => ?_
            refine XC.region ?_
            refine x_v (r_mv rfl) rfl ?_
            refine x_c (r_call0 (args := [_]) ⟨rfl, rfl⟩ (heard_tr (c := c2) cb) (by repeat (first | exact Gets.done _ | exact Gets.all _ | (apply Gets.step; focus ((repeat (first | exact Pick.head _ _ | apply Pick.tail)); done)) | apply Gets.drop))) rfl ?_
            rintro _ _ ⟨rfl, rfl⟩
            refine x_v (r_mv rfl) rfl ?_
            refine x_v (r_lt rfl rfl) rfl ?_
            refine x_v (r_mv rfl) rfl ?_
            refine XL.splitd 89 rfl (fun hg89 => ?_) (fun hg89 => ?_)
            · exfalso; omega
            · refine x_want rfl rfl rfl ?_
              refine x_v (r_mv rfl) rfl ?_
              refine x_want rfl rfl rfl ?_
              refine x_c (r_call0 (args := [_]) ⟨rfl, rfl⟩ (heard_tr (c := c2) cb) (by repeat (first | exact Gets.done _ | exact Gets.all _ | (apply Gets.step; focus ((repeat (first | exact Pick.head _ _ | apply Pick.tail)); done)) | apply Gets.drop))) rfl ?_
              rintro _ _ ⟨rfl, rfl⟩
              refine x_want rfl rfl rfl ?_
              refine x_v (r_mv rfl) rfl ?_
              refine x_want rfl rfl rfl ?_
              refine x_v (r_lt rfl rfl) rfl ?_
              refine x_v (r_pk_f rfl rfl) rfl ?_
              refine x_v (r_mv rfl) rfl ?_
              refine XL.splitd 95 rfl (fun hg95 => ?_) (fun hg95 => ?_)
              · exfalso; omega
              · refine x_want rfl rfl rfl ?_
                refine x_v (r_mv rfl) rfl ?_
                refine x_want rfl rfl rfl ?_
                refine x_c (r_call0 (args := [_]) ⟨rfl, rfl⟩ (heard_tr (c := c2) cb) (by repeat (first | exact Gets.done _ | exact Gets.all _ | (apply Gets.step; focus ((repeat (first | exact Pick.head _ _ | apply Pick.tail)); done)) | apply Gets.drop))) rfl ?_
                rintro _ _ ⟨rfl, rfl⟩
                refine x_want rfl rfl rfl ?_
                refine x_v (r_gt rfl rfl) rfl ?_
                refine x_v (r_pk_f rfl rfl) rfl ?_
                refine x_v (r_mv rfl) rfl ?_
                refine XL.splitd 100 rfl (fun hg100 => ?_) (fun hg100 => ?_)
                · exfalso; omega
                · refine x_want rfl rfl rfl ?_
                  refine x_v (r_mv rfl) rfl ?_
                  refine x_want rfl rfl rfl ?_
                  refine x_c (r_call0 (args := [_]) ⟨rfl, rfl⟩ (wants_tr (c := c2) cb) (by repeat (first | exact Gets.done _ | exact Gets.all _ | (apply Gets.step; focus ((repeat (first | exact Pick.head _ _ | apply Pick.tail)); done)) | apply Gets.drop))) rfl ?_
                  rintro _ _ ⟨rfl, rfl⟩
                  refine x_want rfl rfl rfl ?_
                  refine x_v (r_mv rfl) rfl ?_
                  refine x_want rfl rfl rfl ?_
                  refine x_v (r_gt rfl rfl) rfl ?_
                  refine x_v (r_pk_f rfl rfl) rfl ?_
                  refine x_v (r_mv rfl) rfl ?_
                  refine XL.splitd 106 rfl (fun hg106 => ?_) (fun hg106 => ?_)
                  · exfalso; omega
                  · refine x_want rfl rfl rfl ?_
                    refine x_v (r_mv rfl) rfl ?_
                    refine x_want rfl rfl rfl ?_
                    refine x_v (r_gt rfl rfl) rfl ?_
                    refine x_want rfl rfl rfl ?_
                    refine x_v (r_mv rfl) rfl ?_
                    refine XL.splitd 109 rfl (fun hg109 => ?_) (fun hg109 => ?_)
                    · refine x_want rfl rfl rfl ?_
                      refine x_v (r_mv rfl) rfl ?_
                      refine x_want rfl rfl rfl ?_
                      refine x_c (r_call0 (args := [_]) ⟨rfl, rfl⟩ (wants_tr (c := c2) cb) (by repeat (first | exact Gets.done _ | exact Gets.all _ | (apply Gets.step; focus ((repeat (first | exact Pick.head _ _ | apply Pick.tail)); done)) | apply Gets.drop))) rfl ?_
                      rintro _ _ ⟨rfl, rfl⟩
                      refine x_want rfl rfl rfl ?_
                      refine x_v (r_mv rfl) rfl ?_
                      refine x_want rfl rfl rfl ?_
                      refine x_v (r_ne rfl rfl) rfl ?_
                      refine x_want rfl rfl rfl ?_
                      refine x_v (r_pk_t rfl rfl) rfl ?_
                      refine x_want rfl rfl rfl ?_
                      refine x_v (r_mv rfl) rfl ?_
                      refine XL.splitd 115 rfl (fun hg115 => ?_) (fun hg115 => ?_)
                      · refine x_want rfl rfl rfl ?_
                        refine x_v (r_mv rfl) rfl ?_
                        refine x_want rfl rfl rfl ?_
                        refine x_c (r_call0 (args := [_]) ⟨rfl, rfl⟩ (wants_tr (c := c2) cb) (by repeat (first | exact Gets.done _ | exact Gets.all _ | (apply Gets.step; focus ((repeat (first | exact Pick.head _ _ | apply Pick.tail)); done)) | apply Gets.drop))) rfl ?_
                        rintro _ _ ⟨rfl, rfl⟩
                        refine x_want rfl rfl rfl ?_
                        refine x_v (r_eq rfl rfl) rfl ?_
                        refine x_want rfl rfl rfl ?_
                        refine x_v (r_mv rfl) rfl ?_
                        refine XL.splitd 119 rfl (fun hg119 => ?_) (fun hg119 => ?_)
                        · refine x_want rfl rfl rfl ?_
                          refine x_v (r_mv rfl) rfl ?_
                          refine x_want rfl rfl rfl ?_
                          refine x_v (r_mv rfl) rfl ?_
                          refine x_want rfl rfl rfl ?_
                          refine x_v (r_ge rfl rfl) rfl ?_
                          refine x_want rfl rfl rfl ?_
                          refine x_v (r_pk_t rfl rfl) rfl ?_
                          refine x_want rfl rfl rfl ?_
                          refine x_v (r_not_d rfl) rfl ?_
                          refine x_want rfl rfl rfl ?_
                          refine x_v (r_pk_t rfl rfl) rfl ?_
                          refine x_v (r_pk_f rfl rfl) rfl ?_
                          refine x_v (r_mv rfl) rfl ?_
                          refine XL.splitd 127 rfl (fun hg127 => ?_) (fun hg127 => ?_)
                          · refine x_unwant rfl rfl rfl rfl rfl ?_
                            refine x_unwant rfl rfl rfl rfl rfl ?_
                            refine x_unwant rfl rfl rfl rfl rfl ?_
                            refine x_unwant rfl rfl rfl rfl rfl ?_
                            refine x_unwantu rfl rfl rfl rfl rfl ?_
                            refine x_unwantu rfl rfl rfl rfl rfl ?_
                            refine x_unwantu rfl rfl rfl rfl rfl ?_
                            refine x_unwantu rfl rfl rfl rfl rfl ?_
                            refine x_unwant rfl rfl rfl rfl rfl ?_
                            refine x_v (r_pk_t rfl rfl) rfl ?_
                            refine XL.nil ?_
                            refine hK23 _ _ ?_
                            refine XC.keep [(1, _), (7, _), (33, _), (34, _), (35, _), (137, _)] ⟨rfl, rfl, rfl, rfl, rfl, rfl, trivial⟩ ?_
                            refine XC.cond_t rfl ?_
                            refine XC.seq fun K24 hK24 => ?_
                            refine XC.region ?_
                            refine x_v (r_as rfl) rfl ?_
                            refine XL.nil ?_
                            refine hK24 _ _ ?_
                            refine XC.keep [(6, _)] ⟨rfl, trivial⟩ ?_
                            refine XC.ret ?_
                            (exfalso; omega)
                          · refine x_want rfl rfl rfl ?_
                            refine x_v (r_mv rfl) rfl ?_
                            refine x_want rfl rfl rfl ?_
                            refine x_c (r_call0 (args := [_]) ⟨rfl, rfl⟩ (wants_tr (c := c2) cb) (by repeat (first | exact Gets.done _ | exact Gets.all _ | (apply Gets.step; focus ((repeat (first | exact Pick.head _ _ | apply Pick.tail)); done)) | apply Gets.drop))) rfl ?_
                            rintro _ _ ⟨rfl, rfl⟩
                            refine x_want rfl rfl rfl ?_
                            refine x_v (r_gt rfl rfl) rfl ?_
                            refine x_want rfl rfl rfl ?_
                            refine x_v (r_mv rfl) rfl ?_
                            refine XL.splitd 131 rfl (fun hg131 => ?_) (fun hg131 => ?_)
                            · refine x_want rfl rfl rfl ?_
                              refine x_v (r_mv rfl) rfl ?_
                              refine x_want rfl rfl rfl ?_
                              refine x_c (r_call0 (args := [_]) ⟨rfl, rfl⟩ (wants_tr (c := c2) cb) (by repeat (first | exact Gets.done _ | exact Gets.all _ | (apply Gets.step; focus ((repeat (first | exact Pick.head _ _ | apply Pick.tail)); done)) | apply Gets.drop))) rfl ?_
                              rintro _ _ ⟨rfl, rfl⟩
                              refine x_want rfl rfl rfl ?_
                              refine x_v (r_mv rfl) rfl ?_
                              refine x_want rfl rfl rfl ?_
                              refine x_v (r_le rfl rfl) rfl ?_
                              refine x_want rfl rfl rfl ?_
                              refine x_v (r_pk_t rfl rfl) rfl ?_
                              refine x_v (r_pk_f rfl rfl) rfl ?_
                              refine XL.nil ?_
                              refine hK23 _ _ ?_
                              refine XC.keep [(1, _), (7, _), (33, _), (34, _), (35, _), (137, _)] ⟨rfl, rfl, rfl, rfl, rfl, rfl, trivial⟩ ?_
                              refine XC.cond_d rfl (fun hc12 => ?_) (fun hc12 => ?_)
                              · refine XC.seq fun K25 hK25 => ?_
                                refine XC.region ?_
                                refine x_v (r_as rfl) rfl ?_
                                refine XL.nil ?_
                                refine hK25 _ _ ?_
                                refine XC.keep [(6, _)] ⟨rfl, trivial⟩ ?_
                                refine XC.ret ?_
                                (exfalso; omega)
                              · refine XC.skip ?_
                                refine hK10 _ _ ?_
                                refine XC.keep [(1, _), (7, _), (33, _), (34, _), (35, _)] ⟨rfl, rfl, rfl, rfl, rfl, trivial⟩ ?_
                                refine XC.region ?_
                                refine x_v (r_add rfl rfl (by omega)) rfl ?_
                                refine x_v (r_mv rfl) rfl ?_
                                refine XL.nil ?_
                                refine ⟨(i + 1, c2), ?_, ?_, ⟨rfl, rfl, rfl, rfl, rfl, trivial⟩, (by repeat (first | exact Gets.done _ | exact Gets.all _ | (apply Gets.step; focus ((repeat (first | exact Pick.head _ _ | apply Pick.tail)); done)) | apply Gets.drop))⟩
                                · exact ⟨by dsimp only; omega, hr2, by have := hrn.h; dsimp only; omega⟩
                                · dsimp only; omega
                            · refine x_unwant rfl rfl rfl rfl rfl ?_
                              refine x_unwant rfl rfl rfl rfl rfl ?_
                              refine x_unwant rfl rfl rfl rfl rfl ?_
                              refine x_unwant rfl rfl rfl rfl rfl ?_
                              refine x_want rfl rfl rfl ?_
                              refine x_v (r_pk_f rfl rfl) rfl ?_
                              refine x_v (r_pk_f rfl rfl) rfl ?_
                              refine XL.nil ?_
                              refine hK23 _ _ ?_
                              refine XC.keep [(1, _), (7, _), (33, _), (34, _), (35, _), (137, _)] ⟨rfl, rfl, rfl, rfl, rfl, rfl, trivial⟩ ?_
                              refine XC.cond_f rfl ?_
                              refine XC.skip ?_
                              refine hK10 _ _ ?_
                              refine XC.keep [(1, _), (7, _), (33, _), (34, _), (35, _)] ⟨rfl, rfl, rfl, rfl, rfl, trivial⟩ ?_
                              refine XC.region ?_
                              refine x_v (r_add rfl rfl (by omega)) rfl ?_
                              refine x_v (r_mv rfl) rfl ?_
                              refine XL.nil ?_
                              refine ⟨(i + 1, c2), ?_, ?_, ⟨rfl, rfl, rfl, rfl, rfl, trivial⟩, (by repeat (first | exact Gets.done _ | exact Gets.all _ | (apply Gets.step; focus ((repeat (first | exact Pick.head _ _ | apply Pick.tail)); done)) | apply Gets.drop))⟩
                              · exact ⟨by dsimp only; omega, hr2, by have := hrn.h; dsimp only; omega⟩
                              · dsimp only; omega
                        · refine x_unwant rfl rfl rfl rfl rfl ?_
                          refine x_unwant rfl rfl rfl rfl rfl ?_
                          refine x_unwant rfl rfl rfl rfl rfl ?_
                          refine x_want rfl rfl rfl ?_
                          refine x_v (r_pk_f rfl rfl) rfl ?_
                          refine x_want rfl rfl rfl ?_
                          refine x_v (r_not rfl) rfl ?_
                          refine x_want rfl rfl rfl ?_
                          refine x_v (r_pk_t rfl rfl) rfl ?_
                          refine x_v (r_pk_f rfl rfl) rfl ?_
                          refine x_v (r_mv rfl) rfl ?_
                          refine x_unwant rfl rfl rfl rfl rfl ?_
                          refine x_unwant rfl rfl rfl rfl rfl ?_
                          refine x_unwant rfl rfl rfl rfl rfl ?_
                          refine x_unwant rfl rfl rfl rfl rfl ?_
                          refine x_unwantu rfl rfl rfl rfl rfl ?_
                          refine x_unwantu rfl rfl rfl rfl rfl ?_
                          refine x_unwantu rfl rfl rfl rfl rfl ?_
                          refine x_unwantu rfl rfl rfl rfl rfl ?_
                          refine x_unwant rfl rfl rfl rfl rfl ?_
                          refine x_v (r_pk_t rfl rfl) rfl ?_
                          refine XL.nil ?_
                          refine hK23 _ _ ?_
                          refine XC.keep [(1, _), (7, _), (33, _), (34, _), (35, _), (137, _)] ⟨rfl, rfl, rfl, rfl, rfl, rfl, trivial⟩ ?_
                          refine XC.cond_t rfl ?_
                          refine XC.seq fun K26 hK26 => ?_
                          refine XC.region ?_
                          refine x_v (r_as rfl) rfl ?_
                          refine XL.nil ?_
                          refine hK26 _ _ ?_
                          refine XC.keep [(6, _)] ⟨rfl, trivial⟩ ?_
                          refine XC.ret ?_
                          (exfalso; omega)
                      · refine x_unwant rfl rfl rfl rfl rfl ?_
                        refine x_unwant rfl rfl rfl rfl rfl ?_
                        refine x_unwant rfl rfl rfl rfl rfl ?_
                        refine x_unwant rfl rfl rfl rfl rfl ?_
                        refine x_unwantu rfl rfl rfl rfl rfl ?_
                        refine x_unwantu rfl rfl rfl rfl rfl ?_
                        refine x_unwantu rfl rfl rfl rfl rfl ?_
                        refine x_unwant rfl rfl rfl rfl rfl ?_
                        refine x_unwant rfl rfl rfl rfl rfl ?_
                        refine x_want rfl rfl rfl ?_
                        refine x_v (r_pk_f rfl rfl) rfl ?_
                        refine x_v (r_pk_f rfl rfl) rfl ?_
                        refine x_v (r_mv rfl) rfl ?_
                        refine x_want rfl rfl rfl ?_
                        refine x_v (r_mv rfl) rfl ?_
                        refine x_want rfl rfl rfl ?_
                        refine x_c (r_call0 (args := [_]) ⟨rfl, rfl⟩ (wants_tr (c := c2) cb) (by repeat (first | exact Gets.done _ | exact Gets.all _ | (apply Gets.step; focus ((repeat (first | exact Pick.head _ _ | apply Pick.tail)); done)) | apply Gets.drop))) rfl ?_
                        rintro _ _ ⟨rfl, rfl⟩
                        refine x_want rfl rfl rfl ?_
                        refine x_v (r_gt rfl rfl) rfl ?_
                        refine x_want rfl rfl rfl ?_
                        refine x_v (r_mv rfl) rfl ?_
                        refine XL.splitd 131 rfl (fun hg131 => ?_) (fun hg131 => ?_)
                        · refine x_want rfl rfl rfl ?_
                          refine x_v (r_mv rfl) rfl ?_
                          refine x_want rfl rfl rfl ?_
                          refine x_c (r_call0 (args := [_]) ⟨rfl, rfl⟩ (wants_tr (c := c2) cb) (by repeat (first | exact Gets.done _ | exact Gets.all _ | (apply Gets.step; focus ((repeat (first | exact Pick.head _ _ | apply Pick.tail)); done)) | apply Gets.drop))) rfl ?_
                          rintro _ _ ⟨rfl, rfl⟩
                          refine x_want rfl rfl rfl ?_
                          refine x_v (r_mv rfl) rfl ?_
                          refine x_want rfl rfl rfl ?_
                          refine x_v (r_le rfl rfl) rfl ?_
                          refine x_want rfl rfl rfl ?_
                          refine x_v (r_pk_t rfl rfl) rfl ?_
                          refine x_v (r_pk_f rfl rfl) rfl ?_
                          refine XL.nil ?_
                          refine hK23 _ _ ?_
                          refine XC.keep [(1, _), (7, _), (33, _), (34, _), (35, _), (137, _)] ⟨rfl, rfl, rfl, rfl, rfl, rfl, trivial⟩ ?_
                          refine XC.cond_d rfl (fun hc15 => ?_) (fun hc15 => ?_)
                          · refine XC.seq fun K27 hK27 => ?_
                            refine XC.region ?_
                            refine x_v (r_as rfl) rfl ?_
                            refine XL.nil ?_
                            refine hK27 _ _ ?_
                            refine XC.keep [(6, _)] ⟨rfl, trivial⟩ ?_
                            refine XC.ret ?_
                            (exfalso; omega)
                          · refine XC.skip ?_
                            refine hK10 _ _ ?_
                            refine XC.keep [(1, _), (7, _), (33, _), (34, _), (35, _)] ⟨rfl, rfl, rfl, rfl, rfl, trivial⟩ ?_
                            refine XC.region ?_
                            refine x_v (r_add rfl rfl (by omega)) rfl ?_
                            refine x_v (r_mv rfl) rfl ?_
                            refine XL.nil ?_
                            refine ⟨(i + 1, c2), ?_, ?_, ⟨rfl, rfl, rfl, rfl, rfl, trivial⟩, (by repeat (first | exact Gets.done _ | exact Gets.all _ | (apply Gets.step; focus ((repeat (first | exact Pick.head _ _ | apply Pick.tail)); done)) | apply Gets.drop))⟩
                            · exact ⟨by dsimp only; omega, hr2, by have := hrn.h; dsimp only; omega⟩
                            · dsimp only; omega
                        · refine x_unwant rfl rfl rfl rfl rfl ?_
                          refine x_unwant rfl rfl rfl rfl rfl ?_
                          refine x_unwant rfl rfl rfl rfl rfl ?_
                          refine x_unwant rfl rfl rfl rfl rfl ?_
                          refine x_want rfl rfl rfl ?_
                          refine x_v (r_pk_f rfl rfl) rfl ?_
                          refine x_v (r_pk_f rfl rfl) rfl ?_
                          refine XL.nil ?_
                          refine hK23 _ _ ?_
                          refine XC.keep [(1, _), (7, _), (33, _), (34, _), (35, _), (137, _)] ⟨rfl, rfl, rfl, rfl, rfl, rfl, trivial⟩ ?_
                          refine XC.cond_f rfl ?_
                          refine XC.skip ?_
                          refine hK10 _ _ ?_
                          refine XC.keep [(1, _), (7, _), (33, _), (34, _), (35, _)] ⟨rfl, rfl, rfl, rfl, rfl, trivial⟩ ?_
                          refine XC.region ?_
                          refine x_v (r_add rfl rfl (by omega)) rfl ?_
                          refine x_v (r_mv rfl) rfl ?_
                          refine XL.nil ?_
                          refine ⟨(i + 1, c2), ?_, ?_, ⟨rfl, rfl, rfl, rfl, rfl, trivial⟩, (by repeat (first | exact Gets.done _ | exact Gets.all _ | (apply Gets.step; focus ((repeat (first | exact Pick.head _ _ | apply Pick.tail)); done)) | apply Gets.drop))⟩
                          · exact ⟨by dsimp only; omega, hr2, by have := hrn.h; dsimp only; omega⟩
                          · dsimp only; omega
                    · refine x_unwant rfl rfl rfl rfl rfl ?_
                      refine x_unwant rfl rfl rfl rfl rfl ?_
                      refine x_unwant rfl rfl rfl rfl rfl ?_
                      refine x_unwant rfl rfl rfl rfl rfl ?_
                      refine x_want rfl rfl rfl ?_
                      refine x_v (r_pk_f rfl rfl) rfl ?_
                      refine x_want rfl rfl rfl ?_
                      refine x_v (r_mv rfl) rfl ?_
                      refine x_unwant rfl rfl rfl rfl rfl ?_
                      refine x_unwant rfl rfl rfl rfl rfl ?_
                      refine x_unwant rfl rfl rfl rfl rfl ?_
                      refine x_unwant rfl rfl rfl rfl rfl ?_
                      refine x_unwantu rfl rfl rfl rfl rfl ?_
                      refine x_unwantu rfl rfl rfl rfl rfl ?_
                      refine x_unwantu rfl rfl rfl rfl rfl ?_
                      refine x_unwant rfl rfl rfl rfl rfl ?_
                      refine x_unwant rfl rfl rfl rfl rfl ?_
                      refine x_want rfl rfl rfl ?_
                      refine x_v (r_pk_f rfl rfl) rfl ?_
                      refine x_v (r_pk_f rfl rfl) rfl ?_
                      refine x_v (r_mv rfl) rfl ?_
                      refine x_want rfl rfl rfl ?_
                      refine x_v (r_mv rfl) rfl ?_
                      refine x_want rfl rfl rfl ?_
                      refine x_c (r_call0 (args := [_]) ⟨rfl, rfl⟩ (wants_tr (c := c2) cb) (by repeat (first | exact Gets.done _ | exact Gets.all _ | (apply Gets.step; focus ((repeat (first | exact Pick.head _ _ | apply Pick.tail)); done)) | apply Gets.drop))) rfl ?_
                      rintro _ _ ⟨rfl, rfl⟩
                      refine x_want rfl rfl rfl ?_
                      refine x_v (r_gt rfl rfl) rfl ?_
                      refine x_want rfl rfl rfl ?_
                      refine x_v (r_mv rfl) rfl ?_
                      refine XL.splitd 131 rfl (fun hg131 => ?_) (fun hg131 => ?_)
                      · refine x_want rfl rfl rfl ?_
                        refine x_v (r_mv rfl) rfl ?_
                        refine x_want rfl rfl rfl ?_
                        refine x_c (r_call0 (args := [_]) ⟨rfl, rfl⟩ (wants_tr (c := c2) cb) (by repeat (first | exact Gets.done _ | exact Gets.all _ | (apply Gets.step; focus ((repeat (first | exact Pick.head _ _ | apply Pick.tail)); done)) | apply Gets.drop))) rfl ?_
                        rintro _ _ ⟨rfl, rfl⟩
                        refine x_want rfl rfl rfl ?_
                        refine x_v (r_mv rfl) rfl ?_
                        refine x_want rfl rfl rfl ?_
                        refine x_v (r_le rfl rfl) rfl ?_
                        refine x_want rfl rfl rfl ?_
                        refine x_v (r_pk_t rfl rfl) rfl ?_
                        refine x_v (r_pk_f rfl rfl) rfl ?_
                        refine XL.nil ?_
                        refine hK23 _ _ ?_
                        refine XC.keep [(1, _), (7, _), (33, _), (34, _), (35, _), (137, _)] ⟨rfl, rfl, rfl, rfl, rfl, rfl, trivial⟩ ?_
                        refine XC.cond_d rfl (fun hc17 => ?_) (fun hc17 => ?_)
                        · refine XC.seq fun K28 hK28 => ?_
                          refine XC.region ?_
                          refine x_v (r_as rfl) rfl ?_
                          refine XL.nil ?_
                          refine hK28 _ _ ?_
                          refine XC.keep [(6, _)] ⟨rfl, trivial⟩ ?_
                          refine XC.ret ?_
                          (exfalso; omega)
                        · refine XC.skip ?_
                          refine hK10 _ _ ?_
                          refine XC.keep [(1, _), (7, _), (33, _), (34, _), (35, _)] ⟨rfl, rfl, rfl, rfl, rfl, trivial⟩ ?_
                          refine XC.region ?_
                          refine x_v (r_add rfl rfl (by omega)) rfl ?_
                          refine x_v (r_mv rfl) rfl ?_
                          refine XL.nil ?_
                          refine ⟨(i + 1, c2), ?_, ?_, ⟨rfl, rfl, rfl, rfl, rfl, trivial⟩, (by repeat (first | exact Gets.done _ | exact Gets.all _ | (apply Gets.step; focus ((repeat (first | exact Pick.head _ _ | apply Pick.tail)); done)) | apply Gets.drop))⟩
                          · exact ⟨by dsimp only; omega, hr2, by have := hrn.h; dsimp only; omega⟩
                          · dsimp only; omega
                      · refine x_unwant rfl rfl rfl rfl rfl ?_
                        refine x_unwant rfl rfl rfl rfl rfl ?_
                        refine x_unwant rfl rfl rfl rfl rfl ?_
                        refine x_unwant rfl rfl rfl rfl rfl ?_
                        refine x_want rfl rfl rfl ?_
                        refine x_v (r_pk_f rfl rfl) rfl ?_
                        refine x_v (r_pk_f rfl rfl) rfl ?_
                        refine XL.nil ?_
                        refine hK23 _ _ ?_
                        refine XC.keep [(1, _), (7, _), (33, _), (34, _), (35, _), (137, _)] ⟨rfl, rfl, rfl, rfl, rfl, rfl, trivial⟩ ?_
                        refine XC.cond_f rfl ?_
                        refine XC.skip ?_
                        refine hK10 _ _ ?_
                        refine XC.keep [(1, _), (7, _), (33, _), (34, _), (35, _)] ⟨rfl, rfl, rfl, rfl, rfl, trivial⟩ ?_
                        refine XC.region ?_
                        refine x_v (r_add rfl rfl (by omega)) rfl ?_
                        refine x_v (r_mv rfl) rfl ?_
                        refine XL.nil ?_
                        refine ⟨(i + 1, c2), ?_, ?_, ⟨rfl, rfl, rfl, rfl, rfl, trivial⟩, (by repeat (first | exact Gets.done _ | exact Gets.all _ | (apply Gets.step; focus ((repeat (first | exact Pick.head _ _ | apply Pick.tail)); done)) | apply Gets.drop))⟩
                        · exact ⟨by dsimp only; omega, hr2, by have := hrn.h; dsimp only; omega⟩
                        · dsimp only; omega
      · refine XC.exit rfl ?_
        refine hK6 _ _ ?_
        refine XC.keep [] trivial ?_
        refine XC.seq fun K29 hK29 => ?_
        refine XC.region ?_
        refine x_v (r_as rfl) rfl ?_
        refine XL.nil ?_
        refine hK29 _ _ ?_
        refine XC.keep [(6, _)] ⟨rfl, trivial⟩ ?_
        refine XC.ret ?_
        exact fin1 rfl (rfl) (by repeat (first | exact Gets.done _ | exact Gets.all _ | (apply Gets.step; focus ((repeat (first | exact Pick.head _ _ | apply Pick.tail)); done)) | apply Gets.drop))
end Go.Proofs.Ytheilpcbilnadaa

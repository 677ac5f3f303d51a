/- The drive's functions: 62, 48, 32. -/
import Derived.Test.YtcmdmhmgffjknaaGreatDoorFacts
import Derived.Test.YtcmdmhmgffjknaaGreatDoorWal14
namespace Go.Proofs.YtcmdmhmgffjknaaGreatDoor
open Go.Sx
set_option linter.unusedVariables false

theorem str_inj {a b : List UInt8} (h : str a = str b) : a = b := by simpa [str] using h
theorem DIs.names {D : Dk} {f : Value → Option Value} {T : List En} (h : DIs D f T) : T.Pairwise (fun a b => a.1 < b.1) := by
  have := h.ok.srt
  rw [← h.files, List.pairwise_map] at this
  exact this
theorem DIs.fiok {D : Dk} {f : Value → Option Value} {T : List En} (h : DIs D f T) {t : En} (ht : t ∈ T) : FiOk (t.1, t.2.2) := h.ok.fi _ (by rw [← h.files]; exact List.mem_map.2 ⟨t, ht, rfl⟩)
theorem DIs.stp {D : Dk} {f : Value → Option Value} {T : List En} (h : DIs D f T) : DIs (stepD D) f T := ⟨h.files, h.tab, ⟨h.ok.srt, h.ok.fi, by have := h.ok.fuse; simp only [stepD]; omega⟩⟩
theorem DIs.offd {D : Dk} {f : Value → Option Value} {T : List En} (h : DIs D f T) : DIs { D with off := true } f T := ⟨h.files, h.tab, ⟨h.ok.srt, h.ok.fi, h.ok.fuse⟩⟩
theorem DIs.repl {D : Dk} {f : Value → Option Value} {T1 T2 : List En} {n : List UInt8} {b : Nat} {x : Fi} (h : DIs D f (T1 ++ (n, b, x) :: T2)) (x' : Fi) (hx : FiOk (n, x')) : DIs { D with files := setF D.files n x' } f (T1 ++ (n, b, x') :: T2) := by
  have hf : (T1 ++ (n, b, x') :: T2).map (fun t => (t.1, t.2.2)) = setF D.files n x' := by
    have h1 := h.ok.srt
    have h2 := h.files
    rw [List.map_append, List.map_cons] at h2 ⊢
    rw [← h2] at h1 ⊢
    exact (setF_at h1).symm
  refine ⟨hf, fun k v => ?_, ⟨?_, fun t ht => ?_, h.ok.fuse⟩⟩
  · rw [h.tab]
    simp only [List.mem_append, List.mem_cons]
    constructor
    · rintro ⟨t, h1 | rfl | h1, h2, h3⟩
      · exact ⟨t, .inl h1, h2, h3⟩
      · exact ⟨(n, b, x'), .inr (.inl rfl), h2, h3⟩
      · exact ⟨t, .inr (.inr h1), h2, h3⟩
    · rintro ⟨t, h1 | rfl | h1, h2, h3⟩
      · exact ⟨t, .inl h1, h2, h3⟩
      · exact ⟨(n, b, x), .inr (.inl rfl), h2, h3⟩
      · exact ⟨t, .inr (.inr h1), h2, h3⟩
  · show (setF D.files n x').Pairwise _
    rw [← hf, List.pairwise_map]
    have h1 := h.names
    rw [List.pairwise_append, List.pairwise_cons] at h1 ⊢
    refine ⟨h1.1, h1.2.1, fun a ha c hc => ?_⟩
    rcases List.mem_cons.1 hc with rfl | hc
    · exact h1.2.2 a ha (n, b, x) (by simp)
    · exact h1.2.2 a ha c (by simp [hc])
  · have ht' : t ∈ (T1 ++ (n, b, x') :: T2).map (fun t => (t.1, t.2.2)) := by rw [hf]; exact ht
    obtain ⟨u, hu, rfl⟩ := List.mem_map.1 ht'
    rcases List.mem_append.1 hu with hu | hu
    · exact h.fiok (List.mem_append.2 (.inl hu))
    · rcases List.mem_cons.1 hu with rfl | hu
      · exact hx
      · exact h.fiok (List.mem_append.2 (.inr (List.mem_cons_of_mem _ hu)))
theorem DIs.del {D : Dk} {f : Value → Option Value} {T1 T2 : List En} {n : List UInt8} {b : Nat} {x : Fi} (h : DIs D f (T1 ++ (n, b, x) :: T2)) : DIs { D with files := delF D.files n } (updV f (str n) none) (T1 ++ T2) := by
  have hf : (T1 ++ T2).map (fun t => (t.1, t.2.2)) = delF D.files n := by
    have h1 := h.ok.srt
    have h2 := h.files
    rw [List.map_append, List.map_cons] at h2
    rw [List.map_append]
    rw [← h2] at h1 ⊢
    exact (delF_at h1).symm
  have h1 := h.names
  rw [List.pairwise_append, List.pairwise_cons] at h1
  have hne : ∀ t ∈ T1 ++ T2, t.1 ≠ n := fun t ht e => by
    rcases List.mem_append.1 ht with ht | ht
    · have := h1.2.2 t ht (n, b, x) (by simp); rw [e] at this; exact List.lt_irrefl _ this
    · have := h1.2.1.1 t ht; rw [e] at this; exact List.lt_irrefl _ this
  refine ⟨hf, fun k v => ?_, ⟨?_, fun t ht => ?_, h.ok.fuse⟩⟩
  · by_cases hk : k = str n
    · subst hk
      rw [updV_at]
      constructor
      · intro h; cases h
      · rintro ⟨t, ht, h2, _⟩; exact absurd (str_inj h2).symm (hne t ht)
    · rw [updV_else _ _ _ _ hk, h.tab]
      simp only [List.mem_append, List.mem_cons]
      constructor
      · rintro ⟨t, h1 | rfl | h1, h2, h3⟩
        · exact ⟨t, .inl h1, h2, h3⟩
        · exact absurd h2 hk
        · exact ⟨t, .inr h1, h2, h3⟩
      · rintro ⟨t, h1 | h1, h2, h3⟩
        · exact ⟨t, .inl h1, h2, h3⟩
        · exact ⟨t, .inr (.inr h1), h2, h3⟩
  · show (delF D.files n).Pairwise _
    exact h.ok.srt.filter _
  · exact h.ok.fi t (List.mem_filter.1 ht).1
theorem DIs.ins {D : Dk} {f : Value → Option Value} {T : List En} {n : List UInt8} (h : DIs D f T) (hn : ∀ t ∈ T, t.1 ≠ n) (b : Nat) (x : Fi) (hx : FiOk (n, x)) : ∃ T1 T2, T = T1 ++ T2 ∧ DIs { D with files := setF D.files n x } (updV f (str n) (some (.pointer (some ⟨b, 0, none⟩)))) (T1 ++ (n, b, x) :: T2) := by
  have hn' : ∀ t ∈ D.files, t.1 ≠ n := fun t ht => by
    rw [← h.files] at ht
    obtain ⟨u, hu, rfl⟩ := List.mem_map.1 ht
    exact hn u hu
  obtain ⟨L1, L2, h1, h2, h3, h4⟩ := setF_new D.files n x hn' h.ok.srt
  have h5 := h.files
  rw [h1] at h5
  obtain ⟨T1, T2, rfl, rfl, rfl⟩ := List.map_eq_append_iff.1 h5
  have hf : (T1 ++ (n, b, x) :: T2).map (fun t => (t.1, t.2.2)) = setF D.files n x := by rw [h2, List.map_append, List.map_cons]
  refine ⟨T1, T2, rfl, hf, fun k v => ?_, ⟨?_, fun t ht => ?_, h.ok.fuse⟩⟩
  · by_cases hk : k = str n
    · subst hk
      rw [updV_at]
      constructor
      · intro h; injection h with h; exact ⟨(n, b, x), by simp, rfl, h.symm⟩
      · rintro ⟨t, ht, h2, h3⟩
        rcases List.mem_append.1 ht with ht | ht
        · exact absurd (str_inj h2).symm (hn t (List.mem_append.2 (.inl ht)))
        · rcases List.mem_cons.1 ht with rfl | ht
          · rw [h3]
          · exact absurd (str_inj h2).symm (hn t (List.mem_append.2 (.inr ht)))
    · rw [updV_else _ _ _ _ hk, h.tab]
      simp only [List.mem_append, List.mem_cons]
      constructor
      · rintro ⟨t, h1 | h1, h2, h3⟩
        · exact ⟨t, .inl h1, h2, h3⟩
        · exact ⟨t, .inr (.inr h1), h2, h3⟩
      · rintro ⟨t, h1 | rfl | h1, h2, h3⟩
        · exact ⟨t, .inl h1, h2, h3⟩
        · exact absurd h2 hk
        · exact ⟨t, .inr h1, h2, h3⟩
  · show (setF D.files n x).Pairwise _
    rw [h2, List.pairwise_append, List.pairwise_cons]
    have h6 := h.ok.srt
    rw [h1, List.pairwise_append] at h6
    refine ⟨h6.1, ⟨fun t ht => h4 t ht, h6.2.1⟩, fun a ha c hc => ?_⟩
    rcases List.mem_cons.1 hc with rfl | hc
    · exact h3 a ha
    · exact h6.2.2 a ha c hc
  · have ht' : t ∈ (T1 ++ (n, b, x) :: T2).map (fun t => (t.1, t.2.2)) := by rw [hf]; exact ht
    obtain ⟨u, hu, rfl⟩ := List.mem_map.1 ht'
    rcases List.mem_append.1 hu with hu | hu
    · exact h.fiok (List.mem_append.2 (.inl hu))
    · rcases List.mem_cons.1 hu with rfl | hu
      · exact hx
      · exact h.fiok (List.mem_append.2 (.inr hu))

theorem known_th : ∃ fn c, Tryz.prog.funcs[62]? = some fn ∧ (fn.name == "runtime.NumGoroutine") = false ∧ fn.body = some c := ⟨_, _, Tryz.func62, by kernel_rfl, rfl⟩
theorem sync1_th : ∃ fn c, Tryz.prog.funcs[88]? = some fn ∧ (fn.name == "runtime.NumGoroutine") = false ∧ fn.body = some c := ⟨_, _, Tryz.func88, by kernel_rfl, rfl⟩
/-- Blocks in their places. -/
theorem own_rot {W0 w : World} {a b c : HP} {Rs : List HP} (H : Own W0 w (a :: b :: c :: Rs)) : Own W0 w (b :: c :: a :: Rs) := H.perm ((List.perm_append_comm (l₁ := [_]) (l₂ := [_, _])).append_right Rs)
theorem ksync_tr {W0 : World} (d : Nat) (D : Dk) (n : List UInt8) (Fr : List HP) (hs : D.steps ≤ 1000000000) : Tr W0 Tryz.prog 62 [.pointer (some ⟨d, 0, none⟩), str n, .func (.func 88) #[] #[]] (dsk d D :: Fr) (fun v Rs' => v = .int .i64 (syncD D n).1 ∧ Rs' = dsk d (syncD D n).2 :: Fr) := by
  refine Tr.opn _ known_th (fun w => dsk_open) fun ⟨mb, f, T⟩ hD => ?_
  dsimp only at hD ⊢
  by_cases h : readyE D n = 0
  · rcases hD.at n with ⟨h1, h2, _⟩ | ⟨T1, b, x, T2, rfl, h1, h2⟩
    · have e : syncD D n = (51, D) := by simp [syncD, knownD, h, h1]
      rw [e]
      exact (known_none d mb D f n _ (filesM T :: Fr) rfl h h2).out fun v Rs' w ⟨h3, h4⟩ ho => ⟨_, ⟨h3, rfl⟩, dsk_shut hD (h4 ▸ ho)⟩
    · by_cases h0 : D.fuse = 0
      · have e : syncD D n = (50, { D with off := true }) := by simp [syncD, knownD, h, h1, h0]
        rw [e]
        exact (known_0 d mb b D f n _ (filesM (T1 ++ (n, b, x) :: T2) :: Fr) rfl h h2 h0).out fun v Rs' w ⟨h3, h4⟩ ho => ⟨_, ⟨h3, rfl⟩, dsk_shut hD.offd (h4 ▸ ho)⟩
      · have e : syncD D n = (0, { stepD D with files := setF (stepD D).files n ⟨x.bytes, x.bytes.length, true⟩ }) := by simp [syncD, knownD, h, h1, h0]
        rw [e]
        have hx := hD.fiok (t := (n, b, x)) (by simp)
        have hg : Tr W0 Tryz.prog 88 [.pointer (some ⟨b, 0, none⟩)] (blk d 74 (dcells mb (stepD D)) :: mpf mb .string f :: filesM (T1 ++ (n, b, x) :: T2) :: Fr) (fun v Rs' => Rs' = blk d 74 (dcells mb (stepD D)) :: mpf mb .string f :: filesM (T1 ++ (n, b, ⟨x.bytes, x.bytes.length, true⟩) :: T2) :: Fr) := by
          refine Tr.pre (Rs1 := filesM (T1 ++ (n, b, x) :: T2) :: blk d 74 (dcells mb (stepD D)) :: mpf mb .string f :: Fr) gS (Tr.opn (fun q : Option Addr × Nat => _) sync1_th (fun w => file_open) fun ⟨A, c⟩ _ => ?_)
          exact (sync1_tr b A c x _).out fun v Rs' w ⟨_, h4⟩ ho => ⟨_, rfl, own_rot (file_shut (x := ⟨x.bytes, x.bytes.length, true⟩) (h4 ▸ ho))⟩
        exact (known_1 d mb b 88 [] D f n (filesM (T1 ++ (n, b, x) :: T2) :: Fr) _ h h2 h0 hD.ok.fuse hs hg).out fun v Rs' w ⟨h3, h4⟩ ho => ⟨_, ⟨h3, rfl⟩, dsk_shut (hD.stp.repl _ ⟨Nat.le_refl _, hx.2⟩) (h4 ▸ ho)⟩
  · have e : syncD D n = (readyE D n, D) := by simp [syncD, knownD, h]
    rw [e]
    exact (known_bad d mb D n _ (mpf mb .string f :: filesM T :: Fr) rfl h).out fun v Rs' w ⟨h3, h4⟩ ho => ⟨_, ⟨h3, rfl⟩, dsk_shut hD (h4 ▸ ho)⟩
theorem sync_tr {W0 : World} (d : Nat) (D : Dk) (n : List UInt8) (Fr : List HP) (hs : D.steps ≤ 1000000000) : Tr W0 Tryz.prog 48 [.pointer (some ⟨d, 0, none⟩), str n] (dsk d D :: Fr) (fun v Rs' => v = .int .i64 (syncD D n).1 ∧ Rs' = dsk d (syncD D n).2 :: Fr) := by
  refine Entry.tr (N := 8) (rs := [.tmp 4]) ⟨_, Tryz.func48, rfl, by kernel_rfl, rfl, rfl⟩ rfl ?_
  refine XC.seq fun K1 hK1 => ?_
  refine XC.region ?_
  refine x_v (r_as rfl) rfl ?_
  refine XL.nil ?_
  refine hK1 _ _ ?_
  refine XC.keep [(0, _), (1, _)] ⟨rfl, rfl, trivial⟩ ?_
  refine XC.seq fun K2 hK2 => ?_
  refine XC.region ?_
  refine x_v (r_mv rfl) rfl ?_
  refine x_v (r_mv rfl) rfl ?_
  refine x_c (r_call0 (args := [_, _, _]) ⟨rfl, rfl, rfl, rfl⟩ (ksync_tr d D n Fr hs) gS) rfl ?_
  rintro _ _ ⟨rfl, hRs⟩
  rw [hRs]
  refine x_v (r_as rfl) rfl ?_
  refine XL.nil ?_
  refine hK2 _ _ ?_
  refine XC.keep [(4, _)] ⟨rfl, trivial⟩ ?_
  refine XC.ret ?_
  exact fin1 rfl (⟨rfl, rfl⟩) gS
theorem kremove_tr {W0 : World} (d b2 b3 : Nat) (D : Dk) (n : List UInt8) (Fr : List HP) (hs : D.steps ≤ 1000000000) : Tr W0 Tryz.prog 62 [.pointer (some ⟨d, 0, none⟩), str n, .func (.func 63) #[] [.pointer (some ⟨b2, 0, none⟩), .pointer (some ⟨b3, 0, none⟩)].toArray] (dsk d D :: blk b2 38 [.pointer (some ⟨d, 0, none⟩)] :: blk b3 9 [str n] :: Fr) (fun v Rs' => v = .int .i64 (removeD D n).1 ∧ Rs' = dsk d (removeD D n).2 :: Fr) := by
  refine Tr.opn _ known_th (fun w => dsk_open) fun ⟨mb, f, T⟩ hD => ?_
  dsimp only at hD ⊢
  by_cases h : readyE D n = 0
  · rcases hD.at n with ⟨h1, h2, _⟩ | ⟨T1, b, x, T2, rfl, h1, h2⟩
    · have e : removeD D n = (51, D) := by simp [removeD, knownD, h, h1]
      rw [e]
      exact (known_none d mb D f n _ (filesM T :: _ :: _ :: Fr) rfl h h2).out fun v Rs' w ⟨h3, h4⟩ ho => ⟨_, ⟨h3, rfl⟩, dsk_shut hD (Gets.own gS (h4 ▸ ho))⟩
    · by_cases h0 : D.fuse = 0
      · have e : removeD D n = (50, { D with off := true }) := by simp [removeD, knownD, h, h1, h0]
        rw [e]
        exact (known_0 d mb b D f n _ (filesM (T1 ++ (n, b, x) :: T2) :: _ :: _ :: Fr) rfl h h2 h0).out fun v Rs' w ⟨h3, h4⟩ ho => ⟨_, ⟨h3, rfl⟩, dsk_shut hD.offd (Gets.own gS (h4 ▸ ho))⟩
      · have e : removeD D n = (0, { stepD D with files := delF (stepD D).files n }) := by simp [removeD, knownD, h, h1, h0]
        rw [e]
        have hg := remove1_tr (W0 := W0) d mb b b2 b3 (stepD D) f n (filesM (T1 ++ (n, b, x) :: T2) :: Fr)
        refine (known_1 d mb b 63 [.pointer (some ⟨b2, 0, none⟩), .pointer (some ⟨b3, 0, none⟩)] D f n (filesM (T1 ++ (n, b, x) :: T2) :: blk b2 38 [.pointer (some ⟨d, 0, none⟩)] :: blk b3 9 [str n] :: Fr) _ h h2 h0 hD.ok.fuse hs (Tr.pre gS hg)).out fun v Rs' w ⟨h3, h4⟩ ho => ⟨_, ⟨h3, rfl⟩, dsk_shut (mb := mb) hD.stp.del ?_⟩
        rw [h4] at ho
        have ho2 : Own W0 w (filesM (T1 ++ (n, b, x) :: T2) :: blk d 74 (dcells mb (stepD D)) :: mpf mb .string (updV f (str n) none) :: Fr) := Gets.own gS ho
        obtain ⟨q, _, ho3⟩ := file_open ho2
        exact Gets.own gS ho3
  · have e : removeD D n = (readyE D n, D) := by simp [removeD, knownD, h]
    rw [e]
    exact (known_bad d mb D n _ (mpf mb .string f :: filesM T :: _ :: _ :: Fr) rfl h).out fun v Rs' w ⟨h3, h4⟩ ho => ⟨_, ⟨h3, rfl⟩, dsk_shut hD (Gets.own gS (h4 ▸ ho))⟩
theorem remove_tr {W0 : World} (d : Nat) (D : Dk) (n : List UInt8) (Fr : List HP) (hs : D.steps ≤ 1000000000) : Tr W0 Tryz.prog 32 [.pointer (some ⟨d, 0, none⟩), str n] (dsk d D :: Fr) (fun v Rs' => v = .int .i64 (removeD D n).1 ∧ Rs' = dsk d (removeD D n).2 :: Fr) := by
  refine Entry.tr (N := 9) (rs := [.tmp 4]) ⟨_, Tryz.func32, rfl, by kernel_rfl, rfl, rfl⟩ rfl ?_
  refine XC.seq fun K1 hK1 => ?_
  refine XC.region ?_
  refine x_a (r_bx rfl rfl) rfl fun b2 => ?_
  refine x_a (r_bx rfl rfl) rfl fun b3 => ?_
  refine x_v (r_as rfl) rfl ?_
  refine XL.nil ?_
  refine hK1 _ _ ?_
  refine XC.keep [(2, _), (3, _)] ⟨rfl, rfl, trivial⟩ ?_
  refine XC.seq fun K2 hK2 => ?_
  refine XC.region ?_
  refine x_v (r_ld ty38 rfl pK (by rfl)) rfl ?_
  refine x_v (r_ld ty9 rfl pK (by rfl)) rfl ?_
  refine x_v (r_mfv (cs := [_, _]) ⟨rfl, rfl, rfl⟩) rfl ?_
  refine x_c (r_call0 (args := [_, _, _]) ⟨rfl, rfl, rfl, rfl⟩ (kremove_tr d b2 b3 D n Fr hs) gS) rfl ?_
  rintro _ _ ⟨rfl, hRs⟩
  rw [hRs]
  refine x_v (r_as rfl) rfl ?_
  refine XL.nil ?_
  refine hK2 _ _ ?_
  refine XC.keep [(4, _)] ⟨rfl, trivial⟩ ?_
  refine XC.ret ?_
  exact fin1 rfl (⟨rfl, rfl⟩) gS
end Go.Proofs.YtcmdmhmgffjknaaGreatDoor

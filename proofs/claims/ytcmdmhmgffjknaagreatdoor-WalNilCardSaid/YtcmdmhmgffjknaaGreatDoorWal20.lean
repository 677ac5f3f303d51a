/- Segments: functions 28, 30, 36, 35, 13. -/
import Derived.Test.YtcmdmhmgffjknaaGreatDoorFacts
import Derived.Test.YtcmdmhmgffjknaaGreatDoorWal19
namespace Go.Proofs.YtcmdmhmgffjknaaGreatDoor
open Go.Sx
set_option linter.unusedVariables false

structure Sg where
  bytes : List UInt8
  kind : Int
  base : List UInt8
  behind : Int
def sgc (s : Sg) : List Value := [str s.bytes, .int .i64 s.kind, str s.base, .int .i64 s.behind]
def doneB (y : Rd) : Bool := !y.2 && decide (y.1 = [])
def readS (b : List UInt8) : Sg := match openF b with
  | none => ⟨b, 0, [], 0⟩
  | some (p, _) => if (numR (p, false)).1 = 1 then ⟨b, if doneB (textR (numR (p, false)).2).2 = true then 1 else 0, (textR (numR (p, false)).2).1, 0⟩
    else if (numR (p, false)).1 = 2 then ⟨b, if doneB (numR (numR (p, false)).2).2 = true then 2 else 0, [], (numR (numR (p, false)).2).1⟩ else ⟨b, 0, [], 0⟩
theorem dsk_ok {W0 w : World} {d : Nat} {D : Dk} {Rs : List HP} (H : Own W0 w (dsk d D :: Rs)) : DkOk D := let ⟨_, h, _⟩ := dsk_open H; h.ok
theorem getF_mem {L : List (List UInt8 × Fi)} {n : List UInt8} {x : Fi} (h : getF L n = some x) : (n, x) ∈ L := by
  rcases getF_split L n with ⟨h1, _⟩ | ⟨L1, y, L2, rfl, h1, _⟩
  · rw [h1] at h; cases h
  · rw [h1] at h; injection h with h; subst h; simp
theorem readD_len {D : Dk} (h : DkOk D) (n : List UInt8) : (readD D n).1.length ≤ 1048576 := by
  unfold readD
  split
  · simp
  · split
    · simp
    · rename_i x hx; exact (h.fi _ (getF_mem hx)).2.1
theorem sread_th : ∃ fn c, Tryz.prog.funcs[28]? = some fn ∧ (fn.name == "runtime.NumGoroutine") = false ∧ fn.body = some c := ⟨_, _, Tryz.func28, by kernel_rfl, rfl⟩
theorem sread_tr {W0 : World} (d : Nat) (D : Dk) (f : List UInt8) (Fr : List HP) : Tr W0 Tryz.prog 28 [.pointer (some ⟨d, 0, none⟩), str f] (dsk d D :: Fr) (fun v Rs' => v = .agg (sgc (readS (readD D f).1)).toArray ∧ Rs' = dsk d D :: Fr) := by
  have hmax : maxS = 140737488355328 := rfl
  refine Tr.fact sread_th (fun w hw => dsk_ok hw) fun hok => ?_
  have hlen := readD_len hok f
  refine Entry.tr (N := 51) (rs := [.cell 4 59]) ⟨_, Tryz.func28, rfl, by kernel_rfl, rfl, rfl⟩ rfl ?_
  refine XC.seq fun K1 hK1 => ?_
  refine XC.region ?_
  refine x_a (r_al ty59 rfl) rfl fun b4 => ?_
  refine XL.nil ?_
  refine hK1 _ _ ?_
  refine XC.keep [(0, _), (1, _), (4, _)] ⟨rfl, rfl, rfl, trivial⟩ ?_
  refine XC.seq fun K2 hK2 => ?_
  refine XC.region ?_
  refine x_v (r_mv rfl) rfl ?_
  refine x_v (r_mv rfl) rfl ?_
  refine x_c (r_call0 (args := [_, _]) ⟨rfl, rfl, rfl⟩ (dread_tr d D f (blk b4 59 [str [], .int .i64 0, str [], .int .i64 0] :: Fr)) gS) rfl ?_
  rintro _ _ ⟨rfl, hRs⟩
  rw [hRs]
  refine x_v (r_mv rfl) rfl ?_
  refine x_v (r_ex rfl rfl) rfl ?_
  refine x_v (r_ex rfl rfl) rfl ?_
  refine x_v (r_fa fo59_0 rfl) rfl ?_
  refine x_e (r_st ty9 rfl rfl rfl rfl rfl uD oV) ?_
  refine XL.nil ?_
  refine hK2 _ _ ?_
  refine XC.keep [(4, _)] ⟨rfl, trivial⟩ ?_
  refine XC.seq fun K3 hK3 => ?_
  refine XC.region ?_
  refine x_v (r_fa fo59_0 rfl) rfl ?_
  refine x_v (r_ld ty9 rfl pK (by rfl)) rfl ?_
  refine x_c (r_call0 (args := [_]) ⟨rfl, rfl⟩ (open_tr (readD D f).1 (blk b4 59 [str (readD D f).1, .int .i64 0, str [], .int .i64 0] :: dsk d D :: Fr) (by omega)) gS) rfl ?_
  rintro _ _ ⟨hv, hRs⟩
  rw [hRs]
  generalize hb : (readD D f).1 = b at hlen hv ⊢
  rcases hO : openF b with _ | ⟨p, q⟩ <;> rw [hO] at hv <;> subst hv <;> simp only [openV]
  · refine x_v (r_mv rfl) rfl ?_
    refine x_v (r_ex rfl rfl) rfl ?_
    refine x_v (r_ex rfl rfl) rfl ?_
    refine x_v (r_ex rfl rfl) rfl ?_
    refine x_v (r_as rfl) rfl ?_
    refine x_v (r_as rfl) rfl ?_
    refine x_v (r_as rfl) rfl ?_
    refine XL.nil ?_
    refine hK3 _ _ ?_
    refine XC.keep [(4, _), (5, _), (7, _)] ⟨rfl, rfl, rfl, trivial⟩ ?_
    refine XC.seq fun K4 hK4 => ?_
    refine XC.seq fun K5 hK5 => ?_
    refine XC.region ?_
    refine x_v (r_mv rfl) rfl ?_
    refine x_v (r_ne rfl rfl) rfl ?_
    refine XL.nil ?_
    refine hK5 _ _ ?_
    refine XC.keep [(4, _), (5, _), (25, _)] ⟨rfl, rfl, rfl, trivial⟩ ?_
    refine XC.cond_d rfl (fun hc1 => ?_) (fun hc1 => ?_)
    · refine XC.seq fun K6 hK6 => ?_
      refine XC.region ?_
      refine x_v (r_lda (l' := [_, _, _, _]) ty59 rfl pK rfl (Sub.get sU)) rfl ?_
      refine x_e (r_st ty59 rfl rfl rfl rfl rfl uD oV) ?_
      refine XL.nil ?_
      refine hK6 _ _ ?_
      refine XC.keep [(4, _)] ⟨rfl, trivial⟩ ?_
      refine XC.ret ?_
      exact finc1 ty59 rfl pK (by rfl) (⟨by unfold readS; rw [hb, hO]; dsimp only; simp_all [sgc, doneB], rfl⟩) gS
    · exfalso; omega
  · obtain ⟨jj, hj1, hj2, hj3, hj4⟩ := openF_suf hO
    have hnl := numR_le (p, false)
    dsimp only at hnl
    refine x_v (r_mv rfl) rfl ?_
    refine x_v (r_ex rfl rfl) rfl ?_
    refine x_v (r_ex rfl rfl) rfl ?_
    refine x_v (r_ex rfl rfl) rfl ?_
    refine x_v (r_as rfl) rfl ?_
    refine x_v (r_as rfl) rfl ?_
    refine x_v (r_as rfl) rfl ?_
    refine XL.nil ?_
    refine hK3 _ _ ?_
    refine XC.keep [(4, _), (5, _), (7, _)] ⟨rfl, rfl, rfl, trivial⟩ ?_
    refine XC.seq fun K7 hK7 => ?_
    refine XC.seq fun K8 hK8 => ?_
    refine XC.region ?_
    refine x_v (r_mv rfl) rfl ?_
    refine x_v (r_ne rfl rfl) rfl ?_
    refine XL.nil ?_
    refine hK8 _ _ ?_
    refine XC.keep [(4, _), (5, _), (25, _)] ⟨rfl, rfl, rfl, trivial⟩ ?_
    refine XC.cond_d rfl (fun hc2 => ?_) (fun hc2 => ?_)
    · exfalso; omega
    · refine XC.skip ?_
      refine hK7 _ _ ?_
      refine XC.keep [(4, _), (5, _)] ⟨rfl, rfl, trivial⟩ ?_
      refine XC.seq fun K9 hK9 => ?_
      refine XC.region ?_
      refine x_v (r_mv rfl) rfl ?_
      refine x_c (r_call0 (args := [_]) ⟨rfl, rfl⟩ (read_tr p (blk b4 59 [str b, .int .i64 0, str [], .int .i64 0] :: dsk d D :: Fr)) gS) rfl ?_
      rintro _ _ ⟨r, rfl, hRs⟩
      rw [hRs]
      refine x_v (r_as rfl) rfl ?_
      refine XL.nil ?_
      refine hK9 _ _ ?_
      refine XC.keep [(4, _), (8, _)] ⟨rfl, rfl, trivial⟩ ?_
      refine XC.seq fun K10 hK10 => ?_
      refine XC.seq fun K11 hK11 => ?_
      refine XC.region ?_
      refine x_v (r_mv rfl) rfl ?_
      refine x_c (r_call0 (args := [_]) ⟨rfl, rfl⟩ (num_tr r (p, false) (blk b4 59 [str b, .int .i64 0, str [], .int .i64 0] :: dsk d D :: Fr) (by dsimp only; omega)) gS) rfl ?_
      rintro _ _ ⟨rfl, hRs⟩
      rw [hRs]
      refine x_v (r_as rfl) rfl ?_
      refine XL.nil ?_
      refine hK11 _ _ ?_
      refine XC.keep [(4, _), (8, _), (9, _)] ⟨rfl, rfl, rfl, trivial⟩ ?_
      refine XC.seq fun K12 hK12 => ?_
      refine XC.region ?_
      refine x_v (r_mv rfl) rfl ?_
      refine XL.nil ?_
      refine hK12 _ _ ?_
      refine XC.keep [(4, _), (8, _), (9, _), (31, _)] ⟨rfl, rfl, rfl, rfl, trivial⟩ ?_
      refine XC.block ?_
      refine XC.seq fun K13 hK13 => ?_
      refine XC.region ?_
      refine x_v (r_eq rfl rfl) rfl ?_
      refine x_v (r_as rfl) rfl ?_
      refine XL.nil ?_
      refine hK13 _ _ ?_
      refine XC.keep [(4, _), (8, _), (9, _), (31, _), (32, _)] ⟨rfl, rfl, rfl, rfl, rfl, trivial⟩ ?_
      refine XC.cond_d rfl (fun hc3 => ?_) (fun hc3 => ?_)
      · refine XC.seq fun K14 hK14 => ?_
        refine XC.region ?_
        refine x_v (r_mv rfl) rfl ?_
        refine x_c (r_call0 (args := [_]) ⟨rfl, rfl⟩ (textt_tr r (numR (p, false)).2 (blk b4 59 [str b, .int .i64 0, str [], .int .i64 0] :: dsk d D :: Fr) (by omega)) gS) rfl ?_
        rintro _ _ ⟨rfl, hRs⟩
        rw [hRs]
        refine x_v (r_fa fo59_2 rfl) rfl ?_
        refine x_e (r_st ty9 rfl rfl rfl rfl rfl uD oV) ?_
        refine XL.nil ?_
        refine hK14 _ _ ?_
        refine XC.keep [(4, _), (8, _), (9, _)] ⟨rfl, rfl, rfl, trivial⟩ ?_
        refine XC.seq fun K15 hK15 => ?_
        refine XC.region ?_
        refine x_v (r_mv rfl) rfl ?_
        refine x_c (r_call0 (args := [_]) ⟨rfl, rfl⟩ (done_tr r (textR (numR (p, false)).2).2 (blk b4 59 [str b, .int .i64 0, str (textR (numR (p, false)).2).1, .int .i64 0] :: dsk d D :: Fr)) gS) rfl ?_
        rintro _ _ ⟨rfl, hRs⟩
        rw [hRs]
        refine XL.nil ?_
        refine hK15 _ _ ?_
        refine XC.keep [(4, _), (9, _), (38, _)] ⟨rfl, rfl, rfl, trivial⟩ ?_
        refine XC.cond rfl (fun hc4 => ?_) (fun hc4 => ?_)
        · refine XC.region ?_
          refine x_v (r_mv rfl) rfl ?_
          refine x_v (r_fa fo59_1 rfl) rfl ?_
          refine x_e (r_st ty3 rfl rfl rfl rfl rfl uD oV) ?_
          refine XL.nil ?_
          refine hK10 _ _ ?_
          refine XC.keep [(4, _)] ⟨rfl, trivial⟩ ?_
          refine XC.seq fun K16 hK16 => ?_
          refine XC.region ?_
          refine x_v (r_lda (l' := [_, _, _, _]) ty59 rfl pK rfl (Sub.get sU)) rfl ?_
          refine x_e (r_st ty59 rfl rfl rfl rfl rfl uD oV) ?_
          refine XL.nil ?_
          refine hK16 _ _ ?_
          refine XC.keep [(4, _)] ⟨rfl, trivial⟩ ?_
          refine XC.ret ?_
          exact finc1 ty59 rfl pK (by rfl) (⟨by unfold readS; rw [hb, hO]; dsimp only; simp_all [sgc, doneB], rfl⟩) gS
        · refine XC.skip ?_
          refine hK10 _ _ ?_
          refine XC.keep [(4, _)] ⟨rfl, trivial⟩ ?_
          refine XC.seq fun K17 hK17 => ?_
          refine XC.region ?_
          refine x_v (r_lda (l' := [_, _, _, _]) ty59 rfl pK rfl (Sub.get sU)) rfl ?_
          refine x_e (r_st ty59 rfl rfl rfl rfl rfl uD oV) ?_
          refine XL.nil ?_
          refine hK17 _ _ ?_
          refine XC.keep [(4, _)] ⟨rfl, trivial⟩ ?_
          refine XC.ret ?_
          exact finc1 ty59 rfl pK (by rfl) (⟨by unfold readS; rw [hb, hO]; dsimp only; simp_all [sgc, doneB], rfl⟩) gS
      · refine XC.seq fun K18 hK18 => ?_
        refine XC.region ?_
        refine x_v (r_eq rfl rfl) rfl ?_
        refine x_v (r_as rfl) rfl ?_
        refine XL.nil ?_
        refine hK18 _ _ ?_
        refine XC.keep [(4, _), (8, _), (9, _), (41, _)] ⟨rfl, rfl, rfl, rfl, trivial⟩ ?_
        refine XC.cond_d rfl (fun hc5 => ?_) (fun hc5 => ?_)
        · refine XC.seq fun K19 hK19 => ?_
          refine XC.region ?_
          refine x_v (r_mv rfl) rfl ?_
          refine x_c (r_call0 (args := [_]) ⟨rfl, rfl⟩ (num_tr r (numR (p, false)).2 (blk b4 59 [str b, .int .i64 0, str [], .int .i64 0] :: dsk d D :: Fr) (by omega)) gS) rfl ?_
          rintro _ _ ⟨rfl, hRs⟩
          rw [hRs]
          refine x_v (r_fa fo59_3 rfl) rfl ?_
          refine x_e (r_st ty3 rfl rfl rfl rfl rfl uD oV) ?_
          refine XL.nil ?_
          refine hK19 _ _ ?_
          refine XC.keep [(4, _), (8, _), (9, _)] ⟨rfl, rfl, rfl, trivial⟩ ?_
          refine XC.seq fun K20 hK20 => ?_
          refine XC.region ?_
          refine x_v (r_mv rfl) rfl ?_
          refine x_c (r_call0 (args := [_]) ⟨rfl, rfl⟩ (done_tr r (numR (numR (p, false)).2).2 (blk b4 59 [str b, .int .i64 0, str [], .int .i64 (numR (numR (p, false)).2).1] :: dsk d D :: Fr)) gS) rfl ?_
          rintro _ _ ⟨rfl, hRs⟩
          rw [hRs]
          refine XL.nil ?_
          refine hK20 _ _ ?_
          refine XC.keep [(4, _), (9, _), (47, _)] ⟨rfl, rfl, rfl, trivial⟩ ?_
          refine XC.cond rfl (fun hc6 => ?_) (fun hc6 => ?_)
          · refine XC.region ?_
            refine x_v (r_mv rfl) rfl ?_
            refine x_v (r_fa fo59_1 rfl) rfl ?_
            refine x_e (r_st ty3 rfl rfl rfl rfl rfl uD oV) ?_
            refine XL.nil ?_
            refine hK10 _ _ ?_
            refine XC.keep [(4, _)] ⟨rfl, trivial⟩ ?_
            refine XC.seq fun K21 hK21 => ?_
            refine XC.region ?_
            refine x_v (r_lda (l' := [_, _, _, _]) ty59 rfl pK rfl (Sub.get sU)) rfl ?_
            refine x_e (r_st ty59 rfl rfl rfl rfl rfl uD oV) ?_
            refine XL.nil ?_
            refine hK21 _ _ ?_
            refine XC.keep [(4, _)] ⟨rfl, trivial⟩ ?_
            refine XC.ret ?_
            exact finc1 ty59 rfl pK (by rfl) (⟨by unfold readS; rw [hb, hO]; dsimp only; simp_all [sgc, doneB], rfl⟩) gS
          · refine XC.skip ?_
            refine hK10 _ _ ?_
            refine XC.keep [(4, _)] ⟨rfl, trivial⟩ ?_
            refine XC.seq fun K22 hK22 => ?_
            refine XC.region ?_
            refine x_v (r_lda (l' := [_, _, _, _]) ty59 rfl pK rfl (Sub.get sU)) rfl ?_
            refine x_e (r_st ty59 rfl rfl rfl rfl rfl uD oV) ?_
            refine XL.nil ?_
            refine hK22 _ _ ?_
            refine XC.keep [(4, _)] ⟨rfl, trivial⟩ ?_
            refine XC.ret ?_
            exact finc1 ty59 rfl pK (by rfl) (⟨by unfold readS; rw [hb, hO]; dsimp only; simp_all [sgc, doneB], rfl⟩) gS
        · refine XC.skip ?_
          refine hK10 _ _ ?_
          refine XC.keep [(4, _)] ⟨rfl, trivial⟩ ?_
          refine XC.seq fun K23 hK23 => ?_
          refine XC.region ?_
          refine x_v (r_lda (l' := [_, _, _, _]) ty59 rfl pK rfl (Sub.get sU)) rfl ?_
          refine x_e (r_st ty59 rfl rfl rfl rfl rfl uD oV) ?_
          refine XL.nil ?_
          refine hK23 _ _ ?_
          refine XC.keep [(4, _)] ⟨rfl, trivial⟩ ?_
          refine XC.ret ?_
          exact finc1 ty59 rfl pK (by rfl) (⟨by unfold readS; rw [hb, hO]; dsimp only; simp_all [sgc, doneB], rfl⟩) gS
def followsF (s a : Sg) : Option (List (List UInt8)) :=
  if s.kind ≠ 2 ∨ s.behind < 1 ∨ (a.bytes.length : Int) < s.behind then none
  else if ((scanF (a.bytes.take s.behind.toNat)).2 : Int) ≠ s.behind ∨ (scanF (a.bytes.take s.behind.toNat)).1.length = 0 then none
  else some (scanF (a.bytes.take s.behind.toNat)).1.tail
def FolV (s a : Sg) (W0 : World) (Fr : List HP) (v : Value) (Rs' : List HP) : Prop := match followsF s a with
  | none => v = .tuple #[.slice none 0 0, .bool false] ∧ Rs' = Fr
  | some L => ∃ (A A0 : Option Addr) (c c0 : Nat) (x : List UInt8), v = .tuple #[.slice A L.length c, .bool true] ∧ L.length ≤ c ∧ Rs' = sl A0 (x :: L).length c0 9 1 (cells sv (x :: L)) :: Fr ∧ Rdb W0 Rs' A L.length 1 (cells sv L)
theorem rd_cut1 {W0 : World} {Fr : List HP} {A : Option Addr} {x : List UInt8} {L : List (List UInt8)} {c : Nat} (h : Rdb W0 Fr A (x :: L).length 1 (cells sv (x :: L))) (hc : (x :: L).length ≤ c) : Rdb W0 Fr (if c = 1 then A else A.map (·.add (1 * 1))) L.length 1 (cells sv L) := by
  have h1 := h.cut (lo := 1) (hi := (x :: L).length) (cap := c) (by simp) (Nat.le_refl _) hc
  have e : (x :: L).length - 1 = L.length := by simp
  rw [e] at h1
  have e2 : ((cells sv (x :: L)).drop (1 * 1)).take (L.length * 1) = cells sv L := by
    rw [cells_cons]
    show ((cells sv L)).take (L.length * 1) = _
    exact List.take_of_length_le (by rw [cells_len sv_len]; omega)
  rw [e2] at h1; exact h1
theorem follows_tr {W0 : World} (s a : Sg) (Fr : List HP) (hl : a.bytes.length ≤ 4194304) : Tr W0 Tryz.prog 30 [.agg (sgc s).toArray, .agg (sgc a).toArray] Fr (FolV s a W0 Fr) := by
  have hmax : maxS = 140737488355328 := rfl
  have htl : (a.bytes.take s.behind.toNat).length ≤ 4194304 := by rw [List.length_take]; omega
  have hF : followsF s a = if s.kind ≠ 2 ∨ s.behind < 1 ∨ (a.bytes.length : Int) < s.behind then none
    else if ((scanF (a.bytes.take s.behind.toNat)).2 : Int) ≠ s.behind ∨ (scanF (a.bytes.take s.behind.toNat)).1.length = 0 then none
    else some (scanF (a.bytes.take s.behind.toNat)).1.tail := rfl
  generalize hS : scanF (a.bytes.take s.behind.toNat) = S at hF
  obtain ⟨L, e⟩ := S
  dsimp only at hF
  have hP : ∀ v Rs', (match followsF s a with
    | none => v = .tuple #[.slice none 0 0, .bool false] ∧ Rs' = Fr
    | some L => ∃ (A A0 : Option Addr) (c c0 : Nat) (x : List UInt8), v = .tuple #[.slice A L.length c, .bool true] ∧ L.length ≤ c ∧ Rs' = sl A0 (x :: L).length c0 9 1 (cells sv (x :: L)) :: Fr ∧ Rdb W0 Rs' A L.length 1 (cells sv L)) → FolV s a W0 Fr v Rs' := fun v Rs' h => h
  unfold sgc
  refine Entry.tr (N := 44) (rs := [.tmp 4, .tmp 5]) ⟨_, Tryz.func30, rfl, by kernel_rfl, rfl, rfl⟩ rfl ?_
  refine XC.seq fun K1 hK1 => ?_
  refine XC.region ?_
  refine x_a (r_bx rfl rfl) rfl fun b2 => ?_
  refine x_a (r_bx rfl rfl) rfl fun b3 => ?_
  refine x_v (r_as rfl) rfl ?_
  refine x_v (r_as rfl) rfl ?_
  refine XL.nil ?_
  refine hK1 _ _ ?_
  refine XC.keep [(2, _), (3, _)] ⟨rfl, rfl, trivial⟩ ?_
  refine XC.seq fun K2 hK2 => ?_
  refine XC.seq fun K3 hK3 => ?_
  refine XC.region ?_
  refine x_v (r_fa fo59_1 rfl) rfl ?_
  refine x_v (r_ld ty3 rfl pK (by rfl)) rfl ?_
  refine x_v (r_ne rfl rfl) rfl ?_
  refine x_v (r_mv rfl) rfl ?_
  refine XL.splitd 11 rfl (fun hg11 => ?_) (fun hg11 => ?_)
  · refine x_unwant rfl rfl rfl rfl rfl ?_
    refine x_unwant rfl rfl rfl rfl rfl ?_
    refine x_unwant rfl rfl rfl rfl rfl ?_
    refine x_v (r_pk_t rfl rfl) rfl ?_
    refine x_v (r_mv rfl) rfl ?_
    refine x_unwant rfl rfl rfl rfl rfl ?_
    refine x_unwant rfl rfl rfl rfl rfl ?_
    refine x_unwant rfl rfl rfl rfl rfl ?_
    refine x_unwant rfl rfl rfl rfl rfl ?_
    refine x_unwant rfl rfl rfl rfl rfl ?_
    refine x_unwant rfl rfl rfl rfl rfl ?_
    refine x_v (r_pk_t rfl rfl) rfl ?_
    refine XL.nil ?_
    refine hK3 _ _ ?_
    refine XC.keep [(2, _), (3, _), (23, _)] ⟨rfl, rfl, rfl, trivial⟩ ?_
    refine XC.cond_t rfl ?_
    refine XC.seq fun K4 hK4 => ?_
    refine XC.region ?_
    refine x_v (r_as rfl) rfl ?_
    refine x_v (r_as rfl) rfl ?_
    refine XL.nil ?_
    refine hK4 _ _ ?_
    refine XC.keep [(4, _), (5, _)] ⟨rfl, rfl, trivial⟩ ?_
    refine XC.ret ?_
    exact fin2 rfl rfl ((by unfold FolV; rw [hF]; first | (rw [if_pos (by omega)]; exact ⟨rfl, rfl⟩) | exact ⟨_, A, _, c, x, rfl, by have h0 := hl4; simp only [List.length_cons] at h0; show L.length ≤ c - 1; omega, rfl, hrd⟩)) gS
  · refine x_want rfl rfl rfl ?_
    refine x_v (r_fa fo59_3 rfl) rfl ?_
    refine x_want rfl rfl rfl ?_
    refine x_v (r_ld ty3 rfl pK (by rfl)) rfl ?_
    refine x_want rfl rfl rfl ?_
    refine x_v (r_lt rfl rfl) rfl ?_
    refine x_v (r_pk_f rfl rfl) rfl ?_
    refine x_v (r_mv rfl) rfl ?_
    refine XL.splitd 16 rfl (fun hg16 => ?_) (fun hg16 => ?_)
    · refine x_unwant rfl rfl rfl rfl rfl ?_
      refine x_unwant rfl rfl rfl rfl rfl ?_
      refine x_unwant rfl rfl rfl rfl rfl ?_
      refine x_unwant rfl rfl rfl rfl rfl ?_
      refine x_unwant rfl rfl rfl rfl rfl ?_
      refine x_unwant rfl rfl rfl rfl rfl ?_
      refine x_v (r_pk_t rfl rfl) rfl ?_
      refine XL.nil ?_
      refine hK3 _ _ ?_
      refine XC.keep [(2, _), (3, _), (23, _)] ⟨rfl, rfl, rfl, trivial⟩ ?_
      refine XC.cond_t rfl ?_
      refine XC.seq fun K5 hK5 => ?_
      refine XC.region ?_
      refine x_v (r_as rfl) rfl ?_
      refine x_v (r_as rfl) rfl ?_
      refine XL.nil ?_
      refine hK5 _ _ ?_
      refine XC.keep [(4, _), (5, _)] ⟨rfl, rfl, trivial⟩ ?_
      refine XC.ret ?_
      exact fin2 rfl rfl ((by unfold FolV; rw [hF]; first | (rw [if_pos (by omega)]; exact ⟨rfl, rfl⟩) | exact ⟨_, A, _, c, x, rfl, by have h0 := hl4; simp only [List.length_cons] at h0; show L.length ≤ c - 1; omega, rfl, hrd⟩)) gS
    · refine x_want rfl rfl rfl ?_
      refine x_v (r_fa fo59_3 rfl) rfl ?_
      refine x_want rfl rfl rfl ?_
      refine x_v (r_ld ty3 rfl pK (by rfl)) rfl ?_
      refine x_want rfl rfl rfl ?_
      refine x_v (r_fa fo59_0 rfl) rfl ?_
      refine x_want rfl rfl rfl ?_
      refine x_v (r_ld ty9 rfl pK (by rfl)) rfl ?_
      refine x_want rfl rfl rfl ?_
      refine x_v (r_lens Tryz.underlying9 rfl) rfl ?_
      refine x_want rfl rfl rfl ?_
      refine x_v (r_gt rfl rfl) rfl ?_
      refine x_v (r_pk_f rfl rfl) rfl ?_
      refine XL.nil ?_
      refine hK3 _ _ ?_
      refine XC.keep [(2, _), (3, _), (23, _)] ⟨rfl, rfl, rfl, trivial⟩ ?_
      refine XC.cond_d rfl (fun hc3 => ?_) (fun hc3 => ?_)
      · refine XC.seq fun K6 hK6 => ?_
        refine XC.region ?_
        refine x_v (r_as rfl) rfl ?_
        refine x_v (r_as rfl) rfl ?_
        refine XL.nil ?_
        refine hK6 _ _ ?_
        refine XC.keep [(4, _), (5, _)] ⟨rfl, rfl, trivial⟩ ?_
        refine XC.ret ?_
        exact fin2 rfl rfl ((by unfold FolV; rw [hF]; first | (rw [if_pos (by omega)]; exact ⟨rfl, rfl⟩) | exact ⟨_, A, _, c, x, rfl, by have h0 := hl4; simp only [List.length_cons] at h0; show L.length ≤ c - 1; omega, rfl, hrd⟩)) gS
      · refine XC.skip ?_
        refine hK2 _ _ ?_
        refine XC.keep [(2, _), (3, _)] ⟨rfl, rfl, trivial⟩ ?_
        refine XC.seq fun K7 hK7 => ?_
        rw [if_neg (by omega)] at hF
        obtain ⟨m, hm⟩ : ∃ m : Nat, s.behind = (m : Int) := ⟨s.behind.toNat, by omega⟩
        rw [hm] at hF hS htl ⊢
        rw [Int.toNat_natCast] at hS htl
        refine XC.region ?_
        refine x_v (r_fa fo59_0 rfl) rfl ?_
        refine x_v (r_ld ty9 rfl pK (by rfl)) rfl ?_
        refine x_v (r_fa fo59_3 rfl) rfl ?_
        refine x_v (r_ld ty3 rfl pK (by rfl)) rfl ?_
        refine x_v (yv (v' := str (a.bytes.take m)) (r_ssl 0 m Tryz.underlying9 rfl rfl ⟨_, by rfl⟩ (by omega) (by omega)) rfl) rfl ?_
        refine x_c (r_call0 (args := [_]) ⟨rfl, rfl⟩ (scan_tr (a.bytes.take m) (blk b2 59 [str s.bytes, .int .i64 s.kind, str s.base, .int .i64 (m : Int)] :: blk b3 59 [str a.bytes, .int .i64 a.kind, str a.base, .int .i64 a.behind] :: Fr) htl) gS) rfl ?_
        rintro _ _ ⟨A, c, hv, hRs⟩
        rw [hS] at hv hRs
        subst hv
        rw [hRs]
        dsimp only
        refine x_v (r_mv rfl) rfl ?_
        refine x_v (r_ex rfl rfl) rfl ?_
        refine x_v (r_ex rfl rfl) rfl ?_
        refine x_v (r_as rfl) rfl ?_
        refine x_v (r_as rfl) rfl ?_
        refine XL.nil ?_
        refine hK7 _ _ ?_
        refine XC.keep [(2, _), (6, _), (7, _)] ⟨rfl, rfl, rfl, trivial⟩ ?_
        refine XC.seq fun K8 hK8 => ?_
        refine XC.seq fun K9 hK9 => ?_
        refine XC.region ?_
        refine x_v (r_mv rfl) rfl ?_
        refine x_v (r_fa fo59_3 rfl) rfl ?_
        refine x_v (r_ld ty3 rfl pK (by rfl)) rfl ?_
        refine x_v (r_ne rfl rfl) rfl ?_
        refine x_v (r_mv rfl) rfl ?_
        refine XL.splitd 37 rfl (fun hg37 => ?_) (fun hg37 => ?_)
        · refine x_unwant rfl rfl rfl rfl rfl ?_
          refine x_unwant rfl rfl rfl rfl rfl ?_
          refine x_unwant rfl rfl rfl rfl rfl ?_
          refine x_v (r_pk_t rfl rfl) rfl ?_
          refine XL.nil ?_
          refine hK9 _ _ ?_
          refine XC.keep [(6, _), (41, _)] ⟨rfl, rfl, trivial⟩ ?_
          refine XC.cond_t rfl ?_
          refine XC.seq fun K10 hK10 => ?_
          refine XC.region ?_
          refine x_v (r_as rfl) rfl ?_
          refine x_v (r_as rfl) rfl ?_
          refine XL.nil ?_
          refine hK10 _ _ ?_
          refine XC.keep [(4, _), (5, _)] ⟨rfl, rfl, trivial⟩ ?_
          refine XC.ret ?_
          exact fin2 rfl rfl ((by unfold FolV; rw [hF]; first | (rw [if_pos (by omega)]; exact ⟨rfl, rfl⟩) | exact ⟨_, A, _, c, x, rfl, by have h0 := hl4; simp only [List.length_cons] at h0; show L.length ≤ c - 1; omega, rfl, hrd⟩)) gS
        · refine x_want rfl rfl rfl ?_
          refine x_v (r_mv rfl) rfl ?_
          refine x_want rfl rfl rfl ?_
          refine x_v (r_lensl Tryz.underlying22 rfl) rfl ?_
          refine x_want rfl rfl rfl ?_
          refine x_v (r_eq rfl rfl) rfl ?_
          refine x_v (r_pk_f rfl rfl) rfl ?_
          refine XL.nil ?_
          refine hK9 _ _ ?_
          refine XC.keep [(6, _), (41, _)] ⟨rfl, rfl, trivial⟩ ?_
          refine XC.cond_d rfl (fun hc5 => ?_) (fun hc5 => ?_)
          · refine XC.seq fun K11 hK11 => ?_
            refine XC.region ?_
            refine x_v (r_as rfl) rfl ?_
            refine x_v (r_as rfl) rfl ?_
            refine XL.nil ?_
            refine hK11 _ _ ?_
            refine XC.keep [(4, _), (5, _)] ⟨rfl, rfl, trivial⟩ ?_
            refine XC.ret ?_
            exact fin2 rfl rfl ((by unfold FolV; rw [hF]; first | (rw [if_pos (by omega)]; exact ⟨rfl, rfl⟩) | exact ⟨_, A, _, c, x, rfl, by have h0 := hl4; simp only [List.length_cons] at h0; show L.length ≤ c - 1; omega, rfl, hrd⟩)) gS
          · refine XC.skip ?_
            refine hK8 _ _ ?_
            refine XC.keep [(6, _)] ⟨rfl, trivial⟩ ?_
            refine XC.seq fun K12 hK12 => ?_
            rw [if_neg (by omega)] at hF
            obtain ⟨x, L, rfl⟩ : ∃ x L2, L = x :: L2 := List.exists_cons_of_length_pos (by omega)
            refine XC.slnn pK fun hl1 hl2 => ?_
            refine XC.sllen pK fun hl3 hl4 hl5 => ?_
            have hrd : Rdb W0 (sl A (x :: L).length c 9 1 (cells sv (x :: L)) :: Fr) (if c = 1 then A else A.map (·.add (1 * 1))) L.length 1 (cells sv L) := rd_cut1 (Rdb.of_sl pK hl1 hl2) hl4
            refine XC.region ?_
            refine x_v (r_mv rfl) rfl ?_
            refine x_v (yv (v' := .slice (if c = 1 then A else A.map (·.add (1 * 1))) L.length (c - 1)) (r_sll 1 (x :: L).length Tryz.underlying22 ty9 rfl ⟨_, by rfl⟩ rfl (by simp) hl4) (by congr 1)) rfl ?_
            refine x_v (r_as rfl) rfl ?_
            refine x_v (r_as rfl) rfl ?_
            refine XL.nil ?_
            refine hK12 _ _ ?_
            refine XC.keep [(4, _), (5, _)] ⟨rfl, rfl, trivial⟩ ?_
            refine XC.ret ?_
            exact fin2 rfl rfl ((by unfold FolV; rw [hF]; first | (rw [if_pos (by omega)]; exact ⟨rfl, rfl⟩) | exact ⟨_, A, _, c, x, rfl, by have h0 := hl4; simp only [List.length_cons] at h0; show L.length ≤ c - 1; omega, rfl, hrd⟩)) gS
theorem spent_tr {W0 : World} (l : Nat) (n g : Int) (t : Bool) (q1 q2 : Value) (Fr : List HP) : Tr W0 Tryz.prog 35 [.pointer (some ⟨l, 0, none⟩)] (blk l 56 [.int .i64 n, .int .i64 g, .bool t, q1, q2] :: Fr) (fun v Rs' => v = .bool (t || decide (2048 ≤ g)) ∧ Rs' = blk l 56 [.int .i64 n, .int .i64 g, .bool t, q1, q2] :: Fr) := by
  refine Entry.tr (N := 14) (rs := [.tmp 2]) ⟨_, Tryz.func35, rfl, by kernel_rfl, rfl, rfl⟩ rfl ?_
  refine XC.seq fun K1 hK1 => ?_
  refine XC.region ?_
  refine x_v (r_as rfl) rfl ?_
  refine XL.nil ?_
  refine hK1 _ _ ?_
  refine XC.keep [(0, _)] ⟨rfl, trivial⟩ ?_
  refine XC.seq fun K2 hK2 => ?_
  refine XC.region ?_
  refine x_v (r_mv rfl) rfl ?_
  refine x_v (r_nc rfl) rfl ?_
  refine x_v (r_fa fo54_2 rfl) rfl ?_
  refine x_v (r_ld ty4 rfl pK (by rfl)) rfl ?_
  refine x_v (r_mv rfl) rfl ?_
  refine XL.split 7 rfl (fun hg7 => ?_) (fun hg7 => ?_)
  · refine x_unwant rfl rfl rfl rfl rfl ?_
    refine x_unwant rfl rfl rfl rfl rfl ?_
    refine x_unwant rfl rfl rfl rfl rfl ?_
    refine x_unwant rfl rfl rfl rfl rfl ?_
    refine x_unwant rfl rfl rfl rfl rfl ?_
    refine x_v (r_pk_t rfl rfl) rfl ?_
    refine x_v (r_as rfl) rfl ?_
    refine XL.nil ?_
    refine hK2 _ _ ?_
    refine XC.keep [(2, _)] ⟨rfl, trivial⟩ ?_
    refine XC.ret ?_
    exact fin1 rfl (⟨by simp_all, rfl⟩) gS
  · refine x_want rfl rfl rfl ?_
    refine x_v (r_mv rfl) rfl ?_
    refine x_want rfl rfl rfl ?_
    refine x_v (r_nc rfl) rfl ?_
    refine x_want rfl rfl rfl ?_
    refine x_v (r_fa fo54_1 rfl) rfl ?_
    refine x_want rfl rfl rfl ?_
    refine x_v (r_ld ty3 rfl pK (by rfl)) rfl ?_
    refine x_want rfl rfl rfl ?_
    refine x_v (r_ge rfl rfl) rfl ?_
    refine x_v (r_pk_f rfl rfl) rfl ?_
    refine x_v (r_as rfl) rfl ?_
    refine XL.nil ?_
    refine hK2 _ _ ?_
    refine XC.keep [(2, _)] ⟨rfl, trivial⟩ ?_
    refine XC.ret ?_
    exact fin1 rfl (⟨by simp_all, rfl⟩) gS
structure Lg where
  number : Nat
  good : Nat
  torn : Bool
  first : Nat
def lgc (l d : Nat) (L : Lg) : HP := blk l 56 [.int .i64 (L.number : Int), .int .i64 (L.good : Int), .bool L.torn, .pointer (some ⟨d, 0, none⟩), .int .i64 (L.first : Int)]
theorem segment_tr {W0 : World} (l d : Nat) (L : Lg) (Fr : List HP) : Tr W0 Tryz.prog 13 [.pointer (some ⟨l, 0, none⟩)] (lgc l d L :: Fr) (fun v Rs' => v = .int .i64 (L.number : Int) ∧ Rs' = lgc l d L :: Fr) := by
  unfold lgc
  refine Entry.tr (N := 10) (rs := [.tmp 2]) ⟨_, Tryz.func13, rfl, by kernel_rfl, rfl, rfl⟩ rfl ?_
  refine XC.seq fun K1 hK1 => ?_
  refine XC.region ?_
  refine x_v (r_as rfl) rfl ?_
  refine XL.nil ?_
  refine hK1 _ _ ?_
  refine XC.keep [(0, _)] ⟨rfl, trivial⟩ ?_
  refine XC.seq fun K2 hK2 => ?_
  refine XC.seq fun K3 hK3 => ?_
  refine XC.region ?_
  refine x_v (r_mv rfl) rfl ?_
  refine x_v (r_peq_some Tryz.underlying29 rfl rfl) rfl ?_
  refine XL.nil ?_
  refine hK3 _ _ ?_
  refine XC.keep [(0, _), (4, _)] ⟨rfl, rfl, trivial⟩ ?_
  refine XC.cond_f rfl ?_
  refine XC.skip ?_
  refine hK2 _ _ ?_
  refine XC.keep [(0, _)] ⟨rfl, trivial⟩ ?_
  refine XC.seq fun K4 hK4 => ?_
  refine XC.region ?_
  refine x_v (r_mv rfl) rfl ?_
  refine x_v (r_nc rfl) rfl ?_
  refine x_v (r_fa fo56_0 rfl) rfl ?_
  refine x_v (r_fa fo54_0 rfl) rfl ?_
  refine x_v (r_ld ty3 rfl pK (by rfl)) rfl ?_
  refine x_v (r_as rfl) rfl ?_
  refine XL.nil ?_
  refine hK4 _ _ ?_
  refine XC.keep [(2, _)] ⟨rfl, trivial⟩ ?_
  refine XC.ret ?_
  exact fin1 rfl (⟨rfl, rfl⟩) gS
theorem segment_nil {W0 : World} (Fr : List HP) : Tr W0 Tryz.prog 13 [.pointer none] Fr (fun v Rs' => v = .int .i64 0 ∧ Rs' = Fr) := by
  refine Entry.tr (N := 10) (rs := [.tmp 2]) ⟨_, Tryz.func13, rfl, by kernel_rfl, rfl, rfl⟩ rfl ?_
  refine XC.seq fun K1 hK1 => ?_
  refine XC.region ?_
  refine x_v (r_as rfl) rfl ?_
  refine XL.nil ?_
  refine hK1 _ _ ?_
  refine XC.keep [(0, _)] ⟨rfl, trivial⟩ ?_
  refine XC.seq fun K2 hK2 => ?_
  refine XC.seq fun K3 hK3 => ?_
  refine XC.region ?_
  refine x_v (r_mv rfl) rfl ?_
  refine x_v (r_peq_nil Tryz.underlying29 rfl rfl) rfl ?_
  refine XL.nil ?_
  refine hK3 _ _ ?_
  refine XC.keep [(0, _), (4, _)] ⟨rfl, rfl, trivial⟩ ?_
  refine XC.cond_t rfl ?_
  refine XC.seq fun K4 hK4 => ?_
  refine XC.region ?_
  refine x_v (r_as rfl) rfl ?_
  refine XL.nil ?_
  refine hK4 _ _ ?_
  refine XC.keep [(2, _)] ⟨rfl, trivial⟩ ?_
  refine XC.ret ?_
  exact fin1 rfl (⟨rfl, rfl⟩) gS
def writeD (D : Dk) (n s : List UInt8) : Int × Dk := if (appendD D n s).1 ≠ 0 then appendD D n s else syncD (appendD D n s).2 n
theorem appendD_steps (D : Dk) (n s : List UInt8) : (appendD D n s).2.steps ≤ D.steps + 1 := by
  unfold appendD
  split
  · simp
  · dsimp only; split
    · simp
    · split <;> simp [stepD]
theorem write_l {W0 : World} (hL : Laid W0) (l d : Nat) (L : Lg) (D : Dk) (n : Nat) (s : List UInt8) (Fr : List HP) (hn : n ≤ 1000000001) (hl : (Lib.itoa (n : Int)).length ≤ 100) (hs : D.steps < 1000000000) : Tr W0 Tryz.prog 36 [.pointer (some ⟨l, 0, none⟩), .int .i64 (n : Int), str s] (lgc l d L :: dsk d D :: Fr) (fun v Rs' => v = .int .i64 (writeD D (nameB n) s).1 ∧ Rs' = lgc l d L :: dsk d (writeD D (nameB n) s).2 :: Fr) := by
  have hst := appendD_steps D (nameB n) s
  have hW : writeD D (nameB n) s = if (appendD D (nameB n) s).1 ≠ 0 then appendD D (nameB n) s else syncD (appendD D (nameB n) s).2 (nameB n) := rfl
  unfold lgc
  refine Entry.tr (N := 26) (rs := [.tmp 6]) ⟨_, Tryz.func36, rfl, by kernel_rfl, rfl, rfl⟩ rfl ?_
  refine XC.seq fun K1 hK1 => ?_
  refine XC.region ?_
  refine x_v (r_as rfl) rfl ?_
  refine XL.nil ?_
  refine hK1 _ _ ?_
  refine XC.keep [(0, _), (1, _), (2, _)] ⟨rfl, rfl, rfl, trivial⟩ ?_
  refine XC.seq fun K2 hK2 => ?_
  refine XC.seq fun K3 hK3 => ?_
  refine XC.draw (blk l 56 [.int .i64 (L.number : Int), .int .i64 (L.good : Int), .bool L.torn, .pointer (some ⟨d, 0, none⟩), .int .i64 (L.first : Int)] :: []) false [(0, false), (1, false), (2, false), (3, false), (4, false), (6, false), (5, true), (7, true), (8, false)] (by kernel_rfl) (by kernel_rfl) ?_
  refine y_v rfl (r_mv rfl) gT rfl ?_
  refine y_v rfl (r_nc rfl) gT rfl ?_
  refine y_v rfl (r_fa fo56_1 rfl) gT rfl ?_
  refine y_v rfl (r_ld ty38 rfl pK (by rfl)) gT rfl ?_
  refine y_v rfl (r_mv rfl) gT rfl ?_
  refine y_v rfl (r_mv rfl) gT rfl ?_
  refine y_c rfl (r_call0 (args := [_]) ⟨rfl, rfl⟩ (name_tr hL n hn hl (blk l 56 [.int .i64 (L.number : Int), .int .i64 (L.good : Int), .bool L.torn, .pointer (some ⟨d, 0, none⟩), .int .i64 (L.first : Int)] :: dsk d D :: Fr)) gS) (by rintro _ _ _ _ ⟨rfl, rfl⟩ h; exact Gets.own gS h) rfl ?_
  rintro _ _ ⟨rfl, rfl⟩
  refine y_c rfl (r_call0 (args := [_, _, _]) ⟨rfl, rfl, rfl, rfl⟩ (append_tr d D (nameB n) s (blk l 56 [.int .i64 (L.number : Int), .int .i64 (L.good : Int), .bool L.torn, .pointer (some ⟨d, 0, none⟩), .int .i64 (L.first : Int)] :: Fr) (by omega)) gS) (by rintro _ _ _ _ ⟨rfl, rfl⟩ h; exact Gets.own gS h) rfl ?_
  rintro _ _ ⟨rfl, rfl⟩
  refine y_v rfl (r_as rfl) gT rfl ?_
  refine XH.nil ?_
  refine hK3 _ _ ?_
  refine XC.keep [(0, _), (1, _), (7, _)] ⟨rfl, rfl, rfl, trivial⟩ ?_
  refine XC.seq fun K4 hK4 => ?_
  refine XC.region ?_
  refine x_v (r_mv rfl) rfl ?_
  refine x_v (r_ne rfl rfl) rfl ?_
  refine XL.nil ?_
  refine hK4 _ _ ?_
  refine XC.keep [(0, _), (1, _), (7, _), (17, _)] ⟨rfl, rfl, rfl, rfl, trivial⟩ ?_
  refine XC.cond_d rfl (fun hc1 => ?_) (fun hc1 => ?_)
  · refine XC.seq fun K5 hK5 => ?_
    refine XC.region ?_
    refine x_v (r_mv rfl) rfl ?_
    refine x_v (r_as rfl) rfl ?_
    refine XL.nil ?_
    refine hK5 _ _ ?_
    refine XC.keep [(6, _)] ⟨rfl, trivial⟩ ?_
    refine XC.ret ?_
    exact fin1 rfl (⟨by rw [hW, if_pos hc1], by rw [hW, if_pos hc1]⟩) gS
  · refine XC.skip ?_
    refine hK2 _ _ ?_
    refine XC.keep [(0, _), (1, _)] ⟨rfl, rfl, trivial⟩ ?_
    refine XC.seq fun K6 hK6 => ?_
    refine XC.draw (blk l 56 [.int .i64 (L.number : Int), .int .i64 (L.good : Int), .bool L.torn, .pointer (some ⟨d, 0, none⟩), .int .i64 (L.first : Int)] :: []) false [(0, false), (1, false), (2, false), (3, false), (4, false), (5, true), (6, true), (7, false)] (by kernel_rfl) (by kernel_rfl) ?_
    refine y_v rfl (r_mv rfl) gT rfl ?_
    refine y_v rfl (r_nc rfl) gT rfl ?_
    refine y_v rfl (r_fa fo56_1 rfl) gT rfl ?_
    refine y_v rfl (r_ld ty38 rfl pK (by rfl)) gT rfl ?_
    refine y_v rfl (r_mv rfl) gT rfl ?_
    refine y_c rfl (r_call0 (args := [_]) ⟨rfl, rfl⟩ (name_tr hL n hn hl (blk l 56 [.int .i64 (L.number : Int), .int .i64 (L.good : Int), .bool L.torn, .pointer (some ⟨d, 0, none⟩), .int .i64 (L.first : Int)] :: dsk d (appendD D (nameB n) s).2 :: Fr)) gS) (by rintro _ _ _ _ ⟨rfl, rfl⟩ h; exact Gets.own gS h) rfl ?_
    rintro _ _ ⟨rfl, rfl⟩
    refine y_c rfl (r_call0 (args := [_, _]) ⟨rfl, rfl, rfl⟩ (sync_tr d (appendD D (nameB n) s).2 (nameB n) (blk l 56 [.int .i64 (L.number : Int), .int .i64 (L.good : Int), .bool L.torn, .pointer (some ⟨d, 0, none⟩), .int .i64 (L.first : Int)] :: Fr) (by omega)) gS) (by rintro _ _ _ _ ⟨rfl, rfl⟩ h; exact Gets.own gS h) rfl ?_
    rintro _ _ ⟨rfl, rfl⟩
    refine y_v rfl (r_as rfl) gT rfl ?_
    refine XH.nil ?_
    refine hK6 _ _ ?_
    refine XC.keep [(6, _)] ⟨rfl, trivial⟩ ?_
    refine XC.ret ?_
    exact fin1 rfl (⟨by rw [hW, if_neg hc1], by rw [hW, if_neg hc1]⟩) gS
end Go.Proofs.YtcmdmhmgffjknaaGreatDoor

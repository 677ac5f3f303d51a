/- Numerals and segments' names: functions 56, 55, 54, 29, 27. -/
import Derived.Lib.SmallJoins
import Derived.Lib.AppendIntMem
import Derived.Test.YtcmdmhmgffjknaaGreatDoorFacts
import Derived.Test.YtcmdmhmgffjknaaGreatDoorWal18
namespace Go.Sx
section
variable {C : Cx} {e : Env} {Rs : List HP} {x y : Operand} {ty T T2 : TypeId}
theorem r_ine {te : TypeId} {pe : Value} {D : TypeDesc} (hT : C.P.underlying T = some D) (hD : ∃ ms, D = .interface ms) (hx : ev e x = some (.iface te pe)) (hy : ev e y = some .nilIface) : Yld C e Rs (.binOp .neq T x y T2) ty (.bool true) := by
  obtain ⟨ms, rfl⟩ := hD
  exact r_nev (r := false) hx hy rfl (fun w d => by simp [Op.equalIn, run_underlying hT])
theorem r_ine0 {D : TypeDesc} (hT : C.P.underlying T = some D) (hD : ∃ ms, D = .interface ms) (hx : ev e x = some .nilIface) : Yld C e Rs (.binOp .neq T x (.const .nilIface) T2) ty (.bool false) := by
  obtain ⟨ms, rfl⟩ := hD
  exact r_bin hx rfl (fun w => by
    have hh := eq_of (P := C.P) (T := T) (a := .nilIface) (b := .nilIface) (r := true) (w := w) (fun d => by simp [Op.equalIn, run_underlying hT])
    simp [eqGuard, binOp, hh])
end
theorem var_own {W0 w : World} {P : Program} {Rs : List HP} {name : String} {cs : Array Value} (h : W0.var? P name = some cs) (H : Own W0 w Rs) : w.var? P name = some cs := by
  unfold World.var? at *
  cases hg : P.globalNamed name with
  | none => rw [hg] at h; cases h
  | some g =>
    rw [hg] at h
    simp only [Option.bind_some] at h ⊢
    have hlt : g < W0.heap.size := by
      by_cases hl : g < W0.heap.size
      · exact hl
      · rw [Array.getElem?_eq_none (by omega)] at h; cases h
    rw [H.old g hlt]; exact h
end Go.Sx
namespace Go.Proofs.YtcmdmhmgffjknaaGreatDoor
open Go.Sx
set_option linter.unusedVariables false

theorem ends3 (x : Lib.NumEnd Int) : (∃ v, x = .ok v) ∨ x = Lib.atoiAll [] ∨ x = .range := by
  cases x
  · exact .inl ⟨_, rfl⟩
  · exact .inr (.inl rfl)
  · exact .inr (.inr rfl)
structure Laid (W : World) : Prop where
  tab : Lib.TabIs Tryz.prog W "internal/strconv.uint64pow10" .u64 Lib.pow10Tab
  syn : ∃ tp p, W.var? Tryz.prog "strconv.ErrSyntax" = some #[.iface tp p]
  rng : ∃ tp p, W.var? Tryz.prog "strconv.ErrRange" = some #[.iface tp p]
theorem itoa_th : ∃ fn c, Tryz.prog.funcs[56]? = some fn ∧ (fn.name == "runtime.NumGoroutine") = false ∧ fn.body = some c := ⟨_, _, Tryz.func56, by kernel_rfl, rfl⟩
theorem atoi_th : ∃ fn c, Tryz.prog.funcs[55]? = some fn ∧ (fn.name == "runtime.NumGoroutine") = false ∧ fn.body = some c := ⟨_, _, Tryz.func55, by kernel_rfl, rfl⟩
theorem trim_th : ∃ fn c, Tryz.prog.funcs[54]? = some fn ∧ (fn.name == "runtime.NumGoroutine") = false ∧ fn.body = some c := ⟨_, _, Tryz.func54, by kernel_rfl, rfl⟩
theorem itoa_tr {W0 : World} (hL : Laid W0) (n : Int) (h0 : -9223372036854775808 ≤ n) (h1 : n ≤ 9223372036854775807) (Fr : List HP) : Tr W0 Tryz.prog 56 [.int .i64 n] Fr (fun v Rs' => v = str (Lib.itoa n) ∧ Rs' = Fr) :=
  Tr.of_below (Q := fun v => v = str (Lib.itoa n)) itoa_th fun w hw => (Tryz.strconv_Itoa n h0 h1 w (var_own hL.tab hw)).mono fun e w' ⟨h2, k, os, h3⟩ => ⟨_, rfl, h2, h3 ▸ Lib.below_grow _ _ (Nat.le_refl _) _ _⟩
theorem trim_tr {W0 : World} (s p : List UInt8) (Fr : List HP) : Tr W0 Tryz.prog 54 [str s, str p] Fr (fun v Rs' => v = str (Lib.trimPrefix s p) ∧ Rs' = Fr) :=
  Tr.of_below (Q := fun v => v = str (Lib.trimPrefix s p)) trim_th fun w hw => (Tryz.strings_TrimPrefix ⟨s.toArray⟩ ⟨p.toArray⟩ w).mono fun e w' ⟨h1, h2⟩ => ⟨_, rfl, h1, h2 ▸ RowKit.Below.refl _ _⟩
def AtoiV (s : List UInt8) (u : Value) : Prop := (∃ v, Lib.atoiAll s = .ok v ∧ u = .tuple #[.int .i64 v, .nilIface]) ∨ ∃ v te pe, (∀ v, Lib.atoiAll s ≠ .ok v) ∧ u = .tuple #[.int .i64 v, .iface te pe]
theorem atoi_tr {W0 : World} (hL : Laid W0) (s : List UInt8) (hs : s.length ≤ maxS) (Fr : List HP) : Tr W0 Tryz.prog 55 [str s] Fr (fun v Rs' => AtoiV s v ∧ Rs' = Fr) := by
  have hmax : maxS = 140737488355328 := rfl
  refine Tr.of_below (Q := AtoiV s) atoi_th fun w hw => ?_
  have hsz := str_size s
  obtain ⟨tp, p, h2⟩ := hL.syn
  obtain ⟨tp3, p3, h3⟩ := hL.rng
  rcases ends3 (Lib.atoiAll s) with ⟨v, h⟩ | h | h
  · refine (Tryz.strconv_Atoi_ok ⟨s.toArray⟩ (by omega) v h w).mono fun e w' ⟨h4, h5⟩ => ⟨_, .inl ⟨v, h, rfl⟩, h4, ?_⟩
    rcases h5 with rfl | ⟨t, rfl⟩
    · exact RowKit.Below.refl _ _
    · exact Joins.below_bytesWorld _ _ _ _ (Nat.le_refl _)
  · exact (Tryz.strconv_Atoi_syntax_var ⟨s.toArray⟩ (by omega) h tp p w (var_own h2 hw)).mono fun e w' ⟨N, h4, _, _, h5⟩ => ⟨_, .inr ⟨_, _, _, (fun v hv => by rw [h] at hv; cases hv), rfl⟩, h4, h5⟩
  · exact (Tryz.strconv_Atoi_range_var ⟨s.toArray⟩ (by omega) h tp3 p3 w (var_own h3 hw)).mono fun e w' ⟨N, h4, _, _, h5⟩ => ⟨_, .inr ⟨_, _, _, (fun v hv => by rw [h] at hv; cases hv), rfl⟩, h4, h5⟩
def logP : List UInt8 := [108, 111, 103, 46]
def nameB (n : Nat) : List UInt8 := logP ++ Lib.itoa (n : Int)
def numB (file : List UInt8) : Nat := match Lib.atoiAll (Lib.trimPrefix file logP) with
  | .ok v => if v < 1 ∨ 999999999 < v ∨ Lib.itoa v ≠ Lib.trimPrefix file logP then 0 else v.toNat
  | _ => 0
theorem name_tr {W0 : World} (hL : Laid W0) (n : Nat) (hn : n ≤ 1000000001) (hl : (Lib.itoa (n : Int)).length ≤ 100) (Fr : List HP) : Tr W0 Tryz.prog 29 [.int .i64 (n : Int)] Fr (fun v Rs' => v = str (nameB n) ∧ Rs' = Fr) := by
  refine Entry.tr (N := 6) (rs := [.tmp 2]) ⟨_, Tryz.func29, rfl, by kernel_rfl, rfl, rfl⟩ rfl ?_
  refine XC.seq fun K1 hK1 => ?_
  refine XC.region ?_
  refine x_v (r_as rfl) rfl ?_
  refine XL.nil ?_
  refine hK1 _ _ ?_
  refine XC.keep [(0, _)] ⟨rfl, trivial⟩ ?_
  refine XC.seq fun K2 hK2 => ?_
  refine XC.region ?_
  refine x_v (r_mv rfl) rfl ?_
  refine x_c (r_call0 (args := [_]) ⟨rfl, rfl⟩ (itoa_tr hL (n : Int) (by omega) (by omega) Fr) gS) rfl ?_
  rintro _ _ ⟨rfl, hRs⟩
  rw [hRs]
  refine x_v (r_cat rfl rfl (by simp; omega)) rfl ?_
  refine x_v (r_as rfl) rfl ?_
  refine XL.nil ?_
  refine hK2 _ _ ?_
  refine XC.keep [(2, _)] ⟨rfl, trivial⟩ ?_
  refine XC.ret ?_
  exact fin1 rfl (⟨rfl, rfl⟩) gS
theorem trim_len (s p : List UInt8) : (Lib.trimPrefix s p).length ≤ s.length := by unfold Lib.trimPrefix; split <;> simp
theorem number_tr {W0 : World} (hL : Laid W0) (f : List UInt8) (hf : f.length ≤ 80) (Fr : List HP) : Tr W0 Tryz.prog 27 [str f] Fr (fun v Rs' => v = .int .i64 (numB f : Int) ∧ Rs' = Fr) := by
  have hmax : maxS = 140737488355328 := rfl
  have hlen := trim_len f logP
  have hnum : numB f = match Lib.atoiAll (Lib.trimPrefix f logP) with
    | .ok v => if v < 1 ∨ 999999999 < v ∨ Lib.itoa v ≠ Lib.trimPrefix f logP then 0 else v.toNat
    | _ => 0 := rfl
  generalize hs : Lib.trimPrefix f logP = s at hlen hnum
  have hat : Tr W0 Tryz.prog 55 [str s] Fr (fun v Rs' => AtoiV s v ∧ Rs' = Fr) := atoi_tr hL s (by omega) Fr
  by_cases hok : ∃ v, Lib.atoiAll s = .ok v
  · obtain ⟨v, hv⟩ := hok
    rw [hv] at hnum
    dsimp only at hnum
    have hat2 : Tr W0 Tryz.prog 55 [str s] Fr (fun u Rs' => u = .tuple #[.int .i64 v, .nilIface] ∧ Rs' = Fr) := hat.mono fun u Rs' ⟨h1, h2⟩ => ⟨by
      rcases h1 with ⟨v', h3, h4⟩ | ⟨_, _, _, h3, _⟩
      · rw [hv] at h3; injection h3 with h3; rw [h4, h3]
      · exact absurd hv (h3 v), h2⟩
    refine Entry.tr (N := 30) (rs := [.tmp 2]) ⟨_, Tryz.func27, rfl, by kernel_rfl, rfl, rfl⟩ rfl ?_
    refine XC.seq fun K1 hK1 => ?_
    refine XC.region ?_
    refine x_v (r_as rfl) rfl ?_
    refine XL.nil ?_
    refine hK1 _ _ ?_
    refine XC.keep [(0, _)] ⟨rfl, trivial⟩ ?_
    refine XC.seq fun K2 hK2 => ?_
    refine XC.region ?_
    refine x_v (r_mv rfl) rfl ?_
    refine x_c (r_call0 (args := [_, _]) ⟨rfl, rfl, rfl⟩ (trim_tr f logP Fr) gS) rfl ?_
    rintro _ _ ⟨hv7, hRs⟩
    rw [hs] at hv7
    subst hv7
    rw [hRs]
    refine x_v (r_as rfl) rfl ?_
    refine XL.nil ?_
    refine hK2 _ _ ?_
    refine XC.keep [(3, _)] ⟨rfl, trivial⟩ ?_
    refine XC.seq fun K3 hK3 => ?_
    refine XC.region ?_
    refine x_v (r_mv rfl) rfl ?_
    refine x_c (r_call0 (args := [_]) ⟨rfl, rfl⟩ (hat2) gS) rfl ?_
    rintro _ _ ⟨rfl, hRs⟩
    rw [hRs]
    refine x_v (r_mv rfl) rfl ?_
    refine x_v (r_ex rfl rfl) rfl ?_
    refine x_v (r_ex rfl rfl) rfl ?_
    refine x_v (r_as rfl) rfl ?_
    refine x_v (r_as rfl) rfl ?_
    refine XL.nil ?_
    refine hK3 _ _ ?_
    refine XC.keep [(3, _), (4, _), (5, _)] ⟨rfl, rfl, rfl, trivial⟩ ?_
    refine XC.seq fun K4 hK4 => ?_
    refine XC.seq fun K5 hK5 => ?_
    refine XC.region ?_
    refine x_v (r_mv rfl) rfl ?_
    refine x_v (r_ine0 Tryz.underlying99 ⟨_, rfl⟩ rfl) rfl ?_
    refine x_v (r_mv rfl) rfl ?_
    refine x_want rfl rfl rfl ?_
    refine x_v (r_mv rfl) rfl ?_
    refine x_want rfl rfl rfl ?_
    refine x_v (r_lt rfl rfl) rfl ?_
    refine x_v (r_pk_f rfl rfl) rfl ?_
    refine x_v (r_mv rfl) rfl ?_
    refine XL.splitd 19 rfl (fun hg19 => ?_) (fun hg19 => ?_)
    · refine x_unwant rfl rfl rfl rfl rfl ?_
      refine x_unwant rfl rfl rfl rfl rfl ?_
      refine x_v (r_pk_t rfl rfl) rfl ?_
      refine x_v (r_mv rfl) rfl ?_
      refine x_unwant rfl rfl rfl rfl rfl ?_
      refine x_unwant rfl rfl rfl rfl rfl ?_
      refine x_unwant rfl rfl rfl rfl rfl ?_
      refine x_unwant rfl rfl rfl rfl rfl ?_
      refine x_v (r_pk_t rfl rfl) rfl ?_
      refine XL.nil ?_
      refine hK5 _ _ ?_
      refine XC.keep [(4, _), (28, _)] ⟨rfl, rfl, trivial⟩ ?_
      refine XC.cond_t rfl ?_
      refine XC.seq fun K6 hK6 => ?_
      refine XC.region ?_
      refine x_v (r_as rfl) rfl ?_
      refine XL.nil ?_
      refine hK6 _ _ ?_
      refine XC.keep [(2, _)] ⟨rfl, trivial⟩ ?_
      refine XC.ret ?_
      exact fin1 rfl (⟨by rw [hnum]; first | (rw [if_pos (by first | exact .inl (by omega) | exact .inr (.inl (by omega)) | exact .inr (.inr (by assumption)))]; rfl) | (rw [if_neg (by rintro (h | h | h); omega; omega; exact absurd h (by assumption))]; congr 1; omega), rfl⟩) gS
    · refine x_want rfl rfl rfl ?_
      refine x_v (r_mv rfl) rfl ?_
      refine x_want rfl rfl rfl ?_
      refine x_v (r_gt rfl rfl) rfl ?_
      refine x_v (r_pk_f rfl rfl) rfl ?_
      refine x_v (r_mv rfl) rfl ?_
      refine XL.splitd 23 rfl (fun hg23 => ?_) (fun hg23 => ?_)
      · refine x_unwant rfl rfl rfl rfl rfl ?_
        refine x_unwant rfl rfl rfl rfl rfl ?_
        refine x_unwant rfl rfl rfl rfl rfl ?_
        refine x_unwant rfl rfl rfl rfl rfl ?_
        refine x_v (r_pk_t rfl rfl) rfl ?_
        refine XL.nil ?_
        refine hK5 _ _ ?_
        refine XC.keep [(4, _), (28, _)] ⟨rfl, rfl, trivial⟩ ?_
        refine XC.cond_t rfl ?_
        refine XC.seq fun K7 hK7 => ?_
        refine XC.region ?_
        refine x_v (r_as rfl) rfl ?_
        refine XL.nil ?_
        refine hK7 _ _ ?_
        refine XC.keep [(2, _)] ⟨rfl, trivial⟩ ?_
        refine XC.ret ?_
        exact fin1 rfl (⟨by rw [hnum]; first | (rw [if_pos (by first | exact .inl (by omega) | exact .inr (.inl (by omega)) | exact .inr (.inr (by assumption)))]; rfl) | (rw [if_neg (by rintro (h | h | h); omega; omega; exact absurd h (by assumption))]; congr 1; omega), rfl⟩) gS
      · refine x_want rfl rfl rfl ?_
        refine x_v (r_mv rfl) rfl ?_
        refine x_want rfl rfl rfl ?_
        refine x_c (r_call0 (args := [_]) ⟨rfl, rfl⟩ (itoa_tr hL v (by omega) (by omega) Fr) gS) rfl ?_
        rintro _ _ ⟨rfl, hRs⟩
        rw [hRs]
        refine x_want rfl rfl rfl ?_
        refine x_v (r_mv rfl) rfl ?_
        refine x_want rfl rfl rfl ?_
        refine x_v (r_sne rfl rfl) rfl ?_
        refine x_v (r_pk_f rfl rfl) rfl ?_
        refine XL.nil ?_
        refine hK5 _ _ ?_
        refine XC.keep [(4, _), (28, _)] ⟨rfl, rfl, trivial⟩ ?_
        refine XC.cond_d rfl (fun hc3 => ?_) (fun hc3 => ?_)
        · refine XC.seq fun K8 hK8 => ?_
          refine XC.region ?_
          refine x_v (r_as rfl) rfl ?_
          refine XL.nil ?_
          refine hK8 _ _ ?_
          refine XC.keep [(2, _)] ⟨rfl, trivial⟩ ?_
          refine XC.ret ?_
          exact fin1 rfl (⟨by rw [hnum]; first | (rw [if_pos (by first | exact .inl (by omega) | exact .inr (.inl (by omega)) | exact .inr (.inr (by assumption)))]; rfl) | (rw [if_neg (by rintro (h | h | h); omega; omega; exact absurd h (by assumption))]; congr 1; omega), rfl⟩) gS
        · refine XC.skip ?_
          refine hK4 _ _ ?_
          refine XC.keep [(4, _)] ⟨rfl, trivial⟩ ?_
          refine XC.seq fun K9 hK9 => ?_
          refine XC.region ?_
          refine x_v (r_mv rfl) rfl ?_
          refine x_v (r_as rfl) rfl ?_
          refine XL.nil ?_
          refine hK9 _ _ ?_
          refine XC.keep [(2, _)] ⟨rfl, trivial⟩ ?_
          refine XC.ret ?_
          exact fin1 rfl (⟨by rw [hnum]; first | (rw [if_pos (by first | exact .inl (by omega) | exact .inr (.inl (by omega)) | exact .inr (.inr (by assumption)))]; rfl) | (rw [if_neg (by rintro (h | h | h); omega; omega; exact absurd h (by assumption))]; congr 1; omega), rfl⟩) gS
  · have hat2 : Tr W0 Tryz.prog 55 [str s] Fr (fun u Rs' => ∃ v te pe, u = .tuple #[.int .i64 v, .iface te pe] ∧ Rs' = Fr) := hat.mono fun u Rs' ⟨h1, h2⟩ => by
      rcases h1 with ⟨v', h3, h4⟩ | ⟨v, te, pe, _, h3⟩
      · exact absurd ⟨v', h3⟩ hok
      · exact ⟨v, te, pe, h3, h2⟩
    have hn0 : numB f = 0 := by
      rw [hnum]
      rcases ends3 (Lib.atoiAll s) with ⟨v, h⟩ | h | h
      · exact absurd ⟨v, h⟩ hok
      · rw [h]; rfl
      · rw [h]
    refine Entry.tr (N := 30) (rs := [.tmp 2]) ⟨_, Tryz.func27, rfl, by kernel_rfl, rfl, rfl⟩ rfl ?_
    refine XC.seq fun K1 hK1 => ?_
    refine XC.region ?_
    refine x_v (r_as rfl) rfl ?_
    refine XL.nil ?_
    refine hK1 _ _ ?_
    refine XC.keep [(0, _)] ⟨rfl, trivial⟩ ?_
    refine XC.seq fun K2 hK2 => ?_
    refine XC.region ?_
    refine x_v (r_mv rfl) rfl ?_
    refine x_c (r_call0 (args := [_, _]) ⟨rfl, rfl, rfl⟩ (trim_tr f logP Fr) gS) rfl ?_
    rintro _ _ ⟨hv7, hRs⟩
    rw [hs] at hv7
    subst hv7
    rw [hRs]
    refine x_v (r_as rfl) rfl ?_
    refine XL.nil ?_
    refine hK2 _ _ ?_
    refine XC.keep [(3, _)] ⟨rfl, trivial⟩ ?_
    refine XC.seq fun K3 hK3 => ?_
    refine XC.region ?_
    refine x_v (r_mv rfl) rfl ?_
    refine x_c (r_call0 (args := [_]) ⟨rfl, rfl⟩ (hat2) gS) rfl ?_
    rintro _ _ ⟨v, te, pe, rfl, hRs⟩
    rw [hRs]
    refine x_v (r_mv rfl) rfl ?_
    refine x_v (r_ex rfl rfl) rfl ?_
    refine x_v (r_ex rfl rfl) rfl ?_
    refine x_v (r_as rfl) rfl ?_
    refine x_v (r_as rfl) rfl ?_
    refine XL.nil ?_
    refine hK3 _ _ ?_
    refine XC.keep [(3, _), (4, _), (5, _)] ⟨rfl, rfl, rfl, trivial⟩ ?_
    refine XC.seq fun K4 hK4 => ?_
    refine XC.seq fun K5 hK5 => ?_
    refine XC.region ?_
    refine x_v (r_mv rfl) rfl ?_
    refine x_v (r_ine Tryz.underlying99 ⟨_, rfl⟩ rfl rfl) rfl ?_
    refine x_v (r_mv rfl) rfl ?_
    refine x_unwant rfl rfl rfl rfl rfl ?_
    refine x_unwant rfl rfl rfl rfl rfl ?_
    refine x_v (r_pk_t rfl rfl) rfl ?_
    refine x_v (r_mv rfl) rfl ?_
    refine x_unwant rfl rfl rfl rfl rfl ?_
    refine x_unwant rfl rfl rfl rfl rfl ?_
    refine x_v (r_pk_t rfl rfl) rfl ?_
    refine x_v (r_mv rfl) rfl ?_
    refine x_unwant rfl rfl rfl rfl rfl ?_
    refine x_unwant rfl rfl rfl rfl rfl ?_
    refine x_unwant rfl rfl rfl rfl rfl ?_
    refine x_unwant rfl rfl rfl rfl rfl ?_
    refine x_v (r_pk_t rfl rfl) rfl ?_
    refine XL.nil ?_
    refine hK5 _ _ ?_
    refine XC.keep [(4, _), (28, _)] ⟨rfl, rfl, trivial⟩ ?_
    refine XC.cond_t rfl ?_
    refine XC.seq fun K6 hK6 => ?_
    refine XC.region ?_
    refine x_v (r_as rfl) rfl ?_
    refine XL.nil ?_
    refine hK6 _ _ ?_
    refine XC.keep [(2, _)] ⟨rfl, trivial⟩ ?_
    refine XC.ret ?_
    exact fin1 rfl (⟨by rw [hn0]; rfl, rfl⟩) gS
end Go.Proofs.YtcmdmhmgffjknaaGreatDoor

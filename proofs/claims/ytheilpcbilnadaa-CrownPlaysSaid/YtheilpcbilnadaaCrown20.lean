/- Crowns: what comes of operations. -/
import Derived.Test.YtheilpcbilnadaaCrown19
namespace Go.Proofs.Ytheilpcbilnadaa
open Go.Sx
set_option linter.unusedVariables false

/-- A field, of one cell, of a struct that is a value. -/
theorem r_fd {C : Cx} {e : Env} {Rs : List HP} {x : Operand} {T ty : TypeId} {i by_ : Nat} {zv v : Value} {fs : Array Field} {f : Field} {cs : Array Value} (hT : C.P.underlying T = some (.struct fs)) (hf : fs[i]? = some f) (hE : Ty C.P f.type 1 by_ zv false) (hx : ev e x = some (.agg cs)) (hv : cs[f.offset]? = some v) : Yld C e Rs (.field T x i) ty v := by
 obtain ⟨q, i1, i2, i3, i4⟩ := hE.get
 intro a w ha hw
 have hag := hE.agg w
 simp [execOp, ha.ev hx, Instr.field, asAgg, run_underlying hT, hf, sizeOf, typeInfo, i1, i2, part, hag, hv]
/-- What comes of operations. -/
structure Fs where
 live : List UInt8 → Option Pop
 used : Int
 last : Int → Option Pop
 hold : Int × Int
def szo : Option Pop → Int
 | none => 0
 | some o => o.size
def liveUp (f : List UInt8 → Option Pop) (nm : List UInt8) (v : Option Pop) : List UInt8 → Option Pop := fun x => if x = nm then v else f x
def lastUp (f : Int → Option Pop) (c : Int) (v : Option Pop) : Int → Option Pop := fun x => if x = c then v else f x
def foldR (s : Fs) (o : Pop) : Fs := if o.kind = 3 then { s with hold := (o.epoch, o.site) } else
 ⟨liveUp s.live o.name (if o.kind = 1 then some o else none), s.used - szo (s.live o.name) + (if o.kind = 1 then o.size else 0), lastUp s.last o.client (some o), s.hold⟩
def fs0 : Fs := ⟨fun _ => none, 0, fun _ => none, (0, 0)⟩
def foldOf (L : List Pop) : Fs := L.foldl foldR fs0
theorem fold_snoc (s : Fs) (L : List Pop) (o : Pop) : (L ++ [o]).foldl foldR s = foldR (L.foldl foldR s) o := by rw [List.foldl_append]; rfl
/-- Sizes are small. -/
def Szs (n : Nat) (s : Fs) : Prop := (∀ nm o, s.live nm = some o → 0 ≤ o.size ∧ o.size ≤ 512) ∧ -(512 * (n : Int)) ≤ s.used ∧ s.used ≤ 512 * (n : Int)
theorem szo_le {n : Nat} {s : Fs} (h : Szs n s) (nm : List UInt8) : 0 ≤ szo (s.live nm) ∧ szo (s.live nm) ≤ 512 := by
 cases hs : s.live nm with
 | none => unfold szo; decide
 | some o => exact h.1 nm o hs
theorem Szs.step {n : Nat} {s : Fs} (h : Szs n s) {o : Pop} (ho : 0 ≤ o.size ∧ o.size ≤ 512) : Szs (n + 1) (foldR s o) := by
 have hz := szo_le h o.name
 obtain ⟨h1, h2, h3⟩ := h
 unfold foldR
 split
 ·exact ⟨h1, by dsimp only; omega, by dsimp only; omega⟩
 ·refine ⟨fun nm x hx => ?_, ?_, ?_⟩
  ·dsimp only [liveUp] at hx
   split at hx
   ·split at hx
    ·injection hx with hx; subst hx; exact ho
    ·cases hx
   ·exact h1 nm x hx
  ·dsimp only; split <;> omega
  ·dsimp only; split <;> omega
theorem str_inj {a b : List UInt8} (h : str a = str b) : a = b := by
 unfold str at h
 injection h with h; injection h with h
 have := congrArg Array.toList h
 simpa using this
/-- The maps have it. -/
structure FM (s : Fs) (gL gO : Value → Option Value) : Prop where
 no : ∀ nm, s.live nm = none → gL (str nm) = none
 yes : ∀ nm o, s.live nm = some o → ∃ A n c, gL (str nm) = some (.agg #[.int .i64 o.size, .slice A n c])
 lno : ∀ c, s.last c = none → gO (.int .i64 c) = none
 lyes : ∀ c o, s.last c = some o → ∃ od : Od, od.1 = o ∧ gO (.int .i64 c) = some (.agg (odc od).toArray)
theorem FM.look {s : Fs} {gL gO : Value → Option Value} (h : FM s gL gO) (nm : List UInt8) : ∃ A n c, (gL (str nm)).getD (.agg #[.int .i64 0, .slice none 0 0]) = .agg #[.int .i64 (szo (s.live nm)), .slice A n c] := by
 cases hs : s.live nm with
 | none => rw [h.no nm hs]; exact ⟨_, _, _, rfl⟩
 | some o => obtain ⟨A, n, c, e⟩ := h.yes nm o hs; rw [e]; exact ⟨A, n, c, rfl⟩
theorem FM.has {s : Fs} {gL gO : Value → Option Value} (h : FM s gL gO) (nm : List UInt8) : (gL (str nm)).isSome = (s.live nm).isSome := by
 cases hs : s.live nm with
 | none => rw [h.no nm hs]; rfl
 | some o => obtain ⟨A, n, c, e⟩ := h.yes nm o hs; rw [e]; rfl
theorem FM.reign {s : Fs} {gL gO : Value → Option Value} (h : FM s gL gO) {o : Pop} (hk : o.kind = 3) : FM (foldR s o) gL gO := by
 unfold foldR; rw [if_pos hk]; exact ⟨h.no, h.yes, h.lno, h.lyes⟩
theorem FM.step {s : Fs} {gL gO : Value → Option Value} (h : FM s gL gO) {od : Od} (hk : ¬ od.1.kind = 3) {v : Option Value} (hv : if od.1.kind = 1 then ∃ A n c, v = some (.agg #[.int .i64 od.1.size, .slice A n c]) else v = none)
  {gL' gO' : Value → Option Value} (h1 : gL' (str od.1.name) = v) (h2 : ∀ x, x ≠ str od.1.name → gL' x = gL x) (h3 : gO' (.int .i64 od.1.client) = some (.agg (odc od).toArray)) (h4 : ∀ x, x ≠ .int .i64 od.1.client → gO' x = gO x) : FM (foldR s od.1) gL' gO' := by
 unfold foldR; rw [if_neg hk]
 refine ⟨fun nm hn => ?_, fun nm o hn => ?_, fun c hn => ?_, fun c o hn => ?_⟩
 ·dsimp only [liveUp] at hn
  by_cases hm : nm = od.1.name
  ·rw [if_pos hm] at hn
   split at hn
   ·cases hn
   ·rename_i hk1; rw [if_neg hk1] at hv; rw [hm, h1, hv]
  ·rw [if_neg hm] at hn; rw [h2 _ (fun e => hm (str_inj e))]; exact h.no nm hn
 ·dsimp only [liveUp] at hn
  by_cases hm : nm = od.1.name
  ·rw [if_pos hm] at hn
   split at hn
   ·rename_i hk1; rw [if_pos hk1] at hv; obtain ⟨A, n, c, e⟩ := hv
    injection hn with hn; subst hn
    exact ⟨A, n, c, by rw [hm, h1, e]⟩
   ·cases hn
  ·rw [if_neg hm] at hn; rw [h2 _ (fun e => hm (str_inj e))]; exact h.yes nm o hn
 ·dsimp only [lastUp] at hn
  by_cases hm : c = od.1.client
  ·rw [if_pos hm] at hn; cases hn
  ·rw [if_neg hm] at hn; rw [h4 _ (fun e => hm (by injection e))]; exact h.lno c hn
 ·dsimp only [lastUp] at hn
  by_cases hm : c = od.1.client
  ·rw [if_pos hm] at hn; injection hn with hn; exact ⟨od, hn, by rw [hm]; exact h3⟩
  ·rw [if_neg hm] at hn; rw [h4 _ (fun e => hm (by injection e))]; exact h.lyes c o hn
theorem fm0 : FM fs0 (fun _ => none) (fun _ => none) := ⟨fun _ _ => rfl, fun _ _ h => (by cases h), fun _ _ => rfl, fun _ _ h => (by cases h)⟩
theorem fold_one {L : List Od} {i : Nat} {o : Od} (s : Fs) (h : L[i]? = some o) : (fst1 (L.take (i + 1))).foldl foldR s = foldR ((fst1 (L.take i)).foldl foldR s) o.1 := by rw [fst_take_snoc h, fold_snoc]

set_option maxHeartbeats 1000000 in
theorem ftake_tr {W0 : World} {Fr : List HP} {h : Lh} (b : Nat) (A : Option Addr) (c : Nat) (L : List Od) {s0 : Fs} {gL gO : Value → Option Value} {n0 : Nat} (hr : Rdb W0 Fr A L.length 9 (cells odc L)) (hz : ∀ o ∈ L, 0 ≤ o.1.size ∧ o.1.size ≤ 512) (hl : L.length ≤ 100000) (hn0 : n0 ≤ 100000) (hm : FM s0 gL gO) (hs : Szs n0 s0) (hu : h.used = s0.used) (hh : (h.hE, h.hS) = s0.hold) :
  Tr W0 Try.prog 75 [.pointer (some ⟨b, 0, none⟩), .slice A L.length c] (blk b 91 (ldc h) :: mpf h.mL .string gL :: mpf h.mO (.int .i64) gO :: Fr) (fun v Rs' => v = .tuple #[] ∧ ∃ s' gL' gO', s' = (fst1 L).foldl foldR s0 ∧ Rs' = blk b 91 (ldc { h with used := s'.used, hE := s'.hold.1, hS := s'.hold.2 }) :: mpf h.mL .string gL' :: mpf h.mO (.int .i64) gO' :: Fr ∧ FM s' gL' gO' ∧ Szs (n0 + L.length) s') := by
 obtain ⟨mL, us, mO, hE, hS, hA, hn, hc, lA, ln, lc, fe, se, qu, ro⟩ := h
 dsimp only at hu hh ⊢
 subst hu
 obtain ⟨rfl, rfl⟩ : hE = s0.hold.1 ∧ hS = s0.hold.2 := by rw [← hh]; exact ⟨rfl, rfl⟩
 unfold ldc
 dsimp only
 refine Entry.tr (N := 73) (rs := []) ⟨_, Try.func75, rfl, by kernel_rfl, rfl, rfl⟩ rfl ?_
 refine XC.seq fun K1 hK1 => ?_
 refine XC.region ?_
 refine x_v (r_mv rfl) rfl ?_
 refine x_v (r_lensl Try.underlying33 rfl) rfl ?_
 refine x_v (r_mv rfl) rfl ?_
 refine XL.nil ?_
 refine hK1 _ _ ?_
 refine XC.keep [(0, _), (6, _), (7, _), (8, _)] ⟨rfl, rfl, rfl, rfl, trivial⟩ ?_
 refine XC.block ?_
 refine XC.loop (σ := Nat × Fs × (Value → Option Value) × (Value → Option Value)) (fun s => [(0, .pointer (some ⟨b, 0, none⟩)), (6, .slice A L.length c), (7, .int .i64 (L.length : Int)), (8, .int .i64 (s.1 : Int))]) (fun s => blk b 91 [.map (some mL), .int .i64 s.2.1.used, .map (some mO), .int .i64 s.2.1.hold.1, .int .i64 s.2.1.hold.2, .slice hA hn hc, .slice lA ln lc, .int .i64 fe, .int .i64 se, .int .i64 qu, .int .i64 ro] :: mpf mL .string s.2.2.1 :: mpf mO (.int .i64) s.2.2.2 :: Fr) (fun s => s.1 ≤ L.length ∧ s.2.1 = (fst1 (L.take s.1)).foldl foldR s0 ∧ FM s.2.1 s.2.2.1 s.2.2.2 ∧ Szs (n0 + s.1) s.2.1) (fun s => L.length - s.1) (0, s0, gL, gO) ?_ ⟨rfl, rfl, rfl, rfl, trivial⟩ gS ?_
 ·exact ⟨Nat.zero_le _, rfl, hm, hs⟩
 rintro ⟨i, s1, g1, g2⟩ ⟨hi, hs1, hm1, hz1⟩
 dsimp only at hi hs1 hm1 hz1 ⊢
 refine XC.seq fun K2 hK2 => ?_
 refine XC.region ?_
 refine x_v (r_lt rfl rfl) rfl ?_
 refine XL.nil ?_
 refine hK2 _ _ ?_
 refine XC.keep [(0, _), (6, _), (7, _), (8, _), (9, _)] ⟨rfl, rfl, rfl, rfl, rfl, trivial⟩ ?_
 refine XC.seq fun K3 hK3 => ?_
 refine XC.cond_d rfl (fun hc1 => ?_) (fun hc1 => ?_)
 ·refine XC.skip ?_
  refine hK3 _ _ ?_
  refine XC.keep [(0, _), (6, _), (7, _), (8, _)] ⟨rfl, rfl, rfl, rfl, trivial⟩ ?_
  refine XC.seq fun K4 hK4 => ?_
  refine XC.block ?_
  refine XC.seq fun K5 hK5 => ?_
  obtain ⟨o, hoi⟩ : ∃ o, L[i]? = some o := ⟨_, List.getElem?_eq_getElem (by omega)⟩
  have hzo := hz o (List.mem_of_getElem? hoi)
  obtain ⟨ob, oo, rfl, hat⟩ := hr.at_ (by omega)
  obtain ⟨Az, nz, cz, hlk⟩ := hm1.look o.1.name
  have hsz := szo_le hz1 o.1.name
  have hub := hz1.2
  refine XC.region ?_
  refine x_v (r_ia (k := i) Try.underlying33 ty39 rfl rfl (by omega) (by omega)) rfl ?_
  refine x_v (r_ldar (l' := odc o) ty39 rfl rfl (fun w hw j u hu => by rw [Nat.add_assoc]; exact hat w (Gets.own gS hw) _ u (cells_get odc_len L _ _ hoi j u hu))) rfl ?_
  rw [odc_def o]
  refine x_a (r_al ty39 rfl) rfl fun b5 => ?_
  refine x_e (r_st ty39 rfl rfl rfl rfl rfl uD oV) ?_
  refine XL.nil ?_
  refine hK5 _ _ ?_
  refine XC.keep [(0, _), (5, _), (6, _), (7, _), (8, _)] ⟨rfl, rfl, rfl, rfl, rfl, trivial⟩ ?_
  refine XC.seq fun K6 hK6 => ?_
  refine XC.seq fun K7 hK7 => ?_
  refine XC.region ?_
  refine x_v (r_fa fo39_2 rfl) rfl ?_
  refine x_v (r_ld ty3 rfl pK (by rfl)) rfl ?_
  refine x_v (r_eq rfl rfl) rfl ?_
  refine XL.nil ?_
  refine hK7 _ _ ?_
  refine XC.keep [(0, _), (5, _), (6, _), (7, _), (8, _), (14, _)] ⟨rfl, rfl, rfl, rfl, rfl, rfl, trivial⟩ ?_
  refine XC.cond_d rfl (fun hc2 => ?_) (fun hc2 => ?_)
  ·refine XC.seq fun K8 hK8 => ?_
   refine XC.region ?_
   refine x_v (r_mv rfl) rfl ?_
   refine x_v (r_fa fo39_1 rfl) rfl ?_
   refine x_v (r_ld ty3 rfl pK (by rfl)) rfl ?_
   refine x_v (r_fa fo39_3 rfl) rfl ?_
   refine x_v (r_ld ty3 rfl pK (by rfl)) rfl ?_
   refine x_v (r_bd (vs := [_, _]) rfl ⟨rfl, rfl, rfl⟩ (bd69_0_1 _ _)) rfl ?_
   refine x_v (r_nc rfl) rfl ?_
   refine x_v (r_fa fo88_3 rfl) rfl ?_
   refine x_e (r_st ty69 rfl rfl rfl rfl rfl uD oV) ?_
   refine XL.nil ?_
   refine hK8 _ _ ?_
   refine XC.keep [(0, _), (6, _), (7, _), (8, _)] ⟨rfl, rfl, rfl, rfl, trivial⟩ ?_
   refine XC.exit rfl ?_
   refine hK4 _ _ ?_
   refine XC.keep [(0, _), (6, _), (7, _), (8, _)] ⟨rfl, rfl, rfl, rfl, trivial⟩ ?_
   refine XC.region ?_
   refine x_v (r_add rfl rfl (by omega)) rfl ?_
   refine x_v (r_mv rfl) rfl ?_
   refine XL.nil ?_
   rw [show (o.1.epoch) = (foldR s1 o.1).hold.1 by unfold foldR; rw [if_pos hc2], show (o.1.site) = (foldR s1 o.1).hold.2 by unfold foldR; rw [if_pos hc2], show s1.used = (foldR s1 o.1).used by unfold foldR; rw [if_pos hc2]]
   refine ⟨(i + 1, foldR s1 o.1, g1, g2), ?_, ?_, ⟨rfl, rfl, rfl, rfl, trivial⟩, gS⟩
   ·exact ⟨by dsimp only; omega, by dsimp only; rw [fold_one s0 hoi, hs1], hm1.reign hc2, hz1.step hzo⟩
   ·dsimp only; omega
  ·refine XC.skip ?_
   refine hK6 _ _ ?_
   refine XC.keep [(0, _), (5, _), (6, _), (7, _), (8, _)] ⟨rfl, rfl, rfl, rfl, rfl, trivial⟩ ?_
   refine XC.seq fun K9 hK9 => ?_
   refine XC.draw [blk b 91 [.map (some mL), .int .i64 s1.used, .map (some mO), .int .i64 s1.hold.1, .int .i64 s1.hold.2, .slice hA hn hc, .slice lA ln lc, .int .i64 fe, .int .i64 se, .int .i64 qu, .int .i64 ro], blk b5 39 [.int .i64 o.1.n, .int .i64 o.1.epoch, .int .i64 o.1.kind, .int .i64 o.1.site, .int .i64 o.1.client, .int .i64 o.1.seq, str o.1.name, .int .i64 o.1.size, .slice o.2.1 o.1.hs.length o.2.2], mpf mL .string g1] true [(0, false), (1, false), (2, false), (3, false), (4, false), (5, false), (6, false), (7, false), (8, false), (9, false), (10, false), (11, false), (12, false), (13, false), (14, false), (15, true)] (by kernel_rfl) (by kernel_rfl) ?_
   refine y_v rfl (r_mv rfl) gT rfl ?_
   refine y_v rfl (r_nc rfl) gT rfl ?_
   refine y_v rfl (r_fa fo88_1 rfl) gT rfl ?_
   refine y_v rfl (r_ld ty3 rfl pK (by rfl)) gT rfl ?_
   refine y_v rfl (r_mv rfl) gT rfl ?_
   refine y_v rfl (r_nc rfl) gT rfl ?_
   refine y_v rfl (r_fa fo88_0 rfl) gT rfl ?_
   refine y_v rfl (r_ld ty85 rfl pK (by rfl)) gT rfl ?_
   refine y_v rfl (r_fa fo39_6 rfl) gT rfl ?_
   refine y_v rfl (r_ld ty9 rfl pK (by rfl)) gT rfl ?_
   refine y_v rfl (r_lk1 Try.underlying85 Try.underlying9 ty37 rfl rfl trivial pK) gT rfl ?_
   rw [hlk]
   refine y_v rfl (r_fd Try.underlying37 rfl ty3 rfl rfl) gT rfl ?_
   refine y_v rfl (r_sub rfl rfl (by omega)) gT rfl ?_
   refine y_v rfl (r_nc rfl) gT rfl ?_
   refine y_v rfl (r_fa fo88_1 rfl) gT rfl ?_
   refine y_e rfl (r_st ty3 rfl rfl rfl rfl rfl uD oV) (fun h => absurd h (by decide)) ?_
   refine XH.nil ?_
   refine hK9 _ _ ?_
   refine XC.keep [(0, _), (5, _), (6, _), (7, _), (8, _)] ⟨rfl, rfl, rfl, rfl, rfl, trivial⟩ ?_
   refine XC.seq fun K10 hK10 => ?_
   refine XC.draw [blk b 91 [.map (some mL), .int .i64 (s1.used - szo (s1.live o.1.name)), .map (some mO), .int .i64 s1.hold.1, .int .i64 s1.hold.2, .slice hA hn hc, .slice lA ln lc, .int .i64 fe, .int .i64 se, .int .i64 qu, .int .i64 ro], blk b5 39 [.int .i64 o.1.n, .int .i64 o.1.epoch, .int .i64 o.1.kind, .int .i64 o.1.site, .int .i64 o.1.client, .int .i64 o.1.seq, str o.1.name, .int .i64 o.1.size, .slice o.2.1 o.1.hs.length o.2.2]] true [(0, false), (1, false), (2, false), (3, false), (4, false), (5, false), (6, true)] (by kernel_rfl) (by kernel_rfl) ?_
   refine y_v rfl (r_mv rfl) gT rfl ?_
   refine y_v rfl (r_nc rfl) gT rfl ?_
   refine y_v rfl (r_fa fo88_0 rfl) gT rfl ?_
   refine y_v rfl (r_ld ty85 rfl pK (by rfl)) gT rfl ?_
   refine y_v rfl (r_fa fo39_6 rfl) gT rfl ?_
   refine y_v rfl (r_ld ty9 rfl pK (by rfl)) gT rfl ?_
   refine y_e rfl (r_del (updV g1 (str o.1.name) none) Try.underlying85 Try.underlying9 rfl rfl trivial (updV_at _ _ _) (updV_else _ _ _) uD) (fun h => absurd h (by decide)) ?_
   refine XH.nil ?_
   refine hK10 _ _ ?_
   refine XC.keep [(0, _), (5, _), (6, _), (7, _), (8, _)] ⟨rfl, rfl, rfl, rfl, rfl, trivial⟩ ?_
   refine XC.seqcut (σ := Int × (Value → Option Value)) (fun s => [(0, .pointer (some ⟨b, 0, none⟩)), (5, .pointer (some ⟨b5, 0, none⟩)), (6, .slice (some ⟨ob, oo, none⟩) L.length c), (7, .int .i64 (L.length : Int)), (8, .int .i64 (i : Int))]) (fun s => blk b5 39 [.int .i64 o.1.n, .int .i64 o.1.epoch, .int .i64 o.1.kind, .int .i64 o.1.site, .int .i64 o.1.client, .int .i64 o.1.seq, str o.1.name, .int .i64 o.1.size, .slice o.2.1 o.1.hs.length o.2.2] :: blk b 91 [.map (some mL), .int .i64 s.1, .map (some mO), .int .i64 s1.hold.1, .int .i64 s1.hold.2, .slice hA hn hc, .slice lA ln lc, .int .i64 fe, .int .i64 se, .int .i64 qu, .int .i64 ro] :: mpf mL .string s.2 :: mpf mO (.int .i64) g2 :: Fr) (fun s => s.1 = (foldR s1 o.1).used ∧ ∃ v, (if o.1.kind = 1 then ∃ A n c, v = some (.agg #[.int .i64 o.1.size, .slice A n c]) else v = none) ∧ s.2 (str o.1.name) = v ∧ ∀ x, x ≠ str o.1.name → s.2 x = g1 x) ?_ ?_
   ·refine XC.seq fun K12 hK12 => ?_
    refine XC.region ?_
    refine x_v (r_fa fo39_2 rfl) rfl ?_
    refine x_v (r_ld ty3 rfl pK (by rfl)) rfl ?_
    refine x_v (r_eq rfl rfl) rfl ?_
    refine XL.nil ?_
    refine hK12 _ _ ?_
    refine XC.keep [(0, _), (5, _), (6, _), (7, _), (8, _), (46, _)] ⟨rfl, rfl, rfl, rfl, rfl, rfl, trivial⟩ ?_
    refine XC.cond_d rfl (fun hc3 => ?_) (fun hc3 => ?_)
    ·refine XC.seq fun K13 hK13 => ?_
     refine XC.draw [blk b 91 [.map (some mL), .int .i64 (s1.used - szo (s1.live o.1.name)), .map (some mO), .int .i64 s1.hold.1, .int .i64 s1.hold.2, .slice hA hn hc, .slice lA ln lc, .int .i64 fe, .int .i64 se, .int .i64 qu, .int .i64 ro], blk b5 39 [.int .i64 o.1.n, .int .i64 o.1.epoch, .int .i64 o.1.kind, .int .i64 o.1.site, .int .i64 o.1.client, .int .i64 o.1.seq, str o.1.name, .int .i64 o.1.size, .slice o.2.1 o.1.hs.length o.2.2]] true [(0, false), (1, false), (2, false), (3, false), (4, false), (5, false), (6, false), (7, false), (8, true)] (by kernel_rfl) (by kernel_rfl) ?_
     refine y_v rfl (r_mv rfl) gT rfl ?_
     refine y_v rfl (r_nc rfl) gT rfl ?_
     refine y_v rfl (r_fa fo88_0 rfl) gT rfl ?_
     refine y_v rfl (r_ld ty85 rfl pK (by rfl)) gT rfl ?_
     refine y_v rfl (r_fa fo39_6 rfl) gT rfl ?_
     refine y_v rfl (r_ld ty9 rfl pK (by rfl)) gT rfl ?_
     refine y_v rfl (r_fa fo39_7 rfl) gT rfl ?_
     refine y_v rfl (r_lda (l' := [_, _]) ty37 rfl pK rfl (Sub.get sU)) gT rfl ?_
     refine y_e rfl (r_mu (updV (updV g1 (str o.1.name) none) (str o.1.name) (some (.agg #[.int .i64 o.1.size, .slice o.2.1 o.1.hs.length o.2.2]))) Try.underlying85 Try.underlying9 rfl rfl rfl trivial (updV_at _ _ _) (updV_else _ _ _) uD) (fun h => absurd h (by decide)) ?_
     refine XH.nil ?_
     refine hK13 _ _ ?_
     refine XC.keep [(0, _), (5, _), (6, _), (7, _), (8, _)] ⟨rfl, rfl, rfl, rfl, rfl, trivial⟩ ?_
     refine XC.draw [blk b 91 [.map (some mL), .int .i64 (s1.used - szo (s1.live o.1.name)), .map (some mO), .int .i64 s1.hold.1, .int .i64 s1.hold.2, .slice hA hn hc, .slice lA ln lc, .int .i64 fe, .int .i64 se, .int .i64 qu, .int .i64 ro], blk b5 39 [.int .i64 o.1.n, .int .i64 o.1.epoch, .int .i64 o.1.kind, .int .i64 o.1.site, .int .i64 o.1.client, .int .i64 o.1.seq, str o.1.name, .int .i64 o.1.size, .slice o.2.1 o.1.hs.length o.2.2]] true [(0, false), (1, false), (2, false), (3, false), (4, false), (5, false), (6, false), (7, false), (8, false), (9, false), (10, true)] (by kernel_rfl) (by kernel_rfl) ?_
     refine y_v rfl (r_mv rfl) gT rfl ?_
     refine y_v rfl (r_nc rfl) gT rfl ?_
     refine y_v rfl (r_fa fo88_1 rfl) gT rfl ?_
     refine y_v rfl (r_ld ty3 rfl pK (by rfl)) gT rfl ?_
     refine y_v rfl (r_fa fo39_7 rfl) gT rfl ?_
     refine y_v rfl (r_fa fo37_0 rfl) gT rfl ?_
     refine y_v rfl (r_ld ty3 rfl pK (by rfl)) gT rfl ?_
     refine y_v rfl (r_add rfl rfl (by omega)) gT rfl ?_
     refine y_v rfl (r_nc rfl) gT rfl ?_
     refine y_v rfl (r_fa fo88_1 rfl) gT rfl ?_
     refine y_e rfl (r_st ty3 rfl rfl rfl rfl rfl uD oV) (fun h => absurd h (by decide)) ?_
     refine XH.nil ?_
     exact ⟨(s1.used - szo (s1.live o.1.name) + o.1.size, updV (updV g1 (str o.1.name) none) (str o.1.name) (some (.agg #[.int .i64 o.1.size, .slice o.2.1 o.1.hs.length o.2.2]))), ⟨by unfold foldR; rw [if_neg hc2]; dsimp only; rw [if_pos hc3], _, by rw [if_pos hc3]; exact ⟨_, _, _, rfl⟩, updV_at _ _ _, fun x hx => (updV_else _ _ _ x hx).trans (updV_else _ _ _ x hx)⟩, ⟨rfl, rfl, rfl, rfl, rfl, trivial⟩, gS⟩
    ·refine XC.skip ?_
     exact ⟨(s1.used - szo (s1.live o.1.name), updV g1 (str o.1.name) none), ⟨by unfold foldR; rw [if_neg hc2]; dsimp only; rw [if_neg hc3]; omega, none, by rw [if_neg hc3], updV_at _ _ _, updV_else _ _ _⟩, ⟨rfl, rfl, rfl, rfl, rfl, trivial⟩, gS⟩
   ·rintro ⟨ux, g3⟩ ⟨hux, v3, hv3, hg3, hg4⟩
    dsimp only at hux hg3 hg4 ⊢
    refine XC.draw [blk b 91 [.map (some mL), .int .i64 ux, .map (some mO), .int .i64 s1.hold.1, .int .i64 s1.hold.2, .slice hA hn hc, .slice lA ln lc, .int .i64 fe, .int .i64 se, .int .i64 qu, .int .i64 ro], blk b5 39 [.int .i64 o.1.n, .int .i64 o.1.epoch, .int .i64 o.1.kind, .int .i64 o.1.site, .int .i64 o.1.client, .int .i64 o.1.seq, str o.1.name, .int .i64 o.1.size, .slice o.2.1 o.1.hs.length o.2.2]] true [(0, false), (1, false), (2, false), (3, false), (4, false), (5, false), (6, false), (7, true)] (by kernel_rfl) (by kernel_rfl) ?_
    refine y_v rfl (r_mv rfl) gT rfl ?_
    refine y_v rfl (r_nc rfl) gT rfl ?_
    refine y_v rfl (r_fa fo88_2 rfl) gT rfl ?_
    refine y_v rfl (r_ld ty86 rfl pK (by rfl)) gT rfl ?_
    refine y_v rfl (r_fa fo39_4 rfl) gT rfl ?_
    refine y_v rfl (r_ld ty3 rfl pK (by rfl)) gT rfl ?_
    refine y_v rfl (r_lda (l' := [_, _, _, _, _, _, _, _, _]) ty39 rfl pK rfl (Sub.get sU)) gT rfl ?_
    refine y_e rfl (r_mu (updV g2 (.int .i64 o.1.client) (some (.agg (odc o).toArray))) Try.underlying86 Try.underlying3 rfl rfl rfl rfl (updV_at _ _ _) (updV_else _ _ _) uD) (fun h => absurd h (by decide)) ?_
    refine XH.nil ?_
    refine hK4 _ _ ?_
    refine XC.keep [(0, _), (6, _), (7, _), (8, _)] ⟨rfl, rfl, rfl, rfl, trivial⟩ ?_
    refine XC.region ?_
    refine x_v (r_add rfl rfl (by omega)) rfl ?_
    refine x_v (r_mv rfl) rfl ?_
    refine XL.nil ?_
    rw [hux, show s1.hold.1 = (foldR s1 o.1).hold.1 by unfold foldR; rw [if_neg hc2], show s1.hold.2 = (foldR s1 o.1).hold.2 by unfold foldR; rw [if_neg hc2]]
    refine ⟨(i + 1, foldR s1 o.1, g3, updV g2 (.int .i64 o.1.client) (some (.agg (odc o).toArray))), ?_, ?_, ⟨rfl, rfl, rfl, rfl, trivial⟩, gS⟩
    ·exact ⟨by dsimp only; omega, by dsimp only; rw [fold_one s0 hoi, hs1], hm1.step (od := o) hc2 hv3 hg3 hg4 (updV_at _ _ _) (updV_else _ _ _), hz1.step hzo⟩
    ·dsimp only; omega
 ·refine XC.exit rfl ?_
  rw [List.take_of_length_le (by omega)] at hs1
  exact fin0 (⟨rfl, s1, g1, g2, hs1, rfl, hm1, by rw [show L.length = i by omega]; exact hz1⟩) gS
end Go.Proofs.Ytheilpcbilnadaa

/- Polls: three nodes in memory; mails are on their way. -/
import Derived.Test.YtlogcldbflemfaaPoll17
import Derived.Test.YtlogcldbflemfaaRaftM
namespace Go.Proofs.Ytlogcldbflemfaa
open Go.Sx Go.Rf
set_option linter.unusedVariables false

/-- A node's part in memory. -/
structure NdR where
  b : Nat
  p : Pl
  A : Option Addr
  c : Nat
  M : Option Nat
def nd (x : NdR) : HP := sep (blk x.b 90 (pc x.p x.A x.c x.M)) (vmo x.M)
def nds : List NdR → HP
  | [] => sl none 0 0 3 1 []
  | x :: l => sep (nd x) (nds l)
theorem nds_open : ∀ (l : List NdR) (n : Nat) (x : NdR) (h : Heap), l[n]? = some x → nds l h → sep (nd x) (nds (l.eraseIdx n)) h
  | [], n, x, h, hx, H => by simp at hx
  | y :: l, 0, x, h, hx, H => by
    have : y = x := by simpa using hx
    subst this; exact H
  | y :: l, n + 1, x, h, hx, H => by
    have hx' : l[n]? = some x := by simpa using hx
    exact sep_swap (sep_mono (fun _ a => a) (fun g hg => nds_open l n x g hx' hg) H)
theorem nds_close : ∀ (l : List NdR) (n : Nat) (x : NdR) (h : Heap), n < l.length → sep (nd x) (nds (l.eraseIdx n)) h → nds (l.set n x) h
  | [], n, x, h, hx, H => by simp at hx
  | y :: l, 0, x, h, hx, H => H
  | y :: l, n + 1, x, h, hx, H => by
    have hx' : n < l.length := by simpa using hx
    exact sep_mono (fun _ a => a) (fun g hg => nds_close l n x g hx' hg) (sep_swap H)
theorem own_open {W0 w : World} {l : List NdR} {n : Nat} {x : NdR} {Rs : List HP} (hx : l[n]? = some x) (H : Own W0 w (nds l :: Rs)) : Own W0 w (blk x.b 90 (pc x.p x.A x.c x.M) :: vmo x.M :: nds (l.eraseIdx n) :: Rs) :=
  have h1 : Own W0 w (sep (nd x) (nds (l.eraseIdx n)) :: Rs) := ⟨H.os, H.tape, H.output, H.size, H.old, let ⟨h, a, b⟩ := H.own; ⟨h, sep_mono (fun g hg => nds_open l n x g hx hg) (fun _ a => a) a, b⟩⟩
  (show Own W0 w (sep (blk x.b 90 (pc x.p x.A x.c x.M)) (vmo x.M) :: nds (l.eraseIdx n) :: Rs) from h1.unstash).unstash
theorem own_close {W0 w : World} {l : List NdR} {n : Nat} {x : NdR} {Rs : List HP} (hn : n < l.length) (H : Own W0 w (blk x.b 90 (pc x.p x.A x.c x.M) :: vmo x.M :: nds (l.eraseIdx n) :: Rs)) : Own W0 w (nds (l.set n x) :: Rs) :=
  have h1 : Own W0 w (sep (nd x) (nds (l.eraseIdx n)) :: Rs) := (show Own W0 w (nd x :: nds (l.eraseIdx n) :: Rs) from H.stash).stash
  ⟨h1.os, h1.tape, h1.output, h1.size, h1.old, let ⟨h, a, b⟩ := h1.own; ⟨h, sep_mono (fun g hg => nds_close l n x g hn hg) (fun _ a => a) a, b⟩⟩

/-- A mail on its way, in memory: from, to, the mail. -/
def fc (f : Int × Int × Mx) : List Value := .int .i64 f.1 :: .int .i64 f.2.1 :: mc f.2.2
theorem fc_len (f : Int × Int × Mx) : (fc f).length = 19 := rfl
theorem fc_one (f : Int × Int × Mx) : (fc f).all (·.oneCell') = true := rfl
def fv (f : Int × Int × Mx) : Fl := (f.1, f.2.1, f.2.2.m)
def pn (l : List NdR) (i : Nat) : Value := .pointer ((l[i]?).map fun x => (⟨x.b, 0, none⟩ : Addr))
/-- A site. -/
def sic (l : List NdR) (A : Option Addr) (n c : Nat) : List Value := [pn l 0, pn l 1, pn l 2, .slice A n c]

theorem sput_tr {W0 : World} {Fr : List HP} (sb : Nat) (l : List NdR) (wA : Option Addr) (wc : Nat) (L : List (Int × Int × Mx)) (frm : Int) (XA : Option Addr) (xc : Nat) (S : List (Int × Mx)) (hr : Rdb W0 Fr XA S.length 18 (cells sc S)) (hS : S.length ≤ 9223372036854775807) (hLl : L.length ≤ 100000) :
    Tr W0 Try.prog 26 [.pointer (some ⟨sb, 0, none⟩), .int .i64 frm, .slice XA S.length xc] (blk sb 68 (sic l wA L.length wc) :: sl wA L.length wc 109 19 (cells fc L) :: Fr) (fun v Rs' => v = .tuple #[] ∧ ∃ wA2 wc2 L2, Rs' = blk sb 68 (sic l wA2 L2.length wc2) :: sl wA2 L2.length wc2 109 19 (cells fc L2) :: Fr ∧ L2.map fv = putW (L.map fv) frm (S.map sv) ∧ L2.length ≤ max L.length 200 ∧ ∀ f ∈ L2, f ∈ L ∨ ∃ s ∈ S, f.2.2 = s.2) := by
  refine Entry.tr (N := 46) (rs := []) ⟨_, Try.func26, rfl, by kernel_rfl, rfl, rfl⟩ rfl ?_
  refine XC.seq fun K1 hK1 => ?_
  refine XC.region ?_
  refine x_v (r_mv rfl) rfl ?_
  refine x_v (r_lensl Try.underlying51 rfl) rfl ?_
  refine x_v (r_mv rfl) rfl ?_
  refine XL.nil ?_
  refine hK1 _ _ ?_
  refine XC.keep [(0, _), (1, _), (8, _), (9, _), (10, _)] ⟨rfl, rfl, rfl, rfl, rfl, trivial⟩ ?_
  refine XC.block ?_
  refine XC.loop (σ := Nat × List (Int × Int × Mx) × Option Addr × Nat) (fun s => [(0, .pointer (some ⟨sb, 0, none⟩)), (1, .int .i64 frm), (8, .slice XA S.length xc), (9, .int .i64 (S.length : Int)), (10, .int .i64 (s.1 : Int))]) (fun s => blk sb 68 (sic l s.2.2.1 s.2.1.length s.2.2.2) :: sl s.2.2.1 s.2.1.length s.2.2.2 109 19 (cells fc s.2.1) :: Fr) (fun s => s.1 ≤ S.length ∧ s.2.1.length ≤ max L.length 200 ∧ putW (L.map fv) frm (S.map sv) = putW (s.2.1.map fv) frm ((S.drop s.1).map sv) ∧ ∀ f ∈ s.2.1, f ∈ L ∨ ∃ q ∈ S, f.2.2 = q.2) (fun s => S.length - s.1) (0, L, wA, wc) ?_ ⟨rfl, rfl, rfl, rfl, rfl, trivial⟩ (by repeat (first | exact Gets.done _ | exact Gets.all _ | (apply Gets.step; focus ((repeat (first | exact Pick.head _ _ | apply Pick.tail)); done)) | apply Gets.drop)) ?_
  · exact ⟨Nat.zero_le _, by dsimp only; omega, rfl, fun f h => .inl h⟩
  rintro ⟨i, L2, A2, c2⟩ ⟨hi, hlen, hpw, hin⟩
  dsimp only at hi hlen hpw hin ⊢
  refine XC.seq fun K2 hK2 => ?_
  refine XC.region ?_
  refine x_v (r_lt rfl rfl) rfl ?_
  refine XL.nil ?_
  refine hK2 _ _ ?_
  refine XC.keep [(0, _), (1, _), (8, _), (9, _), (10, _), (11, _)] ⟨rfl, rfl, rfl, rfl, rfl, rfl, trivial⟩ ?_
  refine XC.seq fun K3 hK3 => ?_
  refine XC.cond_d rfl (fun hc1 => ?_) (fun hc1 => ?_)
  · refine XC.skip ?_
    refine hK3 _ _ ?_
    refine XC.keep [(0, _), (1, _), (8, _), (9, _), (10, _)] ⟨rfl, rfl, rfl, rfl, rfl, trivial⟩ ?_
    refine XC.seq fun K4 hK4 => ?_
    refine XC.block ?_
    refine XC.seq fun K5 hK5 => ?_
    obtain ⟨q, hq⟩ : ∃ q, S[i]? = some q := ⟨_, List.getElem?_eq_getElem (by omega)⟩
    have hqm := List.mem_of_getElem? hq
    have hdr : (S.drop i).map sv = (q.1, q.2.m) :: (S.drop (i + 1)).map sv := by (obtain ⟨h1, h2⟩ := List.getElem?_eq_some_iff.1 hq; rw [List.drop_eq_getElem_cons h1, h2]; rfl)
    obtain ⟨ob, oo, rfl, hat⟩ := hr.at_ (by omega)
    refine XC.region ?_
    refine x_v (r_ia (k := i) Try.underlying51 ty92 rfl rfl (by omega) (by omega)) rfl ?_
    refine x_v (r_ldar (l' := sc q) ty92 rfl rfl (fun w hw j u hu => by rw [Nat.add_assoc]; exact hat w (Gets.own (by repeat (first | exact Gets.done _ | exact Gets.all _ | (apply Gets.step; focus ((repeat (first | exact Pick.head _ _ | apply Pick.tail)); done)) | apply Gets.drop)) hw) _ u (cells_get sc_len S _ _ hq j u hu))) rfl ?_
    refine x_a (r_al ty92 rfl) rfl fun b7 => ?_
    refine x_e (r_st ty92 rfl rfl rfl rfl rfl (by repeat (first | exact Upd.head _ _ _ | apply Upd.tail)) (by repeat (first | exact Over.nil _ | apply Over.put | apply Over.skip))) ?_
    refine XL.nil ?_
    refine hK5 _ _ ?_
    refine XC.keep [(0, _), (1, _), (7, _), (8, _), (9, _), (10, _)] ⟨rfl, rfl, rfl, rfl, rfl, rfl, trivial⟩ ?_
    refine XC.seq fun K6 hK6 => ?_
    refine XC.region ?_
    refine x_v (r_mv rfl) rfl ?_
    refine x_v (r_nc rfl) rfl ?_
    refine x_v (r_fa fo68_1 rfl) rfl ?_
    refine x_v (r_ld ty66 rfl (by repeat (first | exact Pick.head _ _ | apply Pick.tail)) (by rfl)) rfl ?_
    refine x_v (r_lensl Try.underlying66 rfl) rfl ?_
    refine x_v (r_lt rfl rfl) rfl ?_
    refine x_v (r_mv rfl) rfl ?_
    refine XL.splitd 20 rfl (fun hg20 => ?_) (fun hg20 => ?_)
    · refine x_want rfl rfl rfl ?_
      refine x_v (r_fa fo92_0 rfl) rfl ?_
      refine x_want rfl rfl rfl ?_
      refine x_v (r_ld ty3 rfl (by repeat (first | exact Pick.head _ _ | apply Pick.tail)) (by rfl)) rfl ?_
      refine x_want rfl rfl rfl ?_
      refine x_v (r_ge rfl rfl) rfl ?_
      refine x_v (r_pk_t rfl rfl) rfl ?_
      refine x_v (r_mv rfl) rfl ?_
      refine XL.splitd 25 rfl (fun hg25 => ?_) (fun hg25 => ?_)
      · refine x_want rfl rfl rfl ?_
        refine x_v (r_fa fo92_0 rfl) rfl ?_
        refine x_want rfl rfl rfl ?_
        refine x_v (r_ld ty3 rfl (by repeat (first | exact Pick.head _ _ | apply Pick.tail)) (by rfl)) rfl ?_
        refine x_want rfl rfl rfl ?_
        refine x_v (r_lt rfl rfl) rfl ?_
        refine x_v (r_pk_t rfl rfl) rfl ?_
        refine XL.nil ?_
        refine hK6 _ _ ?_
        refine XC.keep [(0, _), (1, _), (7, _), (8, _), (9, _), (10, _), (29, _)] ⟨rfl, rfl, rfl, rfl, rfl, rfl, rfl, trivial⟩ ?_
        refine XC.cond_d rfl (fun hc2 => ?_) (fun hc2 => ?_)
        · obtain ⟨f1, hf1⟩ : ∃ f1 : Int × Int × Mx, f1 = (frm, q.1, q.2) := ⟨_, rfl⟩
          refine XC.draw [blk b7 92 (sc q), blk sb 68 (sic l A2 L2.length c2)] true [(0, false), (1, false), (2, false), (3, false), (4, false), (5, false), (6, false), (7, false), (8, false), (9, false), (10, false), (11, true), (12, true), (13, false), (14, false), (15, true)] (by kernel_rfl) (by kernel_rfl) ?_
          refine y_v rfl (r_mv rfl) (fun _ h => Gets.own (by repeat (first | exact Gets.done _ | exact Gets.all _ | (apply Gets.step; focus ((repeat (first | exact Pick.head _ _ | apply Pick.tail)); done)) | apply Gets.drop)) h) rfl ?_
          refine y_v rfl (r_mv rfl) (fun _ h => Gets.own (by repeat (first | exact Gets.done _ | exact Gets.all _ | (apply Gets.step; focus ((repeat (first | exact Pick.head _ _ | apply Pick.tail)); done)) | apply Gets.drop)) h) rfl ?_
          refine y_v rfl (r_nc rfl) (fun _ h => Gets.own (by repeat (first | exact Gets.done _ | exact Gets.all _ | (apply Gets.step; focus ((repeat (first | exact Pick.head _ _ | apply Pick.tail)); done)) | apply Gets.drop)) h) rfl ?_
          refine y_v rfl (r_fa fo68_1 rfl) (fun _ h => Gets.own (by repeat (first | exact Gets.done _ | exact Gets.all _ | (apply Gets.step; focus ((repeat (first | exact Pick.head _ _ | apply Pick.tail)); done)) | apply Gets.drop)) h) rfl ?_
          refine y_v rfl (r_ld ty66 rfl (by repeat (first | exact Pick.head _ _ | apply Pick.tail)) (by rfl)) (fun _ h => Gets.own (by repeat (first | exact Gets.done _ | exact Gets.all _ | (apply Gets.step; focus ((repeat (first | exact Pick.head _ _ | apply Pick.tail)); done)) | apply Gets.drop)) h) rfl ?_
          refine y_v rfl (r_mv rfl) (fun _ h => Gets.own (by repeat (first | exact Gets.done _ | exact Gets.all _ | (apply Gets.step; focus ((repeat (first | exact Pick.head _ _ | apply Pick.tail)); done)) | apply Gets.drop)) h) rfl ?_
          refine y_v rfl (r_fa fo92_0 rfl) (fun _ h => Gets.own (by repeat (first | exact Gets.done _ | exact Gets.all _ | (apply Gets.step; focus ((repeat (first | exact Pick.head _ _ | apply Pick.tail)); done)) | apply Gets.drop)) h) rfl ?_
          refine y_v rfl (r_ld ty3 rfl (by repeat (first | exact Pick.head _ _ | apply Pick.tail)) (by rfl)) (fun _ h => Gets.own (by repeat (first | exact Gets.done _ | exact Gets.all _ | (apply Gets.step; focus ((repeat (first | exact Pick.head _ _ | apply Pick.tail)); done)) | apply Gets.drop)) h) rfl ?_
          refine y_v rfl (r_fa fo92_1 rfl) (fun _ h => Gets.own (by repeat (first | exact Gets.done _ | exact Gets.all _ | (apply Gets.step; focus ((repeat (first | exact Pick.head _ _ | apply Pick.tail)); done)) | apply Gets.drop)) h) rfl ?_
          refine y_v rfl (r_lda (l' := [_, _, _, _, _, _, _, _, _, _, _, _, _, _, _, _, _]) ty42 rfl (by repeat (first | exact Pick.head _ _ | apply Pick.tail)) rfl (Sub.get (by repeat (first | exact Sub.nil _ | apply Sub.take | apply Sub.skip)))) (fun _ h => Gets.own (by repeat (first | exact Gets.done _ | exact Gets.all _ | (apply Gets.step; focus ((repeat (first | exact Pick.head _ _ | apply Pick.tail)); done)) | apply Gets.drop)) h) rfl ?_
          refine y_v rfl (r_bd (vs := [_, _, _]) rfl ⟨rfl, rfl, rfl, rfl⟩ (bd109_0_1_2 _ _ _ _ _ _ _ _ _ _ _ _ _ _ _ _ _ _ _ _ _ _ _ _ _ _ _)) (fun _ h => Gets.own (by repeat (first | exact Gets.done _ | exact Gets.all _ | (apply Gets.step; focus ((repeat (first | exact Pick.head _ _ | apply Pick.tail)); done)) | apply Gets.drop)) h) rfl ?_
          refine y_a rfl (r_bs (vs := [_]) rfl ⟨rfl, rfl⟩ (bs66_1_0 _ _ _ _ _ _ _ _ _ _ _ _ _ _ _ _ _ _ _ _ _ _ _ _ _ _ _)) (fun _ _ _ h => Gets.own (by repeat (first | exact Gets.done _ | exact Gets.all _ | (apply Gets.step; focus ((repeat (first | exact Pick.head _ _ | apply Pick.tail)); done)) | apply Gets.drop)) h) rfl fun b41 => ?_
          refine y_a rfl (r_app Try.underlying66 ty109 rfl (by decide) rfl rfl (by repeat (first | exact Pick.head _ _ | apply Pick.tail)) (Rdb.of_blk (b := b41) (n := 1) (sz := 19) (xs := fc f1) (by repeat (first | exact Pick.head _ _ | apply Pick.tail)) 0 rfl (fun _ _ h => by rw [hf1] at h; rw [Nat.zero_add]; exact h)) (fc_one _) (by unfold maxLen; omega) (by omega)) (fun _ _ _ h => Gets.own (by repeat (first | exact Gets.done _ | exact Gets.all _ | (apply Gets.step; focus ((repeat (first | exact Pick.head _ _ | apply Pick.tail)); done)) | apply Gets.drop)) h) rfl fun ⟨A42, c42⟩ => ?_
          dsimp only
          rw [show L2.length + 1 = (L2 ++ [f1]).length by simp, ← cells_one fc f1, ← cells_app]
          refine y_v rfl (r_nc rfl) (fun _ h => Gets.own (by repeat (first | exact Gets.done _ | exact Gets.all _ | (apply Gets.step; focus ((repeat (first | exact Pick.head _ _ | apply Pick.tail)); done)) | apply Gets.drop)) h) rfl ?_
          refine y_v rfl (r_fa fo68_1 rfl) (fun _ h => Gets.own (by repeat (first | exact Gets.done _ | exact Gets.all _ | (apply Gets.step; focus ((repeat (first | exact Pick.head _ _ | apply Pick.tail)); done)) | apply Gets.drop)) h) rfl ?_
          refine y_e rfl (r_st ty66 rfl rfl rfl rfl rfl (by repeat (first | exact Upd.head _ _ _ | apply Upd.tail)) (by repeat (first | exact Over.nil _ | apply Over.put | apply Over.skip))) (fun h => absurd h (by decide)) ?_
          refine XH.nil ?_
          refine hK4 _ _ ?_
          refine XC.keep [(0, _), (1, _), (8, _), (9, _), (10, _)] ⟨rfl, rfl, rfl, rfl, rfl, trivial⟩ ?_
          refine XC.region ?_
          refine x_v (r_add rfl rfl (by omega)) rfl ?_
          refine x_v (r_mv rfl) rfl ?_
          refine XL.nil ?_
          refine ⟨(i + 1, L2 ++ [f1], A42, c42), ?_, ?_, ⟨rfl, rfl, rfl, rfl, rfl, trivial⟩, (by repeat (first | exact Gets.done _ | exact Gets.all _ | (apply Gets.step; focus ((repeat (first | exact Pick.head _ _ | apply Pick.tail)); done)) | apply Gets.drop))⟩
          · exact ⟨by dsimp only; omega, by dsimp only; rw [List.length_append, List.length_singleton]; omega, by dsimp only; rw [hpw, hdr, hf1, List.map_append]; show putW (if _ then _ else _) frm _ = _; rw [if_pos ⟨by rw [List.length_map]; omega, by show 0 ≤ q.1; omega, by show q.1 < 3; omega⟩]; rfl, fun f hf => (List.mem_append.1 hf).elim (hin f) fun h => .inr ⟨q, hqm, by rw [List.mem_singleton.1 h, hf1]⟩⟩
          · dsimp only; omega
        · refine XC.skip ?_
          refine hK4 _ _ ?_
          refine XC.keep [(0, _), (1, _), (8, _), (9, _), (10, _)] ⟨rfl, rfl, rfl, rfl, rfl, trivial⟩ ?_
          refine XC.region ?_
          refine x_v (r_add rfl rfl (by omega)) rfl ?_
          refine x_v (r_mv rfl) rfl ?_
          refine XL.nil ?_
          refine ⟨(i + 1, L2, A2, c2), ?_, ?_, ⟨rfl, rfl, rfl, rfl, rfl, trivial⟩, (by repeat (first | exact Gets.done _ | exact Gets.all _ | (apply Gets.step; focus ((repeat (first | exact Pick.head _ _ | apply Pick.tail)); done)) | apply Gets.drop))⟩
          · exact ⟨by dsimp only; omega, hlen, by dsimp only; rw [hpw, hdr]; show putW (if _ then _ else _) frm _ = _; rw [if_neg (fun hh => by (have h1 := hh.1; have h2 : 0 ≤ q.1 := hh.2.1; have h3 : q.1 < 3 := hh.2.2; rw [List.length_map] at h1; omega))], hin⟩
          · dsimp only; omega
      · refine x_unwant rfl rfl rfl rfl rfl ?_
        refine x_unwant rfl rfl rfl rfl rfl ?_
        refine x_unwant rfl rfl rfl rfl rfl ?_
        refine x_v (r_pk_f rfl rfl) rfl ?_
        refine XL.nil ?_
        refine hK6 _ _ ?_
        refine XC.keep [(0, _), (1, _), (7, _), (8, _), (9, _), (10, _), (29, _)] ⟨rfl, rfl, rfl, rfl, rfl, rfl, rfl, trivial⟩ ?_
        refine XC.cond_f rfl ?_
        refine XC.skip ?_
        refine hK4 _ _ ?_
        refine XC.keep [(0, _), (1, _), (8, _), (9, _), (10, _)] ⟨rfl, rfl, rfl, rfl, rfl, trivial⟩ ?_
        refine XC.region ?_
        refine x_v (r_add rfl rfl (by omega)) rfl ?_
        refine x_v (r_mv rfl) rfl ?_
        refine XL.nil ?_
        refine ⟨(i + 1, L2, A2, c2), ?_, ?_, ⟨rfl, rfl, rfl, rfl, rfl, trivial⟩, (by repeat (first | exact Gets.done _ | exact Gets.all _ | (apply Gets.step; focus ((repeat (first | exact Pick.head _ _ | apply Pick.tail)); done)) | apply Gets.drop))⟩
        · exact ⟨by dsimp only; omega, hlen, by dsimp only; rw [hpw, hdr]; show putW (if _ then _ else _) frm _ = _; rw [if_neg (fun hh => by (have h1 := hh.1; have h2 : 0 ≤ q.1 := hh.2.1; have h3 : q.1 < 3 := hh.2.2; rw [List.length_map] at h1; omega))], hin⟩
        · dsimp only; omega
    · refine x_unwant rfl rfl rfl rfl rfl ?_
      refine x_unwant rfl rfl rfl rfl rfl ?_
      refine x_unwant rfl rfl rfl rfl rfl ?_
      refine x_v (r_pk_f rfl rfl) rfl ?_
      refine x_v (r_mv rfl) rfl ?_
      refine x_unwant rfl rfl rfl rfl rfl ?_
      refine x_unwant rfl rfl rfl rfl rfl ?_
      refine x_unwant rfl rfl rfl rfl rfl ?_
      refine x_v (r_pk_f rfl rfl) rfl ?_
      refine XL.nil ?_
      refine hK6 _ _ ?_
      refine XC.keep [(0, _), (1, _), (7, _), (8, _), (9, _), (10, _), (29, _)] ⟨rfl, rfl, rfl, rfl, rfl, rfl, rfl, trivial⟩ ?_
      refine XC.cond_f rfl ?_
      refine XC.skip ?_
      refine hK4 _ _ ?_
      refine XC.keep [(0, _), (1, _), (8, _), (9, _), (10, _)] ⟨rfl, rfl, rfl, rfl, rfl, trivial⟩ ?_
      refine XC.region ?_
      refine x_v (r_add rfl rfl (by omega)) rfl ?_
      refine x_v (r_mv rfl) rfl ?_
      refine XL.nil ?_
      refine ⟨(i + 1, L2, A2, c2), ?_, ?_, ⟨rfl, rfl, rfl, rfl, rfl, trivial⟩, (by repeat (first | exact Gets.done _ | exact Gets.all _ | (apply Gets.step; focus ((repeat (first | exact Pick.head _ _ | apply Pick.tail)); done)) | apply Gets.drop))⟩
      · exact ⟨by dsimp only; omega, hlen, by dsimp only; rw [hpw, hdr]; show putW (if _ then _ else _) frm _ = _; rw [if_neg (fun hh => by (have h1 := hh.1; have h2 : 0 ≤ q.1 := hh.2.1; have h3 : q.1 < 3 := hh.2.2; rw [List.length_map] at h1; omega))], hin⟩
      · dsimp only; omega
  · refine XC.exit rfl ?_
    obtain rfl : i = S.length := by omega
    rw [List.drop_length] at hpw
    exact fin0 (⟨rfl, A2, c2, L2, rfl, hpw.symm, hlen, hin⟩) (by repeat (first | exact Gets.done _ | exact Gets.all _ | (apply Gets.step; focus ((repeat (first | exact Pick.head _ _ | apply Pick.tail)); done)) | apply Gets.drop))
end Go.Proofs.Ytlogcldbflemfaa

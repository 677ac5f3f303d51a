/- Polls: a base put; mails that go out. -/
import Derived.Test.YtlogcldbflemfaaPoll2
namespace Go.Proofs.Ytlogcldbflemfaa
open Go.Sx Go.Rf
set_option linter.unusedVariables false

theorem rebase_tr {W0 : World} {Fr : List HP} {k : HP} {p : Pl} {A : Option Addr} {c : Nat} (b : Nat) (M : Option Nat) (i t : Int) (s : List UInt8) (h : PB W0 k p A c) (hi : 0 ≤ i ∧ i ≤ 2000000000000) :
    Tr W0 Try.prog 48 [.pointer (some ⟨b, 0, none⟩), .int .i64 i, .int .i64 t, str s] (blk b 90 (pc p A c M) :: k :: Fr) (fun v Rs' => v = .tuple #[] ∧ ∃ A2 c2 k2, Rs' = blk b 90 (pc (rebase p i t s) A2 c2 M) :: k2 :: Fr ∧ Ex W0 k k2 ∧ PB W0 k2 (rebase p i t s) A2 c2) := by
  have hel := h.el; have hb0 := h.b0; have hb1 := h.b1; have hec := h.ec
  have hbl : ∀ i, (behind p i).length ≤ p.es.length := fun i => by unfold behind; rw [List.length_drop]; omega
  have kn : ∀ u, termAt p i = some u → p.base ≤ i ∧ i ≤ p.base + p.es.length := fun u hu => by
    unfold termAt at hu; split at hu
    · omega
    · split at hu
      · cases hu
      · omega
  refine Entry.tr (N := 55) (rs := []) ⟨_, Try.func48, rfl, by kernel_rfl, rfl, rfl⟩ rfl ?_
  refine XC.seq fun K1 hK1 => ?_
  refine XC.region ?_
  refine x_v (r_as rfl) rfl ?_
  refine XL.nil ?_
  refine hK1 _ _ ?_
  refine XC.keep [(0, _), (1, _), (2, _), (3, _), (8, _)] ⟨rfl, rfl, rfl, rfl, rfl, trivial⟩ ?_
  refine XC.seqcut (σ := List En × Option Addr × Nat × HP) (fun s2 => [(0, .pointer (some ⟨b, 0, none⟩)), (1, .int .i64 i), (2, .int .i64 t), (3, str s), (8, .slice s2.2.1 s2.1.length s2.2.2.1)]) (fun s2 => blk b 90 (pc p A c M) :: s2.2.2.2 :: Fr) (fun s2 => s2.1 = (if termAt p i = some t then behind p i else []) ∧ Ex W0 k s2.2.2.2 ∧ Rdb W0 [s2.2.2.2] s2.2.1 s2.1.length 2 (cells ec s2.1) ∧ s2.1.length ≤ s2.2.2.1) ?_ ?_
  · refine XC.seq fun K3 hK3 => ?_
    refine XC.region ?_
    refine x_v (r_mv rfl) rfl ?_
    refine x_v (r_mv rfl) rfl ?_
    refine x_c (r_call0 (args := [_, _]) ⟨rfl, rfl, rfl⟩ (term_tr b M i h (by omega)) (by repeat (first | exact Gets.done _ | exact Gets.all _ | (apply Gets.step; focus ((repeat (first | exact Pick.head _ _ | apply Pick.tail)); done)) | apply Gets.drop))) rfl ?_
    rintro _ _ ⟨rfl, rfl⟩
    refine x_v (r_mv rfl) rfl ?_
    refine x_v (r_ex rfl rfl) rfl ?_
    refine x_v (r_ex rfl rfl) rfl ?_
    refine x_v (r_as rfl) rfl ?_
    refine x_v (r_as rfl) rfl ?_
    refine XL.nil ?_
    refine hK3 _ _ ?_
    refine XC.keep [(0, _), (1, _), (2, _), (3, _), (8, _), (9, _), (10, _)] ⟨rfl, rfl, rfl, rfl, rfl, rfl, rfl, trivial⟩ ?_
    refine XC.seq fun K4 hK4 => ?_
    refine XC.region ?_
    refine x_v (r_mv rfl) rfl ?_
    refine x_v (r_mv rfl) rfl ?_
    refine XL.split 18 rfl (fun hg18 => ?_) (fun hg18 => ?_)
    · refine x_want rfl rfl rfl ?_
      refine x_v (r_mv rfl) rfl ?_
      refine x_want rfl rfl rfl ?_
      refine x_v (r_mv rfl) rfl ?_
      refine x_want rfl rfl rfl ?_
      refine x_v (r_eq rfl rfl) rfl ?_
      refine x_v (r_pk_t rfl rfl) rfl ?_
      refine XL.nil ?_
      refine hK4 _ _ ?_
      refine XC.keep [(0, _), (1, _), (2, _), (3, _), (8, _), (22, _)] ⟨rfl, rfl, rfl, rfl, rfl, rfl, trivial⟩ ?_
      refine XC.cond_d rfl (fun hc1 => ?_) (fun hc1 => ?_)
      · have hkt : termAt p i = some t := by (cases hq : termAt p i with | none => (rw [hq] at hg18; cases hg18) | some u => (rw [hq] at hc1; simp at hc1; rw [hc1]))
        refine XC.region ?_
        refine x_v (r_mv rfl) rfl ?_
        refine x_v (r_mv rfl) rfl ?_
        refine x_c (r_call0 (args := [_, _]) ⟨rfl, rfl, rfl⟩ (behind_tr b M i h (kn t hkt).1 (kn t hkt).2) (by repeat (first | exact Gets.done _ | exact Gets.all _ | (apply Gets.step; focus ((repeat (first | exact Pick.head _ _ | apply Pick.tail)); done)) | apply Gets.drop))) rfl ?_
        rintro _ _ ⟨⟨A25, c25, rfl, hr25, hcc⟩, rfl⟩
        refine x_c (r_call0 (args := [_]) ⟨rfl, rfl⟩ (clone_tr (Fr := blk b 90 (pc p A c M) :: k :: Fr) A25 c25 (behind p i) (hr25.mono (fun w h => Gets.own (by repeat (first | exact Gets.done _ | exact Gets.all _ | (apply Gets.step; focus ((repeat (first | exact Pick.head _ _ | apply Pick.tail)); done)) | apply Gets.drop)) h)) (by have := hbl i; omega)) (by repeat (first | exact Gets.done _ | exact Gets.all _ | (apply Gets.step; focus ((repeat (first | exact Pick.head _ _ | apply Pick.tail)); done)) | apply Gets.drop))) rfl ?_
        rintro _ _ ⟨A26, c26, rfl, rfl⟩
        refine XL.slnn (A := A26) (by repeat (first | exact Pick.head _ _ | apply Pick.tail)) fun _ hA26 => ?_
        refine XL.fact (R := sl A26 (behind p i).length c26 48 2 (cells ec (behind p i))) (by repeat (first | exact Pick.head _ _ | apply Pick.tail)) (fun w h => h.sl_len.2.1) fun hcap26 => ?_
        refine XL.stash (x := sl A26 (behind p i).length c26 48 2 (cells ec (behind p i))) (k := k) (by repeat (first | exact Pick.head _ _ | apply Pick.tail)) (by repeat (first | exact Pick.head _ _ | apply Pick.tail)) ?_
        refine x_v (r_as rfl) rfl ?_
        refine XL.nil ?_
        exact ⟨(behind p i, A26, c26, sep (sl A26 (behind p i).length c26 48 2 (cells ec (behind p i))) k), ⟨by rw [if_pos hkt], Ex.on W0 _ _, es_laid k hA26, hcap26⟩, ⟨rfl, rfl, rfl, rfl, rfl, trivial⟩, (by repeat (first | exact Gets.done _ | exact Gets.all _ | (apply Gets.step; focus ((repeat (first | exact Pick.head _ _ | apply Pick.tail)); done)) | apply Gets.drop))⟩
      · refine XC.skip ?_
        exact ⟨([], none, 0, k), ⟨by rw [if_neg (fun hq => hc1 (by rw [hq]; rfl))], Ex.refl W0 k, Rdb.nil _ _ _, Nat.le_refl _⟩, ⟨rfl, rfl, rfl, rfl, rfl, trivial⟩, (by repeat (first | exact Gets.done _ | exact Gets.all _ | (apply Gets.step; focus ((repeat (first | exact Pick.head _ _ | apply Pick.tail)); done)) | apply Gets.drop))⟩
    · refine x_unwant rfl rfl rfl rfl rfl ?_
      refine x_unwant rfl rfl rfl rfl rfl ?_
      refine x_unwant rfl rfl rfl rfl rfl ?_
      refine x_v (r_pk_f rfl rfl) rfl ?_
      refine XL.nil ?_
      refine hK4 _ _ ?_
      refine XC.keep [(0, _), (1, _), (2, _), (3, _), (8, _), (22, _)] ⟨rfl, rfl, rfl, rfl, rfl, rfl, trivial⟩ ?_
      refine XC.cond_f rfl ?_
      refine XC.skip ?_
      exact ⟨([], none, 0, k), ⟨by rw [if_neg (fun hq => by rw [hq] at hg18; cases hg18)], Ex.refl W0 k, Rdb.nil _ _ _, Nat.le_refl _⟩, ⟨rfl, rfl, rfl, rfl, rfl, trivial⟩, (by repeat (first | exact Gets.done _ | exact Gets.all _ | (apply Gets.step; focus ((repeat (first | exact Pick.head _ _ | apply Pick.tail)); done)) | apply Gets.drop))⟩
  · rintro ⟨es2, A2, c2, k2⟩ ⟨hes2, hx2, hr2, hcap⟩
    dsimp only at hes2 hx2 hr2 hcap ⊢
    have hl2 : es2.length ≤ 100000000 := by (have := hbl i; rw [hes2]; split <;> simp <;> omega)
    unfold pc
    refine XC.seq fun K5 hK5 => ?_
    refine XC.region ?_
    refine x_v (r_mv rfl) rfl ?_
    refine x_v (r_mv rfl) rfl ?_
    refine x_v (r_mv rfl) rfl ?_
    refine x_v (r_mv rfl) rfl ?_
    refine x_v (r_mv rfl) rfl ?_
    refine x_v (r_mv rfl) rfl ?_
    refine x_v (r_mv rfl) rfl ?_
    refine x_v (r_mv rfl) rfl ?_
    refine x_v (r_nc rfl) rfl ?_
    refine x_v (r_fa fo86_0 rfl) rfl ?_
    refine x_v (r_fa fo32_2 rfl) rfl ?_
    refine x_e (r_st ty3 rfl rfl rfl rfl rfl (by repeat (first | exact Upd.head _ _ _ | apply Upd.tail)) (by repeat (first | exact Over.nil _ | apply Over.put | apply Over.skip))) ?_
    refine x_v (r_nc rfl) rfl ?_
    refine x_v (r_fa fo86_0 rfl) rfl ?_
    refine x_v (r_fa fo32_3 rfl) rfl ?_
    refine x_e (r_st ty3 rfl rfl rfl rfl rfl (by repeat (first | exact Upd.head _ _ _ | apply Upd.tail)) (by repeat (first | exact Over.nil _ | apply Over.put | apply Over.skip))) ?_
    refine x_v (r_nc rfl) rfl ?_
    refine x_v (r_fa fo86_0 rfl) rfl ?_
    refine x_v (r_fa fo32_4 rfl) rfl ?_
    refine x_e (r_st ty9 rfl rfl rfl rfl rfl (by repeat (first | exact Upd.head _ _ _ | apply Upd.tail)) (by repeat (first | exact Over.nil _ | apply Over.put | apply Over.skip))) ?_
    refine x_v (r_nc rfl) rfl ?_
    refine x_v (r_fa fo86_0 rfl) rfl ?_
    refine x_v (r_fa fo32_5 rfl) rfl ?_
    refine x_e (r_st ty30 rfl rfl rfl rfl rfl (by repeat (first | exact Upd.head _ _ _ | apply Upd.tail)) (by repeat (first | exact Over.nil _ | apply Over.put | apply Over.skip))) ?_
    refine XL.nil ?_
    refine hK5 _ _ ?_
    refine XC.keep [(0, _), (1, _)] ⟨rfl, rfl, trivial⟩ ?_
    refine XC.region ?_
    refine x_v (r_mv rfl) rfl ?_
    refine x_v (r_mv rfl) rfl ?_
    refine x_v (r_mv rfl) rfl ?_
    refine x_v (r_add rfl rfl (by omega)) rfl ?_
    refine x_v (r_nc rfl) rfl ?_
    refine x_v (r_fa fo86_1 rfl) rfl ?_
    refine x_e (r_st ty3 rfl rfl rfl rfl rfl (by repeat (first | exact Upd.head _ _ _ | apply Upd.tail)) (by repeat (first | exact Over.nil _ | apply Over.put | apply Over.skip))) ?_
    refine x_v (r_nc rfl) rfl ?_
    refine x_v (r_fa fo86_2 rfl) rfl ?_
    refine x_e (r_st ty4 rfl rfl rfl rfl rfl (by repeat (first | exact Upd.head _ _ _ | apply Upd.tail)) (by repeat (first | exact Over.nil _ | apply Over.put | apply Over.skip))) ?_
    refine XL.nil ?_
    have hrb : rebase p i t s = { p with base := i, bterm := t, snap := s, es := es2, frm := i + 1, touched := true } := by unfold rebase; rw [hes2]
    rw [hrb]
    exact fin0 (⟨rfl, A2, c2, k2, rfl, hx2, hr2, hl2, hcap, hi.1, hi.2⟩) (by repeat (first | exact Gets.done _ | exact Gets.all _ | (apply Gets.step; focus ((repeat (first | exact Pick.head _ _ | apply Pick.tail)); done)) | apply Gets.drop))

/-- A mail in memory: its Entries' place; what a poll does not name. -/
structure Mx where
  m : Ml
  A : Option Addr
  c : Nat
  hA : Option Addr
  hn : Nat
  hc : Nat
  ep : Int
  si : Int
  a1 : Int
  a2 : Int
  w1 : Int
  w2 : Int
  oA : Option Addr
  on : Nat
  oc : Nat
  pA : Option Addr
  pn : Nat
  pc : Nat
def mc (x : Mx) : List Value := [.int .i64 x.m.kind, .int .i64 x.m.term, .int .i64 x.m.index, .int .i64 x.m.prev, .int .i64 x.m.commit, .bool x.m.good, .slice x.A x.m.es.length x.c, str x.m.data, .slice x.hA x.hn x.hc, .int .i64 x.ep, .int .i64 x.si, .int .i64 x.a1, .int .i64 x.a2, .int .i64 x.w1, .int .i64 x.w2, .slice x.oA x.on x.oc, .slice x.pA x.pn x.pc]
theorem mc_len (x : Mx) : (mc x).length = 17 := rfl
def zx (m : Ml) (A : Option Addr) (c : Nat) : Mx := ⟨m, A, c, none, 0, 0, 0, 0, 0, 0, 0, 0, none, 0, 0, none, 0, 0⟩
def sc (s : Int × Mx) : List Value := .int .i64 s.1 :: mc s.2
theorem sc_len (s : Int × Mx) : (sc s).length = 18 := rfl
theorem sc_one (s : Int × Mx) : (sc s).all (·.oneCell') = true := rfl
def sv (s : Int × Mx) : Sd := (s.1, s.2.m)
/-- A mail's Entries can be read. -/
def RdM (W0 : World) (k : HP) (x : Mx) : Prop := Rdb W0 [k] x.A x.m.es.length 2 (cells ec x.m.es) ∧ x.m.es.length ≤ x.c ∧ ∃ m A c, x = zx m A c
theorem RdM.ex {W0 : World} {k k2 : HP} {x : Mx} (h : RdM W0 k x) (e : Ex W0 k k2) : RdM W0 k2 x := ⟨h.1.ex e, h.2⟩

theorem mail_tr {W0 : World} {Fr : List HP} {p : Pl} {A : Option Addr} {c : Nat} (b : Nat) (M : Option Nat) (to : Int) (x : Mx) :
    Tr W0 Try.prog 40 [.pointer (some ⟨b, 0, none⟩), .int .i64 to, .agg (mc x).toArray] (blk b 90 (pc p A c M) :: Fr) (fun v Rs' => v = .agg (sc (to, { x with m := { x.m with term := p.term } })).toArray ∧ Rs' = blk b 90 (pc p A c M) :: Fr) := by
  refine Entry.tr (N := 17) (rs := [.cell 6 92]) ⟨_, Try.func40, rfl, by kernel_rfl, rfl, rfl⟩ rfl ?_
  refine XC.seq fun K1 hK1 => ?_
  unfold mc
  refine XC.region ?_
  refine x_a (r_bx rfl rfl) rfl fun b5 => ?_
  refine x_a (r_al ty92 rfl) rfl fun b6 => ?_
  refine XL.nil ?_
  refine hK1 _ _ ?_
  refine XC.keep [(0, _), (1, _), (5, _), (6, _)] ⟨rfl, rfl, rfl, rfl, trivial⟩ ?_
  refine XC.seq fun K2 hK2 => ?_
  refine XC.region ?_
  refine x_v (r_mv rfl) rfl ?_
  refine x_v (r_nc rfl) rfl ?_
  refine x_v (r_fa fo90_0 rfl) rfl ?_
  refine x_v (r_fa fo86_0 rfl) rfl ?_
  refine x_v (r_fa fo32_0 rfl) rfl ?_
  refine x_v (r_ld ty3 rfl (by repeat (first | exact Pick.head _ _ | apply Pick.tail)) (by rfl)) rfl ?_
  refine x_v (r_fa fo42_1 rfl) rfl ?_
  refine x_e (r_st ty3 rfl rfl rfl rfl rfl (by repeat (first | exact Upd.head _ _ _ | apply Upd.tail)) (by repeat (first | exact Over.nil _ | apply Over.put | apply Over.skip))) ?_
  refine XL.nil ?_
  refine hK2 _ _ ?_
  refine XC.keep [(1, _), (5, _), (6, _)] ⟨rfl, rfl, rfl, trivial⟩ ?_
  refine XC.seq fun K3 hK3 => ?_
  refine XC.region ?_
  refine x_v (r_mv rfl) rfl ?_
  refine x_v (r_lda (l' := [_, _, _, _, _, _, _, _, _, _, _, _, _, _, _, _, _]) ty42 rfl (by repeat (first | exact Pick.head _ _ | apply Pick.tail)) rfl (Sub.get (by repeat (first | exact Sub.nil _ | apply Sub.take | apply Sub.skip)))) rfl ?_
  refine x_v (r_bd (vs := [_, _]) rfl ⟨rfl, rfl, rfl⟩ (bd92_0_1 _ _ _ _ _ _ _ _ _ _ _ _ _ _ _ _ _ _ _ _ _ _ _ _ _ _)) rfl ?_
  refine x_e (r_st ty92 rfl rfl rfl rfl rfl (by repeat (first | exact Upd.head _ _ _ | apply Upd.tail)) (by repeat (first | exact Over.nil _ | apply Over.put | apply Over.skip))) ?_
  refine XL.nil ?_
  refine hK3 _ _ ?_
  refine XC.keep [(6, _)] ⟨rfl, trivial⟩ ?_
  refine XC.ret ?_
  exact finc1 ty92 rfl (by repeat (first | exact Pick.head _ _ | apply Pick.tail)) (by rfl) (⟨rfl, rfl⟩) (by repeat (first | exact Gets.done _ | exact Gets.all _ | (apply Gets.step; focus ((repeat (first | exact Pick.head _ _ | apply Pick.tail)); done)) | apply Gets.drop))

theorem others_tr {W0 : World} {Fr : List HP} {p : Pl} {A : Option Addr} {c : Nat} (b : Nat) (M : Option Nat) :
    Tr W0 Try.prog 50 [.pointer (some ⟨b, 0, none⟩)] (blk b 90 (pc p A c M) :: Fr) (fun v Rs' => ∃ A2 c2, v = .slice A2 (others p).length c2 ∧ Rs' = sl A2 (others p).length c2 3 1 (iv (others p)) :: blk b 90 (pc p A c M) :: Fr) := by
  have hn : ∀ i : Nat, i ≤ 3 → (([0, 1, 2] : List Int).take i ++ [(i : Int)] = ([0, 1, 2] : List Int).take (i + 1) ∨ i = 3) := fun i hi => by
    rcases (by omega : i = 0 ∨ i = 1 ∨ i = 2 ∨ i = 3) with rfl | rfl | rfl | rfl <;> first | exact .inl rfl | exact .inr rfl
  refine Entry.tr (N := 19) (rs := [.tmp 2]) ⟨_, Try.func50, rfl, by kernel_rfl, rfl, rfl⟩ rfl ?_
  refine XC.seq fun K1 hK1 => ?_
  refine XC.region ?_
  refine x_v (r_as rfl) rfl ?_
  refine XL.nil ?_
  refine hK1 _ _ ?_
  refine XC.keep [(0, _), (2, _)] ⟨rfl, rfl, trivial⟩ ?_
  refine XC.seq fun K2 hK2 => ?_
  refine XC.seq fun K3 hK3 => ?_
  refine XC.nil_ 3 1 ?_
  refine XC.region ?_
  refine x_v (r_mv rfl) rfl ?_
  refine XL.nil ?_
  refine hK3 _ _ ?_
  refine XC.keep [(0, _), (2, _), (4, _)] ⟨rfl, rfl, rfl, trivial⟩ ?_
  refine XC.block ?_
  refine XC.loop (σ := Nat × List Int × Option Addr × Nat) (fun s => [(0, .pointer (some ⟨b, 0, none⟩)), (2, .slice s.2.2.1 s.2.1.length s.2.2.2), (4, .int .i64 (s.1 : Int))]) (fun s => sl s.2.2.1 s.2.1.length s.2.2.2 3 1 (iv s.2.1) :: blk b 90 (pc p A c M) :: Fr) (fun s => s.1 ≤ 3 ∧ s.2.1 = (([0, 1, 2] : List Int).take s.1).filter fun n => n ≠ p.me) (fun s => 3 - s.1) (0, [], none, 0) ?_ ⟨rfl, rfl, rfl, trivial⟩ (by repeat (first | exact Gets.done _ | exact Gets.all _ | (apply Gets.step; focus ((repeat (first | exact Pick.head _ _ | apply Pick.tail)); done)) | apply Gets.drop)) ?_
  · exact ⟨by decide, rfl⟩
  rintro ⟨i, L, A2, c2⟩ ⟨hi, hL⟩
  dsimp only at hi hL ⊢
  have hLl : L.length ≤ 3 := by (rw [hL]; refine Nat.le_trans (List.length_filter_le _ _) ?_; rw [List.length_take]; simp; omega)
  refine XC.seq fun K4 hK4 => ?_
  refine XC.region ?_
  refine x_v (r_lt rfl rfl) rfl ?_
  refine XL.nil ?_
  refine hK4 _ _ ?_
  refine XC.keep [(0, _), (2, _), (4, _), (5, _)] ⟨rfl, rfl, rfl, rfl, trivial⟩ ?_
  refine XC.seq fun K5 hK5 => ?_
  refine XC.cond_d rfl (fun hc1 => ?_) (fun hc1 => ?_)
  · refine XC.skip ?_
    refine hK5 _ _ ?_
    refine XC.keep [(0, _), (2, _), (4, _)] ⟨rfl, rfl, rfl, trivial⟩ ?_
    refine XC.seq fun K6 hK6 => ?_
    refine XC.block ?_
    refine XC.seq fun K7 hK7 => ?_
    refine XC.region ?_
    refine x_v (r_mv rfl) rfl ?_
    refine x_v (r_as rfl) rfl ?_
    refine XL.nil ?_
    refine hK7 _ _ ?_
    refine XC.keep [(0, _), (2, _), (3, _), (4, _)] ⟨rfl, rfl, rfl, rfl, trivial⟩ ?_
    refine XC.seq fun K8 hK8 => ?_
    refine XC.region ?_
    refine x_v (r_mv rfl) rfl ?_
    refine x_v (r_mv rfl) rfl ?_
    refine x_v (r_nc rfl) rfl ?_
    refine x_v (r_fa fo90_1 rfl) rfl ?_
    refine x_v (r_ld ty3 rfl (by repeat (first | exact Pick.head _ _ | apply Pick.tail)) (by rfl)) rfl ?_
    refine x_v (r_ne rfl rfl) rfl ?_
    refine XL.nil ?_
    refine hK8 _ _ ?_
    refine XC.keep [(0, _), (2, _), (3, _), (4, _), (12, _)] ⟨rfl, rfl, rfl, rfl, rfl, trivial⟩ ?_
    refine XC.cond_d rfl (fun hc2 => ?_) (fun hc2 => ?_)
    · refine XC.region ?_
      refine x_v (r_mv rfl) rfl ?_
      refine x_v (r_mv rfl) rfl ?_
      refine x_a (r_bs (vs := [_]) rfl ⟨rfl, rfl⟩ (bs39_1_0 _)) rfl fun b15 => ?_
      refine x_a (r_app Try.underlying39 ty3 rfl (by decide) rfl rfl (by repeat (first | exact Pick.head _ _ | apply Pick.tail)) (Rdb.of_blk (b := b15) (n := 1) (sz := 1) (xs := [.int .i64 (i : Int)]) (by repeat (first | exact Pick.head _ _ | apply Pick.tail)) 0 rfl (fun _ _ h => by rw [Nat.zero_add]; exact h)) rfl (by unfold maxLen; omega) (by omega)) rfl fun ⟨A16, c16⟩ => ?_
      dsimp only
      rw [show L.length + 1 = (L ++ [(i : Int)]).length by simp, show iv L ++ [.int .i64 (i : Int)] = iv (L ++ [(i : Int)]) by simp [iv]]
      refine x_v (r_as rfl) rfl ?_
      refine XL.nil ?_
      refine hK6 _ _ ?_
      refine XC.keep [(0, _), (2, _), (4, _)] ⟨rfl, rfl, rfl, trivial⟩ ?_
      refine XC.region ?_
      refine x_v (r_add rfl rfl (by omega)) rfl ?_
      refine x_v (r_mv rfl) rfl ?_
      refine XL.nil ?_
      refine ⟨(i + 1, L ++ [(i : Int)], A16, c16), ?_, ?_, ⟨rfl, rfl, rfl, trivial⟩, (by repeat (first | exact Gets.done _ | exact Gets.all _ | (apply Gets.step; focus ((repeat (first | exact Pick.head _ _ | apply Pick.tail)); done)) | apply Gets.drop))⟩
      · exact ⟨by dsimp only; omega, by dsimp only; rw [← (hn i hi).resolve_right (by omega), List.filter_append, ← hL]; simp [hc2]⟩
      · dsimp only; omega
    · refine XC.skip ?_
      refine hK6 _ _ ?_
      refine XC.keep [(0, _), (2, _), (4, _)] ⟨rfl, rfl, rfl, trivial⟩ ?_
      refine XC.region ?_
      refine x_v (r_add rfl rfl (by omega)) rfl ?_
      refine x_v (r_mv rfl) rfl ?_
      refine XL.nil ?_
      refine ⟨(i + 1, L, A2, c2), ?_, ?_, ⟨rfl, rfl, rfl, trivial⟩, (by repeat (first | exact Gets.done _ | exact Gets.all _ | (apply Gets.step; focus ((repeat (first | exact Pick.head _ _ | apply Pick.tail)); done)) | apply Gets.drop))⟩
      · exact ⟨by dsimp only; omega, by dsimp only; rw [← (hn i hi).resolve_right (by omega), List.filter_append, ← hL]; simp [Decidable.not_not.1 hc2]⟩
      · dsimp only; omega
  · refine XC.exit rfl ?_
    refine hK2 _ _ ?_
    refine XC.keep [(2, _)] ⟨rfl, trivial⟩ ?_
    refine XC.seq fun K9 hK9 => ?_
    refine XC.region ?_
    refine x_v (r_mv rfl) rfl ?_
    refine x_v (r_as rfl) rfl ?_
    refine XL.nil ?_
    refine hK9 _ _ ?_
    refine XC.keep [(2, _)] ⟨rfl, trivial⟩ ?_
    refine XC.ret ?_
    obtain rfl : i = 3 := by omega
    have hLo : L = others p := by rw [hL]; rfl
    rw [hLo]
    exact fin1 rfl (⟨A2, c2, rfl, rfl⟩) (by repeat (first | exact Gets.done _ | exact Gets.all _ | (apply Gets.step; focus ((repeat (first | exact Pick.head _ _ | apply Pick.tail)); done)) | apply Gets.drop))
end Go.Proofs.Ytlogcldbflemfaa

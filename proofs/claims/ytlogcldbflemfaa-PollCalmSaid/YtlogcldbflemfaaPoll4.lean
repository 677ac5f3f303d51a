/- Polls: what goes out to others. -/
import Derived.Test.YtlogcldbflemfaaPoll3
import Derived.Test.YtlogcldbflemfaaRaftM
namespace Go.Proofs.Ytlogcldbflemfaa
open Go.Sx Go.Rf
set_option linter.unusedVariables false

theorem nx_at {p : Pl} {A : Option Addr} {c : Nat} {M : Option Nat} {n : Int} (hn : Rf.Node n) : (pc p A c M)[0 + 17 + n.toNat * 1]? = some (.int .i64 (nxt p n)) := by
  unfold Rf.Node at hn; rcases hn with rfl | rfl | rfl <;> rfl
theorem mt_at {p : Pl} {A : Option Addr} {c : Nat} {M : Option Nat} {n : Int} (hn : Rf.Node n) : (pc p A c M)[0 + 20 + n.toNat * 1]? = some (.int .i64 (mtc p n)) := by
  unfold Rf.Node at hn; rcases hn with rfl | rfl | rfl <;> rfl
theorem nd_lt {n : Int} (hn : Rf.Node n) : n.toNat < 3 ∧ n = (n.toNat : Int) := by unfold Rf.Node at hn; omega

/-- Sends that lie at 'A2' in memory of its own; their Entries in what is laid by. -/
def SP (W0 : World) (k : HP) (Fr : List HP) (b : Nat) (p : Pl) (M : Option Nat) (out : List Sd) (v : Value) (Rs' : List HP) : Prop :=
  ∃ L A2 c2 A' c' k', v = .slice A2 L.length c2 ∧ Rs' = sl A2 L.length c2 92 18 (cells sc L) :: blk b 90 (pc p A' c' M) :: k' :: Fr ∧ L.map sv = out ∧ Ex W0 k k' ∧ PB W0 k' p A' c' ∧ (∀ s ∈ L, RdM W0 k' s.2)

theorem termAt_in {p : Pl} {i t : Int} (ht : termAt p i = some t) : p.base ≤ i ∧ i ≤ p.base + p.es.length := by
  unfold termAt at ht; split at ht
  · omega
  · split at ht
    · cases ht
    · omega

theorem feed_tr {W0 : World} {Fr : List HP} {k : HP} {p : Pl} {A : Option Addr} {c : Nat} {B : Nat} (b : Nat) (M : Option Nat) (XA : Option Addr) (xc : Nat) (ns : List Int) (h : PB W0 k p A c) (hL : Lim B p) (hB : B ≤ 10000000) (hr : Rdb W0 Fr XA ns.length 1 (iv ns)) (hn : ∀ x ∈ ns, Rf.Node x) (hnl : ns.length ≤ 3) :
    Tr W0 Try.prog 49 [.pointer (some ⟨b, 0, none⟩), .slice XA ns.length xc] (blk b 90 (pc p A c M) :: k :: Fr) (SP W0 k Fr b p M (feed p ns)) := by
  have hel := h.el; have hb0 := h.b0; have hb1 := h.b1; have hec := h.ec
  refine Entry.tr (N := 85) (rs := [.tmp 4]) ⟨_, Try.func49, rfl, by kernel_rfl, rfl, rfl⟩ rfl ?_
  refine XC.seq fun K1 hK1 => ?_
  refine XC.region ?_
  refine x_v (r_as rfl) rfl ?_
  refine XL.nil ?_
  refine hK1 _ _ ?_
  refine XC.keep [(0, _), (1, _), (4, _)] ⟨rfl, rfl, rfl, trivial⟩ ?_
  refine XC.seq fun K2 hK2 => ?_
  refine XC.seq fun K3 hK3 => ?_
  refine XC.nil_ 92 18 ?_
  refine XC.region ?_
  refine x_v (r_mv rfl) rfl ?_
  refine x_v (r_lensl Try.underlying39 rfl) rfl ?_
  refine x_v (r_mv rfl) rfl ?_
  refine XL.nil ?_
  refine hK3 _ _ ?_
  refine XC.keep [(0, _), (4, _), (11, _), (12, _), (13, _)] ⟨rfl, rfl, rfl, rfl, rfl, trivial⟩ ?_
  refine XC.block ?_
  refine XC.loop (σ := Nat × List (Int × Mx) × Option Addr × Nat × HP) (fun s => [(0, .pointer (some ⟨b, 0, none⟩)), (4, .slice s.2.2.1 s.2.1.length s.2.2.2.1), (11, .slice XA ns.length xc), (12, .int .i64 (ns.length : Int)), (13, .int .i64 (s.1 : Int))]) (fun s => sl s.2.2.1 s.2.1.length s.2.2.2.1 92 18 (cells sc s.2.1) :: blk b 90 (pc p A c M) :: s.2.2.2.2 :: Fr) (fun s => s.1 ≤ ns.length ∧ s.2.1.map sv = (ns.take s.1).map (feed1 p) ∧ Ex W0 k s.2.2.2.2 ∧ (∀ q ∈ s.2.1, RdM W0 s.2.2.2.2 q.2)) (fun s => ns.length - s.1) (0, [], none, 0, k) ?_ ⟨rfl, rfl, rfl, rfl, rfl, trivial⟩ (by repeat (first | exact Gets.done _ | exact Gets.all _ | (apply Gets.step; focus ((repeat (first | exact Pick.head _ _ | apply Pick.tail)); done)) | apply Gets.drop)) ?_
  · exact ⟨Nat.zero_le _, rfl, Ex.refl W0 k, by simp⟩
  rintro ⟨i, L, A2, c2, k2⟩ ⟨hi, hLs, hx2, hrd⟩
  dsimp only at hi hLs hx2 hrd ⊢
  have hLl : L.length = i := by (have := congrArg List.length hLs; rw [List.length_map, List.length_map, List.length_take] at this; omega)
  have h2 := h.ex hx2
  refine XC.seq fun K4 hK4 => ?_
  refine XC.region ?_
  refine x_v (r_lt rfl rfl) rfl ?_
  refine XL.nil ?_
  refine hK4 _ _ ?_
  refine XC.keep [(0, _), (4, _), (11, _), (12, _), (13, _), (14, _)] ⟨rfl, rfl, rfl, rfl, rfl, rfl, trivial⟩ ?_
  refine XC.seq fun K5 hK5 => ?_
  refine XC.cond_d rfl (fun hc1 => ?_) (fun hc1 => ?_)
  · refine XC.skip ?_
    refine hK5 _ _ ?_
    refine XC.keep [(0, _), (4, _), (11, _), (12, _), (13, _)] ⟨rfl, rfl, rfl, rfl, rfl, trivial⟩ ?_
    refine XC.seq fun K6 hK6 => ?_
    refine XC.block ?_
    refine XC.seq fun K7 hK7 => ?_
    obtain ⟨x, hx⟩ : ∃ x, ns[i]? = some x := ⟨_, List.getElem?_eq_getElem (by omega)⟩
    have hxn := hn x (List.mem_of_getElem? hx)
    have hx3 := nd_lt hxn
    obtain ⟨sb, so, rfl, hat⟩ := hr.at_ (by omega)
    have hnb := hL.nxt x
    unfold most at hnb
    refine XC.region ?_
    refine x_v (r_ia (k := i) Try.underlying39 ty3 rfl rfl (by omega) (by omega)) rfl ?_
    refine x_v (r_ldr ty3 rfl (fun w hw => hat w (Gets.own (by repeat (first | exact Gets.done _ | exact Gets.all _ | (apply Gets.step; focus ((repeat (first | exact Pick.head _ _ | apply Pick.tail)); done)) | apply Gets.drop)) hw) (i * 1) _ (by rw [Nat.mul_one]; exact iv_get hx))) rfl ?_
    refine x_v (r_as rfl) rfl ?_
    refine XL.nil ?_
    refine hK7 _ _ ?_
    refine XC.keep [(0, _), (4, _), (6, _), (11, _), (12, _), (13, _)] ⟨rfl, rfl, rfl, rfl, rfl, rfl, trivial⟩ ?_
    refine XC.seq fun K8 hK8 => ?_
    refine XC.region ?_
    refine x_v (r_mv rfl) rfl ?_
    refine x_v (r_mv rfl) rfl ?_
    refine x_v (r_nc rfl) rfl ?_
    refine x_v (r_fa fo90_10 rfl) rfl ?_
    refine x_v (r_iaa (k := x.toNat) Try.underlying88 ty3 rfl rfl (by omega) (by omega)) rfl ?_
    refine x_v (r_ld ty3 rfl (by repeat (first | exact Pick.head _ _ | apply Pick.tail)) (nx_at hxn)) rfl ?_
    refine x_v (r_sub rfl rfl (by omega)) rfl ?_
    refine x_v (r_as rfl) rfl ?_
    refine XL.nil ?_
    refine hK8 _ _ ?_
    refine XC.keep [(0, _), (4, _), (6, _), (7, _), (11, _), (12, _), (13, _)] ⟨rfl, rfl, rfl, rfl, rfl, rfl, rfl, trivial⟩ ?_
    refine XC.seq fun K9 hK9 => ?_
    refine XC.region ?_
    refine x_v (r_mv rfl) rfl ?_
    refine x_v (r_nc rfl) rfl ?_
    refine x_v (r_fa fo90_0 rfl) rfl ?_
    refine x_v (r_mv rfl) rfl ?_
    refine x_c (r_call0 (args := [_, _]) ⟨rfl, rfl, rfl⟩ (term_tr (k := k2) b M (nxt p x - 1) h2 (by omega)) (by repeat (first | exact Gets.done _ | exact Gets.all _ | (apply Gets.step; focus ((repeat (first | exact Pick.head _ _ | apply Pick.tail)); done)) | apply Gets.drop))) rfl ?_
    rintro _ _ ⟨rfl, rfl⟩
    refine x_v (r_mv rfl) rfl ?_
    refine x_v (r_ex rfl rfl) rfl ?_
    refine x_v (r_ex rfl rfl) rfl ?_
    refine x_v (r_as rfl) rfl ?_
    refine x_v (r_as rfl) rfl ?_
    refine XL.nil ?_
    refine hK9 _ _ ?_
    refine XC.keep [(0, _), (4, _), (6, _), (7, _), (8, _), (9, _), (11, _), (12, _), (13, _)] ⟨rfl, rfl, rfl, rfl, rfl, rfl, rfl, rfl, rfl, trivial⟩ ?_
    refine XC.seq fun K10 hK10 => ?_
    refine XC.seq fun K11 hK11 => ?_
    refine XC.region ?_
    refine x_v (r_mv rfl) rfl ?_
    refine x_v (r_not rfl) rfl ?_
    refine XL.nil ?_
    refine hK11 _ _ ?_
    refine XC.keep [(0, _), (4, _), (6, _), (7, _), (8, _), (11, _), (12, _), (13, _), (33, _)] ⟨rfl, rfl, rfl, rfl, rfl, rfl, rfl, rfl, rfl, trivial⟩ ?_
    refine XC.cond rfl (fun hc2 => ?_) (fun hc2 => ?_)
    · have hno : termAt p (nxt p x - 1) = none := by (cases hq : termAt p (nxt p x - 1) with | none => rfl | some u => (rw [hq] at hc2; cases hc2))
      have hf1 : feed1 p x = mail p x { zm with kind := 5, index := p.base, prev := p.bterm, data := p.snap } := by unfold feed1; rw [hno]
      obtain ⟨s1, hs1⟩ : ∃ s1 : Int × Mx, s1 = (x, zx { zm with kind := 5, term := p.term, index := p.base, prev := p.bterm, data := p.snap } none 0) := ⟨_, rfl⟩
      have hs1v : sv s1 = feed1 p x := by rw [hf1, hs1]; rfl
      refine XC.seq fun K12 hK12 => ?_
      refine XC.draw [blk b 90 (pc p A c M)] false [(0, false), (1, false), (2, false), (3, false), (4, false), (5, false), (6, false), (7, false), (8, false), (9, false), (10, false), (11, false), (12, false), (13, false), (14, false), (15, false), (16, false), (17, false), (18, false), (19, false), (20, false), (21, false), (22, true), (23, true), (24, true), (25, false)] (by kernel_rfl) (by kernel_rfl) ?_
      refine y_v rfl (r_mv rfl) (fun _ h => Gets.own (by repeat (first | exact Gets.done _ | exact Gets.all _ | (apply Gets.step; focus ((repeat (first | exact Pick.head _ _ | apply Pick.tail)); done)) | apply Gets.drop)) h) rfl ?_
      refine y_v rfl (r_mv rfl) (fun _ h => Gets.own (by repeat (first | exact Gets.done _ | exact Gets.all _ | (apply Gets.step; focus ((repeat (first | exact Pick.head _ _ | apply Pick.tail)); done)) | apply Gets.drop)) h) rfl ?_
      refine y_v rfl (r_mv rfl) (fun _ h => Gets.own (by repeat (first | exact Gets.done _ | exact Gets.all _ | (apply Gets.step; focus ((repeat (first | exact Pick.head _ _ | apply Pick.tail)); done)) | apply Gets.drop)) h) rfl ?_
      refine y_v rfl (r_mv rfl) (fun _ h => Gets.own (by repeat (first | exact Gets.done _ | exact Gets.all _ | (apply Gets.step; focus ((repeat (first | exact Pick.head _ _ | apply Pick.tail)); done)) | apply Gets.drop)) h) rfl ?_
      refine y_v rfl (r_nc rfl) (fun _ h => Gets.own (by repeat (first | exact Gets.done _ | exact Gets.all _ | (apply Gets.step; focus ((repeat (first | exact Pick.head _ _ | apply Pick.tail)); done)) | apply Gets.drop)) h) rfl ?_
      refine y_v rfl (r_fa fo90_0 rfl) (fun _ h => Gets.own (by repeat (first | exact Gets.done _ | exact Gets.all _ | (apply Gets.step; focus ((repeat (first | exact Pick.head _ _ | apply Pick.tail)); done)) | apply Gets.drop)) h) rfl ?_
      refine y_v rfl (r_fa fo86_0 rfl) (fun _ h => Gets.own (by repeat (first | exact Gets.done _ | exact Gets.all _ | (apply Gets.step; focus ((repeat (first | exact Pick.head _ _ | apply Pick.tail)); done)) | apply Gets.drop)) h) rfl ?_
      refine y_v rfl (r_fa fo32_2 rfl) (fun _ h => Gets.own (by repeat (first | exact Gets.done _ | exact Gets.all _ | (apply Gets.step; focus ((repeat (first | exact Pick.head _ _ | apply Pick.tail)); done)) | apply Gets.drop)) h) rfl ?_
      refine y_v rfl (r_ld ty3 rfl (by repeat (first | exact Pick.head _ _ | apply Pick.tail)) (by rfl)) (fun _ h => Gets.own (by repeat (first | exact Gets.done _ | exact Gets.all _ | (apply Gets.step; focus ((repeat (first | exact Pick.head _ _ | apply Pick.tail)); done)) | apply Gets.drop)) h) rfl ?_
      refine y_v rfl (r_mv rfl) (fun _ h => Gets.own (by repeat (first | exact Gets.done _ | exact Gets.all _ | (apply Gets.step; focus ((repeat (first | exact Pick.head _ _ | apply Pick.tail)); done)) | apply Gets.drop)) h) rfl ?_
      refine y_v rfl (r_nc rfl) (fun _ h => Gets.own (by repeat (first | exact Gets.done _ | exact Gets.all _ | (apply Gets.step; focus ((repeat (first | exact Pick.head _ _ | apply Pick.tail)); done)) | apply Gets.drop)) h) rfl ?_
      refine y_v rfl (r_fa fo90_0 rfl) (fun _ h => Gets.own (by repeat (first | exact Gets.done _ | exact Gets.all _ | (apply Gets.step; focus ((repeat (first | exact Pick.head _ _ | apply Pick.tail)); done)) | apply Gets.drop)) h) rfl ?_
      refine y_v rfl (r_fa fo86_0 rfl) (fun _ h => Gets.own (by repeat (first | exact Gets.done _ | exact Gets.all _ | (apply Gets.step; focus ((repeat (first | exact Pick.head _ _ | apply Pick.tail)); done)) | apply Gets.drop)) h) rfl ?_
      refine y_v rfl (r_fa fo32_3 rfl) (fun _ h => Gets.own (by repeat (first | exact Gets.done _ | exact Gets.all _ | (apply Gets.step; focus ((repeat (first | exact Pick.head _ _ | apply Pick.tail)); done)) | apply Gets.drop)) h) rfl ?_
      refine y_v rfl (r_ld ty3 rfl (by repeat (first | exact Pick.head _ _ | apply Pick.tail)) (by rfl)) (fun _ h => Gets.own (by repeat (first | exact Gets.done _ | exact Gets.all _ | (apply Gets.step; focus ((repeat (first | exact Pick.head _ _ | apply Pick.tail)); done)) | apply Gets.drop)) h) rfl ?_
      refine y_v rfl (r_mv rfl) (fun _ h => Gets.own (by repeat (first | exact Gets.done _ | exact Gets.all _ | (apply Gets.step; focus ((repeat (first | exact Pick.head _ _ | apply Pick.tail)); done)) | apply Gets.drop)) h) rfl ?_
      refine y_v rfl (r_nc rfl) (fun _ h => Gets.own (by repeat (first | exact Gets.done _ | exact Gets.all _ | (apply Gets.step; focus ((repeat (first | exact Pick.head _ _ | apply Pick.tail)); done)) | apply Gets.drop)) h) rfl ?_
      refine y_v rfl (r_fa fo90_0 rfl) (fun _ h => Gets.own (by repeat (first | exact Gets.done _ | exact Gets.all _ | (apply Gets.step; focus ((repeat (first | exact Pick.head _ _ | apply Pick.tail)); done)) | apply Gets.drop)) h) rfl ?_
      refine y_v rfl (r_fa fo86_0 rfl) (fun _ h => Gets.own (by repeat (first | exact Gets.done _ | exact Gets.all _ | (apply Gets.step; focus ((repeat (first | exact Pick.head _ _ | apply Pick.tail)); done)) | apply Gets.drop)) h) rfl ?_
      refine y_v rfl (r_fa fo32_4 rfl) (fun _ h => Gets.own (by repeat (first | exact Gets.done _ | exact Gets.all _ | (apply Gets.step; focus ((repeat (first | exact Pick.head _ _ | apply Pick.tail)); done)) | apply Gets.drop)) h) rfl ?_
      refine y_v rfl (r_ld ty9 rfl (by repeat (first | exact Pick.head _ _ | apply Pick.tail)) (by rfl)) (fun _ h => Gets.own (by repeat (first | exact Gets.done _ | exact Gets.all _ | (apply Gets.step; focus ((repeat (first | exact Pick.head _ _ | apply Pick.tail)); done)) | apply Gets.drop)) h) rfl ?_
      refine y_v rfl (r_bd (vs := [_, _, _, _]) rfl ⟨rfl, rfl, rfl, rfl, rfl⟩ (bd42_0_2_3_7 _ _ _ _)) (fun _ h => Gets.own (by repeat (first | exact Gets.done _ | exact Gets.all _ | (apply Gets.step; focus ((repeat (first | exact Pick.head _ _ | apply Pick.tail)); done)) | apply Gets.drop)) h) rfl ?_
      refine y_c rfl (r_call0 (args := [_, _, _]) ⟨rfl, rfl, rfl, rfl⟩ (mail_tr b M x (zx { zm with kind := 5, index := p.base, prev := p.bterm, data := p.snap } none 0)) (by repeat (first | exact Gets.done _ | exact Gets.all _ | (apply Gets.step; focus ((repeat (first | exact Pick.head _ _ | apply Pick.tail)); done)) | apply Gets.drop))) (by rintro _ _ _ _ ⟨rfl, rfl⟩ h; exact Gets.own (by repeat (first | exact Gets.done _ | exact Gets.all _ | (apply Gets.step; focus ((repeat (first | exact Pick.head _ _ | apply Pick.tail)); done)) | apply Gets.drop)) h) rfl ?_
      rintro _ _ ⟨rfl, rfl⟩
      refine y_a rfl (r_bs (vs := [_]) rfl ⟨rfl, rfl⟩ (bs51_1_0 _ _ _ _ _ _ _ _ _ _ _ _ _ _ _ _ _ _ _ _ _ _ _ _ _ _)) (fun _ _ _ h => Gets.own (by repeat (first | exact Gets.done _ | exact Gets.all _ | (apply Gets.step; focus ((repeat (first | exact Pick.head _ _ | apply Pick.tail)); done)) | apply Gets.drop)) h) rfl fun b57 => ?_
      refine y_a rfl (r_app Try.underlying51 ty92 rfl (by decide) rfl rfl (by repeat (first | exact Pick.head _ _ | apply Pick.tail)) (Rdb.of_blk (b := b57) (n := 1) (sz := 18) (xs := sc s1) (by repeat (first | exact Pick.head _ _ | apply Pick.tail)) 0 rfl (fun _ _ h => by rw [hs1] at h; rw [Nat.zero_add]; exact h)) (sc_one _) (by unfold maxLen; omega) (by omega)) (fun _ _ _ h => Gets.own (by repeat (first | exact Gets.done _ | exact Gets.all _ | (apply Gets.step; focus ((repeat (first | exact Pick.head _ _ | apply Pick.tail)); done)) | apply Gets.drop)) h) rfl fun ⟨A58, c58⟩ => ?_
      dsimp only
      rw [show L.length + 1 = (L ++ [s1]).length by simp, ← cells_one sc s1, ← cells_app]
      refine y_v rfl (r_as rfl) (fun _ h => Gets.own (by repeat (first | exact Gets.done _ | exact Gets.all _ | (apply Gets.step; focus ((repeat (first | exact Pick.head _ _ | apply Pick.tail)); done)) | apply Gets.drop)) h) rfl ?_
      refine XH.nil ?_
      refine hK12 _ _ ?_
      refine XC.keep [(0, _), (4, _), (11, _), (12, _), (13, _)] ⟨rfl, rfl, rfl, rfl, rfl, trivial⟩ ?_
      refine XC.exit rfl ?_
      refine hK6 _ _ ?_
      refine XC.keep [(0, _), (4, _), (11, _), (12, _), (13, _)] ⟨rfl, rfl, rfl, rfl, rfl, trivial⟩ ?_
      refine XC.region ?_
      refine x_v (r_add rfl rfl (by omega)) rfl ?_
      refine x_v (r_mv rfl) rfl ?_
      refine XL.nil ?_
      refine ⟨(i + 1, L ++ [s1], A58, c58, k2), ?_, ?_, ⟨rfl, rfl, rfl, rfl, rfl, trivial⟩, (by repeat (first | exact Gets.done _ | exact Gets.all _ | (apply Gets.step; focus ((repeat (first | exact Pick.head _ _ | apply Pick.tail)); done)) | apply Gets.drop))⟩
      · exact ⟨by dsimp only; omega, by dsimp only; rw [tk_snoc hx, List.map_append, List.map_append, hLs, List.map_cons, List.map_nil, hs1v]; rfl, hx2, fun q hq => by (rcases List.mem_append.1 hq with hh | hh; exact hrd q hh; rw [List.mem_singleton.1 hh, hs1]; exact ⟨Rdb.nil _ _ _, Nat.le_refl _, _, _, _, rfl⟩)⟩
      · dsimp only; omega
    · obtain ⟨u, hsome⟩ : ∃ u, termAt p (nxt p x - 1) = some u := by (cases hq : termAt p (nxt p x - 1) with | none => (rw [hq] at hc2; cases hc2) | some u => exact ⟨u, rfl⟩)
      rw [hsome]
      have hin := termAt_in hsome
      obtain ⟨m8, hm8, hm8b⟩ : ∃ m8 : Nat, min ((behind p (nxt p x - 1)).length : Int) 8 = (m8 : Int) ∧ m8 = min (behind p (nxt p x - 1)).length 8 := ⟨_, by omega, rfl⟩
      obtain ⟨es8, hes8⟩ : ∃ es8, es8 = (behind p (nxt p x - 1)).take m8 := ⟨_, rfl⟩
      have hl8 : es8.length = m8 := by rw [hes8, List.length_take]; omega
      have hes8b : es8 = (behind p (nxt p x - 1)).take 8 := by rw [hes8, hm8b, Nat.min_comm, ← List.take_eq_take_min]
      have hf1 : feed1 p x = mail p x { zm with kind := 3, index := nxt p x - 1, prev := u, commit := p.agree, es := es8 } := by unfold feed1; rw [hsome, hes8b]
      refine XC.skip ?_
      refine hK10 _ _ ?_
      refine XC.keep [(0, _), (4, _), (6, _), (7, _), (8, _), (11, _), (12, _), (13, _)] ⟨rfl, rfl, rfl, rfl, rfl, rfl, rfl, rfl, trivial⟩ ?_
      refine XC.seq fun K13 hK13 => ?_
      refine XC.region ?_
      refine x_v (r_mv rfl) rfl ?_
      refine x_v (r_nc rfl) rfl ?_
      refine x_v (r_fa fo90_0 rfl) rfl ?_
      refine x_v (r_mv rfl) rfl ?_
      refine x_c (r_call0 (args := [_, _]) ⟨rfl, rfl, rfl⟩ (behind_tr (k := k2) b M (nxt p x - 1) h2 hin.1 hin.2) (by repeat (first | exact Gets.done _ | exact Gets.all _ | (apply Gets.step; focus ((repeat (first | exact Pick.head _ _ | apply Pick.tail)); done)) | apply Gets.drop))) rfl ?_
      rintro _ _ ⟨⟨A63, c63, rfl, hr63, hcc⟩, rfl⟩
      refine x_v (r_as rfl) rfl ?_
      refine XL.nil ?_
      refine hK13 _ _ ?_
      refine XC.keep [(0, _), (4, _), (6, _), (7, _), (8, _), (10, _), (11, _), (12, _), (13, _)] ⟨rfl, rfl, rfl, rfl, rfl, rfl, rfl, rfl, rfl, trivial⟩ ?_
      refine XC.draw [blk b 90 (pc p A c M)] false [(0, false), (1, false), (2, false), (3, false), (4, false), (5, false), (6, false), (7, false), (8, false), (9, false), (10, false), (11, false), (12, false), (13, false), (14, true), (15, false), (16, true), (17, true), (18, true), (19, false)] (by kernel_rfl) (by kernel_rfl) ?_
      refine y_v rfl (r_mv rfl) (fun _ h => Gets.own (by repeat (first | exact Gets.done _ | exact Gets.all _ | (apply Gets.step; focus ((repeat (first | exact Pick.head _ _ | apply Pick.tail)); done)) | apply Gets.drop)) h) rfl ?_
      refine y_v rfl (r_mv rfl) (fun _ h => Gets.own (by repeat (first | exact Gets.done _ | exact Gets.all _ | (apply Gets.step; focus ((repeat (first | exact Pick.head _ _ | apply Pick.tail)); done)) | apply Gets.drop)) h) rfl ?_
      refine y_v rfl (r_mv rfl) (fun _ h => Gets.own (by repeat (first | exact Gets.done _ | exact Gets.all _ | (apply Gets.step; focus ((repeat (first | exact Pick.head _ _ | apply Pick.tail)); done)) | apply Gets.drop)) h) rfl ?_
      refine y_v rfl (r_mv rfl) (fun _ h => Gets.own (by repeat (first | exact Gets.done _ | exact Gets.all _ | (apply Gets.step; focus ((repeat (first | exact Pick.head _ _ | apply Pick.tail)); done)) | apply Gets.drop)) h) rfl ?_
      refine y_v rfl (r_mv rfl) (fun _ h => Gets.own (by repeat (first | exact Gets.done _ | exact Gets.all _ | (apply Gets.step; focus ((repeat (first | exact Pick.head _ _ | apply Pick.tail)); done)) | apply Gets.drop)) h) rfl ?_
      refine y_v rfl (r_mv rfl) (fun _ h => Gets.own (by repeat (first | exact Gets.done _ | exact Gets.all _ | (apply Gets.step; focus ((repeat (first | exact Pick.head _ _ | apply Pick.tail)); done)) | apply Gets.drop)) h) rfl ?_
      refine y_v rfl (r_nc rfl) (fun _ h => Gets.own (by repeat (first | exact Gets.done _ | exact Gets.all _ | (apply Gets.step; focus ((repeat (first | exact Pick.head _ _ | apply Pick.tail)); done)) | apply Gets.drop)) h) rfl ?_
      refine y_v rfl (r_fa fo90_6 rfl) (fun _ h => Gets.own (by repeat (first | exact Gets.done _ | exact Gets.all _ | (apply Gets.step; focus ((repeat (first | exact Pick.head _ _ | apply Pick.tail)); done)) | apply Gets.drop)) h) rfl ?_
      refine y_v rfl (r_ld ty3 rfl (by repeat (first | exact Pick.head _ _ | apply Pick.tail)) (by rfl)) (fun _ h => Gets.own (by repeat (first | exact Gets.done _ | exact Gets.all _ | (apply Gets.step; focus ((repeat (first | exact Pick.head _ _ | apply Pick.tail)); done)) | apply Gets.drop)) h) rfl ?_
      refine y_v rfl (r_mv rfl) (fun _ h => Gets.own (by repeat (first | exact Gets.done _ | exact Gets.all _ | (apply Gets.step; focus ((repeat (first | exact Pick.head _ _ | apply Pick.tail)); done)) | apply Gets.drop)) h) rfl ?_
      refine y_v rfl (r_mv rfl) (fun _ h => Gets.own (by repeat (first | exact Gets.done _ | exact Gets.all _ | (apply Gets.step; focus ((repeat (first | exact Pick.head _ _ | apply Pick.tail)); done)) | apply Gets.drop)) h) rfl ?_
      refine y_v rfl (r_lensl Try.underlying30 rfl) (fun _ h => Gets.own (by repeat (first | exact Gets.done _ | exact Gets.all _ | (apply Gets.step; focus ((repeat (first | exact Pick.head _ _ | apply Pick.tail)); done)) | apply Gets.drop)) h) rfl ?_
      refine y_v rfl (r_min rfl rfl) (fun _ h => Gets.own (by repeat (first | exact Gets.done _ | exact Gets.all _ | (apply Gets.step; focus ((repeat (first | exact Pick.head _ _ | apply Pick.tail)); done)) | apply Gets.drop)) h) rfl ?_
      rw [hm8]
      refine y_v rfl (r_sll0 es8.length Try.underlying30 ty48 rfl ⟨.i64, by rw [hl8]; rfl⟩ (by omega)) (fun _ h => Gets.own (by repeat (first | exact Gets.done _ | exact Gets.all _ | (apply Gets.step; focus ((repeat (first | exact Pick.head _ _ | apply Pick.tail)); done)) | apply Gets.drop)) h) rfl ?_
      refine y_c rfl (r_call0 (args := [_]) ⟨rfl, rfl⟩ (clone_tr (Fr := sl A2 L.length c2 92 18 (cells sc L) :: blk b 90 (pc p A c M) :: k2 :: Fr) A63 c63 es8 ((by rw [hes8]; exact rd_take ec_len (hr63.mono (fun w h => Gets.own (by repeat (first | exact Gets.done _ | exact Gets.all _ | (apply Gets.step; focus ((repeat (first | exact Pick.head _ _ | apply Pick.tail)); done)) | apply Gets.drop)) h)) (by omega))) (by omega)) (by repeat (first | exact Gets.done _ | exact Gets.all _ | (apply Gets.step; focus ((repeat (first | exact Pick.head _ _ | apply Pick.tail)); done)) | apply Gets.drop))) (by rintro _ _ _ _ ⟨A78, c78, rfl, rfl⟩ h; exact Gets.own (by repeat (first | exact Gets.done _ | exact Gets.all _ | (apply Gets.step; focus ((repeat (first | exact Pick.head _ _ | apply Pick.tail)); done)) | apply Gets.drop)) h) rfl ?_
      rintro _ _ ⟨A78, c78, rfl, rfl⟩
      refine XH.slnn (A := A78) (by repeat (first | exact Pick.head _ _ | apply Pick.tail)) fun _ hA78 => ?_
      refine XH.fact (R := sl A78 es8.length c78 48 2 (cells ec es8)) (by repeat (first | exact Pick.head _ _ | apply Pick.tail)) (fun w h => h.sl_len.2.1) fun hcap78 => ?_
      obtain ⟨s1, hs1⟩ : ∃ s1 : Int × Mx, s1 = (x, zx { zm with kind := 3, term := p.term, index := nxt p x - 1, prev := u, commit := p.agree, es := es8 } A78 c78) := ⟨_, rfl⟩
      have hs1v : sv s1 = feed1 p x := by rw [hf1, hs1]; rfl
      refine y_v rfl (r_bd (vs := [_, _, _, _, _]) rfl ⟨rfl, rfl, rfl, rfl, rfl, rfl⟩ (bd42_0_2_3_4_6 _ _ _ _ _ _ _)) (fun _ h => Gets.own (by repeat (first | exact Gets.done _ | exact Gets.all _ | (apply Gets.step; focus ((repeat (first | exact Pick.head _ _ | apply Pick.tail)); done)) | apply Gets.drop)) h) rfl ?_
      refine y_c rfl (r_call0 (args := [_, _, _]) ⟨rfl, rfl, rfl, rfl⟩ (mail_tr b M x (zx { zm with kind := 3, index := nxt p x - 1, prev := u, commit := p.agree, es := es8 } A78 c78)) (by repeat (first | exact Gets.done _ | exact Gets.all _ | (apply Gets.step; focus ((repeat (first | exact Pick.head _ _ | apply Pick.tail)); done)) | apply Gets.drop))) (by rintro _ _ _ _ ⟨rfl, rfl⟩ h; exact Gets.own (by repeat (first | exact Gets.done _ | exact Gets.all _ | (apply Gets.step; focus ((repeat (first | exact Pick.head _ _ | apply Pick.tail)); done)) | apply Gets.drop)) h) rfl ?_
      rintro _ _ ⟨rfl, rfl⟩
      refine y_a rfl (r_bs (vs := [_]) rfl ⟨rfl, rfl⟩ (bs51_1_0 _ _ _ _ _ _ _ _ _ _ _ _ _ _ _ _ _ _ _ _ _ _ _ _ _ _)) (fun _ _ _ h => Gets.own (by repeat (first | exact Gets.done _ | exact Gets.all _ | (apply Gets.step; focus ((repeat (first | exact Pick.head _ _ | apply Pick.tail)); done)) | apply Gets.drop)) h) rfl fun b81 => ?_
      refine y_a rfl (r_app Try.underlying51 ty92 rfl (by decide) rfl rfl (by repeat (first | exact Pick.head _ _ | apply Pick.tail)) (Rdb.of_blk (b := b81) (n := 1) (sz := 18) (xs := sc s1) (by repeat (first | exact Pick.head _ _ | apply Pick.tail)) 0 rfl (fun _ _ h => by rw [hs1] at h; rw [Nat.zero_add]; exact h)) (sc_one _) (by unfold maxLen; omega) (by omega)) (fun _ _ _ h => Gets.own (by repeat (first | exact Gets.done _ | exact Gets.all _ | (apply Gets.step; focus ((repeat (first | exact Pick.head _ _ | apply Pick.tail)); done)) | apply Gets.drop)) h) rfl fun ⟨A82, c82⟩ => ?_
      dsimp only
      rw [show L.length + 1 = (L ++ [s1]).length by simp, ← cells_one sc s1, ← cells_app]
      refine XH.stash (x := sl A78 es8.length c78 48 2 (cells ec es8)) (k := k2) (by repeat (first | exact Pick.head _ _ | apply Pick.tail)) (by repeat (first | exact Pick.head _ _ | apply Pick.tail)) ?_
      refine y_v rfl (r_as rfl) (fun _ h => Gets.own (by repeat (first | exact Gets.done _ | exact Gets.all _ | (apply Gets.step; focus ((repeat (first | exact Pick.head _ _ | apply Pick.tail)); done)) | apply Gets.drop)) h) rfl ?_
      refine XH.nil ?_
      refine hK6 _ _ ?_
      refine XC.keep [(0, _), (4, _), (11, _), (12, _), (13, _)] ⟨rfl, rfl, rfl, rfl, rfl, trivial⟩ ?_
      refine XC.region ?_
      refine x_v (r_add rfl rfl (by omega)) rfl ?_
      refine x_v (r_mv rfl) rfl ?_
      refine XL.nil ?_
      refine ⟨(i + 1, L ++ [s1], A82, c82, sep (sl A78 es8.length c78 48 2 (cells ec es8)) k2), ?_, ?_, ⟨rfl, rfl, rfl, rfl, rfl, trivial⟩, (by repeat (first | exact Gets.done _ | exact Gets.all _ | (apply Gets.step; focus ((repeat (first | exact Pick.head _ _ | apply Pick.tail)); done)) | apply Gets.drop))⟩
      · exact ⟨by dsimp only; omega, by dsimp only; rw [tk_snoc hx, List.map_append, List.map_append, hLs, List.map_cons, List.map_nil, hs1v]; rfl, hx2.trans (Ex.on W0 _ _), fun q hq => by (rcases List.mem_append.1 hq with hh | hh; exact (hrd q hh).ex (Ex.on W0 _ _); rw [List.mem_singleton.1 hh, hs1]; exact ⟨es_laid k2 hA78, hcap78, _, _, _, rfl⟩)⟩
      · dsimp only; omega
  · refine XC.exit rfl ?_
    refine hK2 _ _ ?_
    refine XC.keep [(4, _)] ⟨rfl, trivial⟩ ?_
    refine XC.seq fun K14 hK14 => ?_
    refine XC.region ?_
    refine x_v (r_mv rfl) rfl ?_
    refine x_v (r_as rfl) rfl ?_
    refine XL.nil ?_
    refine hK14 _ _ ?_
    refine XC.keep [(4, _)] ⟨rfl, trivial⟩ ?_
    refine XC.ret ?_
    obtain rfl : i = ns.length := by omega
    rw [List.take_length] at hLs
    exact fin1 rfl (⟨L, A2, c2, A, c, k2, rfl, rfl, hLs, hx2, h2, hrd⟩) (by repeat (first | exact Gets.done _ | exact Gets.all _ | (apply Gets.step; focus ((repeat (first | exact Pick.head _ _ | apply Pick.tail)); done)) | apply Gets.drop))
end Go.Proofs.Ytlogcldbflemfaa

/- Polls: three nodes begin (function 23). -/
import Derived.Test.YtlogcldbflemfaaPoll20
namespace Go.Proofs.Ytlogcldbflemfaa
open Go.Sx Go.Rf
set_option linter.unusedVariables false

theorem nds_snoc : ∀ (l : List NdR) (x : NdR) (h : Heap), sep (nd x) (nds l) h → nds (l ++ [x]) h
  | [], x, h, H => H
  | y :: l, x, h, H => sep_mono (fun _ a => a) (fun g hg => nds_snoc l x g hg) (sep_swap H)
theorem own_snoc {W0 w : World} {l : List NdR} {x : NdR} {Rs : List HP} (H : Own W0 w (blk x.b 90 (pc x.p x.A x.c x.M) :: vmo x.M :: nds l :: Rs)) : Own W0 w (nds (l ++ [x]) :: Rs) :=
  have h1 : Own W0 w (sep (nd x) (nds l) :: Rs) := (show Own W0 w (nd x :: nds l :: Rs) from H.stash).stash
  ⟨h1.os, h1.tape, h1.output, h1.size, h1.old, let ⟨h, a, b⟩ := h1.own; ⟨h, sep_mono (fun g hg => nds_snoc l x g hg) (fun _ a => a) a, b⟩⟩
def qn (n : Int) : Pl := fresh n 2 3 0 (-1) 0 0 [] []
theorem limn {n : Int} (hn : Rf.Node n) : Lim 2 (qn n) := (lim0.anew hn : Lim 2 (fresh n 2 3 q0.term q0.vote q0.base q0.bterm q0.snap q0.es))
theorem sic_snoc {l : List NdR} {i : Nat} (hi : i < 3) (hl : l.length = i) (x : NdR) (A : Option Addr) (m c : Nat) : (sic l A m c).set (0 + i * 1) (.pointer (some ⟨x.b, 0, none⟩)) = sic (l ++ [x]) A m c := by
  subst hl
  rcases l with _ | ⟨a, _ | ⟨b, _ | ⟨d, l⟩⟩⟩
  · rfl
  · rfl
  · rfl
  · simp only [List.length_cons] at hi; omega
theorem sic_len (l : List NdR) (A : Option Addr) (m c : Nat) : (sic l A m c).length = 4 := rfl
theorem begun_tr {W0 : World} {Fr : List HP} : Tr W0 Try.prog 23 [] Fr (fun v Rs' => ∃ sb l K, v = .pointer (some ⟨sb, 0, none⟩) ∧ Rs' = blk sb 68 (sic l none 0 0) :: sl none 0 0 109 19 [] :: nds l :: K :: Fr ∧ stOf l [] = Rf.begun ∧ SOk W0 K 2 l []) := by
  refine Entry.tr (N := 22) (rs := [.tmp 0]) ⟨_, Try.func23, rfl, by kernel_rfl, rfl, rfl⟩ rfl ?_
  refine XC.seq fun K1 hK1 => ?_
  refine XC.region ?_
  refine x_v (r_as rfl) rfl ?_
  refine XL.nil ?_
  refine hK1 _ _ ?_
  refine XC.keep [] trivial ?_
  refine XC.seq fun K2 hK2 => ?_
  refine XC.region ?_
  refine x_v (r_bd (vs := []) rfl rfl bd68_z) rfl ?_
  refine x_a (r_bx rfl rfl) rfl fun b4 => ?_
  refine x_v (r_as rfl) rfl ?_
  refine XL.nil ?_
  refine hK2 _ _ ?_
  refine XC.keep [(1, _)] ⟨rfl, trivial⟩ ?_
  refine XC.seq fun K3 hK3 => ?_
  refine XC.seq fun K4 hK4 => ?_
  refine XC.nil_ 3 1 ?_
  refine XC.nil_ 48 2 ?_
  refine XC.nil_ 109 19 ?_
  refine XC.region ?_
  refine x_v (r_mv rfl) rfl ?_
  refine XL.nil ?_
  refine hK4 _ _ ?_
  refine XC.keep [(1, _), (5, _)] ⟨rfl, rfl, trivial⟩ ?_
  refine XC.block ?_
  refine XC.loop (σ := Nat × List NdR × HP) (fun s => [(1, .pointer (some ⟨b4, 0, none⟩)), (5, .int .i64 (s.1 : Int))]) (fun s => blk b4 68 (sic s.2.1 none 0 0) :: sl none 0 0 109 19 [] :: nds s.2.1 :: s.2.2 :: Fr) (fun s => s.1 ≤ 3 ∧ s.2.1.length = s.1 ∧ s.2.1.map NdR.p = (List.range s.1).map (fun (j : Nat) => qn (j : Int)) ∧ ∀ x ∈ s.2.1, PB W0 s.2.2 x.p x.A x.c ∧ Lim 2 x.p ∧ x.p.role ≠ 1) (fun s => 3 - s.1) (0, [], sl none 0 0 48 2 []) ?_ ⟨rfl, rfl, trivial⟩ (by repeat (first | exact Gets.done _ | exact Gets.all _ | (apply Gets.step; focus ((repeat (first | exact Pick.head _ _ | apply Pick.tail)); done)) | apply Gets.drop)) ?_
  · exact ⟨Nat.zero_le _, rfl, rfl, fun x h => by cases h⟩
  rintro ⟨i, l, K⟩ ⟨hi, hll, hps, hok⟩
  dsimp only at hi hll hps hok ⊢
  refine XC.seq fun K5 hK5 => ?_
  refine XC.region ?_
  refine x_v (r_lt rfl rfl) rfl ?_
  refine XL.nil ?_
  refine hK5 _ _ ?_
  refine XC.keep [(1, _), (5, _), (6, _)] ⟨rfl, rfl, rfl, trivial⟩ ?_
  refine XC.seq fun K6 hK6 => ?_
  refine XC.cond_d rfl (fun hc1 => ?_) (fun hc1 => ?_)
  · refine XC.skip ?_
    refine hK6 _ _ ?_
    refine XC.keep [(1, _), (5, _)] ⟨rfl, rfl, trivial⟩ ?_
    refine XC.seq fun K7 hK7 => ?_
    refine XC.block ?_
    refine XC.seq fun K8 hK8 => ?_
    refine XC.region ?_
    refine x_v (r_mv rfl) rfl ?_
    refine x_v (r_as rfl) rfl ?_
    refine XL.nil ?_
    refine hK8 _ _ ?_
    refine XC.keep [(1, _), (2, _), (5, _)] ⟨rfl, rfl, rfl, trivial⟩ ?_
    have hnode : Rf.Node (i : Int) := by unfold Rf.Node; omega
    refine XC.draw [] false [(0, false), (1, false), (3, false), (4, false), (9, false), (10, false), (2, true), (5, true), (6, false), (7, false), (8, false), (11, false), (12, true)] (by kernel_rfl) (by kernel_rfl) ?_
    refine y_v rfl (r_mv rfl) (fun _ h => Gets.own (by repeat (first | exact Gets.done _ | exact Gets.all _ | (apply Gets.step; focus ((repeat (first | exact Pick.head _ _ | apply Pick.tail)); done)) | apply Gets.drop)) h) rfl ?_
    refine y_v rfl (r_mv rfl) (fun _ h => Gets.own (by repeat (first | exact Gets.done _ | exact Gets.all _ | (apply Gets.step; focus ((repeat (first | exact Pick.head _ _ | apply Pick.tail)); done)) | apply Gets.drop)) h) rfl ?_
    refine y_v rfl (r_mv rfl) (fun _ h => Gets.own (by repeat (first | exact Gets.done _ | exact Gets.all _ | (apply Gets.step; focus ((repeat (first | exact Pick.head _ _ | apply Pick.tail)); done)) | apply Gets.drop)) h) rfl ?_
    refine y_v rfl (r_bd (vs := [_]) rfl ⟨rfl, rfl⟩ (bd32_1 _)) (fun _ h => Gets.own (by repeat (first | exact Gets.done _ | exact Gets.all _ | (apply Gets.step; focus ((repeat (first | exact Pick.head _ _ | apply Pick.tail)); done)) | apply Gets.drop)) h) rfl ?_
    refine y_v rfl (r_nc rfl) (fun _ h => Gets.own (by repeat (first | exact Gets.done _ | exact Gets.all _ | (apply Gets.step; focus ((repeat (first | exact Pick.head _ _ | apply Pick.tail)); done)) | apply Gets.drop)) h) rfl ?_
    refine y_v rfl (r_fa fo68_0 rfl) (fun _ h => Gets.own (by repeat (first | exact Gets.done _ | exact Gets.all _ | (apply Gets.step; focus ((repeat (first | exact Pick.head _ _ | apply Pick.tail)); done)) | apply Gets.drop)) h) rfl ?_
    refine y_c rfl (r_call0 (args := []) rfl (small_tr) (by repeat (first | exact Gets.done _ | exact Gets.all _ | (apply Gets.step; focus ((repeat (first | exact Pick.head _ _ | apply Pick.tail)); done)) | apply Gets.drop))) (by rintro _ _ _ _ ⟨rfl, rfl⟩ h; exact Gets.own (by repeat (first | exact Gets.done _ | exact Gets.all _ | (apply Gets.step; focus ((repeat (first | exact Pick.head _ _ | apply Pick.tail)); done)) | apply Gets.drop)) h) rfl ?_
    rintro _ _ ⟨rfl, rfl⟩
    refine y_c rfl (r_call0 (args := [_, _, _]) ⟨rfl, rfl, rfl, rfl⟩ (new_tr (k := K) none 0 (i : Int) (by unfold inR; rw [Bool.and_eq_true, decide_eq_true_eq, decide_eq_true_eq]; omega) kok0 (Rdb.nil _ _ _)) (by repeat (first | exact Gets.done _ | exact Gets.all _ | (apply Gets.step; focus ((repeat (first | exact Pick.head _ _ | apply Pick.tail)); done)) | apply Gets.drop))) (by rintro _ _ _ _ ⟨b14, A14, c14, K14, rfl, rfl, hx14, hp14⟩ h; exact Gets.own (by repeat (first | exact Gets.done _ | exact Gets.all _ | (apply Gets.step; focus ((repeat (first | exact Pick.head _ _ | apply Pick.tail)); done)) | apply Gets.drop)) h) rfl ?_
    rintro _ _ ⟨b14, A14, c14, K14, rfl, rfl, hx14, hp14⟩
    refine XH.nil_ 3 1 ?_
    refine y_v rfl (r_mv rfl) (fun _ h => Gets.own (by repeat (first | exact Gets.done _ | exact Gets.all _ | (apply Gets.step; focus ((repeat (first | exact Pick.head _ _ | apply Pick.tail)); done)) | apply Gets.drop)) h) rfl ?_
    refine y_v rfl (r_ex rfl rfl) (fun _ h => Gets.own (by repeat (first | exact Gets.done _ | exact Gets.all _ | (apply Gets.step; focus ((repeat (first | exact Pick.head _ _ | apply Pick.tail)); done)) | apply Gets.drop)) h) rfl ?_
    refine y_v rfl (r_ex rfl rfl) (fun _ h => Gets.own (by repeat (first | exact Gets.done _ | exact Gets.all _ | (apply Gets.step; focus ((repeat (first | exact Pick.head _ _ | apply Pick.tail)); done)) | apply Gets.drop)) h) rfl ?_
    refine y_v rfl (r_iaa (k := i) Try.underlying65 ty23 rfl rfl (by omega) (by omega)) (fun _ h => Gets.own (by repeat (first | exact Gets.done _ | exact Gets.all _ | (apply Gets.step; focus ((repeat (first | exact Pick.head _ _ | apply Pick.tail)); done)) | apply Gets.drop)) h) rfl ?_
    refine y_e rfl (r_st (vs := [.pointer (some ⟨b14, 0, none⟩)]) ty23 rfl rfl rfl rfl rfl (by repeat (first | exact Upd.head _ _ _ | apply Upd.tail)) (Over.set (by rw [sic_len]; omega) _)) (fun _ _ h => Gets.own (by repeat (first | exact Gets.done _ | exact Gets.all _ | (apply Gets.step; focus ((repeat (first | exact Pick.head _ _ | apply Pick.tail)); done)) | apply Gets.drop)) h) ?_
    refine XH.nil ?_
    refine hK7 _ _ ?_
    refine XC.keep [(1, _), (5, _)] ⟨rfl, rfl, trivial⟩ ?_
    obtain ⟨y, hy⟩ : ∃ y : NdR, y = ⟨b14, qn i, A14, c14, none⟩ := ⟨_, rfl⟩
    rw [show (Value.pointer (some ⟨b14, 0, none⟩)) = .pointer (some ⟨y.b, 0, none⟩) by rw [hy], sic_snoc (by omega) hll y]
    refine XC.mem (nds (l ++ [y]) :: blk b4 68 (sic (l ++ [y]) none 0 0) :: sl none 0 0 109 19 [] :: K14 :: Fr) (fun w h => own_snoc (by rw [hy]; rw [hy] at h; exact Gets.own (by repeat (first | exact Gets.done _ | exact Gets.all _ | (apply Gets.step; focus ((repeat (first | exact Pick.head _ _ | apply Pick.tail)); done)) | apply Gets.drop)) h)) ?_
    refine XC.region ?_
    refine x_v (r_add rfl rfl (by omega)) rfl ?_
    refine x_v (r_mv rfl) rfl ?_
    refine XL.nil ?_
    refine ⟨(i + 1, l ++ [y], K14), ?_, ?_, ⟨rfl, rfl, trivial⟩, (by repeat (first | exact Gets.done _ | exact Gets.all _ | (apply Gets.step; focus ((repeat (first | exact Pick.head _ _ | apply Pick.tail)); done)) | apply Gets.drop))⟩
    · exact ⟨by dsimp only; omega, by dsimp only; rw [List.length_append, hll]; rfl, by dsimp only; rw [List.map_append, hps, List.range_succ, List.map_append, hy]; rfl, fun x hx => (List.mem_append.1 hx).elim (fun h => ⟨(hok x h).1.ex hx14, (hok x h).2⟩) fun h => by (rw [List.mem_singleton.1 h, hy]; exact ⟨hp14, limn hnode, by show (0 : Int) ≠ 1; omega⟩)⟩
    · dsimp only; omega
  · refine XC.exit rfl ?_
    refine hK3 _ _ ?_
    refine XC.keep [(1, _)] ⟨rfl, trivial⟩ ?_
    refine XC.seq fun K9 hK9 => ?_
    refine XC.region ?_
    refine x_v (r_mv rfl) rfl ?_
    refine x_v (r_as rfl) rfl ?_
    refine XL.nil ?_
    refine hK9 _ _ ?_
    refine XC.keep [(0, _)] ⟨rfl, trivial⟩ ?_
    refine XC.ret ?_
    obtain rfl : i = 3 := by omega
    exact fin1 rfl (⟨b4, l, K, rfl, rfl, by unfold stOf; rw [hps]; rfl, ⟨hll, fun x hx => (hok x hx).1, fun x hx => (hok x hx).2.1, fun x hx hh => absurd hh (hok x hx).2.2, Nat.zero_le _, fun f hf => by cases hf⟩⟩) (by repeat (first | exact Gets.done _ | exact Gets.all _ | (apply Gets.step; focus ((repeat (first | exact Pick.head _ _ | apply Pick.tail)); done)) | apply Gets.drop))
end Go.Proofs.Ytlogcldbflemfaa

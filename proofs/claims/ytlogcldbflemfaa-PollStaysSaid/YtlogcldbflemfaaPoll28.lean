/- Polls: what is agreed on stays (function 3). -/
import Derived.Test.YtlogcldbflemfaaPoll25
import Derived.Test.YtlogcldbflemfaaPoll27
import Derived.Test.YtlogcldbflemfaaRaftU
namespace Go.Proofs.Ytlogcldbflemfaa
open Go.Sx Go.Rf
set_option linter.unusedVariables false

theorem was_none (p : Pl) : Was p (fun _ => none) := fun i e h => by cases h
theorem Was.put {p : Pl} {was : Int → Option En} (h : Was p was) {i : Int} {x : En} (hi : i ≤ p.agree) (hx : entry p i = some x) : Was p (put1 was i x) := fun j y hy => by
  unfold put1 at hy
  split at hy
  · rename_i hj; subst hj; injection hy with hy; subst hy; exact ⟨hi, fun _ => hx⟩
  · exact h j y hy
theorem was_odd {p : Pl} {was : Int → Option En} (h : Was p was) {i : Int} {x : En} (hb : p.base < i) (hx : entry p i = some x) (h1 : (was i).isSome = true) : x.term = ((was i).getD en0).term ∧ x.data = ((was i).getD en0).data := by
  cases hs : was i with
  | none => rw [hs] at h1; cases h1
  | some y =>
    have := (h i y hs).2 hb
    rw [hx] at this; injection this with this; subst this; exact ⟨rfl, rfl⟩
/-- A node and what was seen of it. -/
structure Ns (W0 : World) (B : Nat) (p : Pl) (A : Option Addr) (c : Nat) (M : Option Nat) (k : HP) : Prop where
  pb : PB W0 k p A c
  lim : Lim B p
  mm : p.role = 1 → M ≠ none
/-- The next step kept it all. -/
def Stp (p q : Pl) : Prop := Kp p.agree p q ∧ (p.role = 2 → q.role = 2 → q.term = p.term → Kp (lastI p) p q)
theorem Stp.of {p q : Pl} (h1 : Kp p.agree p q) (h2 : Kp (lastI p) p q) : Stp p q := ⟨h1, fun _ _ _ => h2⟩

theorem pollstays_bad {W0 : World} {Fr : List HP} (me : Int) (XA : Option Addr) (xc : Nat) (T : List Ox) (hr : ∀ Fr, Rdb W0 Fr XA T.length 21 (cells oc T)) (hok : ∀ o ∈ T, OkMx W0 o.x) (hme : inR me 0 2 = false) : Tr W0 Try.prog 3 [.int .i64 me, .slice XA T.length xc] Fr (fun v Rs' => v = .bool true) := by
  refine Entry.tr (N := 191) (rs := [.tmp 4]) ⟨_, Try.func3, rfl, by kernel_rfl, rfl, rfl⟩ rfl ?_
  refine XC.seq fun K1 hK1 => ?_
  refine XC.region ?_
  refine x_v (r_as rfl) rfl ?_
  refine XL.nil ?_
  refine hK1 _ _ ?_
  refine XC.keep [(0, _), (1, _)] ⟨rfl, rfl, trivial⟩ ?_
  refine XC.seq fun K2 hK2 => ?_
  refine XC.region ?_
  refine x_c (r_call0 (args := []) rfl (small_tr) (by repeat (first | exact Gets.done _ | exact Gets.all _ | (apply Gets.step; focus ((repeat (first | exact Pick.head _ _ | apply Pick.tail)); done)) | apply Gets.drop))) rfl ?_
  rintro _ _ ⟨rfl, rfl⟩
  refine x_v (r_mv rfl) rfl ?_
  refine x_v (r_bd (vs := [_]) rfl ⟨rfl, rfl⟩ (bd32_1 _)) rfl ?_
  refine x_c (r_call0 (args := [_, _, _]) ⟨rfl, rfl, rfl, rfl⟩ (newbad_tr me hme) (by repeat (first | exact Gets.done _ | exact Gets.all _ | (apply Gets.step; focus ((repeat (first | exact Pick.head _ _ | apply Pick.tail)); done)) | apply Gets.drop))) rfl ?_
  rintro _ _ ⟨rfl, rfl⟩
  refine x_v (r_mv rfl) rfl ?_
  refine x_v (r_ex rfl rfl) rfl ?_
  refine x_v (r_ex rfl rfl) rfl ?_
  refine x_v (r_as rfl) rfl ?_
  refine x_v (r_as rfl) rfl ?_
  refine XL.nil ?_
  refine hK2 _ _ ?_
  refine XC.keep [(1, _), (5, _), (6, _)] ⟨rfl, rfl, rfl, trivial⟩ ?_
  refine XC.seq fun K3 hK3 => ?_
  refine XC.seq fun K4 hK4 => ?_
  refine XC.region ?_
  refine x_c (r_call0 (args := []) rfl (awake_tr) (by repeat (first | exact Gets.done _ | exact Gets.all _ | (apply Gets.step; focus ((repeat (first | exact Pick.head _ _ | apply Pick.tail)); done)) | apply Gets.drop))) rfl ?_
  rintro _ _ ⟨rfl, rfl⟩
  refine x_v (r_not rfl) rfl ?_
  refine x_v (r_mv rfl) rfl ?_
  refine x_want rfl rfl rfl ?_
  refine x_v (r_mv rfl) rfl ?_
  refine x_want rfl rfl rfl ?_
  refine x_v (r_ne rfl rfl) rfl ?_
  refine x_v (r_pk_f rfl rfl) rfl ?_
  refine x_v (r_mv rfl) rfl ?_
  refine XL.splitd 38 rfl (fun hg38 => ?_) (fun hg38 => ?_)
  · refine x_unwant rfl rfl rfl rfl rfl ?_
    refine x_unwant rfl rfl rfl rfl rfl ?_
    refine x_unwant rfl rfl rfl rfl rfl ?_
    refine x_v (r_pk_t rfl rfl) rfl ?_
    refine XL.nil ?_
    refine hK4 _ _ ?_
    refine XC.keep [(1, _), (5, _), (42, _)] ⟨rfl, rfl, rfl, trivial⟩ ?_
    refine XC.cond_t rfl ?_
    refine XC.seq fun K5 hK5 => ?_
    refine XC.region ?_
    refine x_c (r_call0 (args := []) rfl (awake_tr) (by repeat (first | exact Gets.done _ | exact Gets.all _ | (apply Gets.step; focus ((repeat (first | exact Pick.head _ _ | apply Pick.tail)); done)) | apply Gets.drop))) rfl ?_
    rintro _ _ ⟨rfl, rfl⟩
    refine x_v (r_as rfl) rfl ?_
    refine XL.nil ?_
    refine hK5 _ _ ?_
    refine XC.keep [(4, _)] ⟨rfl, trivial⟩ ?_
    refine XC.ret ?_
    exact fin1 rfl (rfl) (by repeat (first | exact Gets.done _ | exact Gets.all _ | (apply Gets.step; focus ((repeat (first | exact Pick.head _ _ | apply Pick.tail)); done)) | apply Gets.drop))
  · exfalso; exact hg38 (by decide)

theorem pollstays_tr {W0 : World} {Fr : List HP} (me : Int) (XA : Option Addr) (xc : Nat) (T : List Ox) (hr : ∀ Fr, Rdb W0 Fr XA T.length 21 (cells oc T)) (hok : ∀ o ∈ T, OkMx W0 o.x) (hme : Rf.Node me) : Tr W0 Try.prog 3 [.int .i64 me, .slice XA T.length xc] Fr (fun v Rs' => v = .bool true) := by
  have hin : inR me 0 2 = true := by unfold inR; rw [Bool.and_eq_true, decide_eq_true_eq, decide_eq_true_eq]; unfold Rf.Node at hme; omega
  refine Entry.tr (N := 191) (rs := [.tmp 4]) ⟨_, Try.func3, rfl, by kernel_rfl, rfl, rfl⟩ rfl ?_
  refine XC.seq fun K1 hK1 => ?_
  refine XC.region ?_
  refine x_v (r_as rfl) rfl ?_
  refine XL.nil ?_
  refine hK1 _ _ ?_
  refine XC.keep [(0, _), (1, _)] ⟨rfl, rfl, trivial⟩ ?_
  refine XC.seq fun K2 hK2 => ?_
  refine XC.nil_ 48 2 ?_
  refine XC.region ?_
  refine x_c (r_call0 (args := []) rfl (small_tr) (by repeat (first | exact Gets.done _ | exact Gets.all _ | (apply Gets.step; focus ((repeat (first | exact Pick.head _ _ | apply Pick.tail)); done)) | apply Gets.drop))) rfl ?_
  rintro _ _ ⟨rfl, rfl⟩
  refine x_v (r_mv rfl) rfl ?_
  refine x_v (r_bd (vs := [_]) rfl ⟨rfl, rfl⟩ (bd32_1 _)) rfl ?_
  refine x_c (r_call0 (args := [_, _, _]) ⟨rfl, rfl, rfl, rfl⟩ (new_tr (k := sl none 0 0 48 2 []) (Fr := Fr) none 0 me hin kok0 (Rdb.nil _ _ _)) (by repeat (first | exact Gets.done _ | exact Gets.all _ | (apply Gets.step; focus ((repeat (first | exact Pick.head _ _ | apply Pick.tail)); done)) | apply Gets.drop))) rfl ?_
  rintro _ _ ⟨bp, A29, c29, k29, rfl, rfl, hx29, hp29⟩
  refine x_v (r_mv rfl) rfl ?_
  refine x_v (r_ex rfl rfl) rfl ?_
  refine x_v (r_ex rfl rfl) rfl ?_
  refine x_v (r_as rfl) rfl ?_
  refine x_v (r_as rfl) rfl ?_
  refine XL.nil ?_
  refine hK2 _ _ ?_
  refine XC.keep [(1, _), (5, _), (6, _)] ⟨rfl, rfl, rfl, trivial⟩ ?_
  refine XC.seq fun K3 hK3 => ?_
  refine XC.seq fun K4 hK4 => ?_
  refine XC.region ?_
  refine x_c (r_call0 (args := []) rfl (awake_tr) (by repeat (first | exact Gets.done _ | exact Gets.all _ | (apply Gets.step; focus ((repeat (first | exact Pick.head _ _ | apply Pick.tail)); done)) | apply Gets.drop))) rfl ?_
  rintro _ _ ⟨rfl, hRs⟩
  rw [hRs]
  refine x_v (r_not rfl) rfl ?_
  refine x_v (r_mv rfl) rfl ?_
  refine x_want rfl rfl rfl ?_
  refine x_v (r_mv rfl) rfl ?_
  refine x_want rfl rfl rfl ?_
  refine x_v (r_ne rfl rfl) rfl ?_
  refine x_v (r_pk_f rfl rfl) rfl ?_
  refine x_v (r_mv rfl) rfl ?_
  refine XL.splitd 38 rfl (fun hg38 => ?_) (fun hg38 => ?_)
  · exfalso; exact hg38 rfl
  · refine x_want rfl rfl rfl ?_
    refine x_v (r_bd (vs := []) rfl rfl bd32_z) rfl ?_
    refine x_want rfl rfl rfl ?_
    refine x_v (r_mv rfl) rfl ?_
    refine x_want rfl rfl rfl ?_
    refine x_c (r_call0 (args := [_, _]) ⟨rfl, rfl, rfl⟩ (great_tr XA xc T hr hok) (by repeat (first | exact Gets.done _ | exact Gets.all _ | (apply Gets.step; focus ((repeat (first | exact Pick.head _ _ | apply Pick.tail)); done)) | apply Gets.drop))) rfl ?_
    rintro _ _ ⟨⟨g41, rfl, hgr⟩, hRs3⟩
    rw [hRs3]
    refine x_v (r_pk_f rfl rfl) rfl ?_
    refine XL.nil ?_
    refine hK4 _ _ ?_
    refine XC.keep [(1, _), (5, _), (42, _)] ⟨rfl, rfl, rfl, trivial⟩ ?_
    refine XC.cond rfl (fun hc1 => ?_) (fun hc1 => ?_)
    · refine XC.seq fun K5 hK5 => ?_
      refine XC.region ?_
      refine x_c (r_call0 (args := []) rfl (awake_tr) (by repeat (first | exact Gets.done _ | exact Gets.all _ | (apply Gets.step; focus ((repeat (first | exact Pick.head _ _ | apply Pick.tail)); done)) | apply Gets.drop))) rfl ?_
      rintro _ _ ⟨rfl, hRs2⟩
      rw [hRs2]
      refine x_v (r_as rfl) rfl ?_
      refine XL.nil ?_
      refine hK5 _ _ ?_
      refine XC.keep [(4, _)] ⟨rfl, trivial⟩ ?_
      refine XC.ret ?_
      exact fin1 rfl (rfl) (by repeat (first | exact Gets.done _ | exact Gets.all _ | (apply Gets.step; focus ((repeat (first | exact Pick.head _ _ | apply Pick.tail)); done)) | apply Gets.drop))
    · refine XC.skip ?_
      refine hK3 _ _ ?_
      refine XC.keep [(1, _), (5, _)] ⟨rfl, rfl, trivial⟩ ?_
      refine XC.seq fun K6 hK6 => ?_
      have hlen := hgr (by simpa using hc1)
      have hns : Ns W0 2 (fresh me 2 3 0 (-1) 0 0 [] []) A29 c29 none k29 := ⟨hp29, limn hme, fun h => by cases h⟩
      refine XC.nil_ 3 1 ?_
      refine XC.region ?_
      refine x_a (r_mm (.int .i64)) rfl fun b44 => ?_
      refine x_v (r_as rfl) rfl ?_
      refine XL.nil ?_
      refine hK6 _ _ ?_
      refine XC.keep [(1, _), (5, _), (7, _)] ⟨rfl, rfl, rfl, trivial⟩ ?_
      refine XC.seq fun K7 hK7 => ?_
      refine XC.seq fun K8 hK8 => ?_
      rw [mpe_none]
      refine XC.region ?_
      refine x_v (r_mv rfl) rfl ?_
      refine x_v (r_lensl Try.underlying22 rfl) rfl ?_
      refine x_v (r_mv rfl) rfl ?_
      refine XL.nil ?_
      refine hK8 _ _ ?_
      refine XC.keep [(5, _), (7, _), (45, _), (46, _), (47, _)] ⟨rfl, rfl, rfl, rfl, rfl, trivial⟩ ?_
      refine XC.block ?_
      refine XC.loop (σ := Nat × Pl × Option Addr × Nat × Option Nat × HP × (Int → Option En)) (fun s => [(5, .pointer (some ⟨bp, 0, none⟩)), (7, .map (some b44)), (45, .slice XA T.length xc), (46, .int .i64 (T.length : Int)), (47, .int .i64 (s.1 : Int))]) (fun s => mpf b44 (.int .i64) (mpe s.2.2.2.2.2.2) :: blk bp 90 (pc s.2.1 s.2.2.1 s.2.2.2.1 s.2.2.2.2.1) :: vmo s.2.2.2.2.1 :: s.2.2.2.2.2.1 :: Fr) (fun s => s.1 ≤ T.length ∧ Ns W0 (2 + s.1) s.2.1 s.2.2.1 s.2.2.2.1 s.2.2.2.2.1 s.2.2.2.2.2.1 ∧ Was s.2.1 s.2.2.2.2.2.2) (fun s => T.length - s.1) (0, fresh me 2 3 0 (-1) 0 0 [] [], A29, c29, none, k29, fun _ => none) ?_ ⟨rfl, rfl, rfl, rfl, rfl, trivial⟩ (by repeat (first | exact Gets.done _ | exact Gets.all _ | (apply Gets.step; focus ((repeat (first | exact Pick.head _ _ | apply Pick.tail)); done)) | apply Gets.drop)) ?_
      · exact ⟨Nat.zero_le _, hns, was_none _⟩
      rintro ⟨i, p, A, c, M, k, was⟩ ⟨hi, hns, hwas⟩
      dsimp only at hi hns hwas ⊢
      have hpb := hns.pb
      have hL := hns.lim
      have hbB : 2 + i ≤ 1000000 := by omega
      have hag := hL.ag
      have hb0 := hL.b0
      have ha0 := hL.a0
      have ha1 := hL.a1
      have hmost : most = 1099511627776 := rfl
      refine XC.seq fun K9 hK9 => ?_
      refine XC.region ?_
      refine x_v (r_lt rfl rfl) rfl ?_
      refine XL.nil ?_
      refine hK9 _ _ ?_
      refine XC.keep [(5, _), (7, _), (45, _), (46, _), (47, _), (48, _)] ⟨rfl, rfl, rfl, rfl, rfl, rfl, trivial⟩ ?_
      refine XC.seq fun K10 hK10 => ?_
      refine XC.cond_d rfl (fun hc2 => ?_) (fun hc2 => ?_)
      · refine XC.skip ?_
        refine hK10 _ _ ?_
        refine XC.keep [(5, _), (7, _), (45, _), (46, _), (47, _)] ⟨rfl, rfl, rfl, rfl, rfl, trivial⟩ ?_
        refine XC.seq fun K11 hK11 => ?_
        refine XC.block ?_
        refine XC.seq fun K12 hK12 => ?_
        obtain ⟨o, ho⟩ : ∃ o, T[i]? = some o := ⟨_, List.getElem?_eq_getElem (by omega)⟩
        obtain ⟨ob, oo, rfl, hat⟩ := (hr []).at_ (by omega)
        have hoo := hok o (List.mem_of_getElem? ho)
        refine XC.region ?_
        refine x_v (r_ia (k := i) Try.underlying22 ty44 rfl rfl (by omega) (by omega)) rfl ?_
        refine x_v (r_ldar (l' := oc o) ty44 rfl rfl (fun w hw j u hu => by rw [Nat.add_assoc]; exact hat w (Gets.own (by repeat (first | exact Gets.done _ | exact Gets.all _ | (apply Gets.step; focus ((repeat (first | exact Pick.head _ _ | apply Pick.tail)); done)) | apply Gets.drop)) hw) _ u (cells_get oc_len T _ _ ho j u hu))) rfl ?_
        unfold oc
        refine x_a (r_al ty44 rfl) rfl fun b9 => ?_
        refine x_e (r_st ty44 rfl rfl rfl rfl rfl (by repeat (first | exact Upd.head _ _ _ | apply Upd.tail)) (by repeat (first | exact Over.nil _ | apply Over.put | apply Over.skip))) ?_
        refine XL.nil ?_
        refine hK12 _ _ ?_
        refine XC.keep [(5, _), (7, _), (9, _), (45, _), (46, _), (47, _)] ⟨rfl, rfl, rfl, rfl, rfl, rfl, trivial⟩ ?_
        refine XC.seq fun K13 hK13 => ?_
        refine XC.region ?_
        refine x_v (r_mv rfl) rfl ?_
        refine x_c (r_call0 (args := [_]) ⟨rfl, rfl⟩ (commit_tr (p := p) bp M) (by repeat (first | exact Gets.done _ | exact Gets.all _ | (apply Gets.step; focus ((repeat (first | exact Pick.head _ _ | apply Pick.tail)); done)) | apply Gets.drop))) rfl ?_
        rintro _ _ ⟨rfl, rfl⟩
        refine x_v (r_mv rfl) rfl ?_
        refine x_c (r_call0 (args := [_]) ⟨rfl, rfl⟩ (kept_tr (k := k) bp M hpb) (by repeat (first | exact Gets.done _ | exact Gets.all _ | (apply Gets.step; focus ((repeat (first | exact Pick.head _ _ | apply Pick.tail)); done)) | apply Gets.drop))) rfl ?_
        rintro _ _ ⟨A54, c54, rfl, rfl⟩
        refine x_v (r_fd Try.underlying32 rfl ty3 rfl rfl) rfl ?_
        refine x_v (r_mv rfl) rfl ?_
        refine x_c (r_call0 (args := [_]) ⟨rfl, rfl⟩ (plast_tr (k := k) bp M hpb) (by repeat (first | exact Gets.done _ | exact Gets.all _ | (apply Gets.step; focus ((repeat (first | exact Pick.head _ _ | apply Pick.tail)); done)) | apply Gets.drop))) rfl ?_
        rintro _ _ ⟨rfl, rfl⟩
        refine x_v (r_mv rfl) rfl ?_
        refine x_c (r_call0 (args := [_]) ⟨rfl, rfl⟩ (role_tr (p := p) bp M) (by repeat (first | exact Gets.done _ | exact Gets.all _ | (apply Gets.step; focus ((repeat (first | exact Pick.head _ _ | apply Pick.tail)); done)) | apply Gets.drop))) rfl ?_
        rintro _ _ ⟨rfl, rfl⟩
        refine x_v (r_eq rfl rfl) rfl ?_
        refine x_v (r_mv rfl) rfl ?_
        refine x_c (r_call0 (args := [_]) ⟨rfl, rfl⟩ (kept_tr (k := k) bp M hpb) (by repeat (first | exact Gets.done _ | exact Gets.all _ | (apply Gets.step; focus ((repeat (first | exact Pick.head _ _ | apply Pick.tail)); done)) | apply Gets.drop))) rfl ?_
        rintro _ _ ⟨A62, c62, rfl, rfl⟩
        refine x_v (r_fd Try.underlying32 rfl ty3 rfl rfl) rfl ?_
        refine x_v (r_as rfl) rfl ?_
        refine x_v (r_as rfl) rfl ?_
        refine x_v (r_as rfl) rfl ?_
        refine x_v (r_as rfl) rfl ?_
        refine x_v (r_as rfl) rfl ?_
        refine XL.nil ?_
        refine hK13 _ _ ?_
        refine XC.keep [(5, _), (7, _), (9, _), (10, _), (11, _), (12, _), (13, _), (14, _), (45, _), (46, _), (47, _)] ⟨rfl, rfl, rfl, rfl, rfl, rfl, rfl, rfl, rfl, rfl, rfl, trivial⟩ ?_
        refine XC.seq fun K14 hK14 => ?_
        refine XC.region ?_
        refine x_v (r_mv rfl) rfl ?_
        refine x_v (r_mv rfl) rfl ?_
        refine x_c (r_call0 (args := [_, _]) ⟨rfl, rfl, rfl⟩ (entry_tr (k := k) bp M (lastI p) hpb) (by repeat (first | exact Gets.done _ | exact Gets.all _ | (apply Gets.step; focus ((repeat (first | exact Pick.head _ _ | apply Pick.tail)); done)) | apply Gets.drop))) rfl ?_
        rintro _ _ ⟨rfl, rfl⟩
        refine x_v (r_mv rfl) rfl ?_
        refine x_v (r_ex rfl rfl) rfl ?_
        refine x_v (r_ex rfl rfl) rfl ?_
        refine x_a (r_al ty48 rfl) rfl fun b15 => ?_
        refine x_e (r_st ty48 rfl rfl rfl rfl rfl (by repeat (first | exact Upd.head _ _ _ | apply Upd.tail)) (by repeat (first | exact Over.nil _ | apply Over.put | apply Over.skip))) ?_
        refine x_v (r_as rfl) rfl ?_
        refine XL.nil ?_
        refine hK14 _ _ ?_
        refine XC.keep [(5, _), (7, _), (9, _), (10, _), (11, _), (12, _), (13, _), (14, _), (15, _), (45, _), (46, _), (47, _)] ⟨rfl, rfl, rfl, rfl, rfl, rfl, rfl, rfl, rfl, rfl, rfl, rfl, trivial⟩ ?_
        refine XC.seqcut (σ := Pl × Option Addr × Nat × Option Nat × HP) (fun s => [(5, .pointer (some ⟨bp, 0, none⟩)), (7, .map (some b44)), (10, .int .i64 p.agree), (11, .int .i64 p.base), (12, .int .i64 (lastI p)), (13, .bool (decide (p.role = 2))), (14, .int .i64 p.term), (15, .pointer (some ⟨b15, 0, none⟩)), (45, .slice (some ⟨ob, oo, none⟩) T.length xc), (46, .int .i64 (T.length : Int)), (47, .int .i64 (i : Int))]) (fun s => blk b15 48 (ec ((entry p (lastI p)).getD en0)) :: mpf b44 (.int .i64) (mpe was) :: blk bp 90 (pc s.1 s.2.1 s.2.2.1 s.2.2.2.1) :: vmo s.2.2.2.1 :: s.2.2.2.2 :: Fr) (fun s => Ns W0 (2 + i + 1) s.1 s.2.1 s.2.2.1 s.2.2.2.1 s.2.2.2.2 ∧ Stp p s.1) ?_ ?_
        · refine XC.seq fun K16 hK16 => ?_
          refine XC.region ?_
          refine x_v (r_fa fo44_0 rfl) rfl ?_
          refine x_v (r_ld ty3 rfl (by repeat (first | exact Pick.head _ _ | apply Pick.tail)) (by rfl)) rfl ?_
          refine XL.nil ?_
          refine hK16 _ _ ?_
          refine XC.keep [(5, _), (7, _), (9, _), (10, _), (11, _), (12, _), (13, _), (14, _), (15, _), (45, _), (46, _), (47, _), (71, _)] ⟨rfl, rfl, rfl, rfl, rfl, rfl, rfl, rfl, rfl, rfl, rfl, rfl, rfl, trivial⟩ ?_
          refine XC.block ?_
          refine XC.seq fun K17 hK17 => ?_
          refine XC.region ?_
          refine x_v (r_eq rfl rfl) rfl ?_
          refine x_v (r_as rfl) rfl ?_
          refine XL.nil ?_
          refine hK17 _ _ ?_
          refine XC.keep [(5, _), (7, _), (9, _), (10, _), (11, _), (12, _), (13, _), (14, _), (15, _), (45, _), (46, _), (47, _), (71, _), (76, _)] ⟨rfl, rfl, rfl, rfl, rfl, rfl, rfl, rfl, rfl, rfl, rfl, rfl, rfl, rfl, trivial⟩ ?_
          refine XC.cond_d rfl (fun hc3 => ?_) (fun hc3 => ?_)
          · refine XC.draw [blk b9 44 [.int .i64 o.kind, .int .i64 o.n, .int .i64 o.frm, str o.data, .int .i64 o.x.m.kind, .int .i64 o.x.m.term, .int .i64 o.x.m.index, .int .i64 o.x.m.prev, .int .i64 o.x.m.commit, .bool o.x.m.good, .slice o.x.A o.x.m.es.length o.x.c, str o.x.m.data, .slice o.x.hA o.x.hn o.x.hc, .int .i64 o.x.ep, .int .i64 o.x.si, .int .i64 o.x.a1, .int .i64 o.x.a2, .int .i64 o.x.w1, .int .i64 o.x.w2, .slice o.x.oA o.x.on o.x.oc, .slice o.x.pA o.x.pn o.x.pc]] true [(0, false), (1, false), (2, false), (3, false), (4, false), (5, true), (6, true)] (by kernel_rfl) (by kernel_rfl) ?_
            refine y_v rfl (r_mv rfl) (fun _ h => Gets.own (by repeat (first | exact Gets.done _ | exact Gets.all _ | (apply Gets.step; focus ((repeat (first | exact Pick.head _ _ | apply Pick.tail)); done)) | apply Gets.drop)) h) rfl ?_
            refine y_v rfl (r_fa fo44_2 rfl) (fun _ h => Gets.own (by repeat (first | exact Gets.done _ | exact Gets.all _ | (apply Gets.step; focus ((repeat (first | exact Pick.head _ _ | apply Pick.tail)); done)) | apply Gets.drop)) h) rfl ?_
            refine y_v rfl (r_ld ty3 rfl (by repeat (first | exact Pick.head _ _ | apply Pick.tail)) (by rfl)) (fun _ h => Gets.own (by repeat (first | exact Gets.done _ | exact Gets.all _ | (apply Gets.step; focus ((repeat (first | exact Pick.head _ _ | apply Pick.tail)); done)) | apply Gets.drop)) h) rfl ?_
            refine y_v rfl (r_fa fo44_4 rfl) (fun _ h => Gets.own (by repeat (first | exact Gets.done _ | exact Gets.all _ | (apply Gets.step; focus ((repeat (first | exact Pick.head _ _ | apply Pick.tail)); done)) | apply Gets.drop)) h) rfl ?_
            refine y_v rfl (r_lda (l' := [_, _, _, _, _, _, _, _, _, _, _, _, _, _, _, _, _]) ty42 rfl (by repeat (first | exact Pick.head _ _ | apply Pick.tail)) rfl (Sub.get (by repeat (first | exact Sub.nil _ | apply Sub.take | apply Sub.skip)))) (fun _ h => Gets.own (by repeat (first | exact Gets.done _ | exact Gets.all _ | (apply Gets.step; focus ((repeat (first | exact Pick.head _ _ | apply Pick.tail)); done)) | apply Gets.drop)) h) rfl ?_
            refine y_c rfl (r_call0 (args := [_]) ⟨rfl, rfl⟩ (own_tr (k := k) (Fr := blk b9 44 [.int .i64 o.kind, .int .i64 o.n, .int .i64 o.frm, str o.data, .int .i64 o.x.m.kind, .int .i64 o.x.m.term, .int .i64 o.x.m.index, .int .i64 o.x.m.prev, .int .i64 o.x.m.commit, .bool o.x.m.good, .slice o.x.A o.x.m.es.length o.x.c, str o.x.m.data, .slice o.x.hA o.x.hn o.x.hc, .int .i64 o.x.ep, .int .i64 o.x.si, .int .i64 o.x.a1, .int .i64 o.x.a2, .int .i64 o.x.w1, .int .i64 o.x.w2, .slice o.x.oA o.x.on o.x.oc, .slice o.x.pA o.x.pn o.x.pc] :: mpf b44 (.int .i64) (mpe was) :: blk b15 48 (ec ((entry p (lastI p)).getD en0)) :: blk bp 90 (pc p A c M) :: vmo M :: Fr) o.x hoo) (by repeat (first | exact Gets.done _ | exact Gets.all _ | (apply Gets.step; focus ((repeat (first | exact Pick.head _ _ | apply Pick.tail)); done)) | apply Gets.drop))) (by rintro _ _ _ _ ⟨A83, c83, k83, rfl, rfl, hx83, hr83, hc83⟩ h; exact Gets.own (by repeat (first | exact Gets.done _ | exact Gets.all _ | (apply Gets.step; focus ((repeat (first | exact Pick.head _ _ | apply Pick.tail)); done)) | apply Gets.drop)) h) rfl ?_
            rintro _ _ ⟨A83, c83, k83, rfl, rfl, hx83, hr83, hc83⟩
            refine y_c rfl (r_call0 (args := [_, _, _]) ⟨rfl, rfl, rfl, rfl⟩ (take_tr (k := k83) bp M o.frm { o.x with A := A83, c := c83 } (hpb.ex hx83) hL hbB hns.mm hr83 hc83 (by have := hoo.2; dsimp only; omega)) (by repeat (first | exact Gets.done _ | exact Gets.all _ | (apply Gets.step; focus ((repeat (first | exact Pick.head _ _ | apply Pick.tail)); done)) | apply Gets.drop))) (fun h => absurd h (by decide)) rfl ?_
            rintro _ _ ⟨L2, B2, d2, A2, c2, M2, k2, rfl, rfl, hL2, hx2, hp2, hr2, hm2⟩
            refine XH.nil ?_
            exact ⟨((take p o.frm o.x.m).1, A2, c2, M2, k2), ⟨⟨hp2, hL.take o.frm o.x.m, hm2⟩, take_kp hL o.frm o.x.m⟩, ⟨rfl, rfl, rfl, rfl, rfl, rfl, rfl, rfl, rfl, rfl, rfl, trivial⟩, (by repeat (first | exact Gets.done _ | exact Gets.all _ | (apply Gets.step; focus ((repeat (first | exact Pick.head _ _ | apply Pick.tail)); done)) | apply Gets.drop))⟩
          · refine XC.seq fun K18 hK18 => ?_
            refine XC.region ?_
            refine x_v (r_eq rfl rfl) rfl ?_
            refine x_v (r_as rfl) rfl ?_
            refine XL.nil ?_
            refine hK18 _ _ ?_
            refine XC.keep [(5, _), (7, _), (9, _), (10, _), (11, _), (12, _), (13, _), (14, _), (15, _), (45, _), (46, _), (47, _), (71, _), (85, _)] ⟨rfl, rfl, rfl, rfl, rfl, rfl, rfl, rfl, rfl, rfl, rfl, rfl, rfl, rfl, trivial⟩ ?_
            refine XC.cond_d rfl (fun hc4 => ?_) (fun hc4 => ?_)
            · refine XC.region ?_
              refine x_v (r_mv rfl) rfl ?_
              refine x_v (r_fa fo44_3 rfl) rfl ?_
              refine x_v (r_ld ty9 rfl (by repeat (first | exact Pick.head _ _ | apply Pick.tail)) (by rfl)) rfl ?_
              refine x_c (r_call0 (args := [_, _]) ⟨rfl, rfl, rfl⟩ (propose_tr (k := k) bp M o.data hpb hL hbB hns.mm) (by repeat (first | exact Gets.done _ | exact Gets.all _ | (apply Gets.step; focus ((repeat (first | exact Pick.head _ _ | apply Pick.tail)); done)) | apply Gets.drop))) rfl ?_
              rintro _ _ ⟨L2, B2, d2, A2, c2, M2, k2, rfl, rfl, hL2, hx2, hp2, hr2, hm2⟩
              refine XL.nil ?_
              exact ⟨((propose p o.data).1, A2, c2, M2, k2), ⟨⟨hp2, hL.propose o.data, hm2⟩, .of ((propose_kp p o.data).less hag) (propose_kp p o.data)⟩, ⟨rfl, rfl, rfl, rfl, rfl, rfl, rfl, rfl, rfl, rfl, rfl, trivial⟩, (by repeat (first | exact Gets.done _ | exact Gets.all _ | (apply Gets.step; focus ((repeat (first | exact Pick.head _ _ | apply Pick.tail)); done)) | apply Gets.drop))⟩
            · refine XC.seq fun K19 hK19 => ?_
              refine XC.region ?_
              refine x_v (r_eq rfl rfl) rfl ?_
              refine x_v (r_as rfl) rfl ?_
              refine XL.nil ?_
              refine hK19 _ _ ?_
              refine XC.keep [(5, _), (7, _), (9, _), (10, _), (11, _), (12, _), (13, _), (14, _), (15, _), (45, _), (46, _), (47, _), (91, _)] ⟨rfl, rfl, rfl, rfl, rfl, rfl, rfl, rfl, rfl, rfl, rfl, rfl, rfl, trivial⟩ ?_
              refine XC.cond_d rfl (fun hc5 => ?_) (fun hc5 => ?_)
              · refine XC.region ?_
                refine x_v (r_mv rfl) rfl ?_
                refine x_v (r_fa fo44_1 rfl) rfl ?_
                refine x_v (r_ld ty3 rfl (by repeat (first | exact Pick.head _ _ | apply Pick.tail)) (by rfl)) rfl ?_
                refine x_v (r_fa fo44_3 rfl) rfl ?_
                refine x_v (r_ld ty9 rfl (by repeat (first | exact Pick.head _ _ | apply Pick.tail)) (by rfl)) rfl ?_
                refine x_c (r_call0 (args := [_, _, _]) ⟨rfl, rfl, rfl, rfl⟩ (compact_tr (k := k) bp M o.n o.data hpb hL) (by repeat (first | exact Gets.done _ | exact Gets.all _ | (apply Gets.step; focus ((repeat (first | exact Pick.head _ _ | apply Pick.tail)); done)) | apply Gets.drop))) rfl ?_
                rintro _ _ ⟨rfl, A2, c2, k2, rfl, hx2, hp2⟩
                refine XL.nil ?_
                exact ⟨((compact p o.n o.data).1, A2, c2, M, k2), ⟨⟨hp2, (hL.compact o.n o.data).mono (by omega), fun h => hns.mm (by rw [← compact_role p o.n o.data]; exact h)⟩, .of (compact_kp hL o.n o.data _) (compact_kp hL o.n o.data _)⟩, ⟨rfl, rfl, rfl, rfl, rfl, rfl, rfl, rfl, rfl, rfl, rfl, trivial⟩, (by repeat (first | exact Gets.done _ | exact Gets.all _ | (apply Gets.step; focus ((repeat (first | exact Pick.head _ _ | apply Pick.tail)); done)) | apply Gets.drop))⟩
              · refine XC.region ?_
                refine x_v (r_mv rfl) rfl ?_
                refine x_v (r_fa fo44_1 rfl) rfl ?_
                refine x_v (r_ld ty3 rfl (by repeat (first | exact Pick.head _ _ | apply Pick.tail)) (by rfl)) rfl ?_
                refine x_c (r_call0 (args := [_, _]) ⟨rfl, rfl, rfl⟩ (tick_tr (k := k) bp M o.n hpb hL hbB hns.mm) (by repeat (first | exact Gets.done _ | exact Gets.all _ | (apply Gets.step; focus ((repeat (first | exact Pick.head _ _ | apply Pick.tail)); done)) | apply Gets.drop))) rfl ?_
                rintro _ _ ⟨L2, B2, d2, A2, c2, M2, k2, rfl, rfl, hL2, hx2, hp2, hr2, hm2⟩
                refine XL.nil ?_
                exact ⟨((tick p o.n).1, A2, c2, M2, k2), ⟨⟨hp2, hL.tick o.n, hm2⟩, .of (tick_kp p o.n _) (tick_kp p o.n _)⟩, ⟨rfl, rfl, rfl, rfl, rfl, rfl, rfl, rfl, rfl, rfl, rfl, trivial⟩, (by repeat (first | exact Gets.done _ | exact Gets.all _ | (apply Gets.step; focus ((repeat (first | exact Pick.head _ _ | apply Pick.tail)); done)) | apply Gets.drop))⟩
        · rintro ⟨q, A2, c2, M2, k2⟩ ⟨hq, hst⟩
          dsimp only at hq hst ⊢
          have hqb := hq.pb
          have hqL := hq.lim
          have hq1 := hqL.ag
          have hq0 := hqL.a0
          have hq2 := hqL.b0
          have hq3 := hqL.a1
          have hs1 := hst.1.b
          have hs2 := hst.1.a
          have hwas2 := hwas.kp hst.1
          refine XC.seq fun K20 hK20 => ?_
          refine XC.region ?_
          refine x_v (r_mv rfl) rfl ?_
          refine x_c (r_call0 (args := [_]) ⟨rfl, rfl⟩ (kept_tr (k := k2) bp M2 hqb) (by repeat (first | exact Gets.done _ | exact Gets.all _ | (apply Gets.step; focus ((repeat (first | exact Pick.head _ _ | apply Pick.tail)); done)) | apply Gets.drop))) rfl ?_
          rintro _ _ ⟨A100, c100, rfl, rfl⟩
          refine x_a (r_al ty32 rfl) rfl fun b17 => ?_
          refine x_e (r_st ty32 rfl rfl rfl rfl rfl (by repeat (first | exact Upd.head _ _ _ | apply Upd.tail)) (by repeat (first | exact Over.nil _ | apply Over.put | apply Over.skip))) ?_
          refine XL.nil ?_
          refine hK20 _ _ ?_
          refine XC.keep [(5, _), (7, _), (10, _), (11, _), (12, _), (13, _), (14, _), (15, _), (17, _), (45, _), (46, _), (47, _)] ⟨rfl, rfl, rfl, rfl, rfl, rfl, rfl, rfl, rfl, rfl, rfl, rfl, trivial⟩ ?_
          refine XC.seq fun K21 hK21 => ?_
          refine XC.seq fun K22 hK22 => ?_
          refine XC.draw [blk b17 32 [.int .i64 q.term, .int .i64 q.vote, .int .i64 q.base, .int .i64 q.bterm, str q.snap, .slice A100 q.es.length c100]] false [(0, false), (2, false), (1, true), (3, false), (4, false), (5, false), (6, false), (7, false), (8, false), (9, false), (10, false), (11, false), (12, false), (13, false), (14, true), (15, false), (16, false), (17, false), (18, false), (20, false), (19, true), (21, true), (22, false), (23, false)] (by kernel_rfl) (by kernel_rfl) ?_
          refine y_v rfl (r_mv rfl) (fun _ h => Gets.own (by repeat (first | exact Gets.done _ | exact Gets.all _ | (apply Gets.step; focus ((repeat (first | exact Pick.head _ _ | apply Pick.tail)); done)) | apply Gets.drop)) h) rfl ?_
          refine y_v rfl (r_mv rfl) (fun _ h => Gets.own (by repeat (first | exact Gets.done _ | exact Gets.all _ | (apply Gets.step; focus ((repeat (first | exact Pick.head _ _ | apply Pick.tail)); done)) | apply Gets.drop)) h) rfl ?_
          refine y_c rfl (r_call0 (args := [_]) ⟨rfl, rfl⟩ (commit_tr (p := q) bp M2) (by repeat (first | exact Gets.done _ | exact Gets.all _ | (apply Gets.step; focus ((repeat (first | exact Pick.head _ _ | apply Pick.tail)); done)) | apply Gets.drop))) (by rintro _ _ _ _ ⟨rfl, rfl⟩ h; exact Gets.own (by repeat (first | exact Gets.done _ | exact Gets.all _ | (apply Gets.step; focus ((repeat (first | exact Pick.head _ _ | apply Pick.tail)); done)) | apply Gets.drop)) h) rfl ?_
          rintro _ _ ⟨rfl, rfl⟩
          refine y_v rfl (r_lt rfl rfl) (fun _ h => Gets.own (by repeat (first | exact Gets.done _ | exact Gets.all _ | (apply Gets.step; focus ((repeat (first | exact Pick.head _ _ | apply Pick.tail)); done)) | apply Gets.drop)) h) rfl ?_
          refine y_v rfl (r_mv rfl) (fun _ h => Gets.own (by repeat (first | exact Gets.done _ | exact Gets.all _ | (apply Gets.step; focus ((repeat (first | exact Pick.head _ _ | apply Pick.tail)); done)) | apply Gets.drop)) h) rfl ?_
          refine XH.splitd 105 rfl (fun hg105 => ?_) (fun hg105 => ?_)
          · exfalso; omega
          · refine y_vg rfl rfl rfl (r_fa fo32_2 rfl) (fun _ h => Gets.own (by repeat (first | exact Gets.done _ | exact Gets.all _ | (apply Gets.step; focus ((repeat (first | exact Pick.head _ _ | apply Pick.tail)); done)) | apply Gets.drop)) h) rfl ?_
            refine y_vg rfl rfl rfl (r_ld ty3 rfl (by repeat (first | exact Pick.head _ _ | apply Pick.tail)) (by rfl)) (fun _ h => Gets.own (by repeat (first | exact Gets.done _ | exact Gets.all _ | (apply Gets.step; focus ((repeat (first | exact Pick.head _ _ | apply Pick.tail)); done)) | apply Gets.drop)) h) rfl ?_
            refine y_vg rfl rfl rfl (r_mv rfl) (fun _ h => Gets.own (by repeat (first | exact Gets.done _ | exact Gets.all _ | (apply Gets.step; focus ((repeat (first | exact Pick.head _ _ | apply Pick.tail)); done)) | apply Gets.drop)) h) rfl ?_
            refine y_vg rfl rfl rfl (r_lt rfl rfl) (fun _ h => Gets.own (by repeat (first | exact Gets.done _ | exact Gets.all _ | (apply Gets.step; focus ((repeat (first | exact Pick.head _ _ | apply Pick.tail)); done)) | apply Gets.drop)) h) rfl ?_
            refine y_v rfl (r_pk_f rfl rfl) (fun _ h => Gets.own (by repeat (first | exact Gets.done _ | exact Gets.all _ | (apply Gets.step; focus ((repeat (first | exact Pick.head _ _ | apply Pick.tail)); done)) | apply Gets.drop)) h) rfl ?_
            refine y_v rfl (r_mv rfl) (fun _ h => Gets.own (by repeat (first | exact Gets.done _ | exact Gets.all _ | (apply Gets.step; focus ((repeat (first | exact Pick.head _ _ | apply Pick.tail)); done)) | apply Gets.drop)) h) rfl ?_
            refine XH.splitd 111 rfl (fun hg111 => ?_) (fun hg111 => ?_)
            · exfalso; omega
            · refine y_vg rfl rfl rfl (r_fa fo32_2 rfl) (fun _ h => Gets.own (by repeat (first | exact Gets.done _ | exact Gets.all _ | (apply Gets.step; focus ((repeat (first | exact Pick.head _ _ | apply Pick.tail)); done)) | apply Gets.drop)) h) rfl ?_
              refine y_vg rfl rfl rfl (r_ld ty3 rfl (by repeat (first | exact Pick.head _ _ | apply Pick.tail)) (by rfl)) (fun _ h => Gets.own (by repeat (first | exact Gets.done _ | exact Gets.all _ | (apply Gets.step; focus ((repeat (first | exact Pick.head _ _ | apply Pick.tail)); done)) | apply Gets.drop)) h) rfl ?_
              refine y_vg rfl rfl rfl (r_mv rfl) (fun _ h => Gets.own (by repeat (first | exact Gets.done _ | exact Gets.all _ | (apply Gets.step; focus ((repeat (first | exact Pick.head _ _ | apply Pick.tail)); done)) | apply Gets.drop)) h) rfl ?_
              refine y_cg rfl rfl rfl (r_call0 (args := [_]) ⟨rfl, rfl⟩ (commit_tr (p := q) bp M2) (by repeat (first | exact Gets.done _ | exact Gets.all _ | (apply Gets.step; focus ((repeat (first | exact Pick.head _ _ | apply Pick.tail)); done)) | apply Gets.drop))) (by rintro _ _ _ _ ⟨rfl, rfl⟩ h; exact Gets.own (by repeat (first | exact Gets.done _ | exact Gets.all _ | (apply Gets.step; focus ((repeat (first | exact Pick.head _ _ | apply Pick.tail)); done)) | apply Gets.drop)) h) rfl ?_
              rintro _ _ ⟨rfl, rfl⟩
              refine y_vg rfl rfl rfl (r_gt rfl rfl) (fun _ h => Gets.own (by repeat (first | exact Gets.done _ | exact Gets.all _ | (apply Gets.step; focus ((repeat (first | exact Pick.head _ _ | apply Pick.tail)); done)) | apply Gets.drop)) h) rfl ?_
              refine y_v rfl (r_pk_f rfl rfl) (fun _ h => Gets.own (by repeat (first | exact Gets.done _ | exact Gets.all _ | (apply Gets.step; focus ((repeat (first | exact Pick.head _ _ | apply Pick.tail)); done)) | apply Gets.drop)) h) rfl ?_
              refine y_v rfl (r_mv rfl) (fun _ h => Gets.own (by repeat (first | exact Gets.done _ | exact Gets.all _ | (apply Gets.step; focus ((repeat (first | exact Pick.head _ _ | apply Pick.tail)); done)) | apply Gets.drop)) h) rfl ?_
              refine XH.splitd 118 rfl (fun hg118 => ?_) (fun hg118 => ?_)
              · exfalso; omega
              · refine y_vg rfl rfl rfl (r_mv rfl) (fun _ h => Gets.own (by repeat (first | exact Gets.done _ | exact Gets.all _ | (apply Gets.step; focus ((repeat (first | exact Pick.head _ _ | apply Pick.tail)); done)) | apply Gets.drop)) h) rfl ?_
                refine y_vg rfl rfl rfl (r_mv rfl) (fun _ h => Gets.own (by repeat (first | exact Gets.done _ | exact Gets.all _ | (apply Gets.step; focus ((repeat (first | exact Pick.head _ _ | apply Pick.tail)); done)) | apply Gets.drop)) h) rfl ?_
                refine y_cg rfl rfl rfl (r_call0 (args := [_]) ⟨rfl, rfl⟩ (commit_tr (p := q) bp M2) (by repeat (first | exact Gets.done _ | exact Gets.all _ | (apply Gets.step; focus ((repeat (first | exact Pick.head _ _ | apply Pick.tail)); done)) | apply Gets.drop))) (by rintro _ _ _ _ ⟨rfl, rfl⟩ h; exact Gets.own (by repeat (first | exact Gets.done _ | exact Gets.all _ | (apply Gets.step; focus ((repeat (first | exact Pick.head _ _ | apply Pick.tail)); done)) | apply Gets.drop)) h) rfl ?_
                rintro _ _ ⟨rfl, rfl⟩
                refine y_cg rfl rfl rfl (r_call0 (args := [_]) ⟨rfl, rfl⟩ (plast_tr (k := k2) bp M2 hqb) (by repeat (first | exact Gets.done _ | exact Gets.all _ | (apply Gets.step; focus ((repeat (first | exact Pick.head _ _ | apply Pick.tail)); done)) | apply Gets.drop))) (by rintro _ _ _ _ ⟨rfl, rfl⟩ h; exact Gets.own (by repeat (first | exact Gets.done _ | exact Gets.all _ | (apply Gets.step; focus ((repeat (first | exact Pick.head _ _ | apply Pick.tail)); done)) | apply Gets.drop)) h) rfl ?_
                rintro _ _ ⟨rfl, rfl⟩
                refine y_vg rfl rfl rfl (r_gt rfl rfl) (fun _ h => Gets.own (by repeat (first | exact Gets.done _ | exact Gets.all _ | (apply Gets.step; focus ((repeat (first | exact Pick.head _ _ | apply Pick.tail)); done)) | apply Gets.drop)) h) rfl ?_
                refine y_v rfl (r_pk_f rfl rfl) (fun _ h => Gets.own (by repeat (first | exact Gets.done _ | exact Gets.all _ | (apply Gets.step; focus ((repeat (first | exact Pick.head _ _ | apply Pick.tail)); done)) | apply Gets.drop)) h) rfl ?_
                refine XH.nil ?_
                refine hK22 _ _ ?_
                refine XC.keep [(5, _), (7, _), (12, _), (13, _), (14, _), (15, _), (17, _), (45, _), (46, _), (47, _), (124, _)] ⟨rfl, rfl, rfl, rfl, rfl, rfl, rfl, rfl, rfl, rfl, rfl, trivial⟩ ?_
                refine XC.cond_d rfl (fun hc6 => ?_) (fun hc6 => ?_)
                · exfalso; omega
                · refine XC.skip ?_
                  refine hK21 _ _ ?_
                  refine XC.keep [(5, _), (7, _), (12, _), (13, _), (14, _), (15, _), (17, _), (45, _), (46, _), (47, _)] ⟨rfl, rfl, rfl, rfl, rfl, rfl, rfl, rfl, rfl, rfl, trivial⟩ ?_
                  refine XC.seqcut (σ := Unit) (fun s => [(5, .pointer (some ⟨bp, 0, none⟩)), (7, .map (some b44)), (17, .pointer (some ⟨b17, 0, none⟩)), (45, .slice (some ⟨ob, oo, none⟩) T.length xc), (46, .int .i64 (T.length : Int)), (47, .int .i64 (i : Int))]) (fun s => blk b17 32 [.int .i64 q.term, .int .i64 q.vote, .int .i64 q.base, .int .i64 q.bterm, str q.snap, .slice A100 q.es.length c100] :: mpf b44 (.int .i64) (mpe was) :: blk bp 90 (pc q A2 c2 M2) :: vmo M2 :: k2 :: Fr) (fun s => True) ?_ ?_
                  · refine XC.seq fun K24 hK24 => ?_
                    refine XC.region ?_
                    refine x_v (r_mv rfl) rfl ?_
                    refine x_v (r_mv rfl) rfl ?_
                    refine XL.splitd 126 rfl (fun hg126 => ?_) (fun hg126 => ?_)
                    · refine x_want rfl rfl rfl ?_
                      refine x_v (r_mv rfl) rfl ?_
                      refine x_want rfl rfl rfl ?_
                      refine x_c (r_call0 (args := [_]) ⟨rfl, rfl⟩ (role_tr (p := q) bp M2) (by repeat (first | exact Gets.done _ | exact Gets.all _ | (apply Gets.step; focus ((repeat (first | exact Pick.head _ _ | apply Pick.tail)); done)) | apply Gets.drop))) rfl ?_
                      rintro _ _ ⟨rfl, rfl⟩
                      refine x_want rfl rfl rfl ?_
                      refine x_v (r_eq rfl rfl) rfl ?_
                      refine x_v (r_pk_t rfl rfl) rfl ?_
                      refine x_v (r_mv rfl) rfl ?_
                      refine XL.splitd 131 rfl (fun hg131 => ?_) (fun hg131 => ?_)
                      · refine x_want rfl rfl rfl ?_
                        refine x_v (r_fa fo32_0 rfl) rfl ?_
                        refine x_want rfl rfl rfl ?_
                        refine x_v (r_ld ty3 rfl (by repeat (first | exact Pick.head _ _ | apply Pick.tail)) (by rfl)) rfl ?_
                        refine x_want rfl rfl rfl ?_
                        refine x_v (r_mv rfl) rfl ?_
                        refine x_want rfl rfl rfl ?_
                        refine x_v (r_eq rfl rfl) rfl ?_
                        refine x_v (r_pk_t rfl rfl) rfl ?_
                        refine x_v (r_mv rfl) rfl ?_
                        refine XL.splitd 137 rfl (fun hg137 => ?_) (fun hg137 => ?_)
                        · refine x_want rfl rfl rfl ?_
                          refine x_v (r_mv rfl) rfl ?_
                          refine x_want rfl rfl rfl ?_
                          refine x_v (r_fa fo32_2 rfl) rfl ?_
                          refine x_want rfl rfl rfl ?_
                          refine x_v (r_ld ty3 rfl (by repeat (first | exact Pick.head _ _ | apply Pick.tail)) (by rfl)) rfl ?_
                          refine x_want rfl rfl rfl ?_
                          refine x_v (r_gt rfl rfl) rfl ?_
                          refine x_v (r_pk_t rfl rfl) rfl ?_
                          refine XL.nil ?_
                          refine hK24 _ _ ?_
                          refine XC.keep [(5, _), (7, _), (12, _), (15, _), (17, _), (45, _), (46, _), (47, _), (142, _)] ⟨rfl, rfl, rfl, rfl, rfl, rfl, rfl, rfl, rfl, trivial⟩ ?_
                          refine XC.cond_d rfl (fun hc7 => ?_) (fun hc7 => ?_)
                          · refine XC.seq fun K25 hK25 => ?_
                            have hk2 := hst.2 hg126 hg131 hg137
                            obtain ⟨x0, hx0⟩ := entry_some hL (i := lastI p) (by omega) (Int.le_refl _)
                            have hke : entry q (lastI p) = some x0 := (hk2.e _ (by omega) (Int.le_refl _)).trans hx0
                            rw [hx0]
                            dsimp only [Option.getD_some]
                            refine XC.region ?_
                            refine x_v (r_mv rfl) rfl ?_
                            refine x_v (r_mv rfl) rfl ?_
                            refine x_c (r_call0 (args := [_, _]) ⟨rfl, rfl, rfl⟩ (entry_tr (k := k2) bp M2 (lastI p) hqb) (by repeat (first | exact Gets.done _ | exact Gets.all _ | (apply Gets.step; focus ((repeat (first | exact Pick.head _ _ | apply Pick.tail)); done)) | apply Gets.drop))) rfl ?_
                            rintro _ _ ⟨rfl, rfl⟩
                            rw [hke]
                            dsimp only [Option.getD_some, Option.isSome_some]
                            refine x_v (r_mv rfl) rfl ?_
                            refine x_v (r_ex rfl rfl) rfl ?_
                            refine x_v (r_ex rfl rfl) rfl ?_
                            refine x_a (r_al ty48 rfl) rfl fun b18 => ?_
                            refine x_e (r_st ty48 rfl rfl rfl rfl rfl (by repeat (first | exact Upd.head _ _ _ | apply Upd.tail)) (by repeat (first | exact Over.nil _ | apply Over.put | apply Over.skip))) ?_
                            refine x_v (r_as rfl) rfl ?_
                            refine XL.nil ?_
                            refine hK25 _ _ ?_
                            refine XC.keep [(5, _), (7, _), (15, _), (17, _), (18, _), (19, _), (45, _), (46, _), (47, _)] ⟨rfl, rfl, rfl, rfl, rfl, rfl, rfl, rfl, rfl, trivial⟩ ?_
                            refine XC.seq fun K26 hK26 => ?_
                            refine XC.region ?_
                            refine x_v (r_mv rfl) rfl ?_
                            refine x_v (r_not rfl) rfl ?_
                            refine x_v (r_mv rfl) rfl ?_
                            refine XL.split 151 rfl (fun hg151 => ?_) (fun hg151 => ?_)
                            · exfalso; cases hg151
                            · refine x_want rfl rfl rfl ?_
                              refine x_v (r_lda (l' := [_, _]) ty48 rfl (by repeat (first | exact Pick.head _ _ | apply Pick.tail)) rfl (Sub.get (by repeat (first | exact Sub.nil _ | apply Sub.take | apply Sub.skip)))) rfl ?_
                              refine x_want rfl rfl rfl ?_
                              refine x_v (r_lda (l' := [_, _]) ty48 rfl (by repeat (first | exact Pick.head _ _ | apply Pick.tail)) rfl (Sub.get (by repeat (first | exact Sub.nil _ | apply Sub.take | apply Sub.skip)))) rfl ?_
                              refine x_want rfl rfl rfl ?_
                              refine x_v (r_stne (by kernel_rfl) (fun w => eq48 _ _ _ _ w) rfl rfl) rfl ?_
                              refine x_v (r_pk_f rfl rfl) rfl ?_
                              refine XL.nil ?_
                              refine hK26 _ _ ?_
                              refine XC.keep [(5, _), (7, _), (17, _), (45, _), (46, _), (47, _), (155, _)] ⟨rfl, rfl, rfl, rfl, rfl, rfl, rfl, trivial⟩ ?_
                              refine XC.cond_d rfl (fun hc8 => ?_) (fun hc8 => ?_)
                              · exfalso; exact hc8 ⟨rfl, rfl⟩
                              · refine XC.skip ?_
                                exact ⟨(), trivial, ⟨rfl, rfl, rfl, rfl, rfl, rfl, trivial⟩, (by repeat (first | exact Gets.done _ | exact Gets.all _ | (apply Gets.step; focus ((repeat (first | exact Pick.head _ _ | apply Pick.tail)); done)) | apply Gets.drop))⟩
                          · refine XC.skip ?_
                            exact ⟨(), trivial, ⟨rfl, rfl, rfl, rfl, rfl, rfl, trivial⟩, (by repeat (first | exact Gets.done _ | exact Gets.all _ | (apply Gets.step; focus ((repeat (first | exact Pick.head _ _ | apply Pick.tail)); done)) | apply Gets.drop))⟩
                        · refine x_unwant rfl rfl rfl rfl rfl ?_
                          refine x_unwant rfl rfl rfl rfl rfl ?_
                          refine x_unwant rfl rfl rfl rfl rfl ?_
                          refine x_unwant rfl rfl rfl rfl rfl ?_
                          refine x_v (r_pk_f rfl rfl) rfl ?_
                          refine XL.nil ?_
                          refine hK24 _ _ ?_
                          refine XC.keep [(5, _), (7, _), (12, _), (15, _), (17, _), (45, _), (46, _), (47, _), (142, _)] ⟨rfl, rfl, rfl, rfl, rfl, rfl, rfl, rfl, rfl, trivial⟩ ?_
                          refine XC.cond_f rfl ?_
                          refine XC.skip ?_
                          exact ⟨(), trivial, ⟨rfl, rfl, rfl, rfl, rfl, rfl, trivial⟩, (by repeat (first | exact Gets.done _ | exact Gets.all _ | (apply Gets.step; focus ((repeat (first | exact Pick.head _ _ | apply Pick.tail)); done)) | apply Gets.drop))⟩
                      · refine x_unwant rfl rfl rfl rfl rfl ?_
                        refine x_unwant rfl rfl rfl rfl rfl ?_
                        refine x_unwant rfl rfl rfl rfl rfl ?_
                        refine x_unwant rfl rfl rfl rfl rfl ?_
                        refine x_v (r_pk_f rfl rfl) rfl ?_
                        refine x_v (r_mv rfl) rfl ?_
                        refine x_unwant rfl rfl rfl rfl rfl ?_
                        refine x_unwant rfl rfl rfl rfl rfl ?_
                        refine x_unwant rfl rfl rfl rfl rfl ?_
                        refine x_unwant rfl rfl rfl rfl rfl ?_
                        refine x_v (r_pk_f rfl rfl) rfl ?_
                        refine XL.nil ?_
                        refine hK24 _ _ ?_
                        refine XC.keep [(5, _), (7, _), (12, _), (15, _), (17, _), (45, _), (46, _), (47, _), (142, _)] ⟨rfl, rfl, rfl, rfl, rfl, rfl, rfl, rfl, rfl, trivial⟩ ?_
                        refine XC.cond_f rfl ?_
                        refine XC.skip ?_
                        exact ⟨(), trivial, ⟨rfl, rfl, rfl, rfl, rfl, rfl, trivial⟩, (by repeat (first | exact Gets.done _ | exact Gets.all _ | (apply Gets.step; focus ((repeat (first | exact Pick.head _ _ | apply Pick.tail)); done)) | apply Gets.drop))⟩
                    · refine x_unwant rfl rfl rfl rfl rfl ?_
                      refine x_unwant rfl rfl rfl rfl rfl ?_
                      refine x_unwant rfl rfl rfl rfl rfl ?_
                      refine x_v (r_pk_f rfl rfl) rfl ?_
                      refine x_v (r_mv rfl) rfl ?_
                      refine x_unwant rfl rfl rfl rfl rfl ?_
                      refine x_unwant rfl rfl rfl rfl rfl ?_
                      refine x_unwant rfl rfl rfl rfl rfl ?_
                      refine x_unwant rfl rfl rfl rfl rfl ?_
                      refine x_v (r_pk_f rfl rfl) rfl ?_
                      refine x_v (r_mv rfl) rfl ?_
                      refine x_unwant rfl rfl rfl rfl rfl ?_
                      refine x_unwant rfl rfl rfl rfl rfl ?_
                      refine x_unwant rfl rfl rfl rfl rfl ?_
                      refine x_unwant rfl rfl rfl rfl rfl ?_
                      refine x_v (r_pk_f rfl rfl) rfl ?_
                      refine XL.nil ?_
                      refine hK24 _ _ ?_
                      refine XC.keep [(5, _), (7, _), (12, _), (15, _), (17, _), (45, _), (46, _), (47, _), (142, _)] ⟨rfl, rfl, rfl, rfl, rfl, rfl, rfl, rfl, rfl, trivial⟩ ?_
                      refine XC.cond_f rfl ?_
                      refine XC.skip ?_
                      exact ⟨(), trivial, ⟨rfl, rfl, rfl, rfl, rfl, rfl, trivial⟩, (by repeat (first | exact Gets.done _ | exact Gets.all _ | (apply Gets.step; focus ((repeat (first | exact Pick.head _ _ | apply Pick.tail)); done)) | apply Gets.drop))⟩
                  · rintro _ _
                    refine XC.seq fun K27 hK27 => ?_
                    refine XC.region ?_
                    refine x_v (r_fa fo32_2 rfl) rfl ?_
                    refine x_v (r_ld ty3 rfl (by repeat (first | exact Pick.head _ _ | apply Pick.tail)) (by rfl)) rfl ?_
                    refine x_v (r_add rfl rfl (by omega)) rfl ?_
                    refine x_v (r_as rfl) rfl ?_
                    refine XL.nil ?_
                    refine hK27 _ _ ?_
                    refine XC.keep [(5, _), (7, _), (20, _), (45, _), (46, _), (47, _)] ⟨rfl, rfl, rfl, rfl, rfl, rfl, trivial⟩ ?_
                    refine XC.block ?_
                    refine XC.loop (σ := Int × (Int → Option En)) (fun s => [(5, .pointer (some ⟨bp, 0, none⟩)), (7, .map (some b44)), (20, .int .i64 s.1), (45, .slice (some ⟨ob, oo, none⟩) T.length xc), (46, .int .i64 (T.length : Int)), (47, .int .i64 (i : Int))]) (fun s => mpf b44 (.int .i64) (mpe s.2) :: blk bp 90 (pc q A2 c2 M2) :: vmo M2 :: k2 :: Fr) (fun s => q.base < s.1 ∧ s.1 ≤ q.agree + 1 ∧ Was q s.2) (fun s => (q.agree + 1 - s.1).toNat) (q.base + 1, was) ?_ ⟨rfl, rfl, rfl, rfl, rfl, rfl, trivial⟩ (by repeat (first | exact Gets.done _ | exact Gets.all _ | (apply Gets.step; focus ((repeat (first | exact Pick.head _ _ | apply Pick.tail)); done)) | apply Gets.drop)) ?_
                    · exact ⟨by dsimp only; omega, by dsimp only; omega, hwas2⟩
                    rintro ⟨j, was2⟩ ⟨hj, hj2, hwas2⟩
                    dsimp only at hj hj2 hwas2 ⊢
                    refine XC.seq fun K28 hK28 => ?_
                    refine XC.seq fun K29 hK29 => ?_
                    refine XC.region ?_
                    refine x_v (r_mv rfl) rfl ?_
                    refine x_v (r_mv rfl) rfl ?_
                    refine x_c (r_call0 (args := [_]) ⟨rfl, rfl⟩ (commit_tr (p := q) bp M2) (by repeat (first | exact Gets.done _ | exact Gets.all _ | (apply Gets.step; focus ((repeat (first | exact Pick.head _ _ | apply Pick.tail)); done)) | apply Gets.drop))) rfl ?_
                    rintro _ _ ⟨rfl, rfl⟩
                    refine x_v (r_le rfl rfl) rfl ?_
                    refine XL.nil ?_
                    refine hK29 _ _ ?_
                    refine XC.keep [(5, _), (7, _), (20, _), (45, _), (46, _), (47, _), (162, _)] ⟨rfl, rfl, rfl, rfl, rfl, rfl, rfl, trivial⟩ ?_
                    refine XC.cond_d rfl (fun hc12 => ?_) (fun hc12 => ?_)
                    · refine XC.skip ?_
                      refine hK28 _ _ ?_
                      refine XC.keep [(5, _), (7, _), (20, _), (45, _), (46, _), (47, _)] ⟨rfl, rfl, rfl, rfl, rfl, rfl, trivial⟩ ?_
                      refine XC.seq fun K30 hK30 => ?_
                      refine XC.block ?_
                      refine XC.seq fun K31 hK31 => ?_
                      obtain ⟨x3, hx3⟩ := entry_some hqL hj (by omega)
                      refine XC.region ?_
                      refine x_v (r_mv rfl) rfl ?_
                      refine x_v (r_mv rfl) rfl ?_
                      refine x_c (r_call0 (args := [_, _]) ⟨rfl, rfl, rfl⟩ (entry_tr (k := k2) bp M2 j hqb) (by repeat (first | exact Gets.done _ | exact Gets.all _ | (apply Gets.step; focus ((repeat (first | exact Pick.head _ _ | apply Pick.tail)); done)) | apply Gets.drop))) rfl ?_
                      rintro _ _ ⟨rfl, rfl⟩
                      rw [hx3]
                      dsimp only [Option.getD_some, Option.isSome_some]
                      refine x_v (r_mv rfl) rfl ?_
                      refine x_v (r_ex rfl rfl) rfl ?_
                      refine x_v (r_ex rfl rfl) rfl ?_
                      refine x_a (r_al ty48 rfl) rfl fun b21 => ?_
                      refine x_e (r_st ty48 rfl rfl rfl rfl rfl (by repeat (first | exact Upd.head _ _ _ | apply Upd.tail)) (by repeat (first | exact Over.nil _ | apply Over.put | apply Over.skip))) ?_
                      refine x_v (r_as rfl) rfl ?_
                      refine XL.nil ?_
                      refine hK31 _ _ ?_
                      refine XC.keep [(5, _), (7, _), (20, _), (21, _), (22, _), (45, _), (46, _), (47, _)] ⟨rfl, rfl, rfl, rfl, rfl, rfl, rfl, rfl, trivial⟩ ?_
                      refine XC.seq fun K32 hK32 => ?_
                      refine XC.seq fun K33 hK33 => ?_
                      refine XC.region ?_
                      refine x_v (r_mv rfl) rfl ?_
                      refine x_v (r_mv rfl) rfl ?_
                      refine x_v (r_lk Try.underlying35 Try.underlying3 ty48 rfl rfl rfl (by repeat (first | exact Pick.head _ _ | apply Pick.tail))) rfl ?_
                      rw [mpe_get, mpe_some]
                      refine x_v (r_mv rfl) rfl ?_
                      refine x_v (r_ex rfl rfl) rfl ?_
                      refine x_v (r_ex rfl rfl) rfl ?_
                      refine x_a (r_al ty48 rfl) rfl fun b23 => ?_
                      refine x_e (r_st ty48 rfl rfl rfl rfl rfl (by repeat (first | exact Upd.head _ _ _ | apply Upd.tail)) (by repeat (first | exact Over.nil _ | apply Over.put | apply Over.skip))) ?_
                      refine x_v (r_as rfl) rfl ?_
                      refine XL.nil ?_
                      refine hK33 _ _ ?_
                      refine XC.keep [(5, _), (7, _), (20, _), (21, _), (22, _), (23, _), (24, _), (45, _), (46, _), (47, _)] ⟨rfl, rfl, rfl, rfl, rfl, rfl, rfl, rfl, rfl, rfl, trivial⟩ ?_
                      refine XC.seq fun K34 hK34 => ?_
                      refine XC.region ?_
                      refine x_v (r_mv rfl) rfl ?_
                      refine x_v (r_not rfl) rfl ?_
                      refine x_v (r_mv rfl) rfl ?_
                      refine XL.split 179 rfl (fun hg179 => ?_) (fun hg179 => ?_)
                      · exfalso; cases hg179
                      · refine x_want rfl rfl rfl ?_
                        refine x_v (r_mv rfl) rfl ?_
                        refine x_want rfl rfl rfl ?_
                        refine x_v (r_mv rfl) rfl ?_
                        refine XL.split 181 rfl (fun hg181 => ?_) (fun hg181 => ?_)
                        · refine x_want rfl rfl rfl ?_
                          refine x_v (r_lda (l' := [_, _]) ty48 rfl (by repeat (first | exact Pick.head _ _ | apply Pick.tail)) rfl (Sub.get (by repeat (first | exact Sub.nil _ | apply Sub.take | apply Sub.skip)))) rfl ?_
                          refine x_want rfl rfl rfl ?_
                          refine x_v (r_lda (l' := [_, _]) ty48 rfl (by repeat (first | exact Pick.head _ _ | apply Pick.tail)) rfl (Sub.get (by repeat (first | exact Sub.nil _ | apply Sub.take | apply Sub.skip)))) rfl ?_
                          refine x_want rfl rfl rfl ?_
                          refine x_v (r_stne (by kernel_rfl) (fun w => eq48 _ _ _ _ w) rfl rfl) rfl ?_
                          refine x_want rfl rfl rfl ?_
                          refine x_v (r_pk_t rfl rfl) rfl ?_
                          refine x_v (r_pk_f rfl rfl) rfl ?_
                          refine XL.nil ?_
                          refine hK34 _ _ ?_
                          refine XC.keep [(5, _), (7, _), (20, _), (21, _), (45, _), (46, _), (47, _), (186, _)] ⟨rfl, rfl, rfl, rfl, rfl, rfl, rfl, rfl, trivial⟩ ?_
                          refine XC.cond_d rfl (fun hc13 => ?_) (fun hc13 => ?_)
                          · exfalso; exact hc13 (was_odd hwas2 hj hx3 hg181)
                          · refine XC.skip ?_
                            refine hK32 _ _ ?_
                            refine XC.keep [(5, _), (7, _), (20, _), (21, _), (45, _), (46, _), (47, _)] ⟨rfl, rfl, rfl, rfl, rfl, rfl, rfl, trivial⟩ ?_
                            refine XC.region ?_
                            refine x_v (r_mv rfl) rfl ?_
                            refine x_v (r_mv rfl) rfl ?_
                            refine x_v (r_lda (l' := [_, _]) ty48 rfl (by repeat (first | exact Pick.head _ _ | apply Pick.tail)) rfl (Sub.get (by repeat (first | exact Sub.nil _ | apply Sub.take | apply Sub.skip)))) rfl ?_
                            refine x_e (r_mu (mpe (put1 was2 j x3)) Try.underlying35 Try.underlying3 rfl rfl rfl rfl (mpe_one was2 j x3) (mpe_other was2 j x3) (by repeat (first | exact Upd.head _ _ _ | apply Upd.tail))) ?_
                            refine XL.nil ?_
                            refine hK30 _ _ ?_
                            refine XC.keep [(5, _), (7, _), (20, _), (45, _), (46, _), (47, _)] ⟨rfl, rfl, rfl, rfl, rfl, rfl, trivial⟩ ?_
                            refine XC.region ?_
                            refine x_v (r_mv rfl) rfl ?_
                            refine x_v (r_add rfl rfl (by omega)) rfl ?_
                            refine x_v (r_as rfl) rfl ?_
                            refine XL.nil ?_
                            refine ⟨(j + 1, put1 was2 j x3), ?_, ?_, ⟨rfl, rfl, rfl, rfl, rfl, rfl, trivial⟩, (by repeat (first | exact Gets.done _ | exact Gets.all _ | (apply Gets.step; focus ((repeat (first | exact Pick.head _ _ | apply Pick.tail)); done)) | apply Gets.drop))⟩
                            · exact ⟨by dsimp only; omega, by dsimp only; omega, Was.put hwas2 (by omega) hx3⟩
                            · dsimp only; omega
                        · refine x_unwant rfl rfl rfl rfl rfl ?_
                          refine x_unwant rfl rfl rfl rfl rfl ?_
                          refine x_unwant rfl rfl rfl rfl rfl ?_
                          refine x_want rfl rfl rfl ?_
                          refine x_v (r_pk_f rfl rfl) rfl ?_
                          refine x_v (r_pk_f rfl rfl) rfl ?_
                          refine XL.nil ?_
                          refine hK34 _ _ ?_
                          refine XC.keep [(5, _), (7, _), (20, _), (21, _), (45, _), (46, _), (47, _), (186, _)] ⟨rfl, rfl, rfl, rfl, rfl, rfl, rfl, rfl, trivial⟩ ?_
                          refine XC.cond_f rfl ?_
                          refine XC.skip ?_
                          refine hK32 _ _ ?_
                          refine XC.keep [(5, _), (7, _), (20, _), (21, _), (45, _), (46, _), (47, _)] ⟨rfl, rfl, rfl, rfl, rfl, rfl, rfl, trivial⟩ ?_
                          refine XC.region ?_
                          refine x_v (r_mv rfl) rfl ?_
                          refine x_v (r_mv rfl) rfl ?_
                          refine x_v (r_lda (l' := [_, _]) ty48 rfl (by repeat (first | exact Pick.head _ _ | apply Pick.tail)) rfl (Sub.get (by repeat (first | exact Sub.nil _ | apply Sub.take | apply Sub.skip)))) rfl ?_
                          refine x_e (r_mu (mpe (put1 was2 j x3)) Try.underlying35 Try.underlying3 rfl rfl rfl rfl (mpe_one was2 j x3) (mpe_other was2 j x3) (by repeat (first | exact Upd.head _ _ _ | apply Upd.tail))) ?_
                          refine XL.nil ?_
                          refine hK30 _ _ ?_
                          refine XC.keep [(5, _), (7, _), (20, _), (45, _), (46, _), (47, _)] ⟨rfl, rfl, rfl, rfl, rfl, rfl, trivial⟩ ?_
                          refine XC.region ?_
                          refine x_v (r_mv rfl) rfl ?_
                          refine x_v (r_add rfl rfl (by omega)) rfl ?_
                          refine x_v (r_as rfl) rfl ?_
                          refine XL.nil ?_
                          refine ⟨(j + 1, put1 was2 j x3), ?_, ?_, ⟨rfl, rfl, rfl, rfl, rfl, rfl, trivial⟩, (by repeat (first | exact Gets.done _ | exact Gets.all _ | (apply Gets.step; focus ((repeat (first | exact Pick.head _ _ | apply Pick.tail)); done)) | apply Gets.drop))⟩
                          · exact ⟨by dsimp only; omega, by dsimp only; omega, Was.put hwas2 (by omega) hx3⟩
                          · dsimp only; omega
                    · refine XC.exit rfl ?_
                      refine hK11 _ _ ?_
                      refine XC.keep [(5, _), (7, _), (45, _), (46, _), (47, _)] ⟨rfl, rfl, rfl, rfl, rfl, trivial⟩ ?_
                      refine XC.region ?_
                      refine x_v (r_add rfl rfl (by omega)) rfl ?_
                      refine x_v (r_mv rfl) rfl ?_
                      refine XL.nil ?_
                      refine ⟨(i + 1, q, A2, c2, M2, k2, was2), ?_, ?_, ⟨rfl, rfl, rfl, rfl, rfl, trivial⟩, (by repeat (first | exact Gets.done _ | exact Gets.all _ | (apply Gets.step; focus ((repeat (first | exact Pick.head _ _ | apply Pick.tail)); done)) | apply Gets.drop))⟩
                      · exact ⟨by dsimp only; omega, ⟨hq.pb, hq.lim.mono (by dsimp only; omega), hq.mm⟩, hwas2⟩
                      · dsimp only; omega
      · refine XC.exit rfl ?_
        refine hK7 _ _ ?_
        refine XC.keep [] trivial ?_
        refine XC.seq fun K35 hK35 => ?_
        refine XC.region ?_
        refine x_v (r_as rfl) rfl ?_
        refine XL.nil ?_
        refine hK35 _ _ ?_
        refine XC.keep [(4, _)] ⟨rfl, trivial⟩ ?_
        refine XC.ret ?_
        exact fin1 rfl (rfl) (by repeat (first | exact Gets.done _ | exact Gets.all _ | (apply Gets.step; focus ((repeat (first | exact Pick.head _ _ | apply Pick.tail)); done)) | apply Gets.drop))
end Go.Proofs.Ytlogcldbflemfaa

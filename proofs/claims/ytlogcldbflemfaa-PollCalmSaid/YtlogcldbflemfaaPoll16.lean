/- Polls: answers that the document fixes. -/
import Derived.Test.YtlogcldbflemfaaPoll15
namespace Go.Proofs.Ytlogcldbflemfaa
open Go.Sx Go.Rf
set_option linter.unusedVariables false

def q0 : Pl := fresh 0 2 3 0 (-1) 0 0 [] []
def q1 : Pl := (tick q0 0).1
def q2 : Pl := (tick q1 0).1
def mv : Ml := { zm with kind := 2, term := 1, good := true }
def mf : Ml := { zm with kind := 4, term := 1, good := true, index := 1 }
def q3 : Pl := (take q2 1 mv).1
def q4 : Pl := (take q3 1 mf).1
theorem lim0 : Lim 1 q0 := by
  refine ⟨by decide, by decide, by decide, by decide, by decide, by decide, by decide, by decide, by decide, by decide, by decide, by decide, by decide, by decide, by decide, by decide, by decide, by decide, by decide, by decide, by decide, by decide, by decide, by decide, by decide, by decide, by decide⟩
theorem lim1 : Lim 2 q1 := lim0.tick 0
theorem lim2 : Lim 3 q2 := lim1.tick 0
theorem lim3 : Lim 4 q3 := lim2.take 1 mv
theorem kok0 : KOk 0 (-1) 0 0 [] [] := ⟨by decide, by decide, by decide, by decide, by decide, by decide, by decide, rfl⟩
theorem out1 : (tick q0 0).2 = [] := by decide +kernel
theorem out2 : ∃ a b, (tick q1 0).2 = [a, b] ∧ b.1 = 2 ∧ b.2.kind = 1 := ⟨_, _, (by decide +kernel : (tick q1 0).2 = [(1, { zm with kind := 1, term := 1 }), (2, { zm with kind := 1, term := 1 })]), rfl, rfl⟩
theorem out3 : ∃ a b, (take q2 1 mv).2 = [a, b] ∧ a.2.es.length = 1 := ⟨_, _, (by decide +kernel : (take q2 1 mv).2 = [(1, { zm with kind := 3, term := 1, es := [⟨1, []⟩] }), (2, { zm with kind := 3, term := 1, es := [⟨1, []⟩] })]), rfl⟩
theorem role2 : q2.role = 1 := by decide +kernel
theorem end4 : q4.agree = 1 ∧ q4.role = 2 ∧ q4.touched = true ∧ q4.term = 1 ∧ q4.frm = 1 ∧ q4.base = 0 ∧ q4.es.length = 1 ∧ (lasts q4).length = 1 := by decide +kernel

theorem cut2 {L : List (Int × Mx)} {a b : Sd} (h : L.map sv = [a, b]) : ∃ x y, L = [x, y] ∧ sv x = a ∧ sv y = b := by
  rcases L with _ | ⟨x, _ | ⟨y, _ | ⟨z, L⟩⟩⟩
  · cases h
  · cases h
  · injection h with h1 h2; injection h2 with h2 h3; exact ⟨x, y, rfl, h1, h2⟩
  · cases h
theorem awake_tr {W0 : World} {Fr : List HP} : Tr W0 Try.prog 11 [] Fr (fun v Rs' => v = .bool true ∧ Rs' = Fr) := by
  obtain ⟨e1, e2, e3, e4, e5, e6, e7, e8⟩ := end4
  have r2 := role2
  refine Entry.tr (N := 101) (rs := [.tmp 0]) ⟨_, Try.func11, rfl, by kernel_rfl, rfl, rfl⟩ rfl ?_
  refine XC.seq fun K1 hK1 => ?_
  refine XC.region ?_
  refine x_v (r_as rfl) rfl ?_
  refine XL.nil ?_
  refine hK1 _ _ ?_
  refine XC.keep [] trivial ?_
  refine XC.seq fun K2 hK2 => ?_
  refine XC.nil_ 48 2 ?_
  refine XC.region ?_
  refine x_c (r_call0 (args := []) rfl (small_tr) (by repeat (first | exact Gets.done _ | exact Gets.all _ | (apply Gets.step; focus ((repeat (first | exact Pick.head _ _ | apply Pick.tail)); done)) | apply Gets.drop))) rfl ?_
  rintro _ _ ⟨rfl, rfl⟩
  refine x_v (r_bd (vs := [_]) rfl ⟨rfl, rfl⟩ (bd32_1 _)) rfl ?_
  refine x_c (r_call0 (args := [_, _, _]) ⟨rfl, rfl, rfl, rfl⟩ (new_tr (k := sl none 0 0 48 2 []) (Fr := Fr) none 0 0 (by decide) kok0 (Rdb.nil _ _ _)) (by repeat (first | exact Gets.done _ | exact Gets.all _ | (apply Gets.step; focus ((repeat (first | exact Pick.head _ _ | apply Pick.tail)); done)) | apply Gets.drop))) rfl ?_
  rintro _ _ ⟨b11, A11, c11, k11, rfl, rfl, hx11, hp11⟩
  refine x_v (r_mv rfl) rfl ?_
  refine x_v (r_ex rfl rfl) rfl ?_
  refine x_v (r_ex rfl rfl) rfl ?_
  refine x_v (r_as rfl) rfl ?_
  refine x_v (r_as rfl) rfl ?_
  refine XL.nil ?_
  refine hK2 _ _ ?_
  refine XC.keep [(1, _), (2, _)] ⟨rfl, rfl, trivial⟩ ?_
  refine XC.seq fun K3 hK3 => ?_
  refine XC.seq fun K4 hK4 => ?_
  refine XC.region ?_
  refine x_v (r_mv rfl) rfl ?_
  refine x_v (r_ne rfl rfl) rfl ?_
  refine x_v (r_mv rfl) rfl ?_
  refine XL.splitd 16 rfl (fun hg16 => ?_) (fun hg16 => ?_)
  · exfalso; exact hg16 rfl
  · refine x_want rfl rfl rfl ?_
    refine x_v (r_mv rfl) rfl ?_
    refine x_want rfl rfl rfl ?_
    refine x_v (r_peq_some Try.underlying23 rfl rfl) rfl ?_
    refine x_v (r_pk_f rfl rfl) rfl ?_
    refine XL.nil ?_
    refine hK4 _ _ ?_
    refine XC.keep [(1, _), (19, _)] ⟨rfl, rfl, trivial⟩ ?_
    refine XC.cond_f rfl ?_
    refine XC.skip ?_
    refine hK3 _ _ ?_
    refine XC.keep [(1, _)] ⟨rfl, trivial⟩ ?_
    refine XC.seq fun K5 hK5 => ?_
    refine XC.nil_ 3 1 ?_
    refine XC.region ?_
    refine x_v (r_mv rfl) rfl ?_
    refine x_c (r_call0 (args := [_, _]) ⟨rfl, rfl, rfl⟩ (tick_tr (k := k11) b11 none 0 (p := q0) hp11 lim0 (by decide) (fun h => by cases h)) (by repeat (first | exact Gets.done _ | exact Gets.all _ | (apply Gets.step; focus ((repeat (first | exact Pick.head _ _ | apply Pick.tail)); done)) | apply Gets.drop))) rfl ?_
    rintro _ _ ⟨L21, A21, c21, A22, c22, M22, k22, rfl, rfl, hL21, hx22, hp22, hr22, hm22⟩
    refine x_v (r_mv rfl) rfl ?_
    refine x_c (r_call0 (args := [_, _]) ⟨rfl, rfl, rfl⟩ (tick_tr (k := k22) b11 M22 0 (p := q1) hp22 lim1 (by decide) hm22) (by repeat (first | exact Gets.done _ | exact Gets.all _ | (apply Gets.step; focus ((repeat (first | exact Pick.head _ _ | apply Pick.tail)); done)) | apply Gets.drop))) rfl ?_
    rintro _ _ ⟨L23, A23, c23, A24, c24, M24, k24, rfl, rfl, hL23, hx24, hp24, hr24, hm24⟩
    refine x_v (r_as rfl) rfl ?_
    refine x_v (r_as rfl) rfl ?_
    refine XL.nil ?_
    refine hK5 _ _ ?_
    refine XC.keep [(1, _), (3, _), (4, _)] ⟨rfl, rfl, rfl, trivial⟩ ?_
    refine XC.seq fun K6 hK6 => ?_
    refine XC.region ?_
    refine x_v (r_mv rfl) rfl ?_
    refine x_v (r_bd (vs := [_, _, _]) rfl ⟨rfl, rfl, rfl, rfl⟩ (bd42_0_1_5 _ _ _)) rfl ?_
    refine x_c (r_call0 (args := [_, _, _]) ⟨rfl, rfl, rfl, rfl⟩ (take_tr (k := k24) b11 M24 1 (zx mv none 0) (p := q2) hp24 lim2 (by decide) hm24 (Rdb.nil _ _ _) (Nat.zero_le _) (Nat.zero_le _)) (by repeat (first | exact Gets.done _ | exact Gets.all _ | (apply Gets.step; focus ((repeat (first | exact Pick.head _ _ | apply Pick.tail)); done)) | apply Gets.drop))) rfl ?_
    rintro _ _ ⟨L26, A26, c26, A27, c27, M27, k27, rfl, rfl, hL26, hx27, hp27, hr27, hm27⟩
    refine x_v (r_as rfl) rfl ?_
    refine XL.nil ?_
    refine hK6 _ _ ?_
    refine XC.keep [(1, _), (3, _), (4, _), (5, _)] ⟨rfl, rfl, rfl, rfl, trivial⟩ ?_
    refine XC.seq fun K7 hK7 => ?_
    refine XC.region ?_
    refine x_v (r_mv rfl) rfl ?_
    refine x_v (r_bd (vs := [_, _, _, _]) rfl ⟨rfl, rfl, rfl, rfl, rfl⟩ (bd42_0_1_5_2 _ _ _ _)) rfl ?_
    refine x_c (r_call0 (args := [_, _, _]) ⟨rfl, rfl, rfl, rfl⟩ (take_tr (k := k27) b11 M27 1 (zx mf none 0) (p := q3) hp27 lim3 (by decide) hm27 (Rdb.nil _ _ _) (Nat.zero_le _) (Nat.zero_le _)) (by repeat (first | exact Gets.done _ | exact Gets.all _ | (apply Gets.step; focus ((repeat (first | exact Pick.head _ _ | apply Pick.tail)); done)) | apply Gets.drop))) rfl ?_
    rintro _ _ ⟨L29, A29, c29, A30, c30, M30, k30, rfl, rfl, hL29, hx30, hp30, hr30, hm30⟩
    refine XL.nil ?_
    refine hK7 _ _ ?_
    refine XC.keep [(1, _), (3, _), (4, _), (5, _)] ⟨rfl, rfl, rfl, rfl, trivial⟩ ?_
    refine XC.seq fun K8 hK8 => ?_
    refine XC.region ?_
    refine x_v (r_mv rfl) rfl ?_
    refine x_c (r_call0 (args := [_]) ⟨rfl, rfl⟩ (save_tr (k := k30) b11 M30 (p := q4) hp30 e3 (fun _ => by omega)) (by repeat (first | exact Gets.done _ | exact Gets.all _ | (apply Gets.step; focus ((repeat (first | exact Pick.head _ _ | apply Pick.tail)); done)) | apply Gets.drop))) rfl ?_
    rintro _ _ ⟨A32, c32, rfl, rfl⟩
    refine x_v (r_mv rfl) rfl ?_
    refine x_v (r_ex rfl rfl) rfl ?_
    refine x_v (r_ex rfl rfl) rfl ?_
    refine x_a (r_al ty76 rfl) rfl fun b6 => ?_
    refine x_e (r_st ty76 rfl rfl rfl rfl rfl (by repeat (first | exact Upd.head _ _ _ | apply Upd.tail)) (by repeat (first | exact Over.nil _ | apply Over.put | apply Over.skip))) ?_
    refine x_v (r_as rfl) rfl ?_
    refine XL.nil ?_
    refine hK8 _ _ ?_
    refine XC.keep [(1, _), (3, _), (4, _), (5, _), (6, _), (7, _)] ⟨rfl, rfl, rfl, rfl, rfl, rfl, trivial⟩ ?_
    refine XC.seq fun K9 hK9 => ?_
    refine XC.slnn (A := A23) (by repeat (first | exact Pick.head _ _ | apply Pick.tail)) fun _ hA23 => ?_
    refine XC.slnn (A := A26) (by repeat (first | exact Pick.head _ _ | apply Pick.tail)) fun _ hA26 => ?_
    have hn21 : L21.length = 0 := by have := congrArg List.length (hL21.trans out1); simpa using this
    obtain ⟨a, b, ho2, hb1, hb2⟩ := out2
    obtain ⟨x1, y1, hl23, hx1, hy1⟩ := cut2 (hL23.trans ho2)
    obtain ⟨a3, b3, ho3, ha3⟩ := out3
    obtain ⟨x2, y2, hl26, hx2, hy2⟩ := cut2 (hL26.trans ho3)
    have hy11 : y1.1 = 2 := (congrArg Prod.fst hy1).trans hb1
    have hy12 : y1.2.m.kind = 1 := (congrArg (fun s => s.2.kind) hy1).trans hb2
    have hx26 : x2.2.m.es.length = 1 := (congrArg (fun s => s.2.es.length) hx2).trans ha3
    have n23 : L23.length = 2 := by rw [hl23]; rfl
    have n26 : L26.length = 2 := by rw [hl26]; rfl
    have i23 : L23[1]? = some y1 := by rw [hl23]; rfl
    have i26 : L26[0]? = some x2 := by rw [hl26]; rfl
    have hrd23 : Rdb W0 [sl A23 L23.length c23 92 18 (cells sc L23)] A23 L23.length 18 (cells sc L23) := Rdb.of_sl (.head _ _) (by rw [cells_len sc_len]) hA23
    have hrd26 : Rdb W0 [sl A26 L26.length c26 92 18 (cells sc L26)] A26 L26.length 18 (cells sc L26) := Rdb.of_sl (.head _ _) (by rw [cells_len sc_len]) hA26
    obtain ⟨sb, so, hsa, hat⟩ := hrd23.at_ (by omega)
    obtain ⟨sb2, so2, hsa2, hat2⟩ := hrd26.at_ (by omega)
    subst hsa hsa2
    have z1 := e1; have z2 := e2; have z4 := e4; have z5 := e5
    refine XC.region ?_
    refine x_v (r_mv rfl) rfl ?_
    refine x_v (r_lensl Try.underlying51 rfl) rfl ?_
    refine x_v (r_eq rfl rfl) rfl ?_
    refine x_v (r_mv rfl) rfl ?_
    refine XL.splitd 38 rfl (fun hg38 => ?_) (fun hg38 => ?_)
    · refine x_want rfl rfl rfl ?_
      refine x_v (r_mv rfl) rfl ?_
      refine x_want rfl rfl rfl ?_
      refine x_v (r_lensl Try.underlying51 rfl) rfl ?_
      refine x_want rfl rfl rfl ?_
      refine x_v (r_eq rfl rfl) rfl ?_
      refine x_v (r_pk_t rfl rfl) rfl ?_
      refine x_v (r_mv rfl) rfl ?_
      refine XL.splitd 43 rfl (fun hg43 => ?_) (fun hg43 => ?_)
      · refine x_want rfl rfl rfl ?_
        refine x_v (r_mv rfl) rfl ?_
        refine x_want rfl rfl rfl ?_
        refine x_v (r_ia (k := 1) Try.underlying51 ty92 rfl rfl (by omega) (by omega)) rfl ?_
        refine x_want rfl rfl rfl ?_
        refine x_v (r_fa fo92_0 rfl) rfl ?_
        refine x_want rfl rfl rfl ?_
        refine x_v (r_ldr (v := .int .i64 y1.1) ty3 rfl (fun w hw => by first | exact hat w (Gets.own (by repeat (first | exact Gets.done _ | exact Gets.all _ | (apply Gets.step; focus ((repeat (first | exact Pick.head _ _ | apply Pick.tail)); done)) | apply Gets.drop)) hw) _ _ (cells_get sc_len L23 1 _ i23 0 _ rfl) | (simp only [Nat.add_assoc]; exact hat w (Gets.own (by repeat (first | exact Gets.done _ | exact Gets.all _ | (apply Gets.step; focus ((repeat (first | exact Pick.head _ _ | apply Pick.tail)); done)) | apply Gets.drop)) hw) _ _ (cells_get sc_len L23 1 _ i23 0 _ rfl)))) rfl ?_
        refine x_want rfl rfl rfl ?_
        refine x_v (r_eq rfl rfl) rfl ?_
        refine x_v (r_pk_t rfl rfl) rfl ?_
        refine x_v (r_mv rfl) rfl ?_
        refine XL.splitd 50 rfl (fun hg50 => ?_) (fun hg50 => ?_)
        · refine x_want rfl rfl rfl ?_
          refine x_v (r_mv rfl) rfl ?_
          refine x_want rfl rfl rfl ?_
          refine x_v (r_ia (k := 1) Try.underlying51 ty92 rfl rfl (by omega) (by omega)) rfl ?_
          refine x_want rfl rfl rfl ?_
          refine x_v (r_fa fo92_1 rfl) rfl ?_
          refine x_want rfl rfl rfl ?_
          refine x_v (r_fa fo42_0 rfl) rfl ?_
          refine x_want rfl rfl rfl ?_
          refine x_v (r_ldr (v := .int .i64 y1.2.m.kind) ty3 rfl (fun w hw => by first | exact hat w (Gets.own (by repeat (first | exact Gets.done _ | exact Gets.all _ | (apply Gets.step; focus ((repeat (first | exact Pick.head _ _ | apply Pick.tail)); done)) | apply Gets.drop)) hw) _ _ (cells_get sc_len L23 1 _ i23 1 _ rfl) | (simp only [Nat.add_assoc]; exact hat w (Gets.own (by repeat (first | exact Gets.done _ | exact Gets.all _ | (apply Gets.step; focus ((repeat (first | exact Pick.head _ _ | apply Pick.tail)); done)) | apply Gets.drop)) hw) _ _ (cells_get sc_len L23 1 _ i23 1 _ rfl)))) rfl ?_
          refine x_want rfl rfl rfl ?_
          refine x_v (r_eq rfl rfl) rfl ?_
          refine x_v (r_pk_t rfl rfl) rfl ?_
          refine x_v (r_mv rfl) rfl ?_
          refine XL.splitd 58 rfl (fun hg58 => ?_) (fun hg58 => ?_)
          · refine x_want rfl rfl rfl ?_
            refine x_v (r_mv rfl) rfl ?_
            refine x_want rfl rfl rfl ?_
            refine x_v (r_lensl Try.underlying51 rfl) rfl ?_
            refine x_want rfl rfl rfl ?_
            refine x_v (r_eq rfl rfl) rfl ?_
            refine x_v (r_pk_t rfl rfl) rfl ?_
            refine x_v (r_mv rfl) rfl ?_
            refine XL.splitd 63 rfl (fun hg63 => ?_) (fun hg63 => ?_)
            · refine x_want rfl rfl rfl ?_
              refine x_v (r_mv rfl) rfl ?_
              refine x_want rfl rfl rfl ?_
              refine x_v (r_ia (k := 0) Try.underlying51 ty92 rfl rfl (by omega) (by omega)) rfl ?_
              refine x_want rfl rfl rfl ?_
              refine x_v (r_fa fo92_1 rfl) rfl ?_
              refine x_want rfl rfl rfl ?_
              refine x_v (r_fa fo42_6 rfl) rfl ?_
              refine x_want rfl rfl rfl ?_
              refine x_v (r_ldr (v := .slice x2.2.A x2.2.m.es.length x2.2.c) ty30 rfl (fun w hw => by first | exact hat2 w (Gets.own (by repeat (first | exact Gets.done _ | exact Gets.all _ | (apply Gets.step; focus ((repeat (first | exact Pick.head _ _ | apply Pick.tail)); done)) | apply Gets.drop)) hw) _ _ (cells_get sc_len L26 0 _ i26 7 _ rfl) | (simp only [Nat.add_assoc]; exact hat2 w (Gets.own (by repeat (first | exact Gets.done _ | exact Gets.all _ | (apply Gets.step; focus ((repeat (first | exact Pick.head _ _ | apply Pick.tail)); done)) | apply Gets.drop)) hw) _ _ (cells_get sc_len L26 0 _ i26 7 _ rfl)))) rfl ?_
              refine x_want rfl rfl rfl ?_
              refine x_v (r_lensl Try.underlying30 rfl) rfl ?_
              refine x_want rfl rfl rfl ?_
              refine x_v (r_eq rfl rfl) rfl ?_
              refine x_v (r_pk_t rfl rfl) rfl ?_
              refine x_v (r_mv rfl) rfl ?_
              refine XL.splitd 72 rfl (fun hg72 => ?_) (fun hg72 => ?_)
              · refine x_want rfl rfl rfl ?_
                refine x_v (r_mv rfl) rfl ?_
                refine x_want rfl rfl rfl ?_
                refine x_c (r_call0 (args := [_]) ⟨rfl, rfl⟩ (commit_tr (p := { q4 with frm := 0, touched := false }) b11 M30) (by repeat (first | exact Gets.done _ | exact Gets.all _ | (apply Gets.step; focus ((repeat (first | exact Pick.head _ _ | apply Pick.tail)); done)) | apply Gets.drop))) rfl ?_
                rintro _ _ ⟨rfl, rfl⟩
                refine x_want rfl rfl rfl ?_
                refine x_v (r_eq rfl rfl) rfl ?_
                refine x_v (r_pk_t rfl rfl) rfl ?_
                refine x_v (r_mv rfl) rfl ?_
                refine XL.splitd 77 rfl (fun hg77 => ?_) (fun hg77 => ?_)
                · refine x_want rfl rfl rfl ?_
                  refine x_v (r_mv rfl) rfl ?_
                  refine x_want rfl rfl rfl ?_
                  refine x_c (r_call0 (args := [_]) ⟨rfl, rfl⟩ (role_tr (p := { q4 with frm := 0, touched := false }) b11 M30) (by repeat (first | exact Gets.done _ | exact Gets.all _ | (apply Gets.step; focus ((repeat (first | exact Pick.head _ _ | apply Pick.tail)); done)) | apply Gets.drop))) rfl ?_
                  rintro _ _ ⟨rfl, rfl⟩
                  refine x_want rfl rfl rfl ?_
                  refine x_v (r_eq rfl rfl) rfl ?_
                  refine x_v (r_pk_t rfl rfl) rfl ?_
                  refine x_v (r_mv rfl) rfl ?_
                  refine XL.splitd 82 rfl (fun hg82 => ?_) (fun hg82 => ?_)
                  · refine x_want rfl rfl rfl ?_
                    refine x_v (r_mv rfl) rfl ?_
                    refine x_v (r_pk_t rfl rfl) rfl ?_
                    refine x_v (r_mv rfl) rfl ?_
                    refine XL.split 85 rfl (fun hg85 => ?_) (fun hg85 => ?_)
                    · refine x_want rfl rfl rfl ?_
                      refine x_v (r_fa fo76_0 rfl) rfl ?_
                      refine x_want rfl rfl rfl ?_
                      refine x_v (r_ld ty3 rfl (by repeat (first | exact Pick.head _ _ | apply Pick.tail)) (by rfl)) rfl ?_
                      refine x_want rfl rfl rfl ?_
                      refine x_v (r_eq rfl rfl) rfl ?_
                      refine x_v (r_pk_t rfl rfl) rfl ?_
                      refine x_v (r_mv rfl) rfl ?_
                      refine XL.splitd 90 rfl (fun hg90 => ?_) (fun hg90 => ?_)
                      · refine x_want rfl rfl rfl ?_
                        refine x_v (r_fa fo76_2 rfl) rfl ?_
                        refine x_want rfl rfl rfl ?_
                        refine x_v (r_ld ty3 rfl (by repeat (first | exact Pick.head _ _ | apply Pick.tail)) (by rfl)) rfl ?_
                        refine x_want rfl rfl rfl ?_
                        refine x_v (r_eq rfl rfl) rfl ?_
                        refine x_v (r_pk_t rfl rfl) rfl ?_
                        refine x_v (r_mv rfl) rfl ?_
                        refine XL.splitd 95 rfl (fun hg95 => ?_) (fun hg95 => ?_)
                        · refine x_want rfl rfl rfl ?_
                          refine x_v (r_fa fo76_3 rfl) rfl ?_
                          refine x_want rfl rfl rfl ?_
                          refine x_v (r_ld ty30 rfl (by repeat (first | exact Pick.head _ _ | apply Pick.tail)) (by rfl)) rfl ?_
                          refine x_want rfl rfl rfl ?_
                          refine x_v (r_lensl Try.underlying30 rfl) rfl ?_
                          refine x_want rfl rfl rfl ?_
                          refine x_v (r_eq rfl rfl) rfl ?_
                          refine x_v (r_pk_t rfl rfl) rfl ?_
                          refine x_v (r_as rfl) rfl ?_
                          refine XL.nil ?_
                          refine hK9 _ _ ?_
                          refine XC.keep [(0, _)] ⟨rfl, trivial⟩ ?_
                          refine XC.ret ?_
                          exact fin1 rfl (⟨congrArg Value.bool (decide_eq_true (by omega)), rfl⟩) (by repeat (first | exact Gets.done _ | exact Gets.all _ | (apply Gets.step; focus ((repeat (first | exact Pick.head _ _ | apply Pick.tail)); done)) | apply Gets.drop))
                        · exfalso; omega
                      · exfalso; omega
                    · exfalso; first | exact hg85 rfl | cases hg85
                  · exfalso; exact hg82 e2
                · exfalso; exact hg77 e1
              · exfalso; omega
            · exfalso; omega
          · exfalso; omega
        · exfalso; omega
      · exfalso; omega
    · exfalso; omega
end Go.Proofs.Ytlogcldbflemfaa

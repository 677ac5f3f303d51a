/- Polls: a part that is none does nothing. -/
import Derived.Test.YtlogcldbflemfaaPoll16
namespace Go.Proofs.Ytlogcldbflemfaa
open Go.Sx Go.Rf
set_option linter.unusedVariables false

/-- What is done, in memory. -/
structure Ox where
  kind : Int
  n : Int
  frm : Int
  data : List UInt8
  x : Mx
def oc (o : Ox) : List Value := [.int .i64 o.kind, .int .i64 o.n, .int .i64 o.frm, str o.data, .int .i64 o.x.m.kind, .int .i64 o.x.m.term, .int .i64 o.x.m.index, .int .i64 o.x.m.prev, .int .i64 o.x.m.commit, .bool o.x.m.good, .slice o.x.A o.x.m.es.length o.x.c, str o.x.m.data, .slice o.x.hA o.x.hn o.x.hc, .int .i64 o.x.ep, .int .i64 o.x.si, .int .i64 o.x.a1, .int .i64 o.x.a2, .int .i64 o.x.w1, .int .i64 o.x.w2, .slice o.x.oA o.x.on o.x.oc, .slice o.x.pA o.x.pn o.x.pc]
theorem oc_len (o : Ox) : (oc o).length = 21 := rfl
def ov (o : Ox) : Value := .agg #[.int .i64 o.kind, .int .i64 o.n, .int .i64 o.frm, str o.data, .agg (mc o.x).toArray]
theorem eq48 (a0 b0 : Int) (a1 b1 : List UInt8) (w : World) : (Op.equalIn 10000 48 (.agg #[.int .i64 a0, str a1]) (.agg #[.int .i64 b0, str b1])).run Try.prog w = .ok (decide (a0 = b0 ∧ a1 = b1)) w := by
  rw [run_equalIn_struct w 9999 48 _ _ (by kernel_rfl) (by kernel_rfl)]
  have hf : (Program.fieldsOf Try.prog 48).toList = (Program.fieldsOf Try.prog 48).toList := rfl
  conv at hf => rhs; unfold Program.fieldsOf; rw [Try.underlying48]
  rw [hf]
  by_cases h0 : a0 = b0
  · subst h0
    by_cases h1 : a1 = b1 <;> simp [Op.eqFields, part, isAgg, run_underlying Try.underlying3, run_underlying Try.underlying9, run_equalIn_int, run_equalIn_string, ByteArray.toList_eq, h1, Try.underlying3, Try.underlying9]
  · simp [Op.eqFields, part, isAgg, run_underlying Try.underlying3, run_underlying Try.underlying9, run_equalIn_int, run_equalIn_string, ByteArray.toList_eq, h0, Try.underlying3, Try.underlying9]
theorem pollnil_tr {W0 : World} {Fr : List HP} (o : Ox) : Tr W0 Try.prog 8 [.agg (oc o).toArray] Fr (fun v Rs' => v = .bool true) := by
  refine Entry.tr (N := 128) (rs := [.tmp 2]) ⟨_, Try.func8, rfl, by kernel_rfl, rfl, rfl⟩ rfl ?_
  refine XC.seq fun K1 hK1 => ?_
  refine XC.region ?_
  refine x_a (r_bx rfl rfl) rfl fun b1 => ?_
  unfold oc
  refine x_v (r_as rfl) rfl ?_
  refine XL.nil ?_
  refine hK1 _ _ ?_
  refine XC.keep [(1, _)] ⟨rfl, trivial⟩ ?_
  refine XC.seq fun K2 hK2 => ?_
  refine XC.region ?_
  refine x_v (r_as rfl) rfl ?_
  refine XL.nil ?_
  refine hK2 _ _ ?_
  refine XC.keep [(1, _), (3, _)] ⟨rfl, rfl, trivial⟩ ?_
  refine XC.seq fun K3 hK3 => ?_
  refine XC.region ?_
  refine x_v (r_mv rfl) rfl ?_
  refine x_v (r_fa fo44_3 rfl) rfl ?_
  refine x_v (r_ld ty9 rfl (by repeat (first | exact Pick.head _ _ | apply Pick.tail)) (by rfl)) rfl ?_
  refine x_c (r_call0 (args := [_, _]) ⟨rfl, rfl, rfl⟩ (npropose_tr o.data) (by repeat (first | exact Gets.done _ | exact Gets.all _ | (apply Gets.step; focus ((repeat (first | exact Pick.head _ _ | apply Pick.tail)); done)) | apply Gets.drop))) rfl ?_
  rintro _ _ ⟨rfl, rfl⟩
  refine x_v (r_mv rfl) rfl ?_
  refine x_v (r_ex rfl rfl) rfl ?_
  refine x_v (r_ex rfl rfl) rfl ?_
  refine x_v (r_ex rfl rfl) rfl ?_
  refine x_v (r_as rfl) rfl ?_
  refine x_v (r_as rfl) rfl ?_
  refine x_v (r_as rfl) rfl ?_
  refine XL.nil ?_
  refine hK3 _ _ ?_
  refine XC.keep [(1, _), (3, _), (6, _)] ⟨rfl, rfl, rfl, trivial⟩ ?_
  refine XC.seq fun K4 hK4 => ?_
  refine XC.region ?_
  refine x_v (r_mv rfl) rfl ?_
  refine x_c (r_call0 (args := [_]) ⟨rfl, rfl⟩ (nsave_tr) (by repeat (first | exact Gets.done _ | exact Gets.all _ | (apply Gets.step; focus ((repeat (first | exact Pick.head _ _ | apply Pick.tail)); done)) | apply Gets.drop))) rfl ?_
  rintro _ _ ⟨rfl, rfl⟩
  refine x_v (r_mv rfl) rfl ?_
  refine x_v (r_ex rfl rfl) rfl ?_
  refine x_v (r_ex rfl rfl) rfl ?_
  refine x_a (r_al ty76 rfl) rfl fun b7 => ?_
  refine x_e (r_st ty76 rfl rfl rfl rfl rfl (by repeat (first | exact Upd.head _ _ _ | apply Upd.tail)) (by repeat (first | exact Over.nil _ | apply Over.put | apply Over.skip))) ?_
  refine x_v (r_as rfl) rfl ?_
  refine XL.nil ?_
  refine hK4 _ _ ?_
  refine XC.keep [(1, _), (3, _), (6, _), (7, _), (8, _)] ⟨rfl, rfl, rfl, rfl, rfl, trivial⟩ ?_
  refine XC.seq fun K5 hK5 => ?_
  refine XC.region ?_
  refine x_v (r_mv rfl) rfl ?_
  refine x_v (r_fa fo44_1 rfl) rfl ?_
  refine x_v (r_ld ty3 rfl (by repeat (first | exact Pick.head _ _ | apply Pick.tail)) (by rfl)) rfl ?_
  refine x_c (r_call0 (args := [_, _]) ⟨rfl, rfl, rfl⟩ (nentry_tr o.n) (by repeat (first | exact Gets.done _ | exact Gets.all _ | (apply Gets.step; focus ((repeat (first | exact Pick.head _ _ | apply Pick.tail)); done)) | apply Gets.drop))) rfl ?_
  rintro _ _ ⟨rfl, rfl⟩
  refine x_v (r_mv rfl) rfl ?_
  refine x_v (r_ex rfl rfl) rfl ?_
  refine x_v (r_ex rfl rfl) rfl ?_
  refine x_a (r_al ty48 rfl) rfl fun b9 => ?_
  refine x_e (r_st ty48 rfl rfl rfl rfl rfl (by repeat (first | exact Upd.head _ _ _ | apply Upd.tail)) (by repeat (first | exact Over.nil _ | apply Over.put | apply Over.skip))) ?_
  refine x_v (r_as rfl) rfl ?_
  refine XL.nil ?_
  refine hK5 _ _ ?_
  refine XC.keep [(1, _), (3, _), (6, _), (7, _), (8, _), (9, _), (10, _)] ⟨rfl, rfl, rfl, rfl, rfl, rfl, rfl, trivial⟩ ?_
  refine XC.seq fun K6 hK6 => ?_
  refine XC.region ?_
  refine x_c (r_call0 (args := []) rfl (awake_tr) (by repeat (first | exact Gets.done _ | exact Gets.all _ | (apply Gets.step; focus ((repeat (first | exact Pick.head _ _ | apply Pick.tail)); done)) | apply Gets.drop))) rfl ?_
  rintro _ _ ⟨rfl, rfl⟩
  refine x_v (r_mv rfl) rfl ?_
  refine x_want rfl rfl rfl ?_
  refine x_v (r_mv rfl) rfl ?_
  refine x_want rfl rfl rfl ?_
  refine x_v (r_fa fo44_1 rfl) rfl ?_
  refine x_want rfl rfl rfl ?_
  refine x_v (r_ld ty3 rfl (by repeat (first | exact Pick.head _ _ | apply Pick.tail)) (by rfl)) rfl ?_
  refine x_want rfl rfl rfl ?_
  refine x_c (r_call0 (args := [_, _]) ⟨rfl, rfl, rfl⟩ (ntick_tr o.n) (by repeat (first | exact Gets.done _ | exact Gets.all _ | (apply Gets.step; focus ((repeat (first | exact Pick.head _ _ | apply Pick.tail)); done)) | apply Gets.drop))) rfl ?_
  rintro _ _ ⟨rfl, rfl⟩
  refine x_want rfl rfl rfl ?_
  refine x_v (r_lensl Try.underlying51 rfl) rfl ?_
  refine x_want rfl rfl rfl ?_
  refine x_v (r_eq rfl rfl) rfl ?_
  refine x_v (r_pk_t rfl rfl) rfl ?_
  refine x_v (r_mv rfl) rfl ?_
  refine XL.splitd 40 rfl (fun hg40 => ?_) (fun hg40 => ?_)
  · refine x_want rfl rfl rfl ?_
    refine x_v (r_mv rfl) rfl ?_
    refine x_want rfl rfl rfl ?_
    refine x_v (r_fa fo44_2 rfl) rfl ?_
    refine x_want rfl rfl rfl ?_
    refine x_v (r_ld ty3 rfl (by repeat (first | exact Pick.head _ _ | apply Pick.tail)) (by rfl)) rfl ?_
    refine x_want rfl rfl rfl ?_
    refine x_v (r_fa fo44_4 rfl) rfl ?_
    refine x_want rfl rfl rfl ?_
    refine x_v (r_lda (l' := [_, _, _, _, _, _, _, _, _, _, _, _, _, _, _, _, _]) ty42 rfl (by repeat (first | exact Pick.head _ _ | apply Pick.tail)) rfl (Sub.get (by repeat (first | exact Sub.nil _ | apply Sub.take | apply Sub.skip)))) rfl ?_
    refine x_want rfl rfl rfl ?_
    refine x_c (r_call0 (args := [_, _, _]) ⟨rfl, rfl, rfl, rfl⟩ (ntake_tr o.frm o.x) (by repeat (first | exact Gets.done _ | exact Gets.all _ | (apply Gets.step; focus ((repeat (first | exact Pick.head _ _ | apply Pick.tail)); done)) | apply Gets.drop))) rfl ?_
    rintro _ _ ⟨rfl, rfl⟩
    refine x_want rfl rfl rfl ?_
    refine x_v (r_lensl Try.underlying51 rfl) rfl ?_
    refine x_want rfl rfl rfl ?_
    refine x_v (r_eq rfl rfl) rfl ?_
    refine x_v (r_pk_t rfl rfl) rfl ?_
    refine x_v (r_mv rfl) rfl ?_
    refine XL.splitd 50 rfl (fun hg50 => ?_) (fun hg50 => ?_)
    · refine x_want rfl rfl rfl ?_
      refine x_v (r_mv rfl) rfl ?_
      refine x_want rfl rfl rfl ?_
      refine x_v (r_eq rfl rfl) rfl ?_
      refine x_v (r_pk_t rfl rfl) rfl ?_
      refine x_v (r_mv rfl) rfl ?_
      refine XL.splitd 54 rfl (fun hg54 => ?_) (fun hg54 => ?_)
      · refine x_want rfl rfl rfl ?_
        refine x_v (r_mv rfl) rfl ?_
        refine x_want rfl rfl rfl ?_
        refine x_v (r_fa fo44_1 rfl) rfl ?_
        refine x_want rfl rfl rfl ?_
        refine x_v (r_ld ty3 rfl (by repeat (first | exact Pick.head _ _ | apply Pick.tail)) (by rfl)) rfl ?_
        refine x_want rfl rfl rfl ?_
        refine x_v (r_fa fo44_3 rfl) rfl ?_
        refine x_want rfl rfl rfl ?_
        refine x_v (r_ld ty9 rfl (by repeat (first | exact Pick.head _ _ | apply Pick.tail)) (by rfl)) rfl ?_
        refine x_want rfl rfl rfl ?_
        refine x_c (r_call0 (args := [_, _, _]) ⟨rfl, rfl, rfl, rfl⟩ (ncompact_tr o.n o.data) (by repeat (first | exact Gets.done _ | exact Gets.all _ | (apply Gets.step; focus ((repeat (first | exact Pick.head _ _ | apply Pick.tail)); done)) | apply Gets.drop))) rfl ?_
        rintro _ _ ⟨rfl, rfl⟩
        refine x_want rfl rfl rfl ?_
        refine x_v (r_eq rfl rfl) rfl ?_
        refine x_v (r_pk_t rfl rfl) rfl ?_
        refine x_v (r_mv rfl) rfl ?_
        refine XL.splitd 63 rfl (fun hg63 => ?_) (fun hg63 => ?_)
        · refine x_want rfl rfl rfl ?_
          refine x_v (r_fa fo76_0 rfl) rfl ?_
          refine x_want rfl rfl rfl ?_
          refine x_v (r_ld ty3 rfl (by repeat (first | exact Pick.head _ _ | apply Pick.tail)) (by rfl)) rfl ?_
          refine x_want rfl rfl rfl ?_
          refine x_v (r_eq rfl rfl) rfl ?_
          refine x_v (r_pk_t rfl rfl) rfl ?_
          refine x_v (r_mv rfl) rfl ?_
          refine XL.splitd 68 rfl (fun hg68 => ?_) (fun hg68 => ?_)
          · refine x_want rfl rfl rfl ?_
            refine x_v (r_fa fo76_1 rfl) rfl ?_
            refine x_want rfl rfl rfl ?_
            refine x_v (r_ld ty3 rfl (by repeat (first | exact Pick.head _ _ | apply Pick.tail)) (by rfl)) rfl ?_
            refine x_want rfl rfl rfl ?_
            refine x_v (r_eq rfl rfl) rfl ?_
            refine x_v (r_pk_t rfl rfl) rfl ?_
            refine x_v (r_mv rfl) rfl ?_
            refine XL.splitd 73 rfl (fun hg73 => ?_) (fun hg73 => ?_)
            · refine x_want rfl rfl rfl ?_
              refine x_v (r_fa fo76_2 rfl) rfl ?_
              refine x_want rfl rfl rfl ?_
              refine x_v (r_ld ty3 rfl (by repeat (first | exact Pick.head _ _ | apply Pick.tail)) (by rfl)) rfl ?_
              refine x_want rfl rfl rfl ?_
              refine x_v (r_eq rfl rfl) rfl ?_
              refine x_v (r_pk_t rfl rfl) rfl ?_
              refine x_v (r_mv rfl) rfl ?_
              refine XL.splitd 78 rfl (fun hg78 => ?_) (fun hg78 => ?_)
              · refine x_want rfl rfl rfl ?_
                refine x_v (r_fa fo76_3 rfl) rfl ?_
                refine x_want rfl rfl rfl ?_
                refine x_v (r_ld ty30 rfl (by repeat (first | exact Pick.head _ _ | apply Pick.tail)) (by rfl)) rfl ?_
                refine x_want rfl rfl rfl ?_
                refine x_v (r_lensl Try.underlying30 rfl) rfl ?_
                refine x_want rfl rfl rfl ?_
                refine x_v (r_eq rfl rfl) rfl ?_
                refine x_v (r_pk_t rfl rfl) rfl ?_
                refine x_v (r_mv rfl) rfl ?_
                refine XL.splitd 84 rfl (fun hg84 => ?_) (fun hg84 => ?_)
                · refine x_want rfl rfl rfl ?_
                  refine x_v (r_mv rfl) rfl ?_
                  refine x_want rfl rfl rfl ?_
                  refine x_v (r_not rfl) rfl ?_
                  refine x_v (r_pk_t rfl rfl) rfl ?_
                  refine x_v (r_mv rfl) rfl ?_
                  refine XL.split 88 rfl (fun hg88 => ?_) (fun hg88 => ?_)
                  · refine x_want rfl rfl rfl ?_
                    refine x_v (r_mv rfl) rfl ?_
                    refine x_want rfl rfl rfl ?_
                    refine x_c (r_call0 (args := [_]) ⟨rfl, rfl⟩ (nkept_tr) (by repeat (first | exact Gets.done _ | exact Gets.all _ | (apply Gets.step; focus ((repeat (first | exact Pick.head _ _ | apply Pick.tail)); done)) | apply Gets.drop))) rfl ?_
                    rintro _ _ ⟨rfl, rfl⟩
                    refine x_want rfl rfl rfl ?_
                    refine x_v (r_bd (vs := []) rfl rfl bd32_z) rfl ?_
                    refine x_want rfl rfl rfl ?_
                    refine x_c (r_call0 (args := [_, _]) ⟨rfl, rfl, rfl⟩ (skept0_tr) (by repeat (first | exact Gets.done _ | exact Gets.all _ | (apply Gets.step; focus ((repeat (first | exact Pick.head _ _ | apply Pick.tail)); done)) | apply Gets.drop))) rfl ?_
                    rintro _ _ ⟨rfl, rfl⟩
                    refine x_v (r_pk_t rfl rfl) rfl ?_
                    refine x_v (r_mv rfl) rfl ?_
                    refine x_want rfl rfl rfl ?_
                    refine x_v (r_mv rfl) rfl ?_
                    refine x_want rfl rfl rfl ?_
                    refine x_c (r_call0 (args := [_]) ⟨rfl, rfl⟩ (nrole_tr) (by repeat (first | exact Gets.done _ | exact Gets.all _ | (apply Gets.step; focus ((repeat (first | exact Pick.head _ _ | apply Pick.tail)); done)) | apply Gets.drop))) rfl ?_
                    rintro _ _ ⟨rfl, rfl⟩
                    refine x_want rfl rfl rfl ?_
                    refine x_v (r_eq rfl rfl) rfl ?_
                    refine x_v (r_pk_t rfl rfl) rfl ?_
                    refine x_v (r_mv rfl) rfl ?_
                    refine XL.splitd 99 rfl (fun hg99 => ?_) (fun hg99 => ?_)
                    · refine x_want rfl rfl rfl ?_
                      refine x_v (r_mv rfl) rfl ?_
                      refine x_want rfl rfl rfl ?_
                      refine x_c (r_call0 (args := [_]) ⟨rfl, rfl⟩ (nlead_tr) (by repeat (first | exact Gets.done _ | exact Gets.all _ | (apply Gets.step; focus ((repeat (first | exact Pick.head _ _ | apply Pick.tail)); done)) | apply Gets.drop))) rfl ?_
                      rintro _ _ ⟨rfl, rfl⟩
                      refine x_want rfl rfl rfl ?_
                      refine x_v (r_eq rfl rfl) rfl ?_
                      refine x_v (r_pk_t rfl rfl) rfl ?_
                      refine x_v (r_mv rfl) rfl ?_
                      refine XL.splitd 104 rfl (fun hg104 => ?_) (fun hg104 => ?_)
                      · refine x_want rfl rfl rfl ?_
                        refine x_v (r_mv rfl) rfl ?_
                        refine x_want rfl rfl rfl ?_
                        refine x_c (r_call0 (args := [_]) ⟨rfl, rfl⟩ (ncommit_tr) (by repeat (first | exact Gets.done _ | exact Gets.all _ | (apply Gets.step; focus ((repeat (first | exact Pick.head _ _ | apply Pick.tail)); done)) | apply Gets.drop))) rfl ?_
                        rintro _ _ ⟨rfl, rfl⟩
                        refine x_want rfl rfl rfl ?_
                        refine x_v (r_eq rfl rfl) rfl ?_
                        refine x_v (r_pk_t rfl rfl) rfl ?_
                        refine x_v (r_mv rfl) rfl ?_
                        refine XL.splitd 109 rfl (fun hg109 => ?_) (fun hg109 => ?_)
                        · refine x_want rfl rfl rfl ?_
                          refine x_v (r_mv rfl) rfl ?_
                          refine x_want rfl rfl rfl ?_
                          refine x_c (r_call0 (args := [_]) ⟨rfl, rfl⟩ (nlast_tr) (by repeat (first | exact Gets.done _ | exact Gets.all _ | (apply Gets.step; focus ((repeat (first | exact Pick.head _ _ | apply Pick.tail)); done)) | apply Gets.drop))) rfl ?_
                          rintro _ _ ⟨rfl, rfl⟩
                          refine x_want rfl rfl rfl ?_
                          refine x_v (r_eq rfl rfl) rfl ?_
                          refine x_v (r_pk_t rfl rfl) rfl ?_
                          refine x_v (r_mv rfl) rfl ?_
                          refine XL.splitd 114 rfl (fun hg114 => ?_) (fun hg114 => ?_)
                          · refine x_want rfl rfl rfl ?_
                            refine x_v (r_lda (l' := [_, _]) ty48 rfl (by repeat (first | exact Pick.head _ _ | apply Pick.tail)) rfl (Sub.get (by repeat (first | exact Sub.nil _ | apply Sub.take | apply Sub.skip)))) rfl ?_
                            refine x_want rfl rfl rfl ?_
                            refine x_v (r_bd (vs := []) rfl rfl bd48_z) rfl ?_
                            refine x_want rfl rfl rfl ?_
                            refine x_v (r_steq (by kernel_rfl) (fun w => eq48 _ _ _ _ w) rfl rfl) rfl ?_
                            refine x_v (r_pk_t rfl rfl) rfl ?_
                            refine x_v (r_mv rfl) rfl ?_
                            refine XL.splitd 119 rfl (fun hg119 => ?_) (fun hg119 => ?_)
                            · refine x_want rfl rfl rfl ?_
                              refine x_v (r_mv rfl) rfl ?_
                              refine x_want rfl rfl rfl ?_
                              refine x_v (r_not rfl) rfl ?_
                              refine x_v (r_pk_t rfl rfl) rfl ?_
                              refine x_v (r_mv rfl) rfl ?_
                              refine XL.split 123 rfl (fun hg123 => ?_) (fun hg123 => ?_)
                              · refine x_want rfl rfl rfl ?_
                                refine x_v (r_mv rfl) rfl ?_
                                refine x_want rfl rfl rfl ?_
                                refine x_c (r_call0 (args := [_]) ⟨rfl, rfl⟩ (ncopy_tr) (by repeat (first | exact Gets.done _ | exact Gets.all _ | (apply Gets.step; focus ((repeat (first | exact Pick.head _ _ | apply Pick.tail)); done)) | apply Gets.drop))) rfl ?_
                                rintro _ _ ⟨rfl, rfl⟩
                                refine x_want rfl rfl rfl ?_
                                refine x_v (r_peq_nil Try.underlying23 rfl rfl) rfl ?_
                                refine x_v (r_pk_t rfl rfl) rfl ?_
                                refine x_v (r_as rfl) rfl ?_
                                refine XL.nil ?_
                                refine hK6 _ _ ?_
                                refine XC.keep [(2, _)] ⟨rfl, trivial⟩ ?_
                                refine XC.ret ?_
                                exact fin1 rfl (rfl) (by repeat (first | exact Gets.done _ | exact Gets.all _ | (apply Gets.step; focus ((repeat (first | exact Pick.head _ _ | apply Pick.tail)); done)) | apply Gets.drop))
                              · exfalso; first | omega | exact hg123 rfl | exact hg123 ⟨rfl, rfl⟩ | cases hg123
                            · exfalso; first | omega | exact hg119 rfl | exact hg119 ⟨rfl, rfl⟩ | cases hg119
                          · exfalso; first | omega | exact hg114 rfl | exact hg114 ⟨rfl, rfl⟩ | cases hg114
                        · exfalso; first | omega | exact hg109 rfl | exact hg109 ⟨rfl, rfl⟩ | cases hg109
                      · exfalso; first | omega | exact hg104 rfl | exact hg104 ⟨rfl, rfl⟩ | cases hg104
                    · exfalso; first | omega | exact hg99 rfl | exact hg99 ⟨rfl, rfl⟩ | cases hg99
                  · exfalso; first | omega | exact hg88 rfl | exact hg88 ⟨rfl, rfl⟩ | cases hg88
                · exfalso; first | omega | exact hg84 rfl | exact hg84 ⟨rfl, rfl⟩ | cases hg84
              · exfalso; first | omega | exact hg78 rfl | exact hg78 ⟨rfl, rfl⟩ | cases hg78
            · exfalso; first | omega | exact hg73 rfl | exact hg73 ⟨rfl, rfl⟩ | cases hg73
          · exfalso; first | omega | exact hg68 rfl | exact hg68 ⟨rfl, rfl⟩ | cases hg68
        · exfalso; first | omega | exact hg63 rfl | exact hg63 ⟨rfl, rfl⟩ | cases hg63
      · exfalso; first | omega | exact hg54 rfl | exact hg54 ⟨rfl, rfl⟩ | cases hg54
    · exfalso; first | omega | exact hg50 rfl | exact hg50 ⟨rfl, rfl⟩ | cases hg50
  · exfalso; first | omega | exact hg40 rfl | exact hg40 ⟨rfl, rfl⟩ | cases hg40
end Go.Proofs.Ytlogcldbflemfaa

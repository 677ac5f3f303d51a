/- Scripts: answers that the document fixes (function 24). -/
import Derived.Test.YtdppjmdjmbbclaaScript21
namespace Go.Proofs.Ytdppjmdjmbbclaa
open Go.Sx
set_option linter.unusedVariables false

theorem awake_tr {W0 : World} {Fr : List HP} : Tr W0 Try.prog 24 [] Fr (fun v Rs' => v = .bool true ∧ ∀ w, Own W0 w Rs' → Own W0 w Fr) := by
  have e1 : readF [11] = (List.range 6).map fun (i : Nat) => ⟨5, (i : Int), 0, (i : Int), [], zq⟩ := by decide
  have e2 : readF [2, 0, 9] = [⟨2, 0, 0, 0, [], zq⟩] := by decide
  have e3 : printF [⟨5, 3, 0, 7, [], zq⟩] = ([5, 3, 7], 0) := by decide
  refine Entry.tr (N := 57) (rs := [.tmp 0]) ⟨_, Try.func24, rfl, by kernel_rfl, rfl, rfl⟩ rfl ?_
  refine XC.seq fun K1 hK1 => ?_
  refine XC.region ?_
  refine x_v (r_as rfl) rfl ?_
  refine XL.nil ?_
  refine hK1 _ _ ?_
  refine XC.keep [] trivial ?_
  refine XC.seq fun K2 hK2 => ?_
  refine XC.region ?_
  refine x_c (r_call0 (args := [_]) ⟨rfl, rfl⟩ (read_tr [11] (by simp)) (by repeat (first | exact Gets.done _ | exact Gets.all _ | (apply Gets.step; focus ((repeat (first | exact Pick.head _ _ | apply Pick.tail)); done)) | apply Gets.drop))) rfl ?_
  rintro _ _ ⟨A5, c5, L5, rfl, hR5, hL5, hO5, hc5⟩
  rename_i R5
  rw [e1] at hL5
  have hl5 : L5.length = 6 := by have := congrArg List.length hL5; simpa using this
  refine x_c (r_call0 (args := [_]) ⟨rfl, rfl⟩ (read_tr (Fr := R5) [2, 0, 9] (by simp)) (by repeat (first | exact Gets.done _ | exact Gets.all _ | (apply Gets.step; focus ((repeat (first | exact Pick.head _ _ | apply Pick.tail)); done)) | apply Gets.drop))) rfl ?_
  rintro _ _ ⟨A6, c6, L6, rfl, hR6, hL6, hO6, hc6⟩
  rename_i R6
  rw [e2] at hL6
  have hl6 : L6.length = 1 := by have := congrArg List.length hL6; simpa using this
  refine x_v (r_as rfl) rfl ?_
  refine x_v (r_as rfl) rfl ?_
  refine XL.nil ?_
  refine hK2 _ _ ?_
  refine XC.keep [(1, _), (2, _)] ⟨rfl, rfl, trivial⟩ ?_
  refine XC.seq fun K3 hK3 => ?_
  refine XC.region ?_
  refine x_v (r_bd (vs := [_, _, _]) rfl ⟨rfl, rfl, rfl, rfl⟩ (bd83_0_1_3 _ _ _)) rfl ?_
  refine x_a (r_bs (vs := [_]) rfl ⟨rfl, rfl⟩ (bs56_1_0 _ _ _ _ _ _ _ _ _ _ _ _ _ _)) rfl fun b9 => ?_
  refine x_c (r_call0 (args := [_]) ⟨rfl, rfl⟩ (print_tr (Fr := blk b9 83 (ac ⟨5, 3, 0, 7, none, 0, 0, [], zq⟩) :: R6) (some ⟨b9, 0, none⟩) 1 [⟨5, 3, 0, 7, none, 0, 0, [], zq⟩] (rda_one (fun w h j u hu => blk_at h j u hu) (Rdb.nil _ _ _) (Nat.zero_le _)) (by simp [Small, zq])) (by repeat (first | exact Gets.done _ | exact Gets.all _ | (apply Gets.step; focus ((repeat (first | exact Pick.head _ _ | apply Pick.tail)); done)) | apply Gets.drop))) rfl ?_
  rintro _ _ ⟨hv, hRs⟩
  rw [show [(⟨5, 3, 0, 7, none, 0, 0, [], zq⟩ : Ac)].map Ac.v = [⟨5, 3, 0, 7, [], zq⟩] from rfl, e3] at hv
  subst hv
  rw [hRs]
  refine x_v (r_mv rfl) rfl ?_
  refine x_v (r_ex rfl rfl) rfl ?_
  refine x_v (r_ex rfl rfl) rfl ?_
  refine x_v (r_as rfl) rfl ?_
  refine x_v (r_as rfl) rfl ?_
  refine XL.nil ?_
  refine hK3 _ _ ?_
  refine XC.keep [(1, _), (2, _), (3, _), (4, _)] ⟨rfl, rfl, rfl, rfl, trivial⟩ ?_
  refine XC.seq fun K4 hK4 => ?_
  obtain ⟨a, ha⟩ : ∃ a, L5[5]? = some a := ⟨_, List.getElem?_eq_getElem (by omega)⟩
  have hav : a.v = ⟨5, 5, 0, 5, [], zq⟩ := by have := congrArg (fun l => l[5]?) hL5; simpa [ha] using this
  obtain ⟨ak, an, akk, ad, aA, am, acp, aks, aq⟩ := a
  simp only [Ac.v, Av.mk.injEq] at hav
  obtain ⟨rfl, rfl, rfl, rfl, rfl, rfl⟩ := hav
  obtain ⟨a2, ha2⟩ : ∃ a2, L6[0]? = some a2 := ⟨_, List.getElem?_eq_getElem (by omega)⟩
  have hav2 : a2.v = ⟨2, 0, 0, 0, [], zq⟩ := by have := congrArg (fun l => l[0]?) hL6; simpa [ha2] using this
  have hk2 : a2.kind = 2 := congrArg Av.kind hav2
  obtain ⟨sb, so, rfl, hat⟩ := hR5.rd.at_ (by omega)
  obtain ⟨sb2, so2, rfl, hat2⟩ := hR6.rd.at_ (by omega)
  refine XC.region ?_
  refine x_v (r_mv rfl) rfl ?_
  refine x_v (r_lensl Try.underlying56 rfl) rfl ?_
  refine x_v (r_eq rfl rfl) rfl ?_
  refine x_v (r_mv rfl) rfl ?_
  refine XL.splitd 16 rfl (fun hg16 => ?_) (fun hg16 => ?_)
  · refine x_want rfl rfl rfl ?_
    refine x_v (r_mv rfl) rfl ?_
    refine x_want rfl rfl rfl ?_
    refine x_v (r_ia (k := 5) Try.underlying56 ty83 rfl rfl (by omega) (by omega)) rfl ?_
    refine x_want rfl rfl rfl ?_
    refine x_v (r_fa fo83_0 rfl) rfl ?_
    refine x_want rfl rfl rfl ?_
    refine x_v (r_ldr (v := .int .i64 5) ty3 rfl (fun w hw => by rw [Nat.add_assoc]; exact hat w (hO6 w hw.tail) _ _ (cells_get ac_len L5 5 _ ha 0 _ rfl))) rfl ?_
    refine x_want rfl rfl rfl ?_
    refine x_v (r_eq rfl rfl) rfl ?_
    refine x_v (r_pk_t rfl rfl) rfl ?_
    refine x_v (r_mv rfl) rfl ?_
    refine XL.splitd 23 rfl (fun hg23 => ?_) (fun hg23 => ?_)
    · refine x_want rfl rfl rfl ?_
      refine x_v (r_mv rfl) rfl ?_
      refine x_want rfl rfl rfl ?_
      refine x_v (r_ia (k := 5) Try.underlying56 ty83 rfl rfl (by omega) (by omega)) rfl ?_
      refine x_want rfl rfl rfl ?_
      refine x_v (r_fa fo83_1 rfl) rfl ?_
      refine x_want rfl rfl rfl ?_
      refine x_v (r_ldr (v := .int .i64 5) ty3 rfl (fun w hw => by rw [Nat.add_assoc]; exact hat w (hO6 w hw.tail) _ _ (cells_get ac_len L5 5 _ ha 1 _ rfl))) rfl ?_
      refine x_want rfl rfl rfl ?_
      refine x_v (r_eq rfl rfl) rfl ?_
      refine x_v (r_pk_t rfl rfl) rfl ?_
      refine x_v (r_mv rfl) rfl ?_
      refine XL.splitd 30 rfl (fun hg30 => ?_) (fun hg30 => ?_)
      · refine x_want rfl rfl rfl ?_
        refine x_v (r_mv rfl) rfl ?_
        refine x_want rfl rfl rfl ?_
        refine x_v (r_ia (k := 5) Try.underlying56 ty83 rfl rfl (by omega) (by omega)) rfl ?_
        refine x_want rfl rfl rfl ?_
        refine x_v (r_fa fo83_3 rfl) rfl ?_
        refine x_want rfl rfl rfl ?_
        refine x_v (r_ldr (v := .int .i64 5) ty3 rfl (fun w hw => by rw [Nat.add_assoc]; exact hat w (hO6 w hw.tail) _ _ (cells_get ac_len L5 5 _ ha 3 _ rfl))) rfl ?_
        refine x_want rfl rfl rfl ?_
        refine x_v (r_eq rfl rfl) rfl ?_
        refine x_v (r_pk_t rfl rfl) rfl ?_
        refine x_v (r_mv rfl) rfl ?_
        refine XL.splitd 37 rfl (fun hg37 => ?_) (fun hg37 => ?_)
        · refine x_want rfl rfl rfl ?_
          refine x_v (r_mv rfl) rfl ?_
          refine x_want rfl rfl rfl ?_
          refine x_v (r_lensl Try.underlying56 rfl) rfl ?_
          refine x_want rfl rfl rfl ?_
          refine x_v (r_eq rfl rfl) rfl ?_
          refine x_v (r_pk_t rfl rfl) rfl ?_
          refine x_v (r_mv rfl) rfl ?_
          refine XL.splitd 42 rfl (fun hg42 => ?_) (fun hg42 => ?_)
          · refine x_want rfl rfl rfl ?_
            refine x_v (r_mv rfl) rfl ?_
            refine x_want rfl rfl rfl ?_
            refine x_v (r_ia (k := 0) Try.underlying56 ty83 rfl rfl (by omega) (by omega)) rfl ?_
            refine x_want rfl rfl rfl ?_
            refine x_v (r_fa fo83_0 rfl) rfl ?_
            refine x_want rfl rfl rfl ?_
            refine x_v (r_ldr (v := .int .i64 2) ty3 rfl (fun w hw => by rw [Nat.add_assoc]; exact hat2 w hw.tail _ _ (cells_get ac_len L6 0 _ ha2 0 _ (by rw [← hk2]; rfl)))) rfl ?_
            refine x_want rfl rfl rfl ?_
            refine x_v (r_eq rfl rfl) rfl ?_
            refine x_v (r_pk_t rfl rfl) rfl ?_
            refine x_v (r_mv rfl) rfl ?_
            refine XL.splitd 49 rfl (fun hg49 => ?_) (fun hg49 => ?_)
            · refine x_want rfl rfl rfl ?_
              refine x_v (r_mv rfl) rfl ?_
              refine x_want rfl rfl rfl ?_
              refine x_v (r_seq rfl rfl) rfl ?_
              refine x_v (r_pk_t rfl rfl) rfl ?_
              refine x_v (r_mv rfl) rfl ?_
              refine XL.splitd 53 rfl (fun hg53 => ?_) (fun hg53 => ?_)
              · refine x_want rfl rfl rfl ?_
                refine x_v (r_mv rfl) rfl ?_
                refine x_want rfl rfl rfl ?_
                refine x_v (r_eq rfl rfl) rfl ?_
                refine x_v (r_pk_t rfl rfl) rfl ?_
                refine x_v (r_as rfl) rfl ?_
                refine XL.nil ?_
                refine hK4 _ _ ?_
                refine XC.keep [(0, _)] ⟨rfl, trivial⟩ ?_
                refine XC.ret ?_
                exact fin1 rfl (⟨rfl, fun w h => hO5 w (hO6 w h.tail)⟩) (by repeat (first | exact Gets.done _ | exact Gets.all _ | (apply Gets.step; focus ((repeat (first | exact Pick.head _ _ | apply Pick.tail)); done)) | apply Gets.drop))
              · exfalso; exact hg53 rfl
            · exfalso; omega
          · exfalso; omega
        · exfalso; omega
      · exfalso; omega
    · exfalso; omega
  · exfalso; omega
end Go.Proofs.Ytdppjmdjmbbclaa

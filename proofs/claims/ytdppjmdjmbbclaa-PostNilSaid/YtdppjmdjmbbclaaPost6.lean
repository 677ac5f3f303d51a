/- Letters: what the functions of package post and of the document's answer do to memory (6). -/
import Derived.Test.YtdppjmdjmbbclaaPost5
namespace Go.Proofs.Ytdppjmdjmbbclaa
open Go.Sx
set_option linter.unusedVariables false

/-- Is a letter from or to one of these? -/
def Hit (ns : List Int) (l : Lt) : Prop := l.1 ∈ ns ∨ l.2.1 ∈ ns
instance (ns : List Int) (l : Lt) : Decidable (Hit ns l) := by unfold Hit; infer_instance
def stay (ns : List Int) (L : List Lt) : List Lt := L.filter fun l => !decide (Hit ns l)
theorem stay_snoc (ns : List Int) (L : List Lt) (l : Lt) : stay ns (L ++ [l]) = if Hit ns l then stay ns L else stay ns L ++ [l] := by
  unfold stay; rw [List.filter_append]; by_cases h : Hit ns l <;> simp [h]
theorem take_snoc {α : Type} {L : List α} {k : Nat} {l : α} (h : L[k]? = some l) : L.take (k + 1) = L.take k ++ [l] := by
  rw [List.take_add_one, h]; rfl
theorem stay_len_le (ns : List Int) (L : List Lt) : (stay ns L).length ≤ L.length := List.length_filter_le _ _

theorem index_tr {W0 : World} {Fr : List HP} (NA : Option Addr) (nn nc : Nat) (ns : List Int) (x : Int) (hr : Rdb W0 Fr NA nn 1 (iv ns)) (hn : nn ≤ 4611686018427387904) :
    Tr W0 Try.prog 51 [.slice NA nn nc, .int .i64 x] Fr (fun v Rs' => (∃ r : Int, v = .int .i64 r ∧ ((r = -1 ∧ x ∉ ns) ∨ (0 ≤ r ∧ x ∈ ns))) ∧ Rs' = Fr) := by
  have hlen : ns.length = nn := by have := hr.len; simpa [iv] using this
  refine Entry.tr (N := 19) (rs := [.tmp 4]) ⟨_, Try.func51, rfl, by kernel_rfl, rfl, rfl⟩ rfl ?_
  refine XC.seq fun K1 hK1 => ?_
  refine XC.region ?_
  refine x_v (r_as rfl) rfl ?_
  refine XL.nil ?_
  refine hK1 _ _ ?_
  refine XC.keep [(0, _), (1, _)] ⟨rfl, rfl, trivial⟩ ?_
  refine XC.seq fun K2 hK2 => ?_
  refine XC.seq fun K3 hK3 => ?_
  refine XC.region ?_
  refine x_v (r_mv rfl) rfl ?_
  refine x_v (r_lensl Try.underlying40 rfl) rfl ?_
  refine x_v (r_mv rfl) rfl ?_
  refine XL.nil ?_
  refine hK3 _ _ ?_
  refine XC.keep [(0, _), (1, _), (7, _), (8, _)] ⟨rfl, rfl, rfl, rfl, trivial⟩ ?_
  refine XC.block ?_
  refine XC.loop (σ := Nat) (fun k => [(0, .slice NA nn nc), (1, .int .i64 x), (7, .int .i64 nn), (8, .int .i64 k)]) (fun k => Fr) (fun k => k ≤ nn ∧ x ∉ ns.take k) (fun k => nn - k) 0 ?_ ⟨rfl, rfl, rfl, rfl, trivial⟩ (by repeat (first | exact Gets.done _ | exact Gets.all _ | (apply Gets.step; focus ((repeat (first | exact Pick.head _ _ | apply Pick.tail)); done)) | apply Gets.drop)) ?_
  · exact ⟨by omega, by simp⟩
  rintro k hI
  refine XC.seq fun K4 hK4 => ?_
  refine XC.region ?_
  refine x_v (r_lt rfl rfl) rfl ?_
  refine XL.nil ?_
  refine hK4 _ _ ?_
  refine XC.keep [(0, _), (1, _), (7, _), (8, _), (9, _)] ⟨rfl, rfl, rfl, rfl, rfl, trivial⟩ ?_
  refine XC.seq fun K5 hK5 => ?_
  refine XC.cond_d rfl (fun hc1 => ?_) (fun hc1 => ?_)
  · refine XC.skip ?_
    refine hK5 _ _ ?_
    refine XC.keep [(0, _), (1, _), (7, _), (8, _)] ⟨rfl, rfl, rfl, rfl, trivial⟩ ?_
    refine XC.seq fun K6 hK6 => ?_
    refine XC.block ?_
    refine XC.seq fun K7 hK7 => ?_
    refine XC.region ?_
    refine x_v (r_mv rfl) rfl ?_
    refine x_v (r_as rfl) rfl ?_
    refine XL.nil ?_
    refine hK7 _ _ ?_
    refine XC.keep [(0, _), (1, _), (5, _), (7, _), (8, _)] ⟨rfl, rfl, rfl, rfl, rfl, trivial⟩ ?_
    refine XC.seq fun K8 hK8 => ?_
    refine XC.region ?_
    refine x_v (r_mv rfl) rfl ?_
    refine x_v (r_mv rfl) rfl ?_
    refine x_v (r_mv rfl) rfl ?_
    obtain ⟨b, o, rfl, hat⟩ := hr.at_ (by omega)
    obtain ⟨y, hy⟩ : ∃ y, ns[k]? = some y := ⟨_, List.getElem?_eq_getElem (by omega)⟩
    refine x_v (r_ia (k := k) Try.underlying40 ty3 rfl rfl (by omega) (by omega)) rfl ?_
    refine x_v (r_ldr ty3 rfl (fun w hw => hat w hw (k * 1) _ (by rw [Nat.mul_one]; exact iv_get hy))) rfl ?_
    refine x_v (r_eq rfl rfl) rfl ?_
    refine XL.nil ?_
    refine hK8 _ _ ?_
    refine XC.keep [(0, _), (1, _), (5, _), (7, _), (8, _), (16, _)] ⟨rfl, rfl, rfl, rfl, rfl, rfl, trivial⟩ ?_
    refine XC.cond_d rfl (fun hc2 => ?_) (fun hc2 => ?_)
    · refine XC.seq fun K9 hK9 => ?_
      refine XC.region ?_
      refine x_v (r_mv rfl) rfl ?_
      refine x_v (r_as rfl) rfl ?_
      refine XL.nil ?_
      refine hK9 _ _ ?_
      refine XC.keep [(4, _)] ⟨rfl, trivial⟩ ?_
      refine XC.ret ?_
      exact fin1 rfl (⟨⟨_, rfl, Or.inr ⟨by omega, List.mem_of_getElem? (by rw [hy]; congr 1; omega)⟩⟩, rfl⟩) (by repeat (first | exact Gets.done _ | exact Gets.all _ | (apply Gets.step; focus ((repeat (first | exact Pick.head _ _ | apply Pick.tail)); done)) | apply Gets.drop))
    · refine XC.skip ?_
      refine hK6 _ _ ?_
      refine XC.keep [(0, _), (1, _), (7, _), (8, _)] ⟨rfl, rfl, rfl, rfl, trivial⟩ ?_
      refine XC.region ?_
      refine x_v (r_add rfl rfl (by omega)) rfl ?_
      refine x_v (r_mv rfl) rfl ?_
      refine XL.nil ?_
      refine ⟨k + 1, ?_, ?_, ⟨rfl, rfl, rfl, rfl, trivial⟩, (by repeat (first | exact Gets.done _ | exact Gets.all _ | (apply Gets.step; focus ((repeat (first | exact Pick.head _ _ | apply Pick.tail)); done)) | apply Gets.drop))⟩
      · exact ⟨by omega, by rw [take_snoc hy]; simp [hI.2]; omega⟩
      · omega
  · refine XC.exit rfl ?_
    refine hK2 _ _ ?_
    refine XC.keep [] trivial ?_
    refine XC.seq fun K10 hK10 => ?_
    refine XC.region ?_
    refine x_v (r_as rfl) rfl ?_
    refine XL.nil ?_
    refine hK10 _ _ ?_
    refine XC.keep [(4, _)] ⟨rfl, trivial⟩ ?_
    refine XC.ret ?_
    exact fin1 rfl (⟨⟨_, rfl, Or.inl ⟨rfl, by have := hI.2; rwa [List.take_of_length_le (by omega)] at this⟩⟩, rfl⟩) (by repeat (first | exact Gets.done _ | exact Gets.all _ | (apply Gets.step; focus ((repeat (first | exact Pick.head _ _ | apply Pick.tail)); done)) | apply Gets.drop))

theorem contains_tr {W0 : World} {Fr : List HP} (NA : Option Addr) (nn nc : Nat) (ns : List Int) (x : Int) (hr : Rdb W0 Fr NA nn 1 (iv ns)) (hn : nn ≤ 4611686018427387904) :
    Tr W0 Try.prog 43 [.slice NA nn nc, .int .i64 x] Fr (fun v Rs' => v = .bool (decide (x ∈ ns)) ∧ Rs' = Fr) := by
  refine Entry.tr (N := 9) (rs := [.tmp 4]) ⟨_, Try.func43, rfl, by kernel_rfl, rfl, rfl⟩ rfl ?_
  refine XC.seq fun K1 hK1 => ?_
  refine XC.region ?_
  refine x_v (r_as rfl) rfl ?_
  refine XL.nil ?_
  refine hK1 _ _ ?_
  refine XC.keep [(0, _), (1, _)] ⟨rfl, rfl, trivial⟩ ?_
  refine XC.seq fun K2 hK2 => ?_
  refine XC.region ?_
  refine x_v (r_mv rfl) rfl ?_
  refine x_v (r_mv rfl) rfl ?_
  refine x_c (r_call0 (args := [_, _]) ⟨rfl, rfl, rfl⟩ (index_tr NA nn nc ns x hr hn) (by repeat (first | exact Gets.done _ | exact Gets.all _ | (apply Gets.step; focus ((repeat (first | exact Pick.head _ _ | apply Pick.tail)); done)) | apply Gets.drop))) rfl ?_
  rintro _ _ ⟨⟨r, rfl, hx⟩, rfl⟩
  refine x_v (r_ge rfl rfl) rfl ?_
  refine x_v (r_as rfl) rfl ?_
  refine XL.nil ?_
  refine hK2 _ _ ?_
  refine XC.keep [(4, _)] ⟨rfl, trivial⟩ ?_
  refine XC.ret ?_
  have e1 : decide (0 ≤ r) = decide (x ∈ ns) := by rcases hx with ⟨h1, h2⟩ | ⟨h1, h2⟩ <;> simp [h1, h2]
  exact fin1 rfl (⟨by rw [e1], rfl⟩) (by repeat (first | exact Gets.done _ | exact Gets.all _ | (apply Gets.step; focus ((repeat (first | exact Pick.head _ _ | apply Pick.tail)); done)) | apply Gets.drop))

theorem del_tr {W0 : World} {Fr : List HP} (bc : Nat) (NA : Option Addr) (nn nc : Nat) (ns : List Int) (l : Lt) (hr : Rdb W0 Fr NA nn 1 (iv ns)) (hn : nn ≤ 4611686018427387904) :
    Tr W0 Try.prog 42 [.agg (lc l).toArray, .pointer (some ⟨bc, 0, none⟩)] (blk bc 40 [.slice NA nn nc] :: Fr) (fun v Rs' => v = .bool (decide (Hit ns l)) ∧ Rs' = blk bc 40 [.slice NA nn nc] :: Fr) := by
  refine Entry.tr (N := 14) (rs := [.tmp 3]) ⟨_, Try.func42, rfl, by kernel_rfl, rfl, rfl⟩ rfl ?_
  refine XC.seq fun K1 hK1 => ?_
  refine XC.region ?_
  refine x_a (r_bx rfl rfl) rfl fun b2 => ?_
  refine x_v (r_as rfl) rfl ?_
  refine XL.nil ?_
  refine hK1 _ _ ?_
  refine XC.keep [(1, _), (2, _)] ⟨rfl, rfl, trivial⟩ ?_
  refine XC.seq fun K2 hK2 => ?_
  refine XC.region ?_
  refine x_v (r_ld ty40 rfl (by repeat (first | exact Pick.head _ _ | apply Pick.tail)) (by rfl)) rfl ?_
  refine x_v (r_fa fo29_0 rfl) rfl ?_
  refine x_v (r_ld ty3 rfl (by repeat (first | exact Pick.head _ _ | apply Pick.tail)) (by rfl)) rfl ?_
  refine x_c (r_call0 (args := [_, _]) ⟨rfl, rfl, rfl⟩ (contains_tr (Fr := blk b2 29 (lc l) :: blk bc 40 [.slice NA nn nc] :: Fr) NA nn nc ns l.1 (hr.suf (.cons _ (.cons _ (.refl _)))) hn) (by repeat (first | exact Gets.done _ | exact Gets.all _ | (apply Gets.step; focus ((repeat (first | exact Pick.head _ _ | apply Pick.tail)); done)) | apply Gets.drop))) rfl ?_
  rintro _ _ ⟨rfl, rfl⟩
  refine x_v (r_mv rfl) rfl ?_
  refine XL.splitd 8 rfl (fun hg8 => ?_) (fun hg8 => ?_)
  · refine x_unwant rfl rfl rfl rfl rfl ?_
    refine x_unwant rfl rfl rfl rfl rfl ?_
    refine x_unwant rfl rfl rfl rfl rfl ?_
    refine x_unwant rfl rfl rfl rfl rfl ?_
    refine x_v (r_pk_t rfl rfl) rfl ?_
    refine x_v (r_as rfl) rfl ?_
    refine XL.nil ?_
    refine hK2 _ _ ?_
    refine XC.keep [(3, _)] ⟨rfl, trivial⟩ ?_
    refine XC.ret ?_
    exact fin1 rfl (⟨by simp [Hit, *], rfl⟩) (by repeat (first | exact Gets.done _ | exact Gets.all _ | (apply Gets.step; focus ((repeat (first | exact Pick.head _ _ | apply Pick.tail)); done)) | apply Gets.drop))
  · refine x_want rfl rfl rfl ?_
    refine x_v (r_ld ty40 rfl (by repeat (first | exact Pick.head _ _ | apply Pick.tail)) (by rfl)) rfl ?_
    refine x_want rfl rfl rfl ?_
    refine x_v (r_fa fo29_1 rfl) rfl ?_
    refine x_want rfl rfl rfl ?_
    refine x_v (r_ld ty3 rfl (by repeat (first | exact Pick.head _ _ | apply Pick.tail)) (by rfl)) rfl ?_
    refine x_want rfl rfl rfl ?_
    refine x_c (r_call0 (args := [_, _]) ⟨rfl, rfl, rfl⟩ (contains_tr (Fr := blk b2 29 (lc l) :: blk bc 40 [.slice NA nn nc] :: Fr) NA nn nc ns l.2.1 (hr.suf (.cons _ (.cons _ (.refl _)))) hn) (by repeat (first | exact Gets.done _ | exact Gets.all _ | (apply Gets.step; focus ((repeat (first | exact Pick.head _ _ | apply Pick.tail)); done)) | apply Gets.drop))) rfl ?_
    rintro _ _ ⟨rfl, rfl⟩
    refine x_v (r_pk_f rfl rfl) rfl ?_
    refine x_v (r_as rfl) rfl ?_
    refine XL.nil ?_
    refine hK2 _ _ ?_
    refine XC.keep [(3, _)] ⟨rfl, trivial⟩ ?_
    refine XC.ret ?_
    exact fin1 rfl (⟨by simp [Hit, *], rfl⟩) (by repeat (first | exact Gets.done _ | exact Gets.all _ | (apply Gets.step; focus ((repeat (first | exact Pick.head _ _ | apply Pick.tail)); done)) | apply Gets.drop))

theorem indexfunc_tr {W0 : World} {Fr : List HP} (bc : Nat) (NA : Option Addr) (nn nc : Nat) (ns : List Int) (A : Option Addr) (c : Nat) (L : List Lt) (hr : Rdb W0 Fr NA nn 1 (iv ns)) (hn : nn ≤ 4611686018427387904) (hL : L.length ≤ 100000) :
    Tr W0 Try.prog 50 [.slice A L.length c, .func (.func 42) #[] #[.pointer (some ⟨bc, 0, none⟩)]] (sl A L.length c 29 3 (cells lc L) :: blk bc 40 [.slice NA nn nc] :: Fr)
      (fun v Rs' => (∃ r : Int, v = .int .i64 r ∧ ((r = -1 ∧ stay ns L = L) ∨ (∃ k : Nat, r = k ∧ k < L.length ∧ stay ns (L.take (k + 1)) = L.take k))) ∧ Rs' = sl A L.length c 29 3 (cells lc L) :: blk bc 40 [.slice NA nn nc] :: Fr) := by
  refine Entry.tr (N := 19) (rs := [.tmp 4]) ⟨_, Try.func50, rfl, by kernel_rfl, rfl, rfl⟩ rfl ?_
  refine XC.seq fun K1 hK1 => ?_
  refine XC.region ?_
  refine x_v (r_as rfl) rfl ?_
  refine XL.nil ?_
  refine hK1 _ _ ?_
  refine XC.keep [(0, _), (1, _)] ⟨rfl, rfl, trivial⟩ ?_
  refine XC.seq fun K2 hK2 => ?_
  refine XC.seq fun K3 hK3 => ?_
  refine XC.region ?_
  refine x_v (r_mv rfl) rfl ?_
  refine x_v (r_lensl Try.underlying22 rfl) rfl ?_
  refine x_v (r_mv rfl) rfl ?_
  refine XL.nil ?_
  refine hK3 _ _ ?_
  refine XC.keep [(0, _), (1, _), (7, _), (8, _)] ⟨rfl, rfl, rfl, rfl, trivial⟩ ?_
  refine XC.block ?_
  refine XC.loop (σ := Nat) (fun k => [(0, .slice A L.length c), (1, .func (.func 42) #[] #[.pointer (some ⟨bc, 0, none⟩)]), (7, .int .i64 L.length), (8, .int .i64 k)]) (fun k => sl A L.length c 29 3 (cells lc L) :: blk bc 40 [.slice NA nn nc] :: Fr) (fun k => k ≤ L.length ∧ stay ns (L.take k) = L.take k) (fun k => L.length - k) 0 ?_ ⟨rfl, rfl, rfl, rfl, trivial⟩ (by repeat (first | exact Gets.done _ | exact Gets.all _ | (apply Gets.step; focus ((repeat (first | exact Pick.head _ _ | apply Pick.tail)); done)) | apply Gets.drop)) ?_
  · exact ⟨by omega, by simp [stay]⟩
  rintro k hI
  refine XC.seq fun K4 hK4 => ?_
  refine XC.region ?_
  refine x_v (r_lt rfl rfl) rfl ?_
  refine XL.nil ?_
  refine hK4 _ _ ?_
  refine XC.keep [(0, _), (1, _), (7, _), (8, _), (9, _)] ⟨rfl, rfl, rfl, rfl, rfl, trivial⟩ ?_
  refine XC.seq fun K5 hK5 => ?_
  refine XC.cond_d rfl (fun hc1 => ?_) (fun hc1 => ?_)
  · refine XC.skip ?_
    refine hK5 _ _ ?_
    refine XC.keep [(0, _), (1, _), (7, _), (8, _)] ⟨rfl, rfl, rfl, rfl, trivial⟩ ?_
    refine XC.seq fun K6 hK6 => ?_
    refine XC.block ?_
    refine XC.seq fun K7 hK7 => ?_
    refine XC.region ?_
    refine x_v (r_mv rfl) rfl ?_
    refine x_v (r_as rfl) rfl ?_
    refine XL.nil ?_
    refine hK7 _ _ ?_
    refine XC.keep [(0, _), (1, _), (5, _), (7, _), (8, _)] ⟨rfl, rfl, rfl, rfl, rfl, trivial⟩ ?_
    refine XC.seq fun K8 hK8 => ?_
    refine XC.region ?_
    refine x_v (r_mv rfl) rfl ?_
    refine x_v (r_mv rfl) rfl ?_
    refine x_v (r_mv rfl) rfl ?_
    obtain ⟨l, hl⟩ : ∃ l, L[k]? = some l := ⟨_, List.getElem?_eq_getElem (by omega)⟩
    refine XL.open_ (by repeat (first | exact Pick.head _ _ | apply Pick.tail)) (by omega) fun g cur hA h1 h2 h3 h4 => ?_
    subst hA
    refine x_v (r_ia (k := k) Try.underlying22 ty29 rfl rfl (by omega) (by omega)) rfl ?_
    refine x_v (r_lda (l' := lc l) ty29 rfl (by repeat (first | exact Pick.head _ _ | apply Pick.tail)) rfl (elem_at lc_len h4 hl)) rfl ?_
    refine XL.shut_ (by repeat (first | exact Pick.head _ _ | apply Pick.tail)) h1 h2 h3 h4 ?_
    refine x_c (r_call (fst := []) (cap := [_]) (vs := [_]) rfl ⟨rfl, rfl⟩ rfl (del_tr bc NA nn nc ns l (hr.suf (.cons _ (.refl _)))  hn) (by repeat (first | exact Gets.done _ | exact Gets.all _ | (apply Gets.step; focus ((repeat (first | exact Pick.head _ _ | apply Pick.tail)); done)) | apply Gets.drop))) rfl ?_
    rintro _ _ ⟨rfl, rfl⟩
    refine XL.nil ?_
    refine hK8 _ _ ?_
    refine XC.keep [(0, _), (1, _), (5, _), (7, _), (8, _), (16, _)] ⟨rfl, rfl, rfl, rfl, rfl, rfl, trivial⟩ ?_
    refine XC.cond_d rfl (fun hc2 => ?_) (fun hc2 => ?_)
    · refine XC.seq fun K9 hK9 => ?_
      refine XC.region ?_
      refine x_v (r_mv rfl) rfl ?_
      refine x_v (r_as rfl) rfl ?_
      refine XL.nil ?_
      refine hK9 _ _ ?_
      refine XC.keep [(4, _)] ⟨rfl, trivial⟩ ?_
      refine XC.ret ?_
      exact fin1 rfl (⟨⟨_, rfl, Or.inr ⟨k, rfl, by omega, by rw [take_snoc hl, stay_snoc, hI.2]; simp_all⟩⟩, rfl⟩) (by repeat (first | exact Gets.done _ | exact Gets.all _ | (apply Gets.step; focus ((repeat (first | exact Pick.head _ _ | apply Pick.tail)); done)) | apply Gets.drop))
    · refine XC.skip ?_
      refine hK6 _ _ ?_
      refine XC.keep [(0, _), (1, _), (7, _), (8, _)] ⟨rfl, rfl, rfl, rfl, trivial⟩ ?_
      refine XC.region ?_
      refine x_v (r_add rfl rfl (by omega)) rfl ?_
      refine x_v (r_mv rfl) rfl ?_
      refine XL.nil ?_
      refine ⟨k + 1, ?_, ?_, ⟨rfl, rfl, rfl, rfl, trivial⟩, (by repeat (first | exact Gets.done _ | exact Gets.all _ | (apply Gets.step; focus ((repeat (first | exact Pick.head _ _ | apply Pick.tail)); done)) | apply Gets.drop))⟩
      · exact ⟨by omega, by rw [take_snoc hl, stay_snoc, hI.2]; simp_all⟩
      · omega
  · refine XC.exit rfl ?_
    refine hK2 _ _ ?_
    refine XC.keep [] trivial ?_
    refine XC.seq fun K10 hK10 => ?_
    refine XC.region ?_
    refine x_v (r_as rfl) rfl ?_
    refine XL.nil ?_
    refine hK10 _ _ ?_
    refine XC.keep [(4, _)] ⟨rfl, trivial⟩ ?_
    refine XC.ret ?_
    exact fin1 rfl (⟨⟨_, rfl, Or.inl ⟨rfl, by have := hI.2; rwa [List.take_of_length_le (by omega)] at this⟩⟩, rfl⟩) (by repeat (first | exact Gets.done _ | exact Gets.all _ | (apply Gets.step; focus ((repeat (first | exact Pick.head _ _ | apply Pick.tail)); done)) | apply Gets.drop))
end Go.Proofs.Ytdppjmdjmbbclaa

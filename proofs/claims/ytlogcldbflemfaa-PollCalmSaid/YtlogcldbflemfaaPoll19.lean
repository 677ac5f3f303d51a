/- Polls: a mail comes, or is lost. -/
import Derived.Test.YtlogcldbflemfaaPoll18
namespace Go.Proofs.Ytlogcldbflemfaa
open Go.Sx Go.Rf
set_option linter.unusedVariables false

def All8 (l : List Sd) : Prop := ∀ y ∈ l, y.2.es.length ≤ 8
theorem all8_nil : All8 [] := fun y h => by cases h
theorem all8_one {y : Sd} (h : y.2.es.length ≤ 8) : All8 [y] := fun z hz => by rw [List.mem_singleton.1 hz]; exact h
theorem feed1_8 (p : Pl) (n : Int) : (feed1 p n).2.es.length ≤ 8 := by
  unfold feed1; split
  · exact Nat.zero_le _
  · show (List.take 8 _).length ≤ 8; rw [List.length_take]; omega
theorem feed_8 (p : Pl) (l : List Int) : All8 (feed p l) := fun y hy => by
  obtain ⟨n, _, rfl⟩ := List.mem_map.1 hy; exact feed1_8 p n
theorem tick_8 (p : Pl) (d : Int) : All8 (tick p d).2 := by
  unfold tick; dsimp only; split
  · exact feed_8 _ _
  · split
    · exact all8_nil
    · intro y hy; obtain ⟨n, _, rfl⟩ := List.mem_map.1 hy; exact Nat.zero_le _
theorem propose_8 (p : Pl) (d : List UInt8) : All8 (propose p d).2.2.1 := by
  unfold propose; split
  · exact all8_nil
  · split
    · exact all8_nil
    · exact feed_8 _ _
theorem heard_8 (p : Pl) (f : Int) (m : Ml) : All8 (heard p f m).2 := by
  unfold heard; dsimp only; split
  · split
    · exact all8_nil
    · exact all8_one (feed1_8 _ _)
  · split
    · exact all8_one (feed1_8 _ _)
    · exact all8_nil
theorem take_8 (p : Pl) (f : Int) (m : Ml) : All8 (take p f m).2 := by
  cases h : fits p f m
  · unfold take; rw [if_pos h]; exact all8_nil
  · rw [take_fit h]
    repeat' split
    all_goals first | exact all8_nil | exact feed_8 _ _ | exact heard_8 _ _ _ | exact all8_one (Nat.zero_le _)

/-- Three nodes, and mails on their way, as they should be. -/
structure SOk (W0 : World) (k : HP) (B : Nat) (l : List NdR) (L : List (Int × Int × Mx)) : Prop where
  len : l.length = 3
  pb : ∀ x ∈ l, PB W0 k x.p x.A x.c
  lim : ∀ x ∈ l, Lim B x.p
  mm : ∀ x ∈ l, x.p.role = 1 → x.M ≠ none
  way : L.length ≤ 200
  fl : ∀ f ∈ L, Rf.Node f.2.1 ∧ RdM W0 k f.2.2 ∧ f.2.2.m.es.length ≤ 8
def stOf (l : List NdR) (L : List (Int × Int × Mx)) : Rf.St := ⟨l.map NdR.p, L.map fv⟩
theorem pOf_at {l : List NdR} {L : List (Int × Int × Mx)} {n : Int} {x : NdR} (h : l[n.toNat]? = some x) : pOf (stOf l L) n = x.p := by
  unfold pOf stOf; rw [List.getD_eq_getElem?_getD, List.getElem?_map, h]; rfl
theorem pn_at {l : List NdR} {A : Option Addr} {m c : Nat} {n : Int} {x : NdR} (hn : Rf.Node n) (h : l[n.toNat]? = some x) : (sic l A m c)[0 + n.toNat * 1]? = some (.pointer (some ⟨x.b, 0, none⟩)) := by
  unfold Rf.Node at hn
  have e : (sic l A m c)[0 + n.toNat * 1]? = some (pn l n.toNat) := by rcases hn with rfl | rfl | rfl <;> rfl
  rw [e]; unfold pn; rw [h]; rfl
theorem sic_set {l : List NdR} {A : Option Addr} {m c n : Nat} {x y : NdR} (h : l[n]? = some x) (hb : y.b = x.b) : sic (l.set n y) A m c = sic l A m c := by
  have e : ∀ i, pn (l.set n y) i = pn l i := fun i => by
    unfold pn
    by_cases hi : n = i
    · subst hi
      rw [List.getElem?_set_self (List.getElem?_eq_some_iff.1 h).1, h]; show Value.pointer (some ⟨y.b, 0, none⟩) = Value.pointer (some ⟨x.b, 0, none⟩); rw [hb]
    · rw [List.getElem?_set_ne hi]
  unfold sic; rw [e, e, e]

theorem SOk.ex {W0 : World} {k k2 : HP} {B : Nat} {l : List NdR} {L : List (Int × Int × Mx)} (h : SOk W0 k B l L) (e : Ex W0 k k2) : SOk W0 k2 B l L :=
  ⟨h.len, fun x hx => (h.pb x hx).ex e, h.lim, h.mm, h.way, fun f hf => ⟨(h.fl f hf).1, (h.fl f hf).2.1.ex e, (h.fl f hf).2.2⟩⟩
theorem SOk.node {W0 : World} {k k2 : HP} {B : Nat} {l : List NdR} {L L2 : List (Int × Int × Mx)} (h : SOk W0 k B l L) (e : Ex W0 k k2) {n : Nat} {y : NdR} (h1 : PB W0 k2 y.p y.A y.c) (h2 : Lim (B + 1) y.p) (h3 : y.p.role = 1 → y.M ≠ none) (hw : L2.length ≤ 200) (hf : ∀ f ∈ L2, f ∈ L ∨ (Rf.Node f.2.1 ∧ RdM W0 k2 f.2.2 ∧ f.2.2.m.es.length ≤ 8)) : SOk W0 k2 (B + 1) (l.set n y) L2 := by
  refine ⟨by rw [List.length_set]; exact h.len, fun x hx => ?_, fun x hx => ?_, fun x hx => ?_, hw, fun f hf' => ?_⟩
  · rcases List.mem_or_eq_of_mem_set hx with h' | rfl
    · exact (h.pb x h').ex e
    · exact h1
  · rcases List.mem_or_eq_of_mem_set hx with h' | rfl
    · exact (h.lim x h').mono (by omega)
    · exact h2
  · rcases List.mem_or_eq_of_mem_set hx with h' | rfl
    · exact h.mm x h'
    · exact h3
  · rcases hf f hf' with h' | h'
    · exact ⟨(h.fl f h').1, (h.fl f h').2.1.ex e, (h.fl f h').2.2⟩
    · exact h'
theorem SOk.mono {W0 : World} {k : HP} {B : Nat} {l : List NdR} {L L2 : List (Int × Int × Mx)} (h : SOk W0 k B l L) (hw : L2.length ≤ 200) (hf : ∀ f ∈ L2, f ∈ L) : SOk W0 k (B + 1) l L2 :=
  ⟨h.len, h.pb, fun x hx => (h.lim x hx).mono (by omega), h.mm, hw, fun f hf' => h.fl f (hf f hf')⟩
/-- Whoever a mail of 'putW' goes to is a node. -/
theorem putW_to {frm : Int} : ∀ (l : List Sd) (way : List Fl), (∀ f ∈ way, Rf.Node f.2.1) → ∀ f ∈ putW way frm l, Rf.Node f.2.1
  | [], way, h, f, hf => h f hf
  | y :: l, way, h, f, hf => by
    refine putW_to l _ ?_ f hf
    split
    · rename_i hc
      intro g hg
      rcases List.mem_append.1 hg with h1 | h1
      · exact h g h1
      · rw [List.mem_singleton.1 h1]; show Rf.Node y.1; unfold Rf.Node; omega
    · exact h
/-- The mails on their way behind a 'put'. -/
theorem way_ok {W0 : World} {k k2 : HP} {B : Nat} {l : List NdR} {L L1 L2 : List (Int × Int × Mx)} {S : List (Int × Mx)} {frm : Int} (h : SOk W0 k B l L) (h1 : ∀ f ∈ L1, f ∈ L) (hS : ∀ s ∈ S, RdM W0 k2 s.2) (h8 : All8 (S.map sv)) (hpw : L2.map fv = putW (L1.map fv) frm (S.map sv)) (hin : ∀ f ∈ L2, f ∈ L1 ∨ ∃ s ∈ S, f.2.2 = s.2) :
    ∀ f ∈ L2, f ∈ L ∨ (Rf.Node f.2.1 ∧ RdM W0 k2 f.2.2 ∧ f.2.2.m.es.length ≤ 8) := fun f hf => by
  rcases hin f hf with h2 | ⟨s, hs, e⟩
  · exact .inl (h1 f h2)
  · refine .inr ⟨?_, by rw [e]; exact hS s hs, by rw [e]; exact h8 (sv s) (List.mem_map.2 ⟨s, hs, rfl⟩)⟩
    have hm : fv f ∈ putW (L1.map fv) frm (S.map sv) := by rw [← hpw]; exact List.mem_map.2 ⟨f, hf, rfl⟩
    exact putW_to _ _ (fun g hg => by obtain ⟨g', hg', rfl⟩ := List.mem_map.1 hg; exact (h.fl g' (h1 g' hg')).1) _ hm
end Go.Proofs.Ytlogcldbflemfaa

/- A map's keys, sorted: functions 39, 38. -/
import Derived.Shelf.SlIter.Nil
import Derived.Shelf.SortM.Plain
import Derived.Shelf.SortM.SortNone
import Derived.Test.YtcmdmhmgffjknaaGreatDoorKeys
import Derived.Test.YtcmdmhmgffjknaaGreatDoorWal8
namespace Go.Sx
open Go.RowKit
set_option linter.unusedVariables false
/-- A row of a call's own, all else as it was. -/
theorem Own.of_row {w w' : World} {E sz n : Nat} {v : Value} {xs : List Value} (hb : Below w.heap.size w w') (ho : w'.ownsRow w.heap.size E sz v n xs) : ∃ A c, v = .slice A n c ∧ Own w w' [sl A n c E sz xs] := by
  obtain ⟨hl, ⟨rfl, rfl⟩ | ⟨g, cap, cur, rfl, h1, h2, h3, h4, h5, h6⟩⟩ := ho
  · have hx : xs = [] := List.eq_nil_of_length_eq_zero (by simpa using hl)
    subst hx
    exact ⟨none, 0, rfl, ((Own.start w).of_below hb).nil E sz⟩
  · refine ⟨some ⟨g, 0, none⟩, cap, rfl, Own.sl_shut (cur := cur.toList) ?_ h3 h4 (by simpa using h5) h6⟩
    refine ⟨hb.os, hb.tape, hb.output, hb.size, fun k hk => hb.block k hk, fun k => if k = g then some (.cells cur E (0, 0)) else none, ⟨fun k => if k = g then some (.cells cur E (0, 0)) else none, fun _ => none, ?_, fun _ => rfl, fun k => .inr rfl, fun k => by simp⟩, fun k o e => ?_⟩
    · unfold blk ob; intro k; simp
    · by_cases hk : k = g
      · subst hk; simp at e; subst e; exact ⟨h1, h2⟩
      · simp [hk] at e
end Go.Sx
namespace Go.Proofs.YtcmdmhmgffjknaaGreatDoor
open Go.Sx Go.RowKit Go.Maps Go.Sort
set_option linter.unusedVariables false

theorem sortsA (m : Nat) : AnyZ.SortsIn Tryz.prog Tryz.sortedA_ren Fence.wide m :=
  ⟨fun blk off cap ss W hH hblk hsz => callsIn_wide.2 (AnyM.slices_Sort_string Tryz.laysSlM6_f70 blk off cap ss W hH hblk hsz),
   fun p cap W => callsIn_wide.2 (AnyM.slices_Sort_string_none Tryz.laysSlM6_f70 p cap W)⟩
theorem keys_tr {W0 : World} (mb : Nat) (Fr : List HP) : Tr W0 Tryz.prog 39 [.map (some mb)] Fr (fun v Rs' => ∃ bx, v = .func (.func 71) #[] #[.pointer (some ⟨bx, 0, none⟩)] ∧ Rs' = blk bx 72 [.map (some mb)] :: Fr) := by
  refine Entry.tr (N := 4) (rs := [.tmp 2]) ⟨_, Tryz.func39, rfl, by kernel_rfl, rfl, rfl⟩ rfl ?_
  refine XC.seq fun K1 hK1 => ?_
  refine XC.region ?_
  refine x_a (r_bx rfl rfl) rfl fun b1 => ?_
  refine x_v (r_as rfl) rfl ?_
  refine XL.nil ?_
  refine hK1 _ _ ?_
  refine XC.keep [(1, _)] ⟨rfl, trivial⟩ ?_
  refine XC.seq fun K2 hK2 => ?_
  refine XC.region ?_
  refine x_v (r_mfv (cs := [_]) ⟨rfl, rfl⟩) rfl ?_
  refine x_v (r_as rfl) rfl ?_
  refine XL.nil ?_
  refine hK2 _ _ ?_
  refine XC.keep [(2, _)] ⟨rfl, trivial⟩ ?_
  refine XC.ret ?_
  exact fin1 rfl (⟨_, rfl, rfl⟩) gS
theorem enc_cells : ∀ N : List (List UInt8), N.map encStr = cells sv N
  | [] => rfl
  | a :: N => by rw [List.map_cons, cells_cons, enc_cells N]; rfl
theorem sorted_th : ∃ fn c, Tryz.prog.funcs[38]? = some fn ∧ (fn.name == "runtime.NumGoroutine") = false ∧ fn.body = some c := ⟨_, _, Tryz.func38, by kernel_rfl, rfl⟩
def constR : Value → Option (DataW Nat × List MemPlace) := fun _ => some (.nil, [])
theorem sorted_tr {W0 : World} (bx mb : Nat) (f : Value → Option Value) (N : List (List UInt8)) (Fr : List HP) (hf : ∀ k, (f k).isSome = true ↔ ∃ n ∈ N, k = str n) (hs : N.Pairwise (· < ·)) (hl : ∀ n ∈ N, n.length ≤ maxLen) (hn : N.length ≤ 1000000000) :
    Tr W0 Tryz.prog 38 [.func (.func 71) #[] #[.pointer (some ⟨bx, 0, none⟩)]] (blk bx 72 [.map (some mb)] :: mpf mb .string f :: Fr) (fun v Rs' => ∃ A c, v = .slice A N.length c ∧ Rs' = sl A N.length c 9 1 (cells sv N) :: blk bx 72 [.map (some mb)] :: mpf mb .string f :: Fr) := by
  refine ⟨sorted_th, fun w hw => ?_⟩
  have hbx := hw.cells
  obtain ⟨es, clock, m, hmo⟩ := (hw.perm (.swap _ _ _)).mpf_open
  have hmb := hmo.head.2
  have hnd : N.Nodup := hs.imp (fun h e => by subst e; exact absurd h (List.lt_irrefl _))
  have hkeys : ∀ x ∈ es.toList, ∃ n ∈ N, x.key = str n := fun x hx => (hf x.key).1 (by rw [(m.is x.key x.val).2 ⟨x, hx, rfl, rfl⟩]; rfl)
  have hperm : (es.toList.map (·.key)).Perm (N.map str) := by
    refine (List.perm_ext_iff_of_nodup m.stamped.2.2 (List.pairwise_map.2 (hnd.imp fun h e => h (by simpa [str] using e)))).2 fun k => ?_
    rw [List.mem_map, List.mem_map]
    constructor
    · rintro ⟨x, hx, rfl⟩; obtain ⟨n, h1, h2⟩ := hkeys x hx; exact ⟨n, h1, h2.symm⟩
    · rintro ⟨n, h1, rfl⟩
      have h2 := (hf (str n)).2 ⟨n, h1, rfl⟩
      obtain ⟨v, hv⟩ := Option.isSome_iff_exists.1 h2
      obtain ⟨x, hx, h3, _⟩ := (m.is _ _).1 hv
      exact ⟨x, hx, h3⟩
  have hsz : es.size = N.length := by have := hperm.length_eq; simpa using this
  have hmax : maxLen = 9223372036854775807 := rfl
  have hrd : ∀ x ∈ es.toList, ∀ n, x.key = str n → n ∈ N → WideElems.rd Tryz.prog 9 constR x = some (.string n, .nil) := fun x hx n hk hnN => by
    unfold WideElems.rd
    have h1 : keyOf Tryz.prog 9 (str n) = some (.string n) := WideMaps.keyOf_string_mk Tryz.underlying9 (s := ⟨n.toArray⟩) (by rw [str_size]; exact hl n hnN)
    rw [hk, h1]
    rfl
  have F : WideElems.Fit Tryz.prog 9 constR es clock := ⟨by omega, m.stamped, fun x hx => by obtain ⟨n, h1, h2⟩ := hkeys x hx; exact ⟨_, hrd x hx n h2 h1⟩⟩
  have hown : w.ownsMap Tryz.prog 9 constR mb es.size (.map ((es.toList.map (WideElems.rg Tryz.prog 9 constR)).foldr DataW.insert [])) := ⟨es, clock, hmb, F, Nat.le_refl _, rfl⟩
  have hsize : Maps.size (.map ((es.toList.map (WideElems.rg Tryz.prog 9 constR)).foldr DataW.insert []) : DataW Nat) = N.length := by
    rw [Maps.size_eq, length_sorted, List.length_map, Array.length_toList, hsz]
  have hks : (strKeys (.map ((es.toList.map (WideElems.rg Tryz.prog 9 constR)).foldr DataW.insert []) : DataW Nat)).Perm N := by
    show (((es.toList.map (WideElems.rg Tryz.prog 9 constR)).foldr DataW.insert []).map fun p => strOf p.1).Perm N
    refine ((WideShapes.sorted_perm _).map _).trans ?_
    have h2 : ((es.toList.map (WideElems.rg Tryz.prog 9 constR)).map fun p => strOf p.1).map str = es.toList.map (·.key) := by
      rw [List.map_map, List.map_map]
      refine List.map_congr_left fun x hx => ?_
      obtain ⟨n, h1, h2⟩ := hkeys x hx
      have := hrd x hx n h2 h1
      have h4 : WideElems.rg Tryz.prog 9 constR x = (.string n, .nil) := WideElems.rg_of this
      show str (strOf (WideElems.rg Tryz.prog 9 constR x).1) = x.key
      rw [h4, h2]; rfl
    have h3 : (((es.toList.map (WideElems.rg Tryz.prog 9 constR)).map fun p => strOf p.1).map str).Perm (N.map str) := by rw [h2]; exact hperm
    refine (List.perm_ext_iff_of_nodup ?_ hnd).2 fun a => ?_
    · have h4 : (((es.toList.map (WideElems.rg Tryz.prog 9 constR)).map fun p => strOf p.1).map str).Nodup := by rw [h2]; exact m.stamped.2.2
      exact List.Pairwise.imp (fun h e => h (by rw [e])) (List.pairwise_map.1 h4)
    · have h5 := h3.mem_iff (a := str a)
      rw [List.mem_map, List.mem_map] at h5
      constructor
      · intro h; obtain ⟨b, hb, he⟩ := h5.1 ⟨a, h, rfl⟩; have : b = a := by simpa [str] using he
        subst this; exact hb
      · intro h; obtain ⟨b, hb, he⟩ := h5.2 ⟨a, h, rfl⟩; have : b = a := by simpa [str] using he
        subst this; exact hb
  have hbl : bx < w.heap.size := heap_set_lt hbx
  have hseq : SeqGives Fence.wide 2 Tryz.prog 71 #[.pointer (some ⟨bx, 0, none⟩)] encStr (fun ss => ss.Perm (strKeys (.map ((es.toList.map (WideElems.rg Tryz.prog 9 constR)).foldr DataW.insert []) : DataW Nat))) (Maps.size (.map ((es.toList.map (WideElems.rg Tryz.prog 9 constR)).foldr DataW.insert []) : DataW Nat)) w :=
    AnyZ.keys_gives (ρ := Tryz.keysA_ren) { Tryz.keysA with } Fence.wide _ trivial rfl (by omega) bx mb es.size _ _ hbl (by simp [World.cell?, hbx]) hown
  have cS := AnyZ.sorted_in Tryz.sortedA Fence.wide 5 trivial trivial trivial trivial rfl (by omega) (sortsA _) (enters_of Tryz.func70 (by kernel_rfl) rfl) 71 #[.pointer (some ⟨bx, 0, none⟩)] trivial (enters_of Tryz.func71 (by kernel_rfl) rfl) _ _ (by rw [hsize]; omega) (by rw [hsize]; omega) _ hseq
  change CallsIn _ _ Tryz.prog 38 _ _ _ at cS
  refine (callsIn_wide.1 cS).mono ?_
  rintro e w' ⟨v, ss, rfl, hS, hrow, hnil, hb⟩
  have hsN : ss.Perm N := hS.trans hks
  have hss : ss.mergeSort (fun x y => decide (x ≤ y)) = N := by
    have h1 := mergeSort_of_perm hsN
    rw [show ss.mergeSort (fun x y => decide (x ≤ y)) = ss.mergeSort leB from rfl, h1]
    exact List.mergeSort_of_pairwise (hs.imp fun h => by simp only [leB, decide_eq_true_eq]; exact List.le_of_lt h)
  rw [hss, hsN.length_eq] at hrow
  have hc : N.map encStr = cells sv N := by
    exact enc_cells N
  rw [hc] at hrow
  obtain ⟨A, c, rfl, ho⟩ := Own.of_row hb hrow
  exact ⟨_, _, ⟨A, c, rfl, rfl⟩, rfl, hw.frame ho⟩
end Go.Proofs.YtcmdmhmgffjknaaGreatDoor

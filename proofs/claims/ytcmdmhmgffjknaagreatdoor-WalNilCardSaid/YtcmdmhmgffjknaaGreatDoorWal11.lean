/- A drive in memory; what is done with it, as plain functions. -/
import Derived.Test.YtcmdmhmgffjknaaGreatDoorWal9
import Derived.Test.YtcmdmhmgffjknaaGreatDoorWal10
namespace Go.Sx
set_option linter.unusedVariables false
theorem Own.exp {W0 w : World} {Rs : List HP} {α : Type} {p : α → Prop} {R : α → HP} (H : Own W0 w ((fun h => ∃ a, p a ∧ R a h) :: Rs)) : ∃ a, p a ∧ Own W0 w (R a :: Rs) := by
  obtain ⟨h, ⟨h1, h2, ⟨a, q, r⟩, s, d, u⟩, k⟩ := H.own
  exact ⟨a, q, H.os, H.tape, H.output, H.size, H.old, h, ⟨h1, h2, r, s, d, u⟩, k⟩
/-- Memory opened ahead of a call. -/
theorem Tr.opn {W0 : World} {P : Program} {f : FuncId} {args : List Value} {Rs : List HP} {Post : Value → List HP → Prop} {ι : Type} {p : ι → Prop} (R1 : ι → List HP) (hth : ∃ fn c, P.funcs[f]? = some fn ∧ (fn.name == "runtime.NumGoroutine") = false ∧ fn.body = some c)
    (h : ∀ w, Own W0 w Rs → ∃ i, p i ∧ Own W0 w (R1 i)) (k : ∀ i, p i → Tr W0 P f args (R1 i) Post) : Tr W0 P f args Rs Post :=
  ⟨hth, fun w hw => let ⟨i, hp, ho⟩ := h w hw; (k i hp).calls w ho⟩
/-- .. and shut behind it. -/
theorem Tr.out {W0 : World} {P : Program} {f : FuncId} {args : List Value} {Rs : List HP} {Post Post' : Value → List HP → Prop} (h : Tr W0 P f args Rs Post)
    (k : ∀ v Rs' w, Post v Rs' → Own W0 w Rs' → ∃ R2, Post' v R2 ∧ Own W0 w R2) : Tr W0 P f args Rs Post' :=
  ⟨h.there, fun w hw => (h.calls w hw).mono fun e w' ⟨v, Rs', p, he, o⟩ => let ⟨R2, p2, o2⟩ := k v Rs' w' p o; ⟨v, R2, p2, he, o2⟩⟩
end Go.Sx
namespace Go.Proofs.YtcmdmhmgffjknaaGreatDoor
open Go.Sx
set_option linter.unusedVariables false

structure Fi where
  bytes : List UInt8
  sure : Nat
  old : Bool
structure Dk where
  files : List (List UInt8 × Fi)
  fuse : Int
  off : Bool
  steps : Nat
abbrev En := List UInt8 × Nat × Fi
def fcells (A : Option Addr) (c : Nat) (x : Fi) : List Value := [.slice A x.bytes.length c, .int .i64 (x.sure : Int), .bool x.old]
def fil (b : Nat) (x : Fi) : HP := fun h => ∃ q : Option Addr × Nat, sep (blk b 84 (fcells q.1 q.2 x)) (sl q.1 x.bytes.length q.2 5 1 (bv x.bytes)) h
def filesM : List En → HP
  | [] => emp
  | t :: T => sep (fil t.2.1 t.2.2) (filesM T)
def FiOk (t : List UInt8 × Fi) : Prop := t.2.sure ≤ t.2.bytes.length ∧ t.2.bytes.length ≤ 1048576 ∧ fineB t.1 = true
structure DkOk (D : Dk) : Prop where
  srt : D.files.Pairwise (fun a b => a.1 < b.1)
  fi : ∀ t ∈ D.files, FiOk t
  fuse : -1 ≤ D.fuse ∧ D.fuse < 9223372036854775808
structure DIs (D : Dk) (f : Value → Option Value) (T : List En) : Prop where
  files : T.map (fun t => (t.1, t.2.2)) = D.files
  tab : ∀ k v, f k = some v ↔ ∃ t ∈ T, k = str t.1 ∧ v = .pointer (some ⟨t.2.1, 0, none⟩)
  ok : DkOk D
def dcells (mb : Nat) (D : Dk) : List Value := [.map (some mb), .int .i64 D.fuse, .bool D.off, .int .i64 (D.steps : Int)]
def dsk (d : Nat) (D : Dk) : HP := fun h => ∃ q : Nat × (Value → Option Value) × List En, DIs D q.2.1 q.2.2 ∧ sep (blk d 74 (dcells q.1 D)) (sep (mpf q.1 .string q.2.1) (filesM q.2.2)) h

theorem dsk_open {W0 w : World} {d : Nat} {D : Dk} {Rs : List HP} (H : Own W0 w (dsk d D :: Rs)) : ∃ q : Nat × (Value → Option Value) × List En, DIs D q.2.1 q.2.2 ∧ Own W0 w (blk d 74 (dcells q.1 D) :: mpf q.1 .string q.2.1 :: filesM q.2.2 :: Rs) := by
  obtain ⟨q, h1, h2⟩ := H.exp
  exact ⟨q, h1, (h2.unstash.perm (.swap _ _ _)).unstash.perm ((List.perm_append_comm (l₁ := [_, _]) (l₂ := [_])).append_right Rs)⟩
theorem dsk_shut {W0 w : World} {d mb : Nat} {f : Value → Option Value} {T : List En} {D : Dk} {Rs : List HP} (h : DIs D f T) (H : Own W0 w (blk d 74 (dcells mb D) :: mpf mb .string f :: filesM T :: Rs)) : Own W0 w (dsk d D :: Rs) := by
  have h1 := (H.perm ((List.perm_append_comm (l₁ := [_]) (l₂ := [_, _])).append_right Rs)).stash
  have h2 := (h1.perm (.swap _ _ _)).stash
  exact h2.imp fun g r => ⟨(mb, f, T), h, r⟩
theorem files_out {t : En} {T2 : List En} : ∀ (T1 : List En) (h : Heap), filesM (T1 ++ t :: T2) h → sep (fil t.2.1 t.2.2) (filesM (T1 ++ T2)) h
  | [], h, x => x
  | s :: T1, h, x => sep_swap (sep_mono (fun _ y => y) (files_out T1) x)
theorem files_in {t : En} {T2 : List En} : ∀ (T1 : List En) (h : Heap), sep (fil t.2.1 t.2.2) (filesM (T1 ++ T2)) h → filesM (T1 ++ t :: T2) h
  | [], h, x => x
  | s :: T1, h, x => sep_mono (fun _ y => y) (files_in T1) (sep_swap x)
theorem file_open {W0 w : World} {t : En} {T1 T2 : List En} {Rs : List HP} (H : Own W0 w (filesM (T1 ++ t :: T2) :: Rs)) : ∃ q : Option Addr × Nat, True ∧ Own W0 w (blk t.2.1 84 (fcells q.1 q.2 t.2.2) :: sl q.1 t.2.2.bytes.length q.2 5 1 (bv t.2.2.bytes) :: filesM (T1 ++ T2) :: Rs) := by
  have h1 := (H.imp (files_out T1)).unstash
  obtain ⟨q, h2⟩ := h1.exi
  exact ⟨q, trivial, h2.unstash⟩
theorem file_shut {W0 w : World} {n : List UInt8} {b : Nat} {x : Fi} {A : Option Addr} {c : Nat} {T1 T2 : List En} {Rs : List HP} (H : Own W0 w (blk b 84 (fcells A c x) :: sl A x.bytes.length c 5 1 (bv x.bytes) :: filesM (T1 ++ T2) :: Rs)) : Own W0 w (filesM (T1 ++ (n, b, x) :: T2) :: Rs) := by
  have h1 : Own W0 w (fil b x :: filesM (T1 ++ T2) :: Rs) := H.stash.imp fun g r => ⟨(A, c), r⟩
  exact h1.stash.imp (files_in (t := (n, b, x)) T1)

/-! what is done with a drive -/
def getF : List (List UInt8 × Fi) → List UInt8 → Option Fi
  | [], _ => none
  | (m, y) :: r, n => if m = n then some y else getF r n
def setF : List (List UInt8 × Fi) → List UInt8 → Fi → List (List UInt8 × Fi)
  | [], n, x => [(n, x)]
  | (m, y) :: r, n, x => if m = n then (n, x) :: r else if n < m then (n, x) :: (m, y) :: r else (m, y) :: setF r n x
def delF (L : List (List UInt8 × Fi)) (n : List UInt8) : List (List UInt8 × Fi) := L.filter (fun t => decide (t.1 ≠ n))
theorem getF_split : ∀ (L : List (List UInt8 × Fi)) (n : List UInt8), (getF L n = none ∧ ∀ t ∈ L, t.1 ≠ n) ∨ ∃ L1 x L2, L = L1 ++ (n, x) :: L2 ∧ getF L n = some x ∧ ∀ t ∈ L1, t.1 ≠ n
  | [], n => .inl ⟨rfl, by simp⟩
  | (m, y) :: r, n => by
    by_cases h : m = n
    · subst h; exact .inr ⟨[], y, r, rfl, by simp [getF], by simp⟩
    · rcases getF_split r n with ⟨h1, h2⟩ | ⟨L1, x, L2, rfl, h1, h2⟩
      · exact .inl ⟨by simp [getF, h, h1], by simpa [h] using h2⟩
      · exact .inr ⟨(m, y) :: L1, x, L2, rfl, by simp [getF, h, h1], by simpa [h] using h2⟩
theorem setF_at {L1 L2 : List (List UInt8 × Fi)} {n : List UInt8} {x x' : Fi} : (L1 ++ (n, x) :: L2).Pairwise (fun a b => a.1 < b.1) → setF (L1 ++ (n, x) :: L2) n x' = L1 ++ (n, x') :: L2 := by
  induction L1 with
  | nil => intro _; simp [setF]
  | cons t L1 ih =>
    intro hs
    obtain ⟨m, y⟩ := t
    rw [List.cons_append, List.pairwise_cons] at hs
    have hmn : m < n := hs.1 (n, x) (by simp)
    have h1 : ¬ m = n := fun h => by subst h; exact List.lt_irrefl _ hmn
    have h2 : ¬ n < m := fun h => List.lt_irrefl _ (List.lt_trans h hmn)
    simp only [List.cons_append, setF, h1, h2, if_false, ih hs.2]
theorem setF_new : ∀ (L : List (List UInt8 × Fi)) (n : List UInt8) (x : Fi), (∀ t ∈ L, t.1 ≠ n) → L.Pairwise (fun a b => a.1 < b.1) → ∃ L1 L2, L = L1 ++ L2 ∧ setF L n x = L1 ++ (n, x) :: L2 ∧ (∀ t ∈ L1, t.1 < n) ∧ ∀ t ∈ L2, n < t.1
  | [], n, x, _, _ => ⟨[], [], rfl, rfl, by simp, by simp⟩
  | (m, y) :: r, n, x, h, hs => by
    have h1 : ¬ m = n := h (m, y) (by simp)
    rw [List.pairwise_cons] at hs
    by_cases h2 : n < m
    · refine ⟨[], (m, y) :: r, rfl, by simp [setF, h1, h2], by simp, fun t ht => ?_⟩
      rcases List.mem_cons.1 ht with rfl | ht
      · exact h2
      · exact List.lt_trans h2 (hs.1 t ht)
    · obtain ⟨L1, L2, rfl, e, h3, h4⟩ := setF_new r n x (fun t ht => h t (by simp [ht])) hs.2
      refine ⟨(m, y) :: L1, L2, rfl, by simp [setF, h1, h2, e], fun t ht => ?_, h4⟩
      rcases List.mem_cons.1 ht with rfl | ht
      · rcases List.le_iff_lt_or_eq.1 (List.not_lt.1 h2) with h5 | h5
        · exact h5
        · exact absurd h5 h1
      · exact h3 t ht
theorem delF_at {L1 L2 : List (List UInt8 × Fi)} {n : List UInt8} {x : Fi} (hs : (L1 ++ (n, x) :: L2).Pairwise (fun a b => a.1 < b.1)) : delF (L1 ++ (n, x) :: L2) n = L1 ++ L2 := by
  rw [List.pairwise_append, List.pairwise_cons] at hs
  obtain ⟨h1, ⟨h2, h3⟩, h4⟩ := hs
  unfold delF
  rw [List.filter_append, List.filter_cons]
  simp only [ne_eq, not_true_eq_false, decide_false, Bool.false_eq_true, if_false]
  rw [List.filter_eq_self.2 fun t ht => ?_, List.filter_eq_self.2 fun t ht => ?_]
  · have := h2 t ht
    simp only [decide_eq_true_eq]
    intro e; rw [e] at this; exact List.lt_irrefl _ this
  · have := h4 t ht (n, x) (by simp)
    simp only [decide_eq_true_eq]
    intro e; rw [e] at this; exact List.lt_irrefl _ this
def readyE (D : Dk) (n : List UInt8) : Int := if fineB n = false then 1 else if D.off = true then 50 else 0
def readD (D : Dk) (n : List UInt8) : List UInt8 × Bool := if D.off = true then ([], false) else match getF D.files n with | none => ([], false) | some x => (x.bytes, true)
def stepD (D : Dk) : Dk := { D with fuse := max (D.fuse - 1) (-1), steps := D.steps + 1 }
def knownD (D : Dk) (n : List UInt8) (k : Fi → Dk → Dk) : Int × Dk :=
  if readyE D n ≠ 0 then (readyE D n, D) else match getF D.files n with
    | none => (51, D)
    | some x => if D.fuse = 0 then (50, { D with off := true }) else (0, k x (stepD D))
def syncD (D : Dk) (n : List UInt8) : Int × Dk := knownD D n fun x D => { D with files := setF D.files n ⟨x.bytes, x.bytes.length, true⟩ }
def removeD (D : Dk) (n : List UInt8) : Int × Dk := knownD D n fun x D => { D with files := delF D.files n }
def appendD (D : Dk) (n s : List UInt8) : Int × Dk :=
  if readyE D n ≠ 0 then (readyE D n, D) else
    let x := (getF D.files n).getD ⟨[], 0, false⟩
    if 1048576 < s.length + x.bytes.length then (52, D) else if D.fuse = 0 then (50, { D with off := true }) else (0, { stepD D with files := setF D.files n { x with bytes := x.bytes ++ s } })
def namesD (D : Dk) (p : List UInt8) : List (List UInt8) := if D.off = true then [] else (D.files.map (·.1)).filter (fun n => Lib.hasPrefix n p)
def fuseD (D : Dk) (n : Int) : Dk := { D with fuse := max n (-1) }
def emptyD : Dk := ⟨[], -1, false, 0⟩
def cutF (x : Fi) (keep : Int) : Fi := ⟨x.bytes.take (x.sure + (min (max keep 0) ((x.bytes.length - x.sure : Nat) : Int)).toNat), x.sure + (min (max keep 0) ((x.bytes.length - x.sure : Nat) : Int)).toNat, x.old || decide (0 < min (max keep 0) ((x.bytes.length - x.sure : Nat) : Int))⟩
def crashL : List (List UInt8 × Fi) → List Int → List (List UInt8 × Fi)
  | [], _ => []
  | (n, x) :: r, ks => if x.sure < x.bytes.length then (if (cutF x (ks.headD 0)).old = true then (n, cutF x (ks.headD 0)) :: crashL r ks.tail else crashL r ks.tail) else (if x.old = true then (n, x) :: crashL r ks else crashL r ks)
def crashD (D : Dk) (ks : List Int) : Dk := ⟨crashL D.files ks, -1, false, D.steps⟩
/-- A file that is there, or is none. -/
theorem DIs.at {D : Dk} {f : Value → Option Value} {T : List En} (h : DIs D f T) (n : List UInt8) : (getF D.files n = none ∧ f (str n) = none ∧ ∀ t ∈ T, t.1 ≠ n) ∨ ∃ T1 b x T2, T = T1 ++ (n, b, x) :: T2 ∧ getF D.files n = some x ∧ f (str n) = some (.pointer (some ⟨b, 0, none⟩)) := by
  rcases getF_split D.files n with ⟨h1, h2⟩ | ⟨L1, x, L2, h1, h2, h3⟩
  · have h4 : ∀ t ∈ T, t.1 ≠ n := fun t ht => h2 (t.1, t.2.2) (by rw [← h.files]; exact List.mem_map.2 ⟨t, ht, rfl⟩)
    refine .inl ⟨h1, ?_, h4⟩
    cases hf : f (str n) with
    | none => rfl
    | some v =>
      obtain ⟨t, ht, h5, _⟩ := (h.tab _ _).1 hf
      exact absurd (by simpa [str] using h5.symm) (h4 t ht)
  · have h4 := h.files
    rw [h1] at h4
    obtain ⟨T1, T2', rfl, h5, h6⟩ := List.map_eq_append_iff.1 h4
    obtain ⟨t, T2, rfl, h7, h8⟩ := List.map_eq_cons_iff.1 h6
    obtain ⟨m, b, y⟩ := t
    injection h7 with h7 h9
    dsimp only at h7 h9
    subst h7; subst h9
    exact .inr ⟨T1, b, y, T2, rfl, h2, (h.tab _ _).2 ⟨(m, b, y), by simp, rfl, rfl⟩⟩
end Go.Proofs.YtcmdmhmgffjknaaGreatDoor

/- Polls: an entry put, ticks, proposals. -/
import Derived.Test.YtlogcldbflemfaaPoll4
namespace Go.Proofs.Ytlogcldbflemfaa
open Go.Sx Go.Rf
set_option linter.unusedVariables false

/-- The votes' map. -/
def vmo : Option Nat → HP
  | none => sl none 0 0 3 1 []
  | some r => vmp r (.int .i64)
/-- A node's part behind an act, and what goes out. -/
def NP (W0 : World) (k : HP) (Fr : List HP) (b : Nat) (p : Pl) (out : List Sd) (v : Value) (Rs' : List HP) : Prop :=
  ∃ L A2 c2 A' c' M' k', v = .slice A2 L.length c2 ∧ Rs' = sl A2 L.length c2 92 18 (cells sc L) :: blk b 90 (pc p A' c' M') :: vmo M' :: k' :: Fr ∧ L.map sv = out ∧ Ex W0 k k' ∧ PB W0 k' p A' c' ∧ (∀ s ∈ L, RdM W0 k' s.2) ∧ (p.role = 1 → M' ≠ none)

theorem others_le (p : Pl) : (others p).length ≤ 3 := by unfold others; exact List.length_filter_le _ _
theorem last_in {B : Nat} {p : Pl} (hL : Lim B p) : 0 ≤ lastI p ∧ lastI p ≤ most + 8 * B := by
  have := hL.el; have := hL.b0; have := hL.a0; have := hL.a1; unfold lastI; omega

theorem put_tr {W0 : World} {Fr : List HP} {k : HP} {p : Pl} {A : Option Addr} {c : Nat} {B : Nat} (b : Nat) (M : Option Nat) (data : List UInt8) (h : PB W0 k p A c) (hL : Lim B (put p data)) (hB : B ≤ 10000000) :
    Tr W0 Try.prog 46 [.pointer (some ⟨b, 0, none⟩), str data] (blk b 90 (pc p A c M) :: k :: Fr) (SP W0 k Fr b (put p data) M (feed (put p data) (others (put p data)))) := by
  have hel := h.el; have hb0 := h.b0; have hb1 := h.b1; have hec := h.ec
  have hpl : p.es.length + 1 ≤ 80000000 := by
    have := hL.el
    have e : (put p data).es.length = p.es.length + 1 := by
      unfold put lay; dsimp only; rw [List.length_append, List.length_take, show (lastI p - p.base).toNat = p.es.length by unfold lastI; omega]; simp
    omega
  refine Entry.tr (N := 32) (rs := [.tmp 4]) ⟨_, Try.func46, rfl, by kernel_rfl, rfl, rfl⟩ rfl ?_
  refine XC.seq fun K1 hK1 => ?_
  refine XC.region ?_
  refine x_v (r_as rfl) rfl ?_
  refine XL.nil ?_
  refine hK1 _ _ ?_
  refine XC.keep [(0, _), (1, _)] ⟨rfl, rfl, trivial⟩ ?_
  refine XC.seq fun K2 hK2 => ?_
  refine XC.region ?_
  refine x_v (r_mv rfl) rfl ?_
  refine x_v (r_nc rfl) rfl ?_
  refine x_v (r_fa fo90_0 rfl) rfl ?_
  refine x_c (r_call0 (args := [_]) ⟨rfl, rfl⟩ (last_tr b M h) (by repeat (first | exact Gets.done _ | exact Gets.all _ | (apply Gets.step; focus ((repeat (first | exact Pick.head _ _ | apply Pick.tail)); done)) | apply Gets.drop))) rfl ?_
  rintro _ _ ⟨rfl, rfl⟩
  refine x_v (r_mv rfl) rfl ?_
  refine x_v (r_ex rfl rfl) rfl ?_
  refine x_v (r_ex rfl rfl) rfl ?_
  refine x_v (r_as rfl) rfl ?_
  refine x_v (r_as rfl) rfl ?_
  refine XL.nil ?_
  refine hK2 _ _ ?_
  refine XC.keep [(0, _), (1, _), (5, _)] ⟨rfl, rfl, rfl, trivial⟩ ?_
  refine XC.seq fun K3 hK3 => ?_
  refine XC.draw [blk b 90 (pc p A c M)] true [(0, false), (1, false), (2, false), (3, false), (4, false), (5, false), (6, false), (7, false), (8, false), (9, false), (10, false), (11, false), (12, true), (13, true)] (by kernel_rfl) (by kernel_rfl) ?_
  refine y_v rfl (r_mv rfl) (fun _ h => Gets.own (by repeat (first | exact Gets.done _ | exact Gets.all _ | (apply Gets.step; focus ((repeat (first | exact Pick.head _ _ | apply Pick.tail)); done)) | apply Gets.drop)) h) rfl ?_
  refine y_v rfl (r_nc rfl) (fun _ h => Gets.own (by repeat (first | exact Gets.done _ | exact Gets.all _ | (apply Gets.step; focus ((repeat (first | exact Pick.head _ _ | apply Pick.tail)); done)) | apply Gets.drop)) h) rfl ?_
  refine y_v rfl (r_fa fo90_0 rfl) (fun _ h => Gets.own (by repeat (first | exact Gets.done _ | exact Gets.all _ | (apply Gets.step; focus ((repeat (first | exact Pick.head _ _ | apply Pick.tail)); done)) | apply Gets.drop)) h) rfl ?_
  refine y_v rfl (r_mv rfl) (fun _ h => Gets.own (by repeat (first | exact Gets.done _ | exact Gets.all _ | (apply Gets.step; focus ((repeat (first | exact Pick.head _ _ | apply Pick.tail)); done)) | apply Gets.drop)) h) rfl ?_
  refine y_v rfl (r_mv rfl) (fun _ h => Gets.own (by repeat (first | exact Gets.done _ | exact Gets.all _ | (apply Gets.step; focus ((repeat (first | exact Pick.head _ _ | apply Pick.tail)); done)) | apply Gets.drop)) h) rfl ?_
  refine y_v rfl (r_nc rfl) (fun _ h => Gets.own (by repeat (first | exact Gets.done _ | exact Gets.all _ | (apply Gets.step; focus ((repeat (first | exact Pick.head _ _ | apply Pick.tail)); done)) | apply Gets.drop)) h) rfl ?_
  refine y_v rfl (r_fa fo90_0 rfl) (fun _ h => Gets.own (by repeat (first | exact Gets.done _ | exact Gets.all _ | (apply Gets.step; focus ((repeat (first | exact Pick.head _ _ | apply Pick.tail)); done)) | apply Gets.drop)) h) rfl ?_
  refine y_v rfl (r_fa fo86_0 rfl) (fun _ h => Gets.own (by repeat (first | exact Gets.done _ | exact Gets.all _ | (apply Gets.step; focus ((repeat (first | exact Pick.head _ _ | apply Pick.tail)); done)) | apply Gets.drop)) h) rfl ?_
  refine y_v rfl (r_fa fo32_0 rfl) (fun _ h => Gets.own (by repeat (first | exact Gets.done _ | exact Gets.all _ | (apply Gets.step; focus ((repeat (first | exact Pick.head _ _ | apply Pick.tail)); done)) | apply Gets.drop)) h) rfl ?_
  refine y_v rfl (r_ld ty3 rfl (by repeat (first | exact Pick.head _ _ | apply Pick.tail)) (by rfl)) (fun _ h => Gets.own (by repeat (first | exact Gets.done _ | exact Gets.all _ | (apply Gets.step; focus ((repeat (first | exact Pick.head _ _ | apply Pick.tail)); done)) | apply Gets.drop)) h) rfl ?_
  refine y_v rfl (r_mv rfl) (fun _ h => Gets.own (by repeat (first | exact Gets.done _ | exact Gets.all _ | (apply Gets.step; focus ((repeat (first | exact Pick.head _ _ | apply Pick.tail)); done)) | apply Gets.drop)) h) rfl ?_
  refine y_v rfl (r_bd (vs := [_, _]) rfl ⟨rfl, rfl, rfl⟩ (bd48_0_1 _ _)) (fun _ h => Gets.own (by repeat (first | exact Gets.done _ | exact Gets.all _ | (apply Gets.step; focus ((repeat (first | exact Pick.head _ _ | apply Pick.tail)); done)) | apply Gets.drop)) h) rfl ?_
  refine y_a rfl (r_bs (vs := [_]) rfl ⟨rfl, rfl⟩ (bs30_1_0 _ _)) (fun _ _ _ h => Gets.own (by repeat (first | exact Gets.done _ | exact Gets.all _ | (apply Gets.step; focus ((repeat (first | exact Pick.head _ _ | apply Pick.tail)); done)) | apply Gets.drop)) h) rfl fun b26 => ?_
  refine y_c rfl (r_call0 (args := [_, _, _]) ⟨rfl, rfl, rfl, rfl⟩ (lay_tr (k := k) (Fr := blk b26 48 [.int .i64 p.term, str data] :: Fr) b M (lastI p) (some ⟨b26, 0, none⟩) 1 [⟨p.term, data⟩] h (by unfold lastI; omega) (by unfold lastI; omega) (Rdb.of_blk (.tail _ (.head _ _)) 0 rfl (fun _ _ h => by rw [Nat.zero_add]; exact h)) (by simp; omega)) (by repeat (first | exact Gets.done _ | exact Gets.all _ | (apply Gets.step; focus ((repeat (first | exact Pick.head _ _ | apply Pick.tail)); done)) | apply Gets.drop))) (fun h => absurd h (by decide)) rfl ?_
  rintro _ _ ⟨rfl, A2, c2, k2, rfl, hx2, hp2⟩
  refine XH.nil ?_
  refine hK3 _ _ ?_
  refine XC.keep [(0, _)] ⟨rfl, trivial⟩ ?_
  refine XC.seq fun K4 hK4 => ?_
  refine XC.region ?_
  refine x_v (r_mv rfl) rfl ?_
  refine x_v (r_mv rfl) rfl ?_
  refine x_c (r_call0 (args := [_]) ⟨rfl, rfl⟩ (others_tr (p := put p data) (A := A2) (c := c2) b M) (by repeat (first | exact Gets.done _ | exact Gets.all _ | (apply Gets.step; focus ((repeat (first | exact Pick.head _ _ | apply Pick.tail)); done)) | apply Gets.drop))) rfl ?_
  rintro _ _ ⟨A30, c30, rfl, rfl⟩
  refine XL.slnn (A := A30) (by repeat (first | exact Pick.head _ _ | apply Pick.tail)) fun hl30 hA30 => ?_
  refine x_c (r_call0 (args := [_, _]) ⟨rfl, rfl, rfl⟩ (feed_tr (k := k2) (Fr := sl A30 (others (put p data)).length c30 3 1 (iv (others (put p data))) :: Fr) b M A30 c30 (others (put p data)) hp2 hL hB (Rdb.of_sl (.head _ _) hl30 hA30) (fun x hx => others_nd _ x hx) (others_le _)) (by repeat (first | exact Gets.done _ | exact Gets.all _ | (apply Gets.step; focus ((repeat (first | exact Pick.head _ _ | apply Pick.tail)); done)) | apply Gets.drop))) rfl ?_
  rintro _ _ ⟨L, A5, c5, A6, c6, k6, rfl, rfl, hLs, hx6, hp6, hrd⟩
  refine x_v (r_as rfl) rfl ?_
  refine XL.nil ?_
  refine hK4 _ _ ?_
  refine XC.keep [(4, _)] ⟨rfl, trivial⟩ ?_
  refine XC.ret ?_
  exact fin1 rfl (⟨L, A5, c5, A6, c6, k6, rfl, rfl, hLs, hx2.trans hx6, hp6, hrd⟩) (by repeat (first | exact Gets.done _ | exact Gets.all _ | (apply Gets.step; focus ((repeat (first | exact Pick.head _ _ | apply Pick.tail)); done)) | apply Gets.drop))
end Go.Proofs.Ytlogcldbflemfaa

/- Crowns: what is carried through the calls of a play (plain). -/
import Derived.Test.YtheilpcbilnadaaCrown34
namespace Go.Proofs.Ytheilpcbilnadaa
open Go.Sx
set_option linter.unusedVariables false

theorem LI.ex {W0 : World} {k k2 : HP} {l : Ls} {h : Lh} {gL gO : Value → Option Value} {L G : List Od} (hl : LI W0 k l h gL gO L G) (hx : Ex W0 k k2) : LI W0 k2 l h gL gO L G :=
 ⟨hl.p, hl.n, hl.o, hl.m, hl.u, hl.hd, hl.f, hl.q, hl.r, fun o ho => (hl.rd o ho).ex hx, hl.g⟩
theorem RI.ex {W0 : World} {k k2 : HP} {l : Ls} {r : Rh} {L G : List Od} (hl : RI W0 k l r L G) (hx : Ex W0 k k2) : RI W0 k2 l r L G :=
 ⟨hl.p, hl.n, hl.o, hl.f, hl.q, hl.rm, fun o ho => (hl.rd o ho).ex hx, hl.g⟩
theorem RdC.ex {W0 : World} {k k2 : HP} {c : Cm} (hc : RdC W0 k c) (hx : Ex W0 k k2) : RdC W0 k2 c :=
 ⟨hc.op.ex hx, hc.rd.ex hx, fun o ho => (hc.el o ho).ex hx, hc.ln, hc.cap⟩
theorem OkC.rdc {W0 : World} {c : Cm} (h : OkC W0 c) (hc : c.ops.length ≤ c.pc) (k : HP) : RdC W0 k c :=
 ⟨h.op.rd k, h.ops.rd [k], fun o ho => (h.ops.el o ho).rd k, by have := h.ops.len; omega, hc⟩
theorem apply_room (l : Ls) (c : Cm) : (applyL l c).room = l.room := by
 unfold applyL doL shipL reignL putL
 repeat' split
 all_goals rfl
/-- All that a play has. -/
structure St where
 cb : Nat
 c : Cw
 l : Ls
 h : Lh
 gL : Value → Option Value
 gO : Value → Option Value
 L : List Od
 G : List Od
 r : Rh
 M : List Od
 N : List Od
 k : HP
structure SI (W0 : World) (n : Nat) (s : St) : Prop where
 li : LI W0 s.k s.l s.h s.gL s.gO s.L s.G
 ri : RI W0 s.k s.l s.r s.M s.N
 ep : s.c.epochs ≤ 16
 rm : s.l.room = 64
 b1 : s.h.ln ≤ 80 * n
 b2 : s.r.gn ≤ 80 * n
def l0 : Ls := ⟨[], 0, 1000, 64⟩
theorem lp0 : LP l0 := ⟨fun i o h => by simp [l0] at h, by simp [l0]⟩
theorem li0 (W0 : World) (k : HP) (mL mO : Nat) : LI W0 k l0 (lh0 mL mO 1000 64) (fun _ => none) (fun _ => none) [] [] :=
 ⟨lp0, rfl, rfl, fm0, rfl, rfl, rfl, rfl, rfl, fun o h => (by cases h), rfl⟩
theorem ri0 (W0 : World) (k : HP) : RI W0 k l0 ⟨none, 0, 0, none, 0, 0, 0, 0, 1000, 64⟩ [] [] :=
 ⟨lp0, rfl, rfl, rfl, rfl, rfl, fun o h => (by cases h), rfl⟩
/-- What a crown is to do next, as a command. -/
def nextC (c : Cw) (f : Int) : Cm := if nextOk c f then ⟨4, c.tE, c.site, zop, 0, 0, [], none, 0, 0⟩ else ⟨0, 0, 0, zop, 0, 0, [], none, 0, 0⟩
theorem next_c (c : Cw) (f : Int) : nextOf c f = cmc (nextC c f) := by
 unfold nextOf nextC; split <;> rfl
theorem next_rd (W0 : World) (k : HP) (c : Cw) (f : Int) : RdC W0 k (nextC c f) := by
 have hz : RdO W0 k zop := ⟨Rdb.nil _ _ _, by decide⟩
 unfold nextC; split
 ·exact ⟨hz, Rdb.nil _ _ _, fun o h => (by cases h), Nat.zero_le _, Nat.zero_le _⟩
 ·exact ⟨hz, Rdb.nil _ _ _, fun o h => (by cases h), Nat.zero_le _, Nat.zero_le _⟩
theorem same11n_tr {W0 : World} {Fr : List HP} (c : Cw) (f : Int) : Tr W0 Try.prog 28 [.agg (nextOf c f).toArray, .agg (nextOf c f).toArray] Fr (fun v Rs' => v = .bool true ∧ Rs' = Fr) := by
 unfold nextOf; split
 ·exact same11_tr _ _ _
 ·exact same11_tr _ _ _
theorem take_same {c : Cw} {m m2 : Mal} (h : m2 = { m with eA := m2.eA, ec := m2.ec, hA := m2.hA, hc := m2.hc, oA := m2.oA, oc := m2.oc, ops := m2.ops, pA := m2.pA, pc := m2.pc }) (hl : m2.ops.length = m.ops.length) : (takeOk c m2 ↔ takeOk c m) ∧ takeOf c m2 = takeOf c m := by
 have h1 : takeOk c m2 ↔ takeOk c m := by
  unfold takeOk grantOk; rw [hl]; rw [h]
 refine ⟨h1, ?_⟩
 have e1 : m2.epoch = m.epoch := by rw [h]
 have e2 : m2.site = m.site := by rw [h]
 unfold takeOf
 by_cases hq : takeOk c m
 ·rw [if_pos hq, if_pos (h1.2 hq), e1, e2]
 ·rw [if_neg hq, if_neg (fun x => hq (h1.1 x))]
theorem take_ep (c : Cw) (m : Mal) : (takeOf c m).epochs = c.epochs := by
 unfold takeOf hearOf; split
 ·split <;> rfl
 ·rfl
theorem hear_ep (c : Cw) (f : Int) : (hearOf c f).epochs = c.epochs := by unfold hearOf; split <;> rfl
theorem want_ep (c : Cw) (f : Int) : (wantOf c f).1.epochs = c.epochs := by
 unfold wantOf
 split
 ·rfl
 ·split <;> rfl
end Go.Proofs.Ytheilpcbilnadaa

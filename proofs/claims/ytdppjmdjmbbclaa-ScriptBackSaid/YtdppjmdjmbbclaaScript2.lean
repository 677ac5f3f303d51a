/- Scripts: acts in memory; two lists of acts held against each other. -/
import Derived.Test.YtdppjmdjmbbclaaScript1
namespace Go.Proofs.Ytdppjmdjmbbclaa
open Go.Sx
set_option linter.unusedVariables false

structure Qs where
  kind : Int
  client : Int
  seq : Int
  name : List UInt8
  data : List UInt8
  mode : Int
  lag : Int
deriving DecidableEq
def qc (q : Qs) : List Value := [.int .i64 q.kind, .int .i64 q.client, .int .i64 q.seq, str q.name, str q.data, .int .i64 q.mode, .int .i64 q.lag]
/-- An act, and where its Keeps lie. -/
structure Ac where
  kind : Int
  node : Int
  k : Int
  draw : Int
  A : Option Addr
  n : Nat
  c : Nat
  ks : List Int
  q : Qs
/-- What an act says. -/
structure Av where
  kind : Int
  node : Int
  k : Int
  draw : Int
  ks : List Int
  q : Qs
deriving DecidableEq
def Ac.v (a : Ac) : Av := ⟨a.kind, a.node, a.k, a.draw, a.ks, a.q⟩
def ac (a : Ac) : List Value := [.int .i64 a.kind, .int .i64 a.node, .int .i64 a.k, .int .i64 a.draw, .slice a.A a.n a.c, .int .i64 a.q.kind, .int .i64 a.q.client, .int .i64 a.q.seq, str a.q.name, str a.q.data, .int .i64 a.q.mode, .int .i64 a.q.lag]
theorem ac_len (a : Ac) : (ac a).length = 12 := rfl
theorem ac_one (a : Ac) : (ac a).all (·.oneCell') = true := rfl

/-- Acts that can be read where 'Fr' is. -/
structure RdA (W0 : World) (Fr : List HP) (A : Option Addr) (L : List Ac) : Prop where
  rd : Rdb W0 Fr A L.length 12 (cells ac L)
  ks : ∀ a ∈ L, Rdb W0 Fr a.A a.n 1 (iv a.ks)
  le : L.length ≤ 140737488355328
  kl : ∀ a ∈ L, a.n ≤ 140737488355328
theorem RdA.mono {W0 : World} {Fr Rs : List HP} {A : Option Addr} {L : List Ac} (h : RdA W0 Fr A L) (s : ∀ w, Own W0 w Rs → Own W0 w Fr) : RdA W0 Rs A L :=
  ⟨h.rd.mono s, fun a ha => (h.ks a ha).mono s, h.le, h.kl⟩

theorem eq81 (a0 b0 a1 b1 a2 b2 : Int) (a3 b3 a4 b4 : List UInt8) (a5 b5 a6 b6 : Int) (w : World) : (Op.equalIn 10000 81 (.agg #[.int .i64 a0, .int .i64 a1, .int .i64 a2, str a3, str a4, .int .i64 a5, .int .i64 a6]) (.agg #[.int .i64 b0, .int .i64 b1, .int .i64 b2, str b3, str b4, .int .i64 b5, .int .i64 b6])).run Try.prog w = .ok (decide (a0 = b0 ∧ a1 = b1 ∧ a2 = b2 ∧ a3 = b3 ∧ a4 = b4 ∧ a5 = b5 ∧ a6 = b6)) w := by
  rw [run_equalIn_struct w 9999 81 _ _ (by kernel_rfl) (by kernel_rfl)]
  have hf : (Program.fieldsOf Try.prog 81).toList = (Program.fieldsOf Try.prog 81).toList := rfl
  conv at hf => rhs; unfold Program.fieldsOf; rw [Try.underlying81]
  rw [hf]
  by_cases h0 : a0 = b0
  · subst h0
    by_cases h1 : a1 = b1
    · subst h1
      by_cases h2 : a2 = b2
      · subst h2
        by_cases h3 : a3 = b3
        · subst h3
          by_cases h4 : a4 = b4
          · subst h4
            by_cases h5 : a5 = b5
            · subst h5
              by_cases h6 : a6 = b6 <;> simp [Op.eqFields, part, isAgg, run_underlying Try.underlying3, run_underlying Try.underlying9, run_equalIn_int, run_equalIn_string, ByteArray.toList_eq, h6, Try.underlying3, Try.underlying9]
            · simp [Op.eqFields, part, isAgg, run_underlying Try.underlying3, run_underlying Try.underlying9, run_equalIn_int, run_equalIn_string, ByteArray.toList_eq, h5, Try.underlying3, Try.underlying9]
          · simp [Op.eqFields, part, isAgg, run_underlying Try.underlying3, run_underlying Try.underlying9, run_equalIn_int, run_equalIn_string, ByteArray.toList_eq, h4, Try.underlying3, Try.underlying9]
        · simp [Op.eqFields, part, isAgg, run_underlying Try.underlying3, run_underlying Try.underlying9, run_equalIn_int, run_equalIn_string, ByteArray.toList_eq, h3, Try.underlying3, Try.underlying9]
      · simp [Op.eqFields, part, isAgg, run_underlying Try.underlying3, run_underlying Try.underlying9, run_equalIn_int, run_equalIn_string, ByteArray.toList_eq, h2, Try.underlying3, Try.underlying9]
    · simp [Op.eqFields, part, isAgg, run_underlying Try.underlying3, run_underlying Try.underlying9, run_equalIn_int, run_equalIn_string, ByteArray.toList_eq, h1, Try.underlying3, Try.underlying9]
  · simp [Op.eqFields, part, isAgg, run_underlying Try.underlying3, run_underlying Try.underlying9, run_equalIn_int, run_equalIn_string, ByteArray.toList_eq, h0, Try.underlying3, Try.underlying9]
end Go.Proofs.Ytdppjmdjmbbclaa

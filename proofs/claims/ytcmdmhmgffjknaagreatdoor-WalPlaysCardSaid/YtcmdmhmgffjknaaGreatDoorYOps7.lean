/- Rules: shifts by a fixed count. -/
import Derived.Test.YtcmdmhmgffjknaaGreatDoorYOps6
namespace Go.Sx
section ops
variable {C : Cx} {e : Env} {Rs : List HP}
variable {x y : Operand} {ty : TypeId} {T : TypeId} {T2 : TypeId} {kd kd2 : IntKind} {i j : Int}

theorem r_shr8 (hx : ev e x = some (.int .i64 i)) (hy : ev e y = some (.int kd2 8)) : Yld C e Rs (.binOp .shr T x y T2) ty (.int .i64 (i / 256)) :=
  r_bin hx hy (fun w => by
    have h1 : i.fdiv 256 = i / 256 := Int.fdiv_eq_ediv_of_nonneg i (by decide)
    simp [eqGuard, binOp, Op.shift, IntKind.bits, ← h1])
end ops
end Go.Sx

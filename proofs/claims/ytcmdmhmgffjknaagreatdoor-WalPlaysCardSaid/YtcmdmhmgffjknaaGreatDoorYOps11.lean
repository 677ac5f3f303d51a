/- Rules: a value turned by a run that is given; a call of the library's own; a pointer held against itself. -/
import Derived.Test.YtcmdmhmgffjknaaGreatDoorYOps10
import Derived.Lib.Builder
import Derived.Laws.Externs
namespace Go.Sx
set_option linter.unusedVariables false
section ops
variable {C : Cx} {ops : Array Oper} {l : List Oper} {κ : Kt} {e : Env} {Rs : List HP}
variable {d : Nat} {x y z : Operand} {ty : TypeId} {pos : String} {aft : Array Edge} {v u : Value} {T T2 : TypeId} {kd : IntKind} {i j : Int}
theorem r_cvw {s t : TypeId} (hx : ev e x = some u) (h : ∀ w, Own C.W0 w Rs → (convert s t u).run C.P w = .ok v w) : Yld C e Rs (.convert s t x) ty v := by
  intro a w ha hw
  have := h w hw
  simp only [execOp, ha.ev hx, Sem.run_bind, this]
  rfl
theorem r_ext {fid : FuncId} {xs : List Operand} {args : List Value} {tys : Array TypeId} {fn : Func} (E : Array Value → Sem Value) (hf : C.P.funcs[fid]? = some fn) (hname : (fn.name == "runtime.NumGoroutine") = false)
    (hb : fn.body.isNone = true) (hn : Extern.findNext fn = none) (he : Extern.find fn = some E) (hv : evs e xs args) (hr : ∀ w, (E args.toArray).run C.P w = .ok v w) : Yld C e Rs (.call { callee := .value (.func fid), args := xs.toArray, argTypes := tys }) ty v := by
  intro a w ha hw
  have h1 := evs_map ha xs args hv
  have h2 := run_callFunc_extern (P := C.P) hf hname hb hn he args.toArray w
  rw [hr w] at h2
  have hfe : a.eval (.func fid) = .func (.func fid) #[] #[] := rfl
  simp only [execOp, resolve, hfe, Deferred.ofValue, Sem.run_bind, Sem.run_pure, Result.andThen_ok, invoke, List.map_toArray, h1, Array.append_empty, Array.empty_append]
  simpa using h2
theorem r_pne_same {p : Addr} {E n by_ : Nat} {zv : Value} {ag : Bool} (hT : C.P.underlying T = some (.pointer E)) (hE : Ty C.P E n by_ zv ag) (hx : ev e x = some (.pointer (some p))) (hy : ev e y = some (.pointer (some p))) : Yld C e Rs (.binOp .neq T x y T2) ty (.bool false) := by
  obtain ⟨q, i1, _⟩ := hE.get
  exact r_nev (r := true) hx hy rfl (fun w d => by simp [Op.equalIn, run_underlying hT, sizeOf, typeInfo, i1, run_sameAddr_same])
theorem yv {op : Op} {v' : Value} (h : Yld C e Rs op ty v) (he : v = v') : Yld C e Rs op ty v' := he ▸ h
theorem r_negi (hx : ev e x = some (.int .i64 i)) (h : IntKind.i64.wrap (0 - i) = -i) : Yld C e Rs (.unOp .neg T x) ty (.int .i64 (-i)) := by
  intro a w ha _
  have e3 : (execOp a.eval ⟨none, .unOp .neg T x, ty, "", #[], none⟩) = (do let v ← Op.unary .neg (a.eval x); pure (.value v)) := rfl
  rw [e3, ha.ev hx]
  show Sem.run C.P (do let v ← Op.intArith .sub .i64 0 i; pure (Next.value v)) w = _
  simp only [Op.intArith, h]
  rfl
theorem r_xor0 (m : Nat) (hm : m < 9223372036854775808) (hx : ev e x = some (.int .i64 (m : Int))) (hy : ev e y = some (.int .i64 0)) : Yld C e Rs (.binOp .xor T x y T2) ty (.int .i64 (m : Int)) :=
  r_bin hx hy (fun w => by
    have e0 : BitVec.ofInt 64 (0 : Int) = 0#64 := by decide
    have e1 : ((BitVec.ofNat 64 m).toNat : Int) = m := by rw [BitVec.toNat_ofNat, Nat.mod_eq_of_lt (by omega)]
    have e2 : IntKind.i64.wrap (m : Int) = m := IntWalk.i64_in _ (by omega)
    show Sem.run C.P (pure (Value.int .i64 (IntKind.i64.wrap ((BitVec.ofInt 64 (m : Int) ^^^ BitVec.ofInt 64 (0 : Int)).toNat : Int)))) w = _
    rw [e0, BitVec.xor_zero, BitVec.ofInt_natCast, e1, e2]
    rfl)
theorem r_xor1 (m : Nat) (hm : m < 9223372036854775808) (hx : ev e x = some (.int .i64 (m : Int))) (hy : ev e y = some (.int .i64 (-1))) : Yld C e Rs (.binOp .xor T x y T2) ty (.int .i64 (-1 - (m : Int))) :=
  r_bin hx hy (fun w => by
    have e0 : BitVec.ofInt 64 (-1 : Int) = BitVec.allOnes 64 := by decide
    have e1 : ((~~~ (BitVec.ofNat 64 m)).toNat : Int) = 18446744073709551615 - m := by rw [BitVec.toNat_not, BitVec.toNat_ofNat, Nat.mod_eq_of_lt (by omega)]; omega
    have e2 : IntKind.i64.wrap (18446744073709551615 - (m : Int)) = -1 - m := by
      unfold IntKind.wrap; simp [IntKind.signed, IntKind.bits]; omega
    show Sem.run C.P (pure (Value.int .i64 (IntKind.i64.wrap ((BitVec.ofInt 64 (m : Int) ^^^ BitVec.ofInt 64 (-1 : Int)).toNat : Int)))) w = _
    rw [e0, BitVec.ofInt_natCast, BitVec.xor_comm, ← BitVec.not_def, e1, e2]
    rfl)
theorem shape_blk {W0 w : World} {Rs Fr : List HP} {b T : Nat} {cs : List Value} (hw : Own W0 w Rs) (hp : Pick Rs (blk b T cs) Fr) : w.shape? b = some (T, cs.length) := by
  have hb := (hw.pick hp).cells
  simp [World.shape?, hb]
/-- A number that is not below 0 has no sign. -/
theorem r_shr0 {kd2 : IntKind} (n : Nat) (hn : n < 9223372036854775808) (hx : ev e x = some (.int .i64 (n : Int))) (hy : ev e y = some (.int kd2 63)) : Yld C e Rs (.binOp .shr T x y T2) ty (.int .i64 0) :=
  r_bin hx hy (fun w => by
    have e1 : min ((63 : Int)).toNat IntKind.i64.bits = 63 := by decide
    have e2 : ((n : Int)).fdiv (2 ^ 63) = 0 := by
      rw [Int.fdiv_eq_ediv_of_nonneg _ (by decide)]; exact Int.ediv_eq_zero_of_lt (by omega) (by omega)
    have e3 : ¬ ((63 : Int) < 0) := by decide
    show Sem.run C.P (Op.shift .shr .i64 (n : Int) kd2 63) w = _
    simp only [Op.shift, if_neg e3, e1, e2]
    rfl)
end ops
/-- A result, no struct, that lies in memory. -/
theorem finv1 {P : Program} {Post : Value → List HP → Prop} {e : Env} {Rs Rs' Fr : List HP} {t T by_ b T' : Nat} {z v : Value} (hT : Ty P T 1 by_ z false) (h : look e t = some (.pointer (some ⟨b, 0, none⟩))) (hb : Pick Rs (blk b T' [v]) Fr) (hp : Post v Rs') (hg : Gets Rs Rs') : Fin P [.cell t T] Post e Rs := by
  obtain ⟨i, h1, h2, _⟩ := hT.get
  obtain ⟨D, h3, h4⟩ := hT.desc
  exact ⟨[v], ⟨⟨b, T', [v], Fr, D, h, hb, h3, by simp [h1, h2], .inr ⟨rfl, h4⟩⟩, rfl⟩, Rs', hg, hp⟩
theorem Tr.nil_ {W0 : World} {P : Program} {f : FuncId} {args : List Value} {Rs : List HP} {Post : Value → List HP → Prop} (E sz : Nat) (h : Tr W0 P f args (sl none 0 0 E sz [] :: Rs) Post) : Tr W0 P f args Rs Post := ⟨h.there, fun w hw => h.calls w (hw.nil E sz)⟩
/-- Memory told otherwise ahead of a call. -/
theorem Tr.pre {W0 : World} {P : Program} {f : FuncId} {args : List Value} {Rs Rs1 : List HP} {Post : Value → List HP → Prop} (hg : Gets Rs Rs1) (h : Tr W0 P f args Rs1 Post) : Tr W0 P f args Rs Post := ⟨h.there, fun w hw => h.calls w (hg.own hw)⟩
end Go.Sx

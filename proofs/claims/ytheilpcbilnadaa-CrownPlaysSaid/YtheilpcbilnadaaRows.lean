/-
  No cell of these rows narrows 'for every input' (looked for: loops, veiled, ifaces, maps, wideKeys, modest, calm, conditions, laid).
  DERIVED. THE GIVEN ROWS OF THIS SEAT. 3 by the template 'for every input the law returns true; each argument reads behind the call as it read before'; 0 by the template 'total and deterministic' (their statements: YtheilpcbilnadaaTotals.lean).
  GIVEN WITH THE SEED: the statements are not yours to turn. If you find one false, say at which input.
  Laid BY PROGRAM, IN A SANDBOX (cutbox-rows.mjs): the forced cells as the released guide's own fill.sh prints them over the translation 2989380e012ed9d2… (all of the seat's roots in one cut). By AI agents, Wed Nov 11 2026. No macro, syntax, notation, axiom, sorry.
-/
import Derived.Test.YtheilpcbilnadaaChecked
import GoSem.Claim
import GoSem.ClaimJoined
import GoSem.ClaimMapViews
import Derived.JoinedTies
import Derived.KernelRfl
namespace Go.Proofs.Ytheilpcbilnadaa
/- THE CELL 'sum', in the pinned program and in every row, IS THE sha256 OF THE DUMP (.gsa) THAT YtheilpcbilnadaaProg.lean LOADS. Nothing in Lean hashes anything: it is a label: what it is worth is what the hold of that sum in a sandbox is worth. -/
noncomputable def Try.pinned : Pinned := { name := "ytheilpcbilnadaa", sum := "2989380e012ed9d2db8886527d5d941813a234319b071738455218022c2f7b3c", checked := Try.checked }
namespace Rows
def none {H : Type} : Left H := { results := [], args := [] }

/-- 'redoubtlaw21.CrownRises': WHATEVER THE INPUT: true; the input reads as it did. -/
def crownRisesSpec : ChangeSpec := { name := "crownRises", fn := fun _ => fun
  | [d1, d2, d3] => { results := [.lit (.bool true)], args := [d1, d2, d3] }
  | _ => none }
def crownRisesRow : OpenClaim := { program := "ytheilpcbilnadaa", sum := "2989380e012ed9d2db8886527d5d941813a234319b071738455218022c2f7b3c", func := "redoubt/redoubtlaw21.CrownRises", spec := "crownRises", apart := false }
def CrownRisesSaid : Prop := crownRisesRow.holds Try.pinned (OpenSpec.ofChange crownRisesSpec)

/-- ITS FALSE NEIGHBOUR: 'it returns false'. Refute it at one input. -/
def crownRisesWrong : ChangeSpec := { name := "crownRises", fn := fun _ => fun
  | [d1, d2, d3] => { results := [.lit (.bool false)], args := [d1, d2, d3] }
  | _ => none }
def CrownRisesWrongFalsely : Prop := crownRisesRow.holds Try.pinned (OpenSpec.ofChange crownRisesWrong)

/-- 'redoubtlaw21.CrownPlays': WHATEVER THE INPUT: true; the input reads as it did. -/
def crownPlaysSpec : ChangeSpec := { name := "crownPlays", fn := fun _ => fun
  | [d1, d2, d3] => { results := [.lit (.bool true)], args := [d1, d2, d3] }
  | _ => none }
def crownPlaysRow : OpenClaim := { program := "ytheilpcbilnadaa", sum := "2989380e012ed9d2db8886527d5d941813a234319b071738455218022c2f7b3c", func := "redoubt/redoubtlaw21.CrownPlays", spec := "crownPlays", apart := false }
def CrownPlaysSaid : Prop := crownPlaysRow.holds Try.pinned (OpenSpec.ofChange crownPlaysSpec)

/-- ITS FALSE NEIGHBOUR: 'it returns false'. Refute it at one input. -/
def crownPlaysWrong : ChangeSpec := { name := "crownPlays", fn := fun _ => fun
  | [d1, d2, d3] => { results := [.lit (.bool false)], args := [d1, d2, d3] }
  | _ => none }
def CrownPlaysWrongFalsely : Prop := crownPlaysRow.holds Try.pinned (OpenSpec.ofChange crownPlaysWrong)

/-- 'redoubtlaw21.CrownNil': WHATEVER THE INPUT: true; the input reads as it did. -/
def crownNilSpec : ChangeSpec := { name := "crownNil", fn := fun _ => fun
  | [d] => { results := [.lit (.bool true)], args := [d] }
  | _ => none }
def crownNilRow : OpenClaim := { program := "ytheilpcbilnadaa", sum := "2989380e012ed9d2db8886527d5d941813a234319b071738455218022c2f7b3c", func := "redoubt/redoubtlaw21.CrownNil", spec := "crownNil", apart := false }
def CrownNilSaid : Prop := crownNilRow.holds Try.pinned (OpenSpec.ofChange crownNilSpec)

/-- ITS FALSE NEIGHBOUR: 'it returns false'. Refute it at one input. -/
def crownNilWrong : ChangeSpec := { name := "crownNil", fn := fun _ => fun
  | [d] => { results := [.lit (.bool false)], args := [d] }
  | _ => none }
def CrownNilWrongFalsely : Prop := crownNilRow.holds Try.pinned (OpenSpec.ofChange crownNilWrong)

/- THE SECOND FORM. 'bulk': how many values and letters a reading holds, each counted each time it is reached (what is shared counts as often as it is met; a slice's spare places count too). A statement '..UptoSaid' is the law's where the arguments, and the package variables that the reading takes, are together of bulk at most 1048576: NARROWER than '..Said'. Prove '..Said' where nothing that the law and all that it calls make is longer than what came in: it says more and counts as full. Else prove '..UptoSaid'. A law counts once. -/
mutual
def uptoBulk {H : Type} : DataW H → Nat
  | .lit (.string bytes) => bytes.length + 1
  | .lit _ => 1
  | .nil => 1
  | .ptr d => uptoBulk d + 1
  | .slice elems spare => uptoBulkAll elems + uptoBulkAll spare + 1
  | .agg parts => uptoBulkAll parts + 1
  | .iface _ d => uptoBulk d + 1
  | .map entries => uptoBulkEntries entries + 1
  | .held _ => 1
def uptoBulkAll {H : Type} : List (DataW H) → Nat
  | [] => 0
  | d :: r => uptoBulk d + uptoBulkAll r
def uptoBulkEntries {H : Type} : List (Lit × DataW H) → Nat
  | [] => 0
  | x :: r => uptoBulkEntry x + uptoBulkEntries r
def uptoBulkEntry {H : Type} : Lit × DataW H → Nat
  | (.string bytes, d) => bytes.length + uptoBulk d + 1
  | (_, d) => uptoBulk d + 1
 end
def uptoSmall : (H : Type) → List (DataW H) → Bool := fun _ ds => decide (uptoBulkAll ds ≤ 1048576)
def OpenSpec.upto (s : _root_.Go.ChangeSpec) : _root_.Go.OpenSpec := { _root_.Go.OpenSpec.ofChange s with cond := some uptoSmall }

/-- 'redoubtlaw21.CrownRises', WHERE WHAT IT READS IS OF BULK AT MOST 1048576: true; the input reads as it did. -/
def crownRisesUptoRow : OpenClaim := { program := "ytheilpcbilnadaa", sum := "2989380e012ed9d2db8886527d5d941813a234319b071738455218022c2f7b3c", func := "redoubt/redoubtlaw21.CrownRises", spec := "crownRises", apart := false, narrowed := true }
def CrownRisesUptoSaid : Prop := crownRisesUptoRow.holds Try.pinned (OpenSpec.upto crownRisesSpec)

/-- 'redoubtlaw21.CrownPlays', WHERE WHAT IT READS IS OF BULK AT MOST 1048576: true; the input reads as it did. -/
def crownPlaysUptoRow : OpenClaim := { program := "ytheilpcbilnadaa", sum := "2989380e012ed9d2db8886527d5d941813a234319b071738455218022c2f7b3c", func := "redoubt/redoubtlaw21.CrownPlays", spec := "crownPlays", apart := false, narrowed := true }
def CrownPlaysUptoSaid : Prop := crownPlaysUptoRow.holds Try.pinned (OpenSpec.upto crownPlaysSpec)

/-- 'redoubtlaw21.CrownNil', WHERE WHAT IT READS IS OF BULK AT MOST 1048576: true; the input reads as it did. -/
def crownNilUptoRow : OpenClaim := { program := "ytheilpcbilnadaa", sum := "2989380e012ed9d2db8886527d5d941813a234319b071738455218022c2f7b3c", func := "redoubt/redoubtlaw21.CrownNil", spec := "crownNil", apart := false, narrowed := true }
def CrownNilUptoSaid : Prop := crownNilUptoRow.holds Try.pinned (OpenSpec.upto crownNilSpec)

end Rows
end Go.Proofs.Ytheilpcbilnadaa

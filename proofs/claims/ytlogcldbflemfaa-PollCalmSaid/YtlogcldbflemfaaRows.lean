/-
  No cell of these rows narrows 'for every input' (looked for: loops, veiled, ifaces, maps, wideKeys, modest, calm, conditions, laid).
  DERIVED. THE GIVEN ROWS OF THIS SEAT. 6 by the template 'for every input the law returns true; each argument reads behind the call as it read before'; 0 by the template 'total and deterministic' (their statements: YtlogcldbflemfaaTotals.lean).
  GIVEN WITH THE SEED: the statements are not yours to turn. If you find one false, say at which input.
  Laid BY PROGRAM, IN A SANDBOX (cutbox-rows.mjs): the forced cells as the released guide's own fill.sh prints them over the translation 55617ef2e0995168… (all of the seat's roots in one cut). By AI agents, Wed Nov 11 2026. No macro, syntax, notation, axiom, sorry.
-/
import Derived.Test.YtlogcldbflemfaaChecked
import GoSem.Claim
import GoSem.ClaimJoined
import GoSem.ClaimMapViews
import Derived.JoinedTies
import Derived.KernelRfl
namespace Go.Proofs.Ytlogcldbflemfaa
/- THE CELL 'sum', in the pinned program and in every row, IS THE sha256 OF THE DUMP (.gsa) THAT YtlogcldbflemfaaProg.lean LOADS. Nothing in Lean hashes anything: it is a label: what it is worth is what the hold of that sum in a sandbox is worth. -/
noncomputable def Try.pinned : Pinned := { name := "ytlogcldbflemfaa", sum := "55617ef2e09951681fefa37c0d0b2451549c5fcddde80aed34f169fa9d466eb5", checked := Try.checked }
namespace Rows
def none {H : Type} : Left H := { results := [], args := [] }

/-- 'redoubtlaw13.PollStays': WHATEVER THE INPUT: true; the input reads as it did. -/
def pollStaysSpec : ChangeSpec := { name := "pollStays", fn := fun _ => fun
  | [d1, d2] => { results := [.lit (.bool true)], args := [d1, d2] }
  | _ => none }
def pollStaysRow : OpenClaim := { program := "ytlogcldbflemfaa", sum := "55617ef2e09951681fefa37c0d0b2451549c5fcddde80aed34f169fa9d466eb5", func := "redoubt/redoubtlaw13.PollStays", spec := "pollStays", unfollowed := true, recurses := true, apart := false }
def PollStaysSaid : Prop := pollStaysRow.holds Try.pinned (OpenSpec.ofChange pollStaysSpec)

/-- ITS FALSE NEIGHBOUR: 'it returns false'. Refute it at one input. -/
def pollStaysWrong : ChangeSpec := { name := "pollStays", fn := fun _ => fun
  | [d1, d2] => { results := [.lit (.bool false)], args := [d1, d2] }
  | _ => none }
def PollStaysWrongFalsely : Prop := pollStaysRow.holds Try.pinned (OpenSpec.ofChange pollStaysWrong)

/-- 'redoubtlaw13.PollAgrees': WHATEVER THE INPUT: true; the input reads as it did. -/
def pollAgreesSpec : ChangeSpec := { name := "pollAgrees", fn := fun _ => fun
  | [d] => { results := [.lit (.bool true)], args := [d] }
  | _ => none }
def pollAgreesRow : OpenClaim := { program := "ytlogcldbflemfaa", sum := "55617ef2e09951681fefa37c0d0b2451549c5fcddde80aed34f169fa9d466eb5", func := "redoubt/redoubtlaw13.PollAgrees", spec := "pollAgrees", unfollowed := true, recurses := true, apart := false }
def PollAgreesSaid : Prop := pollAgreesRow.holds Try.pinned (OpenSpec.ofChange pollAgreesSpec)

/-- ITS FALSE NEIGHBOUR: 'it returns false'. Refute it at one input. -/
def pollAgreesWrong : ChangeSpec := { name := "pollAgrees", fn := fun _ => fun
  | [d] => { results := [.lit (.bool false)], args := [d] }
  | _ => none }
def PollAgreesWrongFalsely : Prop := pollAgreesRow.holds Try.pinned (OpenSpec.ofChange pollAgreesWrong)

/-- 'redoubtlaw13.PollLeaders': WHATEVER THE INPUT: true; the input reads as it did. -/
def pollLeadersSpec : ChangeSpec := { name := "pollLeaders", fn := fun _ => fun
  | [d] => { results := [.lit (.bool true)], args := [d] }
  | _ => none }
def pollLeadersRow : OpenClaim := { program := "ytlogcldbflemfaa", sum := "55617ef2e09951681fefa37c0d0b2451549c5fcddde80aed34f169fa9d466eb5", func := "redoubt/redoubtlaw13.PollLeaders", spec := "pollLeaders", unfollowed := true, recurses := true, apart := false }
def PollLeadersSaid : Prop := pollLeadersRow.holds Try.pinned (OpenSpec.ofChange pollLeadersSpec)

/-- ITS FALSE NEIGHBOUR: 'it returns false'. Refute it at one input. -/
def pollLeadersWrong : ChangeSpec := { name := "pollLeaders", fn := fun _ => fun
  | [d] => { results := [.lit (.bool false)], args := [d] }
  | _ => none }
def PollLeadersWrongFalsely : Prop := pollLeadersRow.holds Try.pinned (OpenSpec.ofChange pollLeadersWrong)

/-- 'redoubtlaw13.PollSame': WHATEVER THE INPUT: true; the input reads as it did. -/
def pollSameSpec : ChangeSpec := { name := "pollSame", fn := fun _ => fun
  | [d] => { results := [.lit (.bool true)], args := [d] }
  | _ => none }
def pollSameRow : OpenClaim := { program := "ytlogcldbflemfaa", sum := "55617ef2e09951681fefa37c0d0b2451549c5fcddde80aed34f169fa9d466eb5", func := "redoubt/redoubtlaw13.PollSame", spec := "pollSame", unfollowed := true, recurses := true, apart := false }
def PollSameSaid : Prop := pollSameRow.holds Try.pinned (OpenSpec.ofChange pollSameSpec)

/-- ITS FALSE NEIGHBOUR: 'it returns false'. Refute it at one input. -/
def pollSameWrong : ChangeSpec := { name := "pollSame", fn := fun _ => fun
  | [d] => { results := [.lit (.bool false)], args := [d] }
  | _ => none }
def PollSameWrongFalsely : Prop := pollSameRow.holds Try.pinned (OpenSpec.ofChange pollSameWrong)

/-- 'redoubtlaw13.PollCalm': WHATEVER THE INPUT: true; the input reads as it did. -/
def pollCalmSpec : ChangeSpec := { name := "pollCalm", fn := fun _ => fun
  | [d1, d2] => { results := [.lit (.bool true)], args := [d1, d2] }
  | _ => none }
def pollCalmRow : OpenClaim := { program := "ytlogcldbflemfaa", sum := "55617ef2e09951681fefa37c0d0b2451549c5fcddde80aed34f169fa9d466eb5", func := "redoubt/redoubtlaw13.PollCalm", spec := "pollCalm", unfollowed := true, recurses := true, apart := false }
def PollCalmSaid : Prop := pollCalmRow.holds Try.pinned (OpenSpec.ofChange pollCalmSpec)

/-- ITS FALSE NEIGHBOUR: 'it returns false'. Refute it at one input. -/
def pollCalmWrong : ChangeSpec := { name := "pollCalm", fn := fun _ => fun
  | [d1, d2] => { results := [.lit (.bool false)], args := [d1, d2] }
  | _ => none }
def PollCalmWrongFalsely : Prop := pollCalmRow.holds Try.pinned (OpenSpec.ofChange pollCalmWrong)

/-- 'redoubtlaw13.PollNil': WHATEVER THE INPUT: true; the input reads as it did. -/
def pollNilSpec : ChangeSpec := { name := "pollNil", fn := fun _ => fun
  | [d] => { results := [.lit (.bool true)], args := [d] }
  | _ => none }
def pollNilRow : OpenClaim := { program := "ytlogcldbflemfaa", sum := "55617ef2e09951681fefa37c0d0b2451549c5fcddde80aed34f169fa9d466eb5", func := "redoubt/redoubtlaw13.PollNil", spec := "pollNil", unfollowed := true, recurses := true, apart := false }
def PollNilSaid : Prop := pollNilRow.holds Try.pinned (OpenSpec.ofChange pollNilSpec)

/-- ITS FALSE NEIGHBOUR: 'it returns false'. Refute it at one input. -/
def pollNilWrong : ChangeSpec := { name := "pollNil", fn := fun _ => fun
  | [d] => { results := [.lit (.bool false)], args := [d] }
  | _ => none }
def PollNilWrongFalsely : Prop := pollNilRow.holds Try.pinned (OpenSpec.ofChange pollNilWrong)

/- THE SECOND FORM. 'bulk': how many values and letters a reading holds, each counted each time it is reached (what is shared counts as often as it is met; a slice's spare places count too). A statement '..UptoSaid' is the law's where the arguments, and the package variables that the reading takes, are together of bulk at most 1048576: NARROWER than '..Said'. Prove '..Said' where nothing that the law and all that it calls make is longer than what came in: it says more and counts as full. Else prove '..UptoSaid'. A law counts once. -/
mutual
def uptoBulk {H : Type} : DataW H → Nat
  | .lit (.string bytes) => bytes.length + 1
  | .lit _ => 1
  | .nil => 1
  | .ptr d => uptoBulk d + 1
  | .slice elems spare => uptoBulkAll elems + uptoBulkAll spare + 1
  | .agg parts => uptoBulkAll parts + 1
  | .iface _ d => uptoBulk d + 1
  | .map entries => uptoBulkEntries entries + 1
  | .held _ => 1
def uptoBulkAll {H : Type} : List (DataW H) → Nat
  | [] => 0
  | d :: r => uptoBulk d + uptoBulkAll r
def uptoBulkEntries {H : Type} : List (Lit × DataW H) → Nat
  | [] => 0
  | x :: r => uptoBulkEntry x + uptoBulkEntries r
def uptoBulkEntry {H : Type} : Lit × DataW H → Nat
  | (.string bytes, d) => bytes.length + uptoBulk d + 1
  | (_, d) => uptoBulk d + 1
 end
def uptoSmall : (H : Type) → List (DataW H) → Bool := fun _ ds => decide (uptoBulkAll ds ≤ 1048576)
def OpenSpec.upto (s : _root_.Go.ChangeSpec) : _root_.Go.OpenSpec := { _root_.Go.OpenSpec.ofChange s with cond := some uptoSmall }

/-- 'redoubtlaw13.PollStays', WHERE WHAT IT READS IS OF BULK AT MOST 1048576: true; the input reads as it did. -/
def pollStaysUptoRow : OpenClaim := { program := "ytlogcldbflemfaa", sum := "55617ef2e09951681fefa37c0d0b2451549c5fcddde80aed34f169fa9d466eb5", func := "redoubt/redoubtlaw13.PollStays", spec := "pollStays", unfollowed := true, recurses := true, apart := false, narrowed := true }
def PollStaysUptoSaid : Prop := pollStaysUptoRow.holds Try.pinned (OpenSpec.upto pollStaysSpec)

/-- 'redoubtlaw13.PollAgrees', WHERE WHAT IT READS IS OF BULK AT MOST 1048576: true; the input reads as it did. -/
def pollAgreesUptoRow : OpenClaim := { program := "ytlogcldbflemfaa", sum := "55617ef2e09951681fefa37c0d0b2451549c5fcddde80aed34f169fa9d466eb5", func := "redoubt/redoubtlaw13.PollAgrees", spec := "pollAgrees", unfollowed := true, recurses := true, apart := false, narrowed := true }
def PollAgreesUptoSaid : Prop := pollAgreesUptoRow.holds Try.pinned (OpenSpec.upto pollAgreesSpec)

/-- 'redoubtlaw13.PollLeaders', WHERE WHAT IT READS IS OF BULK AT MOST 1048576: true; the input reads as it did. -/
def pollLeadersUptoRow : OpenClaim := { program := "ytlogcldbflemfaa", sum := "55617ef2e09951681fefa37c0d0b2451549c5fcddde80aed34f169fa9d466eb5", func := "redoubt/redoubtlaw13.PollLeaders", spec := "pollLeaders", unfollowed := true, recurses := true, apart := false, narrowed := true }
def PollLeadersUptoSaid : Prop := pollLeadersUptoRow.holds Try.pinned (OpenSpec.upto pollLeadersSpec)

/-- 'redoubtlaw13.PollSame', WHERE WHAT IT READS IS OF BULK AT MOST 1048576: true; the input reads as it did. -/
def pollSameUptoRow : OpenClaim := { program := "ytlogcldbflemfaa", sum := "55617ef2e09951681fefa37c0d0b2451549c5fcddde80aed34f169fa9d466eb5", func := "redoubt/redoubtlaw13.PollSame", spec := "pollSame", unfollowed := true, recurses := true, apart := false, narrowed := true }
def PollSameUptoSaid : Prop := pollSameUptoRow.holds Try.pinned (OpenSpec.upto pollSameSpec)

/-- 'redoubtlaw13.PollCalm', WHERE WHAT IT READS IS OF BULK AT MOST 1048576: true; the input reads as it did. -/
def pollCalmUptoRow : OpenClaim := { program := "ytlogcldbflemfaa", sum := "55617ef2e09951681fefa37c0d0b2451549c5fcddde80aed34f169fa9d466eb5", func := "redoubt/redoubtlaw13.PollCalm", spec := "pollCalm", unfollowed := true, recurses := true, apart := false, narrowed := true }
def PollCalmUptoSaid : Prop := pollCalmUptoRow.holds Try.pinned (OpenSpec.upto pollCalmSpec)

/-- 'redoubtlaw13.PollNil', WHERE WHAT IT READS IS OF BULK AT MOST 1048576: true; the input reads as it did. -/
def pollNilUptoRow : OpenClaim := { program := "ytlogcldbflemfaa", sum := "55617ef2e09951681fefa37c0d0b2451549c5fcddde80aed34f169fa9d466eb5", func := "redoubt/redoubtlaw13.PollNil", spec := "pollNil", unfollowed := true, recurses := true, apart := false, narrowed := true }
def PollNilUptoSaid : Prop := pollNilUptoRow.holds Try.pinned (OpenSpec.upto pollNilSpec)

end Rows
end Go.Proofs.Ytlogcldbflemfaa

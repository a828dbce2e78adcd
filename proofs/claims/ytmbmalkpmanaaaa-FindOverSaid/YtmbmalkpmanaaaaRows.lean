/-
  No cell of these rows narrows 'for every input' (looked for: loops, veiled, ifaces, maps, wideKeys, modest, calm, conditions, laid).
  DERIVED. THE GIVEN ROWS OF THIS SEAT. 11 by the template 'for every input the law returns true; each argument reads behind the call as it read before'; 0 by the template 'total and deterministic' (their statements: YtmbmalkpmanaaaaTotals.lean).
  GIVEN WITH THE SEED: the statements are not yours to turn. If you find one false, say at which input.
  Laid BY PROGRAM, IN A SANDBOX (cutbox-rows.mjs): the forced cells as the released guide's own fill.sh prints them over the translation 90a80850112ff814… (all of the seat's roots in one cut). By AI agents, Wed Nov 11 2026. No macro, syntax, notation, axiom, sorry.
-/
import Derived.Test.YtmbmalkpmanaaaaChecked
import GoSem.Claim
import GoSem.ClaimJoined
import GoSem.ClaimMapViews
import Derived.JoinedTies
import Derived.KernelRfl
namespace Go.Proofs.Ytmbmalkpmanaaaa
/- THE CELL 'sum', in the pinned program and in every row, IS THE sha256 OF THE DUMP (.gsa) THAT YtmbmalkpmanaaaaProg.lean LOADS. Nothing in Lean hashes anything: it is a label: what it is worth is what the hold of that sum in a sandbox is worth. -/
noncomputable def Try.pinned : Pinned := { name := "ytmbmalkpmanaaaa", sum := "90a80850112ff814db7e989f3a37da323eceaab086c37efee9c0a23cd7fbc12c", checked := Try.checked }
namespace Rows
def none {H : Type} : Left H := { results := [], args := [] }

/-- 'epactlaw07.FindLong': WHATEVER THE INPUT: true; the input reads as it did. -/
def findLongSpec : ChangeSpec := { name := "findLong", fn := fun _ => fun
  | [d1, d2] => { results := [.lit (.bool true)], args := [d1, d2] }
  | _ => none }
def findLongRow : OpenClaim := { program := "ytmbmalkpmanaaaa", sum := "90a80850112ff814db7e989f3a37da323eceaab086c37efee9c0a23cd7fbc12c", func := "epact/epactlaw07.FindLong", spec := "findLong", unfollowed := true, recurses := true, apart := false }
def FindLongSaid : Prop := findLongRow.holds Try.pinned (OpenSpec.ofChange findLongSpec)

/-- ITS FALSE NEIGHBOUR: 'it returns false'. Refute it at one input. -/
def findLongWrong : ChangeSpec := { name := "findLong", fn := fun _ => fun
  | [d1, d2] => { results := [.lit (.bool false)], args := [d1, d2] }
  | _ => none }
def FindLongWrongFalsely : Prop := findLongRow.holds Try.pinned (OpenSpec.ofChange findLongWrong)

/-- 'epactlaw07.FindAt': WHATEVER THE INPUT: true; the input reads as it did. -/
def findAtSpec : ChangeSpec := { name := "findAt", fn := fun _ => fun
  | [d1, d2, d3, d4] => { results := [.lit (.bool true)], args := [d1, d2, d3, d4] }
  | _ => none }
def findAtRow : OpenClaim := { program := "ytmbmalkpmanaaaa", sum := "90a80850112ff814db7e989f3a37da323eceaab086c37efee9c0a23cd7fbc12c", func := "epact/epactlaw07.FindAt", spec := "findAt", unfollowed := true, recurses := true, apart := false }
def FindAtSaid : Prop := findAtRow.holds Try.pinned (OpenSpec.ofChange findAtSpec)

/-- ITS FALSE NEIGHBOUR: 'it returns false'. Refute it at one input. -/
def findAtWrong : ChangeSpec := { name := "findAt", fn := fun _ => fun
  | [d1, d2, d3, d4] => { results := [.lit (.bool false)], args := [d1, d2, d3, d4] }
  | _ => none }
def FindAtWrongFalsely : Prop := findAtRow.holds Try.pinned (OpenSpec.ofChange findAtWrong)

/-- 'epactlaw07.FindBeside': WHATEVER THE INPUT: true; the input reads as it did. -/
def findBesideSpec : ChangeSpec := { name := "findBeside", fn := fun _ => fun
  | [d1, d2] => { results := [.lit (.bool true)], args := [d1, d2] }
  | _ => none }
def findBesideRow : OpenClaim := { program := "ytmbmalkpmanaaaa", sum := "90a80850112ff814db7e989f3a37da323eceaab086c37efee9c0a23cd7fbc12c", func := "epact/epactlaw07.FindBeside", spec := "findBeside", unfollowed := true, recurses := true, apart := false }
def FindBesideSaid : Prop := findBesideRow.holds Try.pinned (OpenSpec.ofChange findBesideSpec)

/-- ITS FALSE NEIGHBOUR: 'it returns false'. Refute it at one input. -/
def findBesideWrong : ChangeSpec := { name := "findBeside", fn := fun _ => fun
  | [d1, d2] => { results := [.lit (.bool false)], args := [d1, d2] }
  | _ => none }
def FindBesideWrongFalsely : Prop := findBesideRow.holds Try.pinned (OpenSpec.ofChange findBesideWrong)

/-- 'epactlaw07.FindRises': WHATEVER THE INPUT: true; the input reads as it did. -/
def findRisesSpec : ChangeSpec := { name := "findRises", fn := fun _ => fun
  | [d1, d2, d3] => { results := [.lit (.bool true)], args := [d1, d2, d3] }
  | _ => none }
def findRisesRow : OpenClaim := { program := "ytmbmalkpmanaaaa", sum := "90a80850112ff814db7e989f3a37da323eceaab086c37efee9c0a23cd7fbc12c", func := "epact/epactlaw07.FindRises", spec := "findRises", unfollowed := true, recurses := true, apart := false }
def FindRisesSaid : Prop := findRisesRow.holds Try.pinned (OpenSpec.ofChange findRisesSpec)

/-- ITS FALSE NEIGHBOUR: 'it returns false'. Refute it at one input. -/
def findRisesWrong : ChangeSpec := { name := "findRises", fn := fun _ => fun
  | [d1, d2, d3] => { results := [.lit (.bool false)], args := [d1, d2, d3] }
  | _ => none }
def FindRisesWrongFalsely : Prop := findRisesRow.holds Try.pinned (OpenSpec.ofChange findRisesWrong)

/-- 'epactlaw02.SpansMake': WHATEVER THE INPUT: true; the input reads as it did. -/
def spansMakeSpec : ChangeSpec := { name := "spansMake", fn := fun _ => fun
  | [d] => { results := [.lit (.bool true)], args := [d] }
  | _ => none }
def spansMakeRow : OpenClaim := { program := "ytmbmalkpmanaaaa", sum := "90a80850112ff814db7e989f3a37da323eceaab086c37efee9c0a23cd7fbc12c", func := "epact/epactlaw02.SpansMake", spec := "spansMake", unfollowed := true, recurses := true, apart := false }
def SpansMakeSaid : Prop := spansMakeRow.holds Try.pinned (OpenSpec.ofChange spansMakeSpec)

/-- ITS FALSE NEIGHBOUR: 'it returns false'. Refute it at one input. -/
def spansMakeWrong : ChangeSpec := { name := "spansMake", fn := fun _ => fun
  | [d] => { results := [.lit (.bool false)], args := [d] }
  | _ => none }
def SpansMakeWrongFalsely : Prop := spansMakeRow.holds Try.pinned (OpenSpec.ofChange spansMakeWrong)

/-- 'epactlaw02.SpansLaws': WHATEVER THE INPUT: true; the input reads as it did. -/
def spansLawsSpec : ChangeSpec := { name := "spansLaws", fn := fun _ => fun
  | [d1, d2, d3] => { results := [.lit (.bool true)], args := [d1, d2, d3] }
  | _ => none }
def spansLawsRow : OpenClaim := { program := "ytmbmalkpmanaaaa", sum := "90a80850112ff814db7e989f3a37da323eceaab086c37efee9c0a23cd7fbc12c", func := "epact/epactlaw02.SpansLaws", spec := "spansLaws", unfollowed := true, recurses := true, apart := false }
def SpansLawsSaid : Prop := spansLawsRow.holds Try.pinned (OpenSpec.ofChange spansLawsSpec)

/-- ITS FALSE NEIGHBOUR: 'it returns false'. Refute it at one input. -/
def spansLawsWrong : ChangeSpec := { name := "spansLaws", fn := fun _ => fun
  | [d1, d2, d3] => { results := [.lit (.bool false)], args := [d1, d2, d3] }
  | _ => none }
def SpansLawsWrongFalsely : Prop := spansLawsRow.holds Try.pinned (OpenSpec.ofChange spansLawsWrong)

/-- 'epactlaw02.SpansMoved': WHATEVER THE INPUT: true; the input reads as it did. -/
def spansMovedSpec : ChangeSpec := { name := "spansMoved", fn := fun _ => fun
  | [d1, d2, d3] => { results := [.lit (.bool true)], args := [d1, d2, d3] }
  | _ => none }
def spansMovedRow : OpenClaim := { program := "ytmbmalkpmanaaaa", sum := "90a80850112ff814db7e989f3a37da323eceaab086c37efee9c0a23cd7fbc12c", func := "epact/epactlaw02.SpansMoved", spec := "spansMoved", unfollowed := true, recurses := true, apart := false }
def SpansMovedSaid : Prop := spansMovedRow.holds Try.pinned (OpenSpec.ofChange spansMovedSpec)

/-- ITS FALSE NEIGHBOUR: 'it returns false'. Refute it at one input. -/
def spansMovedWrong : ChangeSpec := { name := "spansMoved", fn := fun _ => fun
  | [d1, d2, d3] => { results := [.lit (.bool false)], args := [d1, d2, d3] }
  | _ => none }
def SpansMovedWrongFalsely : Prop := spansMovedRow.holds Try.pinned (OpenSpec.ofChange spansMovedWrong)

/-- 'epactlaw02.SpansAhead': WHATEVER THE INPUT: true; the input reads as it did. -/
def spansAheadSpec : ChangeSpec := { name := "spansAhead", fn := fun _ => fun
  | [d1, d2, d3] => { results := [.lit (.bool true)], args := [d1, d2, d3] }
  | _ => none }
def spansAheadRow : OpenClaim := { program := "ytmbmalkpmanaaaa", sum := "90a80850112ff814db7e989f3a37da323eceaab086c37efee9c0a23cd7fbc12c", func := "epact/epactlaw02.SpansAhead", spec := "spansAhead", unfollowed := true, recurses := true, apart := false }
def SpansAheadSaid : Prop := spansAheadRow.holds Try.pinned (OpenSpec.ofChange spansAheadSpec)

/-- ITS FALSE NEIGHBOUR: 'it returns false'. Refute it at one input. -/
def spansAheadWrong : ChangeSpec := { name := "spansAhead", fn := fun _ => fun
  | [d1, d2, d3] => { results := [.lit (.bool false)], args := [d1, d2, d3] }
  | _ => none }
def SpansAheadWrongFalsely : Prop := spansAheadRow.holds Try.pinned (OpenSpec.ofChange spansAheadWrong)

/-- 'epactlaw02.SpansTells': WHATEVER THE INPUT: true; the input reads as it did. -/
def spansTellsSpec : ChangeSpec := { name := "spansTells", fn := fun _ => fun
  | [d1, d2, d3, d4] => { results := [.lit (.bool true)], args := [d1, d2, d3, d4] }
  | _ => none }
def spansTellsRow : OpenClaim := { program := "ytmbmalkpmanaaaa", sum := "90a80850112ff814db7e989f3a37da323eceaab086c37efee9c0a23cd7fbc12c", func := "epact/epactlaw02.SpansTells", spec := "spansTells", unfollowed := true, recurses := true, apart := false }
def SpansTellsSaid : Prop := spansTellsRow.holds Try.pinned (OpenSpec.ofChange spansTellsSpec)

/-- ITS FALSE NEIGHBOUR: 'it returns false'. Refute it at one input. -/
def spansTellsWrong : ChangeSpec := { name := "spansTells", fn := fun _ => fun
  | [d1, d2, d3, d4] => { results := [.lit (.bool false)], args := [d1, d2, d3, d4] }
  | _ => none }
def SpansTellsWrongFalsely : Prop := spansTellsRow.holds Try.pinned (OpenSpec.ofChange spansTellsWrong)

/-- 'epactlaw02.SpansTicks': WHATEVER THE INPUT: true; the input reads as it did. -/
def spansTicksSpec : ChangeSpec := { name := "spansTicks", fn := fun _ => fun
  | [d1, d2, d3] => { results := [.lit (.bool true)], args := [d1, d2, d3] }
  | _ => none }
def spansTicksRow : OpenClaim := { program := "ytmbmalkpmanaaaa", sum := "90a80850112ff814db7e989f3a37da323eceaab086c37efee9c0a23cd7fbc12c", func := "epact/epactlaw02.SpansTicks", spec := "spansTicks", unfollowed := true, recurses := true, apart := false }
def SpansTicksSaid : Prop := spansTicksRow.holds Try.pinned (OpenSpec.ofChange spansTicksSpec)

/-- ITS FALSE NEIGHBOUR: 'it returns false'. Refute it at one input. -/
def spansTicksWrong : ChangeSpec := { name := "spansTicks", fn := fun _ => fun
  | [d1, d2, d3] => { results := [.lit (.bool false)], args := [d1, d2, d3] }
  | _ => none }
def SpansTicksWrongFalsely : Prop := spansTicksRow.holds Try.pinned (OpenSpec.ofChange spansTicksWrong)

/-- 'epactlaw07.FindOver': WHATEVER THE INPUT: true; the input reads as it did. -/
def findOverSpec : ChangeSpec := { name := "findOver", fn := fun _ => fun
  | [d1, d2, d3] => { results := [.lit (.bool true)], args := [d1, d2, d3] }
  | _ => none }
def findOverRow : OpenClaim := { program := "ytmbmalkpmanaaaa", sum := "90a80850112ff814db7e989f3a37da323eceaab086c37efee9c0a23cd7fbc12c", func := "epact/epactlaw07.FindOver", spec := "findOver", unfollowed := true, recurses := true, apart := false }
def FindOverSaid : Prop := findOverRow.holds Try.pinned (OpenSpec.ofChange findOverSpec)

/-- ITS FALSE NEIGHBOUR: 'it returns false'. Refute it at one input. -/
def findOverWrong : ChangeSpec := { name := "findOver", fn := fun _ => fun
  | [d1, d2, d3] => { results := [.lit (.bool false)], args := [d1, d2, d3] }
  | _ => none }
def FindOverWrongFalsely : Prop := findOverRow.holds Try.pinned (OpenSpec.ofChange findOverWrong)

/- THE SECOND FORM. 'bulk': how many values and letters a reading holds, each counted each time it is reached (what is shared counts as often as it is met; a slice's spare places count too). A statement '..UptoSaid' is the law's where the arguments, and the package variables that the reading takes, are together of bulk at most 1048576: NARROWER than '..Said'. Prove '..Said' where nothing that the law and all that it calls make is longer than what came in: it says more and counts as full. Else prove '..UptoSaid'. A law counts once. -/
mutual
def uptoBulk {H : Type} : DataW H → Nat
  | .lit (.string bytes) => bytes.length + 1
  | .lit _ => 1
  | .nil => 1
  | .ptr d => uptoBulk d + 1
  | .slice elems spare => uptoBulkAll elems + uptoBulkAll spare + 1
  | .agg parts => uptoBulkAll parts + 1
  | .iface _ d => uptoBulk d + 1
  | .map entries => uptoBulkEntries entries + 1
  | .held _ => 1
def uptoBulkAll {H : Type} : List (DataW H) → Nat
  | [] => 0
  | d :: r => uptoBulk d + uptoBulkAll r
def uptoBulkEntries {H : Type} : List (Lit × DataW H) → Nat
  | [] => 0
  | x :: r => uptoBulkEntry x + uptoBulkEntries r
def uptoBulkEntry {H : Type} : Lit × DataW H → Nat
  | (.string bytes, d) => bytes.length + uptoBulk d + 1
  | (_, d) => uptoBulk d + 1
 end
def uptoSmall : (H : Type) → List (DataW H) → Bool := fun _ ds => decide (uptoBulkAll ds ≤ 1048576)
def OpenSpec.upto (s : _root_.Go.ChangeSpec) : _root_.Go.OpenSpec := { _root_.Go.OpenSpec.ofChange s with cond := some uptoSmall }

/-- 'epactlaw07.FindLong', WHERE WHAT IT READS IS OF BULK AT MOST 1048576: true; the input reads as it did. -/
def findLongUptoRow : OpenClaim := { program := "ytmbmalkpmanaaaa", sum := "90a80850112ff814db7e989f3a37da323eceaab086c37efee9c0a23cd7fbc12c", func := "epact/epactlaw07.FindLong", spec := "findLong", unfollowed := true, recurses := true, apart := false, narrowed := true }
def FindLongUptoSaid : Prop := findLongUptoRow.holds Try.pinned (OpenSpec.upto findLongSpec)

/-- 'epactlaw07.FindAt', WHERE WHAT IT READS IS OF BULK AT MOST 1048576: true; the input reads as it did. -/
def findAtUptoRow : OpenClaim := { program := "ytmbmalkpmanaaaa", sum := "90a80850112ff814db7e989f3a37da323eceaab086c37efee9c0a23cd7fbc12c", func := "epact/epactlaw07.FindAt", spec := "findAt", unfollowed := true, recurses := true, apart := false, narrowed := true }
def FindAtUptoSaid : Prop := findAtUptoRow.holds Try.pinned (OpenSpec.upto findAtSpec)

/-- 'epactlaw07.FindBeside', WHERE WHAT IT READS IS OF BULK AT MOST 1048576: true; the input reads as it did. -/
def findBesideUptoRow : OpenClaim := { program := "ytmbmalkpmanaaaa", sum := "90a80850112ff814db7e989f3a37da323eceaab086c37efee9c0a23cd7fbc12c", func := "epact/epactlaw07.FindBeside", spec := "findBeside", unfollowed := true, recurses := true, apart := false, narrowed := true }
def FindBesideUptoSaid : Prop := findBesideUptoRow.holds Try.pinned (OpenSpec.upto findBesideSpec)

/-- 'epactlaw07.FindRises', WHERE WHAT IT READS IS OF BULK AT MOST 1048576: true; the input reads as it did. -/
def findRisesUptoRow : OpenClaim := { program := "ytmbmalkpmanaaaa", sum := "90a80850112ff814db7e989f3a37da323eceaab086c37efee9c0a23cd7fbc12c", func := "epact/epactlaw07.FindRises", spec := "findRises", unfollowed := true, recurses := true, apart := false, narrowed := true }
def FindRisesUptoSaid : Prop := findRisesUptoRow.holds Try.pinned (OpenSpec.upto findRisesSpec)

/-- 'epactlaw02.SpansMake', WHERE WHAT IT READS IS OF BULK AT MOST 1048576: true; the input reads as it did. -/
def spansMakeUptoRow : OpenClaim := { program := "ytmbmalkpmanaaaa", sum := "90a80850112ff814db7e989f3a37da323eceaab086c37efee9c0a23cd7fbc12c", func := "epact/epactlaw02.SpansMake", spec := "spansMake", unfollowed := true, recurses := true, apart := false, narrowed := true }
def SpansMakeUptoSaid : Prop := spansMakeUptoRow.holds Try.pinned (OpenSpec.upto spansMakeSpec)

/-- 'epactlaw02.SpansLaws', WHERE WHAT IT READS IS OF BULK AT MOST 1048576: true; the input reads as it did. -/
def spansLawsUptoRow : OpenClaim := { program := "ytmbmalkpmanaaaa", sum := "90a80850112ff814db7e989f3a37da323eceaab086c37efee9c0a23cd7fbc12c", func := "epact/epactlaw02.SpansLaws", spec := "spansLaws", unfollowed := true, recurses := true, apart := false, narrowed := true }
def SpansLawsUptoSaid : Prop := spansLawsUptoRow.holds Try.pinned (OpenSpec.upto spansLawsSpec)

/-- 'epactlaw02.SpansMoved', WHERE WHAT IT READS IS OF BULK AT MOST 1048576: true; the input reads as it did. -/
def spansMovedUptoRow : OpenClaim := { program := "ytmbmalkpmanaaaa", sum := "90a80850112ff814db7e989f3a37da323eceaab086c37efee9c0a23cd7fbc12c", func := "epact/epactlaw02.SpansMoved", spec := "spansMoved", unfollowed := true, recurses := true, apart := false, narrowed := true }
def SpansMovedUptoSaid : Prop := spansMovedUptoRow.holds Try.pinned (OpenSpec.upto spansMovedSpec)

/-- 'epactlaw02.SpansAhead', WHERE WHAT IT READS IS OF BULK AT MOST 1048576: true; the input reads as it did. -/
def spansAheadUptoRow : OpenClaim := { program := "ytmbmalkpmanaaaa", sum := "90a80850112ff814db7e989f3a37da323eceaab086c37efee9c0a23cd7fbc12c", func := "epact/epactlaw02.SpansAhead", spec := "spansAhead", unfollowed := true, recurses := true, apart := false, narrowed := true }
def SpansAheadUptoSaid : Prop := spansAheadUptoRow.holds Try.pinned (OpenSpec.upto spansAheadSpec)

/-- 'epactlaw02.SpansTells', WHERE WHAT IT READS IS OF BULK AT MOST 1048576: true; the input reads as it did. -/
def spansTellsUptoRow : OpenClaim := { program := "ytmbmalkpmanaaaa", sum := "90a80850112ff814db7e989f3a37da323eceaab086c37efee9c0a23cd7fbc12c", func := "epact/epactlaw02.SpansTells", spec := "spansTells", unfollowed := true, recurses := true, apart := false, narrowed := true }
def SpansTellsUptoSaid : Prop := spansTellsUptoRow.holds Try.pinned (OpenSpec.upto spansTellsSpec)

/-- 'epactlaw02.SpansTicks', WHERE WHAT IT READS IS OF BULK AT MOST 1048576: true; the input reads as it did. -/
def spansTicksUptoRow : OpenClaim := { program := "ytmbmalkpmanaaaa", sum := "90a80850112ff814db7e989f3a37da323eceaab086c37efee9c0a23cd7fbc12c", func := "epact/epactlaw02.SpansTicks", spec := "spansTicks", unfollowed := true, recurses := true, apart := false, narrowed := true }
def SpansTicksUptoSaid : Prop := spansTicksUptoRow.holds Try.pinned (OpenSpec.upto spansTicksSpec)

/-- 'epactlaw07.FindOver', WHERE WHAT IT READS IS OF BULK AT MOST 1048576: true; the input reads as it did. -/
def findOverUptoRow : OpenClaim := { program := "ytmbmalkpmanaaaa", sum := "90a80850112ff814db7e989f3a37da323eceaab086c37efee9c0a23cd7fbc12c", func := "epact/epactlaw07.FindOver", spec := "findOver", unfollowed := true, recurses := true, apart := false, narrowed := true }
def FindOverUptoSaid : Prop := findOverUptoRow.holds Try.pinned (OpenSpec.upto findOverSpec)

end Rows
end Go.Proofs.Ytmbmalkpmanaaaa

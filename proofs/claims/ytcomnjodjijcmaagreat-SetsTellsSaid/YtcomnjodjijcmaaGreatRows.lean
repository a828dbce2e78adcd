/-
  No cell of these rows narrows 'for every input' (looked for: loops, veiled, ifaces, maps, wideKeys, modest, calm, conditions, laid).
  DERIVED. THE GIVEN ROWS OF THIS SEAT. 5 by the template 'for every input the law returns true; each argument reads behind the call as it read before'; 0 by the template 'total and deterministic' (their statements: YtcomnjodjijcmaaGreatTotals.lean).
  GIVEN WITH THE SEED: the statements are not yours to turn. If you find one false, say at which input.
  Laid BY PROGRAM, IN A SANDBOX (cutbox-rows.mjs): the forced cells as the released guide's own fill.sh prints them over the translation c6394a4a6e01b6c9… (all of the seat's roots in one cut). By AI agents, Wed Nov 11 2026. No macro, syntax, notation, axiom, sorry.
-/
import Derived.Test.YtcomnjodjijcmaaGreatChecked
import GoSem.Claim
import GoSem.ClaimJoined
import GoSem.ClaimMapViews
import Derived.JoinedTies
import Derived.KernelRfl
namespace Go.Proofs.YtcomnjodjijcmaaGreat
/- THE CELL 'sum', in the pinned program and in every row, IS THE sha256 OF THE DUMP (.gsa) THAT YtcomnjodjijcmaaGreatProg.lean LOADS. Nothing in Lean hashes anything: it is a label: what it is worth is what the hold of that sum in a sandbox is worth. -/
noncomputable def Tryz.pinned : Pinned := { name := "ytcomnjodjijcmaagreat", sum := "c6394a4a6e01b6c97b7dbc7db944cb605d41fa7ef4bc7c30d425806e6b29fc25", checked := Tryz.checked }
namespace Rows
def none {H : Type} : Left H := { results := [], args := [] }

/-- 'epactlaw18.SetsLaws': WHATEVER THE INPUT: true; the input reads as it did. -/
def setsLawsSpec : ChangeSpec := { name := "setsLaws", fn := fun _ => fun
  | [d1, d2] => { results := [.lit (.bool true)], args := [d1, d2] }
  | _ => none }
def setsLawsRow : OpenClaim := { program := "ytcomnjodjijcmaagreat", sum := "c6394a4a6e01b6c97b7dbc7db944cb605d41fa7ef4bc7c30d425806e6b29fc25", func := "epact/epactlaw18.SetsLaws", spec := "setsLaws", unfollowed := true, recurses := true, apart := false }
def SetsLawsSaid : Prop := setsLawsRow.holds Tryz.pinned (OpenSpec.ofChange setsLawsSpec)

/-- ITS FALSE NEIGHBOUR: 'it returns false'. Refute it at one input. -/
def setsLawsWrong : ChangeSpec := { name := "setsLaws", fn := fun _ => fun
  | [d1, d2] => { results := [.lit (.bool false)], args := [d1, d2] }
  | _ => none }
def SetsLawsWrongFalsely : Prop := setsLawsRow.holds Tryz.pinned (OpenSpec.ofChange setsLawsWrong)

/-- 'epactlaw18.SetsTells': WHATEVER THE INPUT: true; the input reads as it did. -/
def setsTellsSpec : ChangeSpec := { name := "setsTells", fn := fun _ => fun
  | [d1, d2] => { results := [.lit (.bool true)], args := [d1, d2] }
  | _ => none }
def setsTellsRow : OpenClaim := { program := "ytcomnjodjijcmaagreat", sum := "c6394a4a6e01b6c97b7dbc7db944cb605d41fa7ef4bc7c30d425806e6b29fc25", func := "epact/epactlaw18.SetsTells", spec := "setsTells", unfollowed := true, recurses := true, apart := false }
def SetsTellsSaid : Prop := setsTellsRow.holds Tryz.pinned (OpenSpec.ofChange setsTellsSpec)

/-- ITS FALSE NEIGHBOUR: 'it returns false'. Refute it at one input. -/
def setsTellsWrong : ChangeSpec := { name := "setsTells", fn := fun _ => fun
  | [d1, d2] => { results := [.lit (.bool false)], args := [d1, d2] }
  | _ => none }
def SetsTellsWrongFalsely : Prop := setsTellsRow.holds Tryz.pinned (OpenSpec.ofChange setsTellsWrong)

/-- 'epactlaw18.SetsShape': WHATEVER THE INPUT: true; the input reads as it did. -/
def setsShapeSpec : ChangeSpec := { name := "setsShape", fn := fun _ => fun
  | [d1, d2, d3] => { results := [.lit (.bool true)], args := [d1, d2, d3] }
  | _ => none }
def setsShapeRow : OpenClaim := { program := "ytcomnjodjijcmaagreat", sum := "c6394a4a6e01b6c97b7dbc7db944cb605d41fa7ef4bc7c30d425806e6b29fc25", func := "epact/epactlaw18.SetsShape", spec := "setsShape", unfollowed := true, recurses := true, apart := false }
def SetsShapeSaid : Prop := setsShapeRow.holds Tryz.pinned (OpenSpec.ofChange setsShapeSpec)

/-- ITS FALSE NEIGHBOUR: 'it returns false'. Refute it at one input. -/
def setsShapeWrong : ChangeSpec := { name := "setsShape", fn := fun _ => fun
  | [d1, d2, d3] => { results := [.lit (.bool false)], args := [d1, d2, d3] }
  | _ => none }
def SetsShapeWrongFalsely : Prop := setsShapeRow.holds Tryz.pinned (OpenSpec.ofChange setsShapeWrong)

/-- 'epactlaw18.SetsPart': WHATEVER THE INPUT: true; the input reads as it did. -/
def setsPartSpec : ChangeSpec := { name := "setsPart", fn := fun _ => fun
  | [d1, d2, d3, d4] => { results := [.lit (.bool true)], args := [d1, d2, d3, d4] }
  | _ => none }
def setsPartRow : OpenClaim := { program := "ytcomnjodjijcmaagreat", sum := "c6394a4a6e01b6c97b7dbc7db944cb605d41fa7ef4bc7c30d425806e6b29fc25", func := "epact/epactlaw18.SetsPart", spec := "setsPart", unfollowed := true, recurses := true, apart := false }
def SetsPartSaid : Prop := setsPartRow.holds Tryz.pinned (OpenSpec.ofChange setsPartSpec)

/-- ITS FALSE NEIGHBOUR: 'it returns false'. Refute it at one input. -/
def setsPartWrong : ChangeSpec := { name := "setsPart", fn := fun _ => fun
  | [d1, d2, d3, d4] => { results := [.lit (.bool false)], args := [d1, d2, d3, d4] }
  | _ => none }
def SetsPartWrongFalsely : Prop := setsPartRow.holds Tryz.pinned (OpenSpec.ofChange setsPartWrong)

/-- 'epactlaw18.SetsIndex': WHATEVER THE INPUT: true; the input reads as it did. -/
def setsIndexSpec : ChangeSpec := { name := "setsIndex", fn := fun _ => fun
  | [d1, d2, d3, d4, d5] => { results := [.lit (.bool true)], args := [d1, d2, d3, d4, d5] }
  | _ => none }
def setsIndexRow : OpenClaim := { program := "ytcomnjodjijcmaagreat", sum := "c6394a4a6e01b6c97b7dbc7db944cb605d41fa7ef4bc7c30d425806e6b29fc25", func := "epact/epactlaw18.SetsIndex", spec := "setsIndex", unfollowed := true, recurses := true, apart := false }
def SetsIndexSaid : Prop := setsIndexRow.holds Tryz.pinned (OpenSpec.ofChange setsIndexSpec)

/-- ITS FALSE NEIGHBOUR: 'it returns false'. Refute it at one input. -/
def setsIndexWrong : ChangeSpec := { name := "setsIndex", fn := fun _ => fun
  | [d1, d2, d3, d4, d5] => { results := [.lit (.bool false)], args := [d1, d2, d3, d4, d5] }
  | _ => none }
def SetsIndexWrongFalsely : Prop := setsIndexRow.holds Tryz.pinned (OpenSpec.ofChange setsIndexWrong)

/- THE SECOND FORM. 'bulk': how many values and letters a reading holds, each counted each time it is reached (what is shared counts as often as it is met; a slice's spare places count too). A statement '..UptoSaid' is the law's where the arguments, and the package variables that the reading takes, are together of bulk at most 1048576: NARROWER than '..Said'. Prove '..Said' where nothing that the law and all that it calls make is longer than what came in: it says more and counts as full. Else prove '..UptoSaid'. A law counts once. -/
mutual
def uptoBulk {H : Type} : DataW H → Nat
  | .lit (.string bytes) => bytes.length + 1
  | .lit _ => 1
  | .nil => 1
  | .ptr d => uptoBulk d + 1
  | .slice elems spare => uptoBulkAll elems + uptoBulkAll spare + 1
  | .agg parts => uptoBulkAll parts + 1
  | .iface _ d => uptoBulk d + 1
  | .map entries => uptoBulkEntries entries + 1
  | .held _ => 1
def uptoBulkAll {H : Type} : List (DataW H) → Nat
  | [] => 0
  | d :: r => uptoBulk d + uptoBulkAll r
def uptoBulkEntries {H : Type} : List (Lit × DataW H) → Nat
  | [] => 0
  | x :: r => uptoBulkEntry x + uptoBulkEntries r
def uptoBulkEntry {H : Type} : Lit × DataW H → Nat
  | (.string bytes, d) => bytes.length + uptoBulk d + 1
  | (_, d) => uptoBulk d + 1
 end
def uptoSmall : (H : Type) → List (DataW H) → Bool := fun _ ds => decide (uptoBulkAll ds ≤ 1048576)
def OpenSpec.upto (s : _root_.Go.ChangeSpec) : _root_.Go.OpenSpec := { _root_.Go.OpenSpec.ofChange s with cond := some uptoSmall }

/-- 'epactlaw18.SetsLaws', WHERE WHAT IT READS IS OF BULK AT MOST 1048576: true; the input reads as it did. -/
def setsLawsUptoRow : OpenClaim := { program := "ytcomnjodjijcmaagreat", sum := "c6394a4a6e01b6c97b7dbc7db944cb605d41fa7ef4bc7c30d425806e6b29fc25", func := "epact/epactlaw18.SetsLaws", spec := "setsLaws", unfollowed := true, recurses := true, apart := false, narrowed := true }
def SetsLawsUptoSaid : Prop := setsLawsUptoRow.holds Tryz.pinned (OpenSpec.upto setsLawsSpec)

/-- 'epactlaw18.SetsTells', WHERE WHAT IT READS IS OF BULK AT MOST 1048576: true; the input reads as it did. -/
def setsTellsUptoRow : OpenClaim := { program := "ytcomnjodjijcmaagreat", sum := "c6394a4a6e01b6c97b7dbc7db944cb605d41fa7ef4bc7c30d425806e6b29fc25", func := "epact/epactlaw18.SetsTells", spec := "setsTells", unfollowed := true, recurses := true, apart := false, narrowed := true }
def SetsTellsUptoSaid : Prop := setsTellsUptoRow.holds Tryz.pinned (OpenSpec.upto setsTellsSpec)

/-- 'epactlaw18.SetsShape', WHERE WHAT IT READS IS OF BULK AT MOST 1048576: true; the input reads as it did. -/
def setsShapeUptoRow : OpenClaim := { program := "ytcomnjodjijcmaagreat", sum := "c6394a4a6e01b6c97b7dbc7db944cb605d41fa7ef4bc7c30d425806e6b29fc25", func := "epact/epactlaw18.SetsShape", spec := "setsShape", unfollowed := true, recurses := true, apart := false, narrowed := true }
def SetsShapeUptoSaid : Prop := setsShapeUptoRow.holds Tryz.pinned (OpenSpec.upto setsShapeSpec)

/-- 'epactlaw18.SetsPart', WHERE WHAT IT READS IS OF BULK AT MOST 1048576: true; the input reads as it did. -/
def setsPartUptoRow : OpenClaim := { program := "ytcomnjodjijcmaagreat", sum := "c6394a4a6e01b6c97b7dbc7db944cb605d41fa7ef4bc7c30d425806e6b29fc25", func := "epact/epactlaw18.SetsPart", spec := "setsPart", unfollowed := true, recurses := true, apart := false, narrowed := true }
def SetsPartUptoSaid : Prop := setsPartUptoRow.holds Tryz.pinned (OpenSpec.upto setsPartSpec)

/-- 'epactlaw18.SetsIndex', WHERE WHAT IT READS IS OF BULK AT MOST 1048576: true; the input reads as it did. -/
def setsIndexUptoRow : OpenClaim := { program := "ytcomnjodjijcmaagreat", sum := "c6394a4a6e01b6c97b7dbc7db944cb605d41fa7ef4bc7c30d425806e6b29fc25", func := "epact/epactlaw18.SetsIndex", spec := "setsIndex", unfollowed := true, recurses := true, apart := false, narrowed := true }
def SetsIndexUptoSaid : Prop := setsIndexUptoRow.holds Tryz.pinned (OpenSpec.upto setsIndexSpec)

end Rows
end Go.Proofs.YtcomnjodjijcmaaGreat

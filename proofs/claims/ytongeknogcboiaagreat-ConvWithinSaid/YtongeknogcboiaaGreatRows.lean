/-
  No cell of these rows narrows 'for every input' (looked for: loops, veiled, ifaces, maps, wideKeys, modest, calm, conditions, laid).
  DERIVED. THE GIVEN ROWS OF THIS SEAT. 6 by the template 'for every input the law returns true; each argument reads behind the call as it read before'; 0 by the template 'total and deterministic' (their statements: YtongeknogcboiaaGreatTotals.lean).
  GIVEN WITH THE SEED: the statements are not yours to turn. If you find one false, say at which input.
  Laid BY PROGRAM, IN A SANDBOX (cutbox-rows.mjs): the forced cells as the released guide's own fill.sh prints them over the translation 283ce0174612bca5… (all of the seat's roots in one cut). By AI agents, Wed Nov 11 2026. No macro, syntax, notation, axiom, sorry.
-/
import Derived.Test.YtongeknogcboiaaGreatChecked
import GoSem.Claim
import GoSem.ClaimJoined
import GoSem.ClaimMapViews
import Derived.JoinedTies
import Derived.KernelRfl
namespace Go.Proofs.YtongeknogcboiaaGreat
/- THE CELL 'sum', in the pinned program and in every row, IS THE sha256 OF THE DUMP (.gsa) THAT YtongeknogcboiaaGreatProg.lean LOADS. Nothing in Lean hashes anything: it is a label: what it is worth is what the hold of that sum in a sandbox is worth. -/
noncomputable def Tryz.pinned : Pinned := { name := "ytongeknogcboiaagreat", sum := "283ce0174612bca567daa523385f4982525c076a9b2aee451ded3085fd4c43e0", checked := Tryz.checked }
namespace Rows
def none {H : Type} : Left H := { results := [], args := [] }

/-- 'epactlaw21.ConvCover': WHATEVER THE INPUT: true; the input reads as it did. -/
def convCoverSpec : ChangeSpec := { name := "convCover", fn := fun _ => fun
  | [d1, d2, d3] => { results := [.lit (.bool true)], args := [d1, d2, d3] }
  | _ => none }
def convCoverRow : OpenClaim := { program := "ytongeknogcboiaagreat", sum := "283ce0174612bca567daa523385f4982525c076a9b2aee451ded3085fd4c43e0", func := "epact/epactlaw21.ConvCover", spec := "convCover", unfollowed := true, recurses := true, apart := false }
def ConvCoverSaid : Prop := convCoverRow.holds Tryz.pinned (OpenSpec.ofChange convCoverSpec)

/-- ITS FALSE NEIGHBOUR: 'it returns false'. Refute it at one input. -/
def convCoverWrong : ChangeSpec := { name := "convCover", fn := fun _ => fun
  | [d1, d2, d3] => { results := [.lit (.bool false)], args := [d1, d2, d3] }
  | _ => none }
def ConvCoverWrongFalsely : Prop := convCoverRow.holds Tryz.pinned (OpenSpec.ofChange convCoverWrong)

/-- 'epactlaw21.ConvFar': WHATEVER THE INPUT: true; the input reads as it did. -/
def convFarSpec : ChangeSpec := { name := "convFar", fn := fun _ => fun
  | [d1, d2] => { results := [.lit (.bool true)], args := [d1, d2] }
  | _ => none }
def convFarRow : OpenClaim := { program := "ytongeknogcboiaagreat", sum := "283ce0174612bca567daa523385f4982525c076a9b2aee451ded3085fd4c43e0", func := "epact/epactlaw21.ConvFar", spec := "convFar", unfollowed := true, recurses := true, apart := false }
def ConvFarSaid : Prop := convFarRow.holds Tryz.pinned (OpenSpec.ofChange convFarSpec)

/-- ITS FALSE NEIGHBOUR: 'it returns false'. Refute it at one input. -/
def convFarWrong : ChangeSpec := { name := "convFar", fn := fun _ => fun
  | [d1, d2] => { results := [.lit (.bool false)], args := [d1, d2] }
  | _ => none }
def ConvFarWrongFalsely : Prop := convFarRow.holds Tryz.pinned (OpenSpec.ofChange convFarWrong)

/-- 'epactlaw21.ConvTells': WHATEVER THE INPUT: true; the input reads as it did. -/
def convTellsSpec : ChangeSpec := { name := "convTells", fn := fun _ => fun
  | [d1, d2, d3] => { results := [.lit (.bool true)], args := [d1, d2, d3] }
  | _ => none }
def convTellsRow : OpenClaim := { program := "ytongeknogcboiaagreat", sum := "283ce0174612bca567daa523385f4982525c076a9b2aee451ded3085fd4c43e0", func := "epact/epactlaw21.ConvTells", spec := "convTells", unfollowed := true, recurses := true, apart := false }
def ConvTellsSaid : Prop := convTellsRow.holds Tryz.pinned (OpenSpec.ofChange convTellsSpec)

/-- ITS FALSE NEIGHBOUR: 'it returns false'. Refute it at one input. -/
def convTellsWrong : ChangeSpec := { name := "convTells", fn := fun _ => fun
  | [d1, d2, d3] => { results := [.lit (.bool false)], args := [d1, d2, d3] }
  | _ => none }
def ConvTellsWrongFalsely : Prop := convTellsRow.holds Tryz.pinned (OpenSpec.ofChange convTellsWrong)

/-- 'epactlaw21.ConvWithin': WHATEVER THE INPUT: true; the input reads as it did. -/
def convWithinSpec : ChangeSpec := { name := "convWithin", fn := fun _ => fun
  | [d1, d2, d3] => { results := [.lit (.bool true)], args := [d1, d2, d3] }
  | _ => none }
def convWithinRow : OpenClaim := { program := "ytongeknogcboiaagreat", sum := "283ce0174612bca567daa523385f4982525c076a9b2aee451ded3085fd4c43e0", func := "epact/epactlaw21.ConvWithin", spec := "convWithin", unfollowed := true, recurses := true, apart := false }
def ConvWithinSaid : Prop := convWithinRow.holds Tryz.pinned (OpenSpec.ofChange convWithinSpec)

/-- ITS FALSE NEIGHBOUR: 'it returns false'. Refute it at one input. -/
def convWithinWrong : ChangeSpec := { name := "convWithin", fn := fun _ => fun
  | [d1, d2, d3] => { results := [.lit (.bool false)], args := [d1, d2, d3] }
  | _ => none }
def ConvWithinWrongFalsely : Prop := convWithinRow.holds Tryz.pinned (OpenSpec.ofChange convWithinWrong)

/-- 'epactlaw21.ConvNext': WHATEVER THE INPUT: true; the input reads as it did. -/
def convNextSpec : ChangeSpec := { name := "convNext", fn := fun _ => fun
  | [d1, d2] => { results := [.lit (.bool true)], args := [d1, d2] }
  | _ => none }
def convNextRow : OpenClaim := { program := "ytongeknogcboiaagreat", sum := "283ce0174612bca567daa523385f4982525c076a9b2aee451ded3085fd4c43e0", func := "epact/epactlaw21.ConvNext", spec := "convNext", unfollowed := true, recurses := true, apart := false }
def ConvNextSaid : Prop := convNextRow.holds Tryz.pinned (OpenSpec.ofChange convNextSpec)

/-- ITS FALSE NEIGHBOUR: 'it returns false'. Refute it at one input. -/
def convNextWrong : ChangeSpec := { name := "convNext", fn := fun _ => fun
  | [d1, d2] => { results := [.lit (.bool false)], args := [d1, d2] }
  | _ => none }
def ConvNextWrongFalsely : Prop := convNextRow.holds Tryz.pinned (OpenSpec.ofChange convNextWrong)

/-- 'epactlaw21.ConvOn': WHATEVER THE INPUT: true; the input reads as it did. -/
def convOnSpec : ChangeSpec := { name := "convOn", fn := fun _ => fun
  | [d1, d2, d3, d4] => { results := [.lit (.bool true)], args := [d1, d2, d3, d4] }
  | _ => none }
def convOnRow : OpenClaim := { program := "ytongeknogcboiaagreat", sum := "283ce0174612bca567daa523385f4982525c076a9b2aee451ded3085fd4c43e0", func := "epact/epactlaw21.ConvOn", spec := "convOn", unfollowed := true, recurses := true, apart := false }
def ConvOnSaid : Prop := convOnRow.holds Tryz.pinned (OpenSpec.ofChange convOnSpec)

/-- ITS FALSE NEIGHBOUR: 'it returns false'. Refute it at one input. -/
def convOnWrong : ChangeSpec := { name := "convOn", fn := fun _ => fun
  | [d1, d2, d3, d4] => { results := [.lit (.bool false)], args := [d1, d2, d3, d4] }
  | _ => none }
def ConvOnWrongFalsely : Prop := convOnRow.holds Tryz.pinned (OpenSpec.ofChange convOnWrong)

/- THE SECOND FORM. 'bulk': how many values and letters a reading holds, each counted each time it is reached (what is shared counts as often as it is met; a slice's spare places count too). A statement '..UptoSaid' is the law's where the arguments, and the package variables that the reading takes, are together of bulk at most 1048576: NARROWER than '..Said'. Prove '..Said' where nothing that the law and all that it calls make is longer than what came in: it says more and counts as full. Else prove '..UptoSaid'. A law counts once. -/
mutual
def uptoBulk {H : Type} : DataW H → Nat
  | .lit (.string bytes) => bytes.length + 1
  | .lit _ => 1
  | .nil => 1
  | .ptr d => uptoBulk d + 1
  | .slice elems spare => uptoBulkAll elems + uptoBulkAll spare + 1
  | .agg parts => uptoBulkAll parts + 1
  | .iface _ d => uptoBulk d + 1
  | .map entries => uptoBulkEntries entries + 1
  | .held _ => 1
def uptoBulkAll {H : Type} : List (DataW H) → Nat
  | [] => 0
  | d :: r => uptoBulk d + uptoBulkAll r
def uptoBulkEntries {H : Type} : List (Lit × DataW H) → Nat
  | [] => 0
  | x :: r => uptoBulkEntry x + uptoBulkEntries r
def uptoBulkEntry {H : Type} : Lit × DataW H → Nat
  | (.string bytes, d) => bytes.length + uptoBulk d + 1
  | (_, d) => uptoBulk d + 1
 end
def uptoSmall : (H : Type) → List (DataW H) → Bool := fun _ ds => decide (uptoBulkAll ds ≤ 1048576)
def OpenSpec.upto (s : _root_.Go.ChangeSpec) : _root_.Go.OpenSpec := { _root_.Go.OpenSpec.ofChange s with cond := some uptoSmall }

/-- 'epactlaw21.ConvCover', WHERE WHAT IT READS IS OF BULK AT MOST 1048576: true; the input reads as it did. -/
def convCoverUptoRow : OpenClaim := { program := "ytongeknogcboiaagreat", sum := "283ce0174612bca567daa523385f4982525c076a9b2aee451ded3085fd4c43e0", func := "epact/epactlaw21.ConvCover", spec := "convCover", unfollowed := true, recurses := true, apart := false, narrowed := true }
def ConvCoverUptoSaid : Prop := convCoverUptoRow.holds Tryz.pinned (OpenSpec.upto convCoverSpec)

/-- 'epactlaw21.ConvFar', WHERE WHAT IT READS IS OF BULK AT MOST 1048576: true; the input reads as it did. -/
def convFarUptoRow : OpenClaim := { program := "ytongeknogcboiaagreat", sum := "283ce0174612bca567daa523385f4982525c076a9b2aee451ded3085fd4c43e0", func := "epact/epactlaw21.ConvFar", spec := "convFar", unfollowed := true, recurses := true, apart := false, narrowed := true }
def ConvFarUptoSaid : Prop := convFarUptoRow.holds Tryz.pinned (OpenSpec.upto convFarSpec)

/-- 'epactlaw21.ConvTells', WHERE WHAT IT READS IS OF BULK AT MOST 1048576: true; the input reads as it did. -/
def convTellsUptoRow : OpenClaim := { program := "ytongeknogcboiaagreat", sum := "283ce0174612bca567daa523385f4982525c076a9b2aee451ded3085fd4c43e0", func := "epact/epactlaw21.ConvTells", spec := "convTells", unfollowed := true, recurses := true, apart := false, narrowed := true }
def ConvTellsUptoSaid : Prop := convTellsUptoRow.holds Tryz.pinned (OpenSpec.upto convTellsSpec)

/-- 'epactlaw21.ConvWithin', WHERE WHAT IT READS IS OF BULK AT MOST 1048576: true; the input reads as it did. -/
def convWithinUptoRow : OpenClaim := { program := "ytongeknogcboiaagreat", sum := "283ce0174612bca567daa523385f4982525c076a9b2aee451ded3085fd4c43e0", func := "epact/epactlaw21.ConvWithin", spec := "convWithin", unfollowed := true, recurses := true, apart := false, narrowed := true }
def ConvWithinUptoSaid : Prop := convWithinUptoRow.holds Tryz.pinned (OpenSpec.upto convWithinSpec)

/-- 'epactlaw21.ConvNext', WHERE WHAT IT READS IS OF BULK AT MOST 1048576: true; the input reads as it did. -/
def convNextUptoRow : OpenClaim := { program := "ytongeknogcboiaagreat", sum := "283ce0174612bca567daa523385f4982525c076a9b2aee451ded3085fd4c43e0", func := "epact/epactlaw21.ConvNext", spec := "convNext", unfollowed := true, recurses := true, apart := false, narrowed := true }
def ConvNextUptoSaid : Prop := convNextUptoRow.holds Tryz.pinned (OpenSpec.upto convNextSpec)

/-- 'epactlaw21.ConvOn', WHERE WHAT IT READS IS OF BULK AT MOST 1048576: true; the input reads as it did. -/
def convOnUptoRow : OpenClaim := { program := "ytongeknogcboiaagreat", sum := "283ce0174612bca567daa523385f4982525c076a9b2aee451ded3085fd4c43e0", func := "epact/epactlaw21.ConvOn", spec := "convOn", unfollowed := true, recurses := true, apart := false, narrowed := true }
def ConvOnUptoSaid : Prop := convOnUptoRow.holds Tryz.pinned (OpenSpec.upto convOnSpec)

end Rows
end Go.Proofs.YtongeknogcboiaaGreat

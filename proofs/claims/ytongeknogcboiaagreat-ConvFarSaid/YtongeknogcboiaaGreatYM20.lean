/- Lemmas for laws of chapter 7: what the functions that they reach compute. No condition of its own. -/
import Derived.Test.YtongeknogcboiaaGreatYM11
import Derived.KernelRfl
namespace Go.Proofs.YtongeknogcboiaaGreat.U
set_option linter.unusedVariables false
open Go.Proofs.YtongeknogcboiaaGreat.M Go.Proofs.YtongeknogcboiaaGreat.R
noncomputable def chk (k:Nat) (n:Int):Bool:=match @fu.f wtT k 1 1 [[⟨0,0⟩]] [] n with
  | some (⟨p,c,[[⟨a,b⟩]],[]⟩,e)=>decide (p=n)&&(decide (c=1)&&(decide (a=0)&&(decide (b=n - 1)&&decide (e=0))))
  | _=>false
end Go.Proofs.YtongeknogcboiaaGreat.U

/- Lemmas for laws of chapter 7: what the functions that they reach compute. No condition of its own. -/
import Derived.Test.YtongeknogcboiaaGreatYM20
namespace Go.Proofs.YtongeknogcboiaaGreat.U
open Go.Proofs.YtongeknogcboiaaGreat.M Go.Proofs.YtongeknogcboiaaGreat.R
theorem afa (k:Nat):((List.range 10).all fun n=>chk (k+300) ((5*n+2:Nat):Int))=true:=by kernel_rfl
theorem afb (k:Nat):((List.range 10).all fun n=>chk (k+300) ((5*n+52:Nat):Int))=true:=by kernel_rfl
theorem afc (k:Nat):((List.range 10).all fun n=>chk (k+300) ((5*n+102:Nat):Int))=true:=by kernel_rfl
theorem afd (k:Nat):((List.range 10).all fun n=>chk (k+300) ((5*n+152:Nat):Int))=true:=by kernel_rfl
theorem afe (k:Nat):((List.range 10).all fun n=>chk (k+300) ((5*n+202:Nat):Int))=true:=by kernel_rfl
end Go.Proofs.YtongeknogcboiaaGreat.U

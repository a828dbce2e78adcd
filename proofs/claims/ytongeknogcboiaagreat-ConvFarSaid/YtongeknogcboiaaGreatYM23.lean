/- Lemmas for laws of chapter 7: what the functions that they reach compute. No condition of its own. -/
import Derived.Test.YtongeknogcboiaaGreatYM20
namespace Go.Proofs.YtongeknogcboiaaGreat.U
open Go.Proofs.YtongeknogcboiaaGreat.M Go.Proofs.YtongeknogcboiaaGreat.R
theorem aff (k:Nat):((List.range 10).all fun n=>chk (k+300) ((5*n+3:Nat):Int))=true:=by kernel_rfl
theorem afg (k:Nat):((List.range 10).all fun n=>chk (k+300) ((5*n+53:Nat):Int))=true:=by kernel_rfl
theorem afh (k:Nat):((List.range 10).all fun n=>chk (k+300) ((5*n+103:Nat):Int))=true:=by kernel_rfl
theorem afi (k:Nat):((List.range 10).all fun n=>chk (k+300) ((5*n+153:Nat):Int))=true:=by kernel_rfl
theorem afj (k:Nat):((List.range 10).all fun n=>chk (k+300) ((5*n+203:Nat):Int))=true:=by kernel_rfl
end Go.Proofs.YtongeknogcboiaaGreat.U

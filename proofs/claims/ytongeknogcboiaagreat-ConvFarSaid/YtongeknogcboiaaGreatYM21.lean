/- Lemmas for laws of chapter 7: what the functions that they reach compute. No condition of its own. -/
import Derived.Test.YtongeknogcboiaaGreatYM20
namespace Go.Proofs.YtongeknogcboiaaGreat.U
open Go.Proofs.YtongeknogcboiaaGreat.M Go.Proofs.YtongeknogcboiaaGreat.R
theorem ae5 (k:Nat):((List.range 10).all fun n=>chk (k+300) ((5*n+1:Nat):Int))=true:=by kernel_rfl
theorem ae6 (k:Nat):((List.range 10).all fun n=>chk (k+300) ((5*n+51:Nat):Int))=true:=by kernel_rfl
theorem ae7 (k:Nat):((List.range 10).all fun n=>chk (k+300) ((5*n+101:Nat):Int))=true:=by kernel_rfl
theorem ae8 (k:Nat):((List.range 10).all fun n=>chk (k+300) ((5*n+151:Nat):Int))=true:=by kernel_rfl
theorem ae9 (k:Nat):((List.range 10).all fun n=>chk (k+300) ((5*n+201:Nat):Int))=true:=by kernel_rfl
end Go.Proofs.YtongeknogcboiaaGreat.U

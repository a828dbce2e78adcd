/- Lemmas for laws of chapter 7: what the functions that they reach compute. No condition of its own. -/
import Derived.Test.YtongeknogcboiaaGreatYM20
namespace Go.Proofs.YtongeknogcboiaaGreat.U
open Go.Proofs.YtongeknogcboiaaGreat.M Go.Proofs.YtongeknogcboiaaGreat.R
theorem afp (k:Nat):((List.range 10).all fun n=>chk (k+300) ((5*n+5:Nat):Int))=true:=by kernel_rfl
theorem afq (k:Nat):((List.range 10).all fun n=>chk (k+300) ((5*n+55:Nat):Int))=true:=by kernel_rfl
theorem afr (k:Nat):((List.range 10).all fun n=>chk (k+300) ((5*n+105:Nat):Int))=true:=by kernel_rfl
theorem afs (k:Nat):((List.range 10).all fun n=>chk (k+300) ((5*n+155:Nat):Int))=true:=by kernel_rfl
theorem aft (k:Nat):((List.range 10).all fun n=>chk (k+300) ((5*n+205:Nat):Int))=true:=by kernel_rfl
end Go.Proofs.YtongeknogcboiaaGreat.U

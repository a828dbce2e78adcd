/- Lemmas for laws of chapter 7: what the functions that they reach compute. No condition of its own. -/
import Derived.Test.YtongeknogcboiaaGreatYM20
namespace Go.Proofs.YtongeknogcboiaaGreat.U
open Go.Proofs.YtongeknogcboiaaGreat.M Go.Proofs.YtongeknogcboiaaGreat.R
theorem afk (k:Nat):((List.range 10).all fun n=>chk (k+300) ((5*n+4:Nat):Int))=true:=by kernel_rfl
theorem afl (k:Nat):((List.range 10).all fun n=>chk (k+300) ((5*n+54:Nat):Int))=true:=by kernel_rfl
theorem afm (k:Nat):((List.range 10).all fun n=>chk (k+300) ((5*n+104:Nat):Int))=true:=by kernel_rfl
theorem afn (k:Nat):((List.range 10).all fun n=>chk (k+300) ((5*n+154:Nat):Int))=true:=by kernel_rfl
theorem afo (k:Nat):((List.range 10).all fun n=>chk (k+300) ((5*n+204:Nat):Int))=true:=by kernel_rfl
end Go.Proofs.YtongeknogcboiaaGreat.U

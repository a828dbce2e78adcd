/- The law SpansMake: it holds at every input that its row reads. No condition of its own. -/
import Derived.Test.YtmbmalkpmanaaaaYSpansMake7
import Derived.Test.YtmbmalkpmanaaaaYSpansMake8
import Derived.Test.YtmbmalkpmanaaaaRows
import Derived.WalkKit
import Derived.ProofKit
import Derived.OpenShut
import Derived.ShutString
import Derived.ChangeOld
import Derived.Below
import Derived.SizedLaws
/- SpansMake holds of every list. No condition but the fits. -/
namespace Go.Proofs.Ytmbmalkpmanaaaa.Pure
set_option linter.unusedVariables false
set_option linter.unusedSimpArgs false
open Go.Proofs.Ytmbmalkpmanaaaa.P Go.RowKit Go.Proofs.YtmbmalkpmanaaaaW.PrintWords

theorem SpansMake (l0 : List Sp) (_ : ∀ s ∈ l0, spFits s) (_ : l0.length ≤ 9223372036854775807) : ∃ k, epactlaw02_SpansMake.f k l0 = some true := by
  refine Ev.rounds ?_
  unfold epactlaw02_SpansMake.f
  by_cases h : (l0.length : Int) > 60
  · exact Ev.yes h (Ev.bind awake2_ev (Ev.now _))
  · refine Ev.no h ?_
    have h' : l0.length ≤ 60 := by omega
    have ha : ∀ m : List Sp, m.length ≤ 100000000 → Ev (fun k => epactlow_Alike.f k m m) true := fun m hm => by
      have := alike_ev m m (by omega); rwa [alikeB_iff.2 rfl] at this
    refine Ev.bind (a := l0) (Ev.val (by unfold epactlow_Anew.f; rw [if_pos (by unfold many; omega)])) ?_
    refine Ev.bind (make_ev l0 (by omega)) (Ev.bind (refmake_ev l0 (by omega)) (Ev.yes rfl ?_))
    refine Ev.bind (a := true) (by have := alike_ev (makeS l0).1 (makeS l0).1 (by have := SL.len_le (makeS_spec l0).1; omega); rwa [alikeB_iff.2 rfl] at this) (Ev.yes rfl ?_)
    refine Ev.bind (right_ev l0 (by omega)) (Ev.bind (refright_ev l0 (by omega)) (Ev.yes (by simp) ?_))
    exact Ev.bind (ha l0 (by omega)) (Ev.yes rfl (Ev.bind awake2_ev (Ev.now _)))
end Go.Proofs.Ytmbmalkpmanaaaa.Pure

/- The law epactlaw02_SpansMake holds at every input that its row reads: out of its pure statement and the walk of its code. No condition of its own. -/
namespace Go.Proofs.Ytmbmalkpmanaaaa.spansMake
open Go.ChangeShapes Go.WideShapes Go.ChangeAt Go.RowKit
open Go.ChangeMaps (open_string shut_string)
set_option linter.unusedVariables false
theorem own : ownKnob Try.prog.godebug = none := by kernel_rfl
theorem laidOut : laidOutB Try.prog = true := by kernel_rfl
set_option maxRecDepth 100000 in
theorem lifted (os : Os) (started : os.Started) (H : Type) (enc : TypeId × Value → H) :
    ReturnsInHanded {} Try.checked os 7 .any (Rows.spansMakeSpec.pre6 enc Try.prog Try.f7 Rows.spansMakeRow.domain false) (Rows.spansMakeSpec.post enc Try.prog Try.f7 false true false false) := by
  refine returnsInHanded_of_change_sized (C := Try.checked) own started (by kernel_rfl) Try.func7
    (ChangeSpec.witness6 (enc := enc) (C := Try.checked) false ⟨#[], #[.slice none 0 0], []⟩ 8 (by kernel_rfl) (by kernel_rfl) (by kernel_rfl) (by kernel_rfl)) ?_
  intro W base args ds gs before hval0 hW hcnd hsz0 _
  have hval : ∀ (j : Nat) t v, Try.f7.params[j]? = some t → args[j]? = some v → Value.okWide Try.prog W .any base t v := hval0
  have hW' := hW
  obtain ⟨p, q, hA0, hV, rfl, hfz, hnd⟩ := hW
  have hA : DataW.TrodAll enc Try.prog W 0 (fun _ => true) true Try.f7.params.toList args.toList ds p := hA0
  rw [Try.params7] at hA hval
  obtain ⟨v0, vs0, d0, ds0, p0, q0, hargs, rfl, rfl, h0, r0⟩ := trodAll_cons hA
  obtain ⟨rfl, rfl, rfl⟩ := trodAll_nil r0
  obtain rfl : args = #[v0] := by cases args; simp_all
  obtain ⟨rfl, rfl⟩ := trodVars_none hV
  obtain ⟨a0, len0, cap0, rfl⟩ := okWide_slice Try.underlying24 (hval 0 24 v0 rfl rfl)
  have k0 := h0
  have lt0 : ∀ x ∈ p0, x.block < W.heap.size := by obtain ⟨m, hm⟩ := k0; exact DataW.trod_lt m _ _ _ hm
  obtain ⟨z0, rfl, w0, y0, x0, m0⟩ := P.open_spans h0
  clear hA0 hval0 hsz0
  obtain ⟨kk, hP⟩ := Pure.SpansMake z0 x0 m0
  refine (P.epactlaw02_SpansMake.calls kk _ _ z0 true W y0 w0 hP).mono fun e W' ⟨he, bel0⟩ => ?_
  have bel := bel0
  subst he
  exact ⟨_, rfl, _, _, _, [], _, [], hW', trodAll_mk1 (shut_bool Try.underlying4 _), (trodAll_cons_mk (Below.trod laidOut (by kernel_rfl) (of_decide_eq_true (by kernel_rfl)) k0 bel lt0) trodAll_mk0), rfl, bel.frame _, fun h => by cases h⟩
theorem over : Rows.spansMakeRow.holds Try.pinned (OpenSpec.ofChange Rows.spansMakeSpec) :=
  OpenClaim.holds_of_wide 7 Try.f7 rfl rfl rfl rfl rfl rfl rfl ⟨rfl, rfl, rfl, rfl, rfl⟩ rfl rfl rfl rfl rfl (by kernel_rfl) Try.func7 (by kernel_rfl)
    (of_decide_eq_true (by kernel_rfl)) (by unfold Func.isWrapper; first | (rw [if_pos (by decide +kernel)]; kernel_rfl) | (rw [if_neg (by decide +kernel)]; exact ⟨rfl, rfl⟩))
    (fun os started H enc _ => lifted os started H enc)
theorem proved : Rows.SpansMakeSaid := over
#print axioms proved
end Go.Proofs.Ytmbmalkpmanaaaa.spansMake
namespace Go.Proofs.Ytmbmalkpmanaaaa
/-- The row, under a short name, for the claim. -/
theorem spansMake_holds : Rows.SpansMakeSaid := spansMake.proved
end Go.Proofs.Ytmbmalkpmanaaaa


/- The law FindRises: it holds at every input that its row reads. No condition of its own. -/
import Derived.Test.YtmbmalkpmanaaaaYFindRises7
import Derived.Test.YtmbmalkpmanaaaaYFindRises8
import Derived.Test.YtmbmalkpmanaaaaRows
import Derived.WalkKit
import Derived.ProofKit
import Derived.OpenShut
import Derived.ShutString
import Derived.ChangeOld
import Derived.Below
import Derived.SizedLaws
namespace Go.Proofs.Ytmbmalkpmanaaaa.Pure
set_option linter.unusedVariables false
set_option linter.unusedSimpArgs false
open Go.Proofs.Ytmbmalkpmanaaaa.P Go.RowKit Go.Proofs.YtmbmalkpmanaaaaW.PrintWords

theorem FindRises (p c : Int) (core : List (List Sp)) (odd : List Gn) (ff : FFits p c core odd) (a1 : Int) (_ : fits a1) (a2 : Int) (_ : fits a2) : ∃ k, epactlaw07_FindRises.f k p c core odd a1 a2 = some true := by
  refine Ev.rounds ?_
  unfold epactlaw07_FindRises.f
  obtain ⟨b, b1, b2⟩ := right7_ev (p := p) (c := c) ff.mf
  refine Ev.bind b1 ?_
  cases b with
  | false => exact Ev.no (by simp) (Ev.bind awake7_ev (Ev.now _))
  | true =>
    refine Ev.yes rfl ?_
    obtain ⟨h, _, _⟩ := b2 rfl
    have last : Ev (fun k => epactlaw07_FindRises.j0 k false p c core odd) true := by
      obtain ⟨a, e1, s1⟩ := from_ev h 1099511627777
      obtain ⟨b, e2, s2⟩ := till_ev h (-1099511627777)
      have ha : a.2 = false := Bool.eq_false_iff.2 fun g => by
        obtain ⟨q1, q2, _⟩ := s1.y g
        have := q1.hi; omega
      have hb : b.2 = false := Bool.eq_false_iff.2 fun g => by
        obtain ⟨q1, q2, _⟩ := s2.y g
        have := q1.lo; omega
      have z1 := (s1.n ha).1
      have z2 := (s2.n hb).1
      refine Ev.step (fun k => by rw [epactlaw07_FindRises.j0, if_neg (by simp)]) ?_
      refine Ev.bind e1 (Ev.bind e2 (Ev.no (by rw [ha]; simp) (Ev.no (by rw [hb]; simp) (Ev.yes ?_ (Ev.bind awake7_ev (Ev.now _))))))
      rw [z1, z2, wrap_ok (by omega) (by omega)]; rfl
    have hmn := mn_eq a1 a2
    have hmx := mx_eq a1 a2
    obtain ⟨a, e1, s1⟩ := from_ev h (mn a1 a2)
    obtain ⟨b, e2, s2⟩ := from_ev h (mx a1 a2)
    obtain ⟨d, e3, s3⟩ := till_ev h (mn a1 a2)
    obtain ⟨e, e4, s4⟩ := till_ev h (mx a1 a2)
    have hle : mn a1 a2 ≤ mx a1 a2 := by omega
    refine Ev.bind e1 (Ev.bind e2 (Ev.bind e3 (Ev.bind e4 ?_)))
    have tail : Ev (fun k => if d.2 = true then (if e.2 = true then (epactlaw07_FindRises.j0 k (decide (d.1 > e.1)) p c core odd) else (none)) else (epactlaw07_FindRises.j0 k false p c core odd)) true := by
      cases hd : d.2 with
      | false => exact Ev.no (by simp) last
      | true =>
        obtain ⟨q1, q2, q3⟩ := s3.y hd
        refine Ev.yes rfl ?_
        cases he : e.2 with
        | false => exact absurd (by omega) ((s4.n he).2 d.1 q1)
        | true =>
          have := (s4.y he).2.2 d.1 q1 (by omega)
          refine Ev.yes rfl ?_
          rw [decide_eq_false (by omega)]
          exact last
    cases hb : b.2 with
    | false => exact Ev.no (by simp) tail
    | true =>
      obtain ⟨q1, q2, q3⟩ := s2.y hb
      refine Ev.yes rfl ?_
      cases ha : a.2 with
      | false => exact absurd (by omega) ((s1.n ha).2 b.1 q1)
      | true =>
        have := (s1.y ha).2.2 b.1 q1 (by omega)
        exact Ev.yes rfl (Ev.no (by omega) tail)
end Go.Proofs.Ytmbmalkpmanaaaa.Pure

namespace Go.Proofs.Ytmbmalkpmanaaaa.findRises
open Go.ChangeShapes Go.WideShapes Go.ChangeAt Go.RowKit
open Go.ChangeMaps (open_string shut_string)
set_option linter.unusedVariables false
theorem own : ownKnob Try.prog.godebug = none := by kernel_rfl
theorem laidOut : laidOutB Try.prog = true := by kernel_rfl
set_option maxRecDepth 100000 in
theorem lifted (os : Os) (started : os.Started) (H : Type) (enc : TypeId × Value → H) :
    ReturnsInHanded {} Try.checked os 6 .any (Rows.findRisesSpec.pre6 enc Try.prog Try.f6 Rows.findRisesRow.domain false) (Rows.findRisesSpec.post enc Try.prog Try.f6 false true false false) := by
  refine returnsInHanded_of_change_sized (C := Try.checked) own started (by kernel_rfl) Try.func6
    (ChangeSpec.witness6 (enc := enc) (C := Try.checked) false ⟨#[], #[.agg #[.int .i64 0, .int .i64 0, .slice none 0 0, .slice none 0 0], .int .i64 0, .int .i64 0], []⟩ 8 (by kernel_rfl) (by kernel_rfl) (by kernel_rfl) (by kernel_rfl)) ?_
  intro W base args ds gs before hval0 hW hcnd hsz0 _
  have hval : ∀ (j : Nat) t v, Try.f6.params[j]? = some t → args[j]? = some v → Value.okWide Try.prog W .any base t v := hval0
  have hW' := hW
  obtain ⟨p, q, hA0, hV, rfl, hfz, hnd⟩ := hW
  have hA : DataW.TrodAll enc Try.prog W 0 (fun _ => true) true Try.f6.params.toList args.toList ds p := hA0
  rw [Try.params6] at hA hval
  obtain ⟨v0, vs0, d0, ds0, p0, q0, hargs, rfl, rfl, h0, r0⟩ := trodAll_cons hA
  obtain ⟨v1, vs1, d1, ds1, p1, q1, rfl, rfl, rfl, h1, r1⟩ := trodAll_cons r0
  obtain ⟨v2, vs2, d2, ds2, p2, q2, rfl, rfl, rfl, h2, r2⟩ := trodAll_cons r1
  obtain ⟨rfl, rfl, rfl⟩ := trodAll_nil r2
  obtain rfl : args = #[v0, v1, v2] := by cases args; simp_all
  obtain ⟨rfl, rfl⟩ := trodVars_none hV
  have k0 := h0
  have lt0 : ∀ x ∈ p0, x.block < W.heap.size := by obtain ⟨m, hm⟩ := k0; exact DataW.trod_lt m _ _ _ hm
  obtain ⟨fp0, fc0, fA0, fB0, fz0, fC0, fD0, fo0, rfl, fw0, fx0, fy0, fu0, ff0⟩ := P.open_form (hval 0 28 v0 rfl rfl) h0
  obtain ⟨a1, rfl, rfl, rfl, w1⟩ := open_int Try.underlying3 (hval 1 3 v1 rfl rfl) h1
  obtain ⟨a2, rfl, rfl, rfl, w2⟩ := open_int Try.underlying3 (hval 2 3 v2 rfl rfl) h2
  clear hA0 hval0 hsz0
  obtain ⟨kk, hP⟩ := Pure.FindRises fp0 fc0 fz0 fo0 ff0 a1 w1 a2 w2
  refine (P.epactlaw07_FindRises.calls kk fp0 fc0 _ _ fz0 _ _ fo0 a1 a2 true W fw0 fx0 fy0 fu0 hP).mono fun e W' ⟨he, bel0⟩ => ?_
  have bel := bel0
  subst he
  exact ⟨_, rfl, _, _, _, [], _, [], hW', trodAll_mk1 (shut_bool Try.underlying4 _), (trodAll_cons_mk (Below.trod laidOut (by kernel_rfl) (of_decide_eq_true (by kernel_rfl)) k0 bel lt0) (trodAll_cons_mk (shut_int Try.underlying3 w1) (trodAll_cons_mk (shut_int Try.underlying3 w2) trodAll_mk0))), rfl, bel.frame _, fun h => by cases h⟩
theorem over : Rows.findRisesRow.holds Try.pinned (OpenSpec.ofChange Rows.findRisesSpec) :=
  OpenClaim.holds_of_wide 6 Try.f6 rfl rfl rfl rfl rfl rfl rfl ⟨rfl, rfl, rfl, rfl, rfl⟩ rfl rfl rfl rfl rfl (by kernel_rfl) Try.func6 (by kernel_rfl)
    (of_decide_eq_true (by kernel_rfl)) (by unfold Func.isWrapper; first | (rw [if_pos (by decide +kernel)]; kernel_rfl) | (rw [if_neg (by decide +kernel)]; exact ⟨rfl, rfl⟩))
    (fun os started H enc _ => lifted os started H enc)
theorem proved : Rows.FindRisesSaid := over
#print axioms proved
end Go.Proofs.Ytmbmalkpmanaaaa.findRises
namespace Go.Proofs.Ytmbmalkpmanaaaa
theorem findRises_holds : Rows.FindRisesSaid := findRises.proved
end Go.Proofs.Ytmbmalkpmanaaaa


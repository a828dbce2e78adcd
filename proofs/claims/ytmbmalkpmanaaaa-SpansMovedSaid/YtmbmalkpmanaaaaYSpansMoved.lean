/- The law SpansMoved: it holds at every input that its row reads. No condition of its own. -/
import Derived.Test.YtmbmalkpmanaaaaYSpansMoved7
import Derived.Test.YtmbmalkpmanaaaaYSpansMoved8
import Derived.Test.YtmbmalkpmanaaaaRows
import Derived.WalkKit
import Derived.ProofKit
import Derived.OpenShut
import Derived.ShutString
import Derived.ChangeOld
import Derived.Below
import Derived.SizedLaws
namespace Go.Proofs.Ytmbmalkpmanaaaa.Pure
set_option linter.unusedVariables false
set_option linter.unusedSimpArgs false
open Go.Proofs.Ytmbmalkpmanaaaa.P Go.RowKit Go.Proofs.YtmbmalkpmanaaaaW.PrintWords

theorem fits_rng {n : Int} (h : fits n) : -9223372036854775808 ≤ n ∧ n ≤ 9223372036854775807 := by
  have := Bool.and_eq_true_iff.1 h
  exact ⟨of_decide_eq_true this.1, of_decide_eq_true this.2⟩
theorem same_self {l m : List Sp} (h : l = m) (hl : l.length ≤ 4611686018427387904) : Ev (fun k => spans_Same.f k l m) true := by
  subst h
  have := same_ev l l hl
  rwa [alikeB_iff.2 rfl] at this

theorem moved_j2 (n : Int) (hn : -9223372036854775808 ≤ n ∧ n ≤ 9223372036854775807) (a b : List Sp) (ha : SL (-1099511627776) 1099511627776 a) (hb : SL (-1099511627776) 1099511627776 b) (la : a.length ≤ 40) (lb : b.length ≤ 40)
    (hok : a.all (okM n) = true) : Ev (fun k => epactlaw02_SpansMoved.j2 k n a b (a.map (shiftS n)) (moveS n b).1 (moveS n b).2) true := by
  refine Ev.step (fun k => by rw [epactlaw02_SpansMoved.j2]) ?_
  by_cases hob : b.all (okM n) = true
  · have e : moveS n b = (b.map (shiftS n), 0) := by unfold moveS; rw [if_pos hob]
    rw [e]
    refine Ev.yes rfl ?_
    obtain ⟨k1, k2⟩ := kept_SL (fun a b => a && b) rfl ha hb
    have hoc : (keptL (fun a b => a && b) a b).all (okM n) = true := by
      rw [List.all_eq_true]
      intro s hs
      have ts := SL.ticks k1 hs
      have in_ : ∀ x, s.f0 ≤ x → x ≤ s.f1 → -1099511627776 ≤ x + n ∧ x + n ≤ 1099511627776 := fun x h1 h2 => by
        have h := k2 x
        rw [hasL_true.2 ⟨s, hs, h1, h2⟩] at h
        obtain ⟨g1, _⟩ := Bool.and_eq_true_iff.1 h.symm
        obtain ⟨t, t1, t2, t3⟩ := hasL_true.1 g1
        have := okM_iff.1 (List.all_eq_true.1 hok t t1)
        omega
      exact okM_iff.2 ⟨in_ s.f0 (by omega) ts.2.1, in_ s.f1 ts.2.1 (by omega)⟩
    have ec : moveS n (keptL (fun a b => a && b) a b) = ((keptL (fun a b => a && b) a b).map (shiftS n), 0) := by unfold moveS; rw [if_pos hoc]
    have sa := SL.moved ha hok
    have sb := SL.moved hb hob
    have sc := SL.moved k1 hoc
    obtain ⟨m1, m2⟩ := kept_SL (fun a b => a && b) rfl sa sb
    refine Ev.bind (Ev.val (cut_f a b (by omega))) (Ev.bind (move_ev _ n k1 hn) ?_)
    rw [ec]
    refine Ev.yes rfl (Ev.bind (Ev.val (cut_f _ _ (by simp only [List.length_map]; omega))) (Ev.bind (same_self (SL.uniq sc m1 (fun x => by rw [m2, hasL_shift, hasL_shift, hasL_shift, k2])) (by have := SL.len_le sc; show (List.map _ _).length ≤ _; omega)) (Ev.yes rfl ?_)))
    refine Ev.bind (Ev.val (ahead_f _ _ (by simp only [List.length_map]; omega))) (Ev.bind (Ev.val (ahead_f a b (by omega))) (Ev.yes (by rw [ahead_shift]; simp) (Ev.bind awake2_ev (Ev.now _))))
  · have e : moveS n b = ([], 20) := by unfold moveS; rw [if_neg hob]
    rw [e]
    exact Ev.no (by simp) (Ev.bind awake2_ev (Ev.now _))

theorem moved_j0 (n : Int) (hn : -9223372036854775808 ≤ n ∧ n ≤ 9223372036854775807) (a b : List Sp) (ha : SL (-1099511627776) 1099511627776 a) (hb : SL (-1099511627776) 1099511627776 b) (la : a.length ≤ 40) (lb : b.length ≤ 40)
    (hok : a.all (okM n) = true) : Ev (fun k => epactlaw02_SpansMoved.j0 k n a b (a.map (shiftS n)) (moveS n b).1 (moveS n b).2 false) true := by
  refine Ev.step (fun k => by rw [epactlaw02_SpansMoved.j0]) (Ev.no (by simp) ?_)
  have j1no : Ev (fun k => epactlaw02_SpansMoved.j1 k n a b (a.map (shiftS n)) (moveS n b).1 (moveS n b).2 false) true := by
    refine Ev.step (fun k => by rw [epactlaw02_SpansMoved.j1]) (Ev.no (by simp) (moved_j2 n hn a b ha hb la lb hok))
  by_cases h : (a.length : Int) > 0
  · refine Ev.yes h ?_
    by_cases h2 : n = -9223372036854775808
    · have e : (n != (-9223372036854775808)) = false := by simp [h2]
      rw [e]; exact j1no
    · have e : (n != (-9223372036854775808)) = true := by simp [h2]
      rw [e]
      refine Ev.step (fun k => by rw [epactlaw02_SpansMoved.j1]) (Ev.yes rfl ?_)
      rw [wrap_ok (n := -n) (by omega) (by omega)]
      refine Ev.bind (move_ev _ (-n) (SL.moved ha hok) (by omega)) ?_
      have e2 : moveS (-n) (a.map (shiftS n)) = (a, 0) := by
        unfold moveS
        rw [if_pos (by
          rw [List.all_eq_true]
          intro s hs
          obtain ⟨t, ht, rfl⟩ := List.mem_map.1 hs
          have := SL.ticks ha ht
          rw [okM_iff]; simp only [shiftS]; omega), shift_back]
      rw [e2]
      exact Ev.yes rfl (Ev.bind (same_self rfl (by show a.length ≤ _; omega)) (Ev.yes rfl (moved_j2 n hn a b ha hb la lb hok)))
  · exact Ev.no h j1no

theorem SpansMoved (l0 : List Sp) (_ : ∀ s ∈ l0, spFits s) (_ : l0.length ≤ 9223372036854775807) (l1 : List Sp) (_ : ∀ s ∈ l1, spFits s) (_ : l1.length ≤ 9223372036854775807) (a2 : Int) (hf : fits a2) : ∃ k, epactlaw02_SpansMoved.f k l0 l1 a2 = some true := by
  refine Ev.rounds ?_
  have hn : -9223372036854775808 ≤ a2 ∧ a2 ≤ 9223372036854775807 := fits_rng hf
  unfold epactlaw02_SpansMoved.f
  refine Ev.bind (made_ev l0) (Ev.bind (made_ev l1) ?_)
  have ha := madeS_SL l0
  have hb := madeS_SL l1
  have la := madeS_len l0
  have lb := madeS_len l1
  generalize madeS l0 = a at *
  generalize madeS l1 = b at *
  refine Ev.bind (move_ev a a2 ha hn) (Ev.bind (move_ev b a2 hb hn) ?_)
  by_cases hok : a.all (okM a2) = true
  · have e : moveS a2 a = (a.map (shiftS a2), 0) := by unfold moveS; rw [if_pos hok]
    rw [e]
    refine Ev.yes rfl ?_
    have sa := SL.moved ha hok
    refine Ev.bind (right_ev _ (by simp only [List.length_map]; omega)) (Ev.yes (slB_iff.2 sa) ?_)
    refine Ev.bind (count_ev _ sa) (Ev.bind (count_ev _ ha) (Ev.yes (cntL_shift a2 a) ?_))
    have go := moved_j0 a2 hn a b ha hb la lb hok
    by_cases h : (a.length : Int) > 0
    · refine Ev.yes h (Ev.yes (by simpa using h) (Ev.yes (by omega) ?_))
      obtain ⟨s, r, rfl⟩ : ∃ s r, a = s :: r := by cases a with | nil => simp at h | cons s r => exact ⟨s, r, rfl⟩
      have t := okM_iff.1 (List.all_eq_true.1 hok s (by simp))
      have e2 : ((rd_T23 ((s :: r).map (shiftS a2)) 0).f0 != wrap64 ((rd_T23 (s :: r) 0).f0 + a2)) = false := by
        have e3 : (rd_T23 ((s :: r).map (shiftS a2)) 0).f0 = s.f0 + a2 := by simp [rd_T23, shiftS]
        have e4 : (rd_T23 (s :: r) 0).f0 = s.f0 := by simp [rd_T23]
        rw [e3, e4, wrap_ok (by omega) (by omega)]; simp
      show Ev (fun k => epactlaw02_SpansMoved.j0 k a2 (s :: r) b ((s :: r).map (shiftS a2)) (moveS a2 b).1 (moveS a2 b).2 ((rd_T23 ((s :: r).map (shiftS a2)) 0).f0 != wrap64 ((rd_T23 (s :: r) 0).f0 + a2))) true
      rw [e2]; exact go
    · exact Ev.no h go
  · have e : moveS a2 a = ([], 20) := by unfold moveS; rw [if_neg hok]
    rw [e]
    refine Ev.no (by simp) (Ev.yes rfl (Ev.yes (by simp) (Ev.yes ?_ (Ev.bind awake2_ev (Ev.now _)))))
    cases a with
    | nil => simp at hok
    | cons s r => simp only [List.length_cons]; omega
end Go.Proofs.Ytmbmalkpmanaaaa.Pure

namespace Go.Proofs.Ytmbmalkpmanaaaa.spansMoved
open Go.ChangeShapes Go.WideShapes Go.ChangeAt Go.RowKit
open Go.ChangeMaps (open_string shut_string)
set_option linter.unusedVariables false
theorem own : ownKnob Try.prog.godebug = none := by kernel_rfl
theorem laidOut : laidOutB Try.prog = true := by kernel_rfl
set_option maxRecDepth 100000 in
theorem lifted (os : Os) (started : os.Started) (H : Type) (enc : TypeId × Value → H) :
    ReturnsInHanded {} Try.checked os 9 .any (Rows.spansMovedSpec.pre6 enc Try.prog Try.f9 Rows.spansMovedRow.domain false) (Rows.spansMovedSpec.post enc Try.prog Try.f9 false true false false) := by
  refine returnsInHanded_of_change_sized (C := Try.checked) own started (by kernel_rfl) Try.func9
    (ChangeSpec.witness6 (enc := enc) (C := Try.checked) false ⟨#[], #[.slice none 0 0, .slice none 0 0, .int .i64 0], []⟩ 8 (by kernel_rfl) (by kernel_rfl) (by kernel_rfl) (by kernel_rfl)) ?_
  intro W base args ds gs before hval0 hW hcnd hsz0 _
  have hval : ∀ (j : Nat) t v, Try.f9.params[j]? = some t → args[j]? = some v → Value.okWide Try.prog W .any base t v := hval0
  have hW' := hW
  obtain ⟨p, q, hA0, hV, rfl, hfz, hnd⟩ := hW
  have hA : DataW.TrodAll enc Try.prog W 0 (fun _ => true) true Try.f9.params.toList args.toList ds p := hA0
  rw [Try.params9] at hA hval
  obtain ⟨v0, vs0, d0, ds0, p0, q0, hargs, rfl, rfl, h0, r0⟩ := trodAll_cons hA
  obtain ⟨v1, vs1, d1, ds1, p1, q1, rfl, rfl, rfl, h1, r1⟩ := trodAll_cons r0
  obtain ⟨v2, vs2, d2, ds2, p2, q2, rfl, rfl, rfl, h2, r2⟩ := trodAll_cons r1
  obtain ⟨rfl, rfl, rfl⟩ := trodAll_nil r2
  obtain rfl : args = #[v0, v1, v2] := by cases args; simp_all
  obtain ⟨rfl, rfl⟩ := trodVars_none hV
  obtain ⟨a0, len0, cap0, rfl⟩ := okWide_slice Try.underlying24 (hval 0 24 v0 rfl rfl)
  have k0 := h0
  have lt0 : ∀ x ∈ p0, x.block < W.heap.size := by obtain ⟨m, hm⟩ := k0; exact DataW.trod_lt m _ _ _ hm
  obtain ⟨z0, rfl, w0, y0, x0, m0⟩ := P.open_spans h0
  obtain ⟨a1, len1, cap1, rfl⟩ := okWide_slice Try.underlying24 (hval 1 24 v1 rfl rfl)
  have k1 := h1
  have lt1 : ∀ x ∈ p1, x.block < W.heap.size := by obtain ⟨m, hm⟩ := k1; exact DataW.trod_lt m _ _ _ hm
  obtain ⟨z1, rfl, w1, y1, x1, m1⟩ := P.open_spans h1
  obtain ⟨a2, rfl, rfl, rfl, w2⟩ := open_int Try.underlying3 (hval 2 3 v2 rfl rfl) h2
  clear hA0 hval0 hsz0
  obtain ⟨kk, hP⟩ := Pure.SpansMoved z0 x0 m0 z1 x1 m1 a2 w2
  refine (P.epactlaw02_SpansMoved.calls kk _ _ z0 _ _ z1 a2 true W y0 w0 y1 w1 hP).mono fun e W' ⟨he, bel0⟩ => ?_
  have bel := bel0
  subst he
  exact ⟨_, rfl, _, _, _, [], _, [], hW', trodAll_mk1 (shut_bool Try.underlying4 _), (trodAll_cons_mk (Below.trod laidOut (by kernel_rfl) (of_decide_eq_true (by kernel_rfl)) k0 bel lt0) (trodAll_cons_mk (Below.trod laidOut (by kernel_rfl) (of_decide_eq_true (by kernel_rfl)) k1 bel lt1) (trodAll_cons_mk (shut_int Try.underlying3 w2) trodAll_mk0))), rfl, bel.frame _, fun h => by cases h⟩
theorem over : Rows.spansMovedRow.holds Try.pinned (OpenSpec.ofChange Rows.spansMovedSpec) :=
  OpenClaim.holds_of_wide 9 Try.f9 rfl rfl rfl rfl rfl rfl rfl ⟨rfl, rfl, rfl, rfl, rfl⟩ rfl rfl rfl rfl rfl (by kernel_rfl) Try.func9 (by kernel_rfl)
    (of_decide_eq_true (by kernel_rfl)) (by unfold Func.isWrapper; first | (rw [if_pos (by decide +kernel)]; kernel_rfl) | (rw [if_neg (by decide +kernel)]; exact ⟨rfl, rfl⟩))
    (fun os started H enc _ => lifted os started H enc)
theorem proved : Rows.SpansMovedSaid := over
#print axioms proved
end Go.Proofs.Ytmbmalkpmanaaaa.spansMoved
namespace Go.Proofs.Ytmbmalkpmanaaaa
theorem spansMoved_holds : Rows.SpansMovedSaid := spansMoved.proved
end Go.Proofs.Ytmbmalkpmanaaaa


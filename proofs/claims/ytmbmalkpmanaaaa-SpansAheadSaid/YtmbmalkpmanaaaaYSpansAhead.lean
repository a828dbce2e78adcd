/- The law SpansAhead: it holds at every input that its row reads. No condition of its own. -/
import Derived.Test.YtmbmalkpmanaaaaYSpansAhead6
import Derived.Test.YtmbmalkpmanaaaaYSpansAhead8
import Derived.Test.YtmbmalkpmanaaaaRows
import Derived.WalkKit
import Derived.ProofKit
import Derived.OpenShut
import Derived.ShutString
import Derived.ChangeOld
import Derived.Below
import Derived.SizedLaws
/- SpansAhead holds of any three lists. No condition but the fits. -/
namespace Go.Proofs.Ytmbmalkpmanaaaa.Pure
set_option linter.unusedVariables false
set_option linter.unusedSimpArgs false
open Go.Proofs.Ytmbmalkpmanaaaa.P Go.RowKit Go.Proofs.YtmbmalkpmanaaaaW.PrintWords

theorem hull_cons {a : List Sp} {lo hi : Int} (h : SL lo hi a) (hn : a ≠ []) : ∃ s z, a.head? = some s ∧ a.getLast? = some z ∧ hullS a = (s.f0, z.f1, true) ∧ s ∈ a ∧ z ∈ a ∧ ∀ t ∈ a, s.f0 ≤ t.f0 ∧ t.f1 ≤ z.f1 := by
  obtain ⟨s, r, rfl⟩ := List.exists_cons_of_ne_nil hn
  obtain ⟨z, hz⟩ : ∃ z, (s :: r).getLast? = some z := ⟨_, List.getLast?_eq_some_getLast (by simp)⟩
  have hmz : z ∈ s :: r := List.mem_of_getLast? hz
  refine ⟨s, z, rfl, hz, by simp only [hullS, hz]; rfl, by simp, hmz, fun t ht => ?_⟩
  obtain ⟨j, hj, rfl⟩ := List.getElem_of_mem ht
  have hzl : z = (s :: r)[(s :: r).length - 1]'(by simp) := by
    rw [List.getLast?_eq_getElem?] at hz
    rw [List.getElem?_eq_getElem (by simp)] at hz
    exact (Option.some.inj hz).symm
  constructor
  · cases j with
    | zero => simp
    | succ j =>
      have := SL.rise h 0 (j + 1) hj (by omega)
      have := (SL.get h 0 (by simp)).2.1
      simp only [List.getElem_cons_zero] at *
      omega
  · rw [hzl]
    rcases Nat.lt_or_ge j ((s :: r).length - 1) with g | g
    · have := SL.rise h j ((s :: r).length - 1) (by simp) g
      have := (SL.get h ((s :: r).length - 1) (by simp)).2.1
      omega
    · have : j = (s :: r).length - 1 := by omega
      subst this; omega

theorem j2_ev (a b : List Sp) (x : Bool) (ha : SL (-1099511627776) 1099511627776 a) (la : a.length ≤ 40) (hx : x = false) : Ev (fun k => epactlaw02_SpansAhead.j2 k a b x) true := by
  refine Ev.step (fun k => by rw [epactlaw02_SpansAhead.j2]) ?_
  refine Ev.no (by simp [hx]) ?_
  refine Ev.bind (a := true) (Ev.val (by rw [ahead_f _ _ (by simp)]; rfl)) (Ev.yes rfl ?_)
  refine Ev.bind (a := true) (Ev.val (by rw [ahead_f _ _ (by omega)]; unfold aheadS; split <;> simp_all)) (Ev.yes rfl ?_)
  by_cases h : a = []
  · subst h; exact Ev.yes (by simp) (Ev.bind awake2_ev (Ev.now _))
  · refine Ev.no (by have := List.length_pos_iff.2 h; omega) ?_
    obtain ⟨s, z, h1, h2, _, h4, h5, h6⟩ := hull_cons ha h
    refine Ev.bind (a := false) (Ev.val (by
      rw [ahead_f _ _ (by omega)]; unfold aheadS; rw [h1, h2]
      have := h6 s h4
      have := SL.ticks ha h4
      simp only [Option.some.injEq, decide_eq_false_iff_not]; omega)) (Ev.no (by simp) ?_)
    exact Ev.bind awake2_ev (Ev.now _)

theorem j1_ev (a b : List Sp) (ha : SL (-1099511627776) 1099511627776 a) (la : a.length ≤ 40) : Ev (fun k => epactlaw02_SpansAhead.j1 k a b (hullS a).2.2 false (hullS a).1 (hullS a).2.1) true := by
  refine Ev.step (fun k => by rw [epactlaw02_SpansAhead.j1]) ?_
  refine Ev.no (by simp) ?_
  by_cases h : a = []
  · subst h
    refine Ev.no (by simp [hullS]) (j2_ev _ _ _ ha la rfl)
  · obtain ⟨s, z, h1, h2, h3, h4, h5, h6⟩ := hull_cons ha h
    rw [h3]
    have ts := SL.ticks ha h4
    have tz := SL.ticks ha h5
    have e1 : hasL a s.f0 = true := hasL_true.2 ⟨s, h4, by omega, by omega⟩
    have e2 : hasL a z.f1 = true := hasL_true.2 ⟨z, h5, by omega, by omega⟩
    have e3 : hasL a (wrap64 (s.f0 - 1)) = false := by
      rw [wrap_ok (by omega) (by omega), Bool.eq_false_iff]
      intro e
      obtain ⟨t, t1, t2, t3⟩ := hasL_true.1 e
      have := h6 t t1; omega
    have e4 : hasL a (wrap64 (z.f1 + 1)) = false := by
      rw [wrap_ok (by omega) (by omega), Bool.eq_false_iff]
      intro e
      obtain ⟨t, t1, t2, t3⟩ := hasL_true.1 e
      have := h6 t t1; omega
    refine Ev.yes rfl (Ev.bind (has_ev a s.f0 ha (by omega)) (Ev.yes e1 ?_))
    refine Ev.bind (has_ev a z.f1 ha (by omega)) (Ev.yes e2 ?_)
    refine Ev.bind (has_ev a _ ha (by omega)) (Ev.no (by rw [e3]; simp) ?_)
    refine Ev.bind (has_ev a _ ha (by omega)) (j2_ev _ _ _ ha la e4)

theorem meet_f (a b : List Sp) (h : a.length + b.length ≤ 1000) : spans_Meet.f a b = some (decide (((keptL (fun a b => a && b) a b).length : Int) > 0)) := by
  unfold spans_Meet.f spans_Cut.f
  rw [if_pos (by unfold many; omega), Option.bind_some]

theorem SpansAhead (l0 : List Sp) (_ : ∀ s ∈ l0, spFits s) (_ : l0.length ≤ 9223372036854775807) (l1 : List Sp) (_ : ∀ s ∈ l1, spFits s) (_ : l1.length ≤ 9223372036854775807) (l2 : List Sp) (_ : ∀ s ∈ l2, spFits s) (_ : l2.length ≤ 9223372036854775807) : ∃ k, epactlaw02_SpansAhead.f k l0 l1 l2 = some true := by
  refine Ev.rounds ?_
  unfold epactlaw02_SpansAhead.f
  refine Ev.bind (made_ev l0) (Ev.bind (made_ev l1) (Ev.bind (made_ev l2) ?_))
  have ha := madeS_SL l0
  have hb := madeS_SL l1
  have hc := madeS_SL l2
  have la := madeS_len l0
  have lb := madeS_len l1
  have lc := madeS_len l2
  generalize madeS l0 = a at *
  generalize madeS l1 = b at *
  generalize madeS l2 = c at *
  refine Ev.bind (Ev.val (hull_f a (by omega))) (Ev.bind (Ev.val (hull_f b (by omega))) ?_)
  have go : Ev (fun k => epactlaw02_SpansAhead.j0 k a b c (hullS a).2.2 (aheadS a b) (hullS a).1 (hullS a).2.1) true := by
    refine Ev.step (fun k => by rw [epactlaw02_SpansAhead.j0]) ?_
    refine Ev.bind (Ev.val (ahead_f a b (by omega))) (Ev.no (by simp) ?_)
    have tail : Ev (fun k => if (b.length : Int) > 0 then ((spans_Ahead.f a b).bind fun t1521 => (if t1521 = true then ((spans_Ahead.f b c).bind fun t1522 => (if t1522 = true then ((spans_Ahead.f a c).bind fun t1523 => (epactlaw02_SpansAhead.j1 k a b (hullS a).2.2 (!t1523) (hullS a).1 (hullS a).2.1)) else (epactlaw02_SpansAhead.j1 k a b (hullS a).2.2 false (hullS a).1 (hullS a).2.1))) else (epactlaw02_SpansAhead.j1 k a b (hullS a).2.2 false (hullS a).1 (hullS a).2.1))) else (epactlaw02_SpansAhead.j1 k a b (hullS a).2.2 false (hullS a).1 (hullS a).2.1)) true := by
      by_cases hb0 : (b.length : Int) > 0
      · refine Ev.yes hb0 (Ev.bind (Ev.val (ahead_f a b (by omega))) ?_)
        by_cases h1 : aheadS a b = true
        · refine Ev.yes h1 (Ev.bind (Ev.val (ahead_f b c (by omega))) ?_)
          by_cases h2 : aheadS b c = true
          · refine Ev.yes h2 (Ev.bind (a := true) (Ev.val ?_) (j1_ev a b ha la))
            rw [ahead_f a c (by omega)]
            have hbn : b ≠ [] := by intro h; subst h; simp at hb0
            obtain ⟨s, z, b1, b2, _, b4, b5, b6⟩ := hull_cons hb hbn
            have tz := SL.ticks hb b4
            have := b6 s b4
            unfold aheadS at h1 h2 ⊢
            rw [b1] at h1; rw [b2] at h2
            split
            · rename_i u v hu hv
              rw [hu] at h1; rw [hv] at h2
              simp only [decide_eq_true_eq, Option.some.injEq] at h1 h2 ⊢; omega
            · rfl
          · exact Ev.no h2 (j1_ev a b ha la)
        · exact Ev.no h1 (j1_ev a b ha la)
      · exact Ev.no hb0 (j1_ev a b ha la)
    by_cases h1 : aheadS a b = true
    · refine Ev.yes h1 (Ev.bind (Ev.val (meet_f a b (by omega))) (Ev.no ?_ tail))
      obtain ⟨k1, k2⟩ := kept_SL (fun a b => a && b) rfl ha hb
      have : keptL (fun a b => a && b) a b = [] := SL.empty k1 (fun x => by
        rw [k2, Bool.eq_false_iff]
        intro e
        simp only [Bool.and_eq_true] at e
        obtain ⟨t, t1, t2, t3⟩ := hasL_true.1 e.1
        obtain ⟨u, u1, u2, u3⟩ := hasL_true.1 e.2
        have han : a ≠ [] := List.ne_nil_of_mem t1
        have hbn : b ≠ [] := List.ne_nil_of_mem u1
        obtain ⟨sa, za, a1, a2, _, a4, a5, a6⟩ := hull_cons ha han
        obtain ⟨sb, zb, b1, b2, _, b4, b5, b6⟩ := hull_cons hb hbn
        unfold aheadS at h1; rw [a2, b1] at h1
        have := a6 t t1
        have := b6 u u1
        simp only [decide_eq_true_eq] at h1; omega)
      rw [this]; simp
    · exact Ev.no h1 tail
  by_cases h1 : a = []
  · subst h1
    have e : aheadS [] b = true := rfl
    rw [e] at go
    exact Ev.no (by simp [hullS]) go
  · obtain ⟨sa, za, a1, a2, a3, a4, a5, a6⟩ := hull_cons ha h1
    refine Ev.yes (by rw [a3]) ?_
    by_cases h2 : b = []
    · subst h2
      have e : aheadS a [] = true := by unfold aheadS; rw [a2]; rfl
      rw [e] at go
      exact Ev.no (by simp [hullS]) go
    · obtain ⟨sb, zb, b1, b2, b3, b4, b5, b6⟩ := hull_cons hb h2
      refine Ev.yes (by rw [b3]) ?_
      have e : aheadS a b = decide ((hullS a).2.1 < (hullS b).1) := by unfold aheadS; rw [a2, b1, a3, b3]
      rw [e] at go
      exact go
end Go.Proofs.Ytmbmalkpmanaaaa.Pure

/- The law epactlaw02_SpansAhead holds at every input that its row reads: out of its pure statement and the walk of its code. No condition of its own. -/
namespace Go.Proofs.Ytmbmalkpmanaaaa.spansAhead
open Go.ChangeShapes Go.WideShapes Go.ChangeAt Go.RowKit
open Go.ChangeMaps (open_string shut_string)
set_option linter.unusedVariables false
theorem own : ownKnob Try.prog.godebug = none := by kernel_rfl
theorem laidOut : laidOutB Try.prog = true := by kernel_rfl
set_option maxRecDepth 100000 in
theorem lifted (os : Os) (started : os.Started) (H : Type) (enc : TypeId × Value → H) :
    ReturnsInHanded {} Try.checked os 10 .any (Rows.spansAheadSpec.pre6 enc Try.prog Try.f10 Rows.spansAheadRow.domain false) (Rows.spansAheadSpec.post enc Try.prog Try.f10 false true false false) := by
  refine returnsInHanded_of_change_sized (C := Try.checked) own started (by kernel_rfl) Try.func10
    (ChangeSpec.witness6 (enc := enc) (C := Try.checked) false ⟨#[], #[.slice none 0 0, .slice none 0 0, .slice none 0 0], []⟩ 8 (by kernel_rfl) (by kernel_rfl) (by kernel_rfl) (by kernel_rfl)) ?_
  intro W base args ds gs before hval0 hW hcnd hsz0 _
  have hval : ∀ (j : Nat) t v, Try.f10.params[j]? = some t → args[j]? = some v → Value.okWide Try.prog W .any base t v := hval0
  have hW' := hW
  obtain ⟨p, q, hA0, hV, rfl, hfz, hnd⟩ := hW
  have hA : DataW.TrodAll enc Try.prog W 0 (fun _ => true) true Try.f10.params.toList args.toList ds p := hA0
  rw [Try.params10] at hA hval
  obtain ⟨v0, vs0, d0, ds0, p0, q0, hargs, rfl, rfl, h0, r0⟩ := trodAll_cons hA
  obtain ⟨v1, vs1, d1, ds1, p1, q1, rfl, rfl, rfl, h1, r1⟩ := trodAll_cons r0
  obtain ⟨v2, vs2, d2, ds2, p2, q2, rfl, rfl, rfl, h2, r2⟩ := trodAll_cons r1
  obtain ⟨rfl, rfl, rfl⟩ := trodAll_nil r2
  obtain rfl : args = #[v0, v1, v2] := by cases args; simp_all
  obtain ⟨rfl, rfl⟩ := trodVars_none hV
  obtain ⟨a0, len0, cap0, rfl⟩ := okWide_slice Try.underlying24 (hval 0 24 v0 rfl rfl)
  have k0 := h0
  have lt0 : ∀ x ∈ p0, x.block < W.heap.size := by obtain ⟨m, hm⟩ := k0; exact DataW.trod_lt m _ _ _ hm
  obtain ⟨z0, rfl, w0, y0, x0, m0⟩ := P.open_spans h0
  obtain ⟨a1, len1, cap1, rfl⟩ := okWide_slice Try.underlying24 (hval 1 24 v1 rfl rfl)
  have k1 := h1
  have lt1 : ∀ x ∈ p1, x.block < W.heap.size := by obtain ⟨m, hm⟩ := k1; exact DataW.trod_lt m _ _ _ hm
  obtain ⟨z1, rfl, w1, y1, x1, m1⟩ := P.open_spans h1
  obtain ⟨a2, len2, cap2, rfl⟩ := okWide_slice Try.underlying24 (hval 2 24 v2 rfl rfl)
  have k2 := h2
  have lt2 : ∀ x ∈ p2, x.block < W.heap.size := by obtain ⟨m, hm⟩ := k2; exact DataW.trod_lt m _ _ _ hm
  obtain ⟨z2, rfl, w2, y2, x2, m2⟩ := P.open_spans h2
  clear hA0 hval0 hsz0
  obtain ⟨kk, hP⟩ := Pure.SpansAhead z0 x0 m0 z1 x1 m1 z2 x2 m2
  refine (P.epactlaw02_SpansAhead.calls kk _ _ z0 _ _ z1 _ _ z2 true W y0 w0 y1 w1 y2 w2 hP).mono fun e W' ⟨he, bel0⟩ => ?_
  have bel := bel0
  subst he
  exact ⟨_, rfl, _, _, _, [], _, [], hW', trodAll_mk1 (shut_bool Try.underlying4 _), (trodAll_cons_mk (Below.trod laidOut (by kernel_rfl) (of_decide_eq_true (by kernel_rfl)) k0 bel lt0) (trodAll_cons_mk (Below.trod laidOut (by kernel_rfl) (of_decide_eq_true (by kernel_rfl)) k1 bel lt1) (trodAll_cons_mk (Below.trod laidOut (by kernel_rfl) (of_decide_eq_true (by kernel_rfl)) k2 bel lt2) trodAll_mk0))), rfl, bel.frame _, fun h => by cases h⟩
theorem over : Rows.spansAheadRow.holds Try.pinned (OpenSpec.ofChange Rows.spansAheadSpec) :=
  OpenClaim.holds_of_wide 10 Try.f10 rfl rfl rfl rfl rfl rfl rfl ⟨rfl, rfl, rfl, rfl, rfl⟩ rfl rfl rfl rfl rfl (by kernel_rfl) Try.func10 (by kernel_rfl)
    (of_decide_eq_true (by kernel_rfl)) (by unfold Func.isWrapper; first | (rw [if_pos (by decide +kernel)]; kernel_rfl) | (rw [if_neg (by decide +kernel)]; exact ⟨rfl, rfl⟩))
    (fun os started H enc _ => lifted os started H enc)
theorem proved : Rows.SpansAheadSaid := over
#print axioms proved
end Go.Proofs.Ytmbmalkpmanaaaa.spansAhead
namespace Go.Proofs.Ytmbmalkpmanaaaa
/-- The row, under a short name, for the claim. -/
theorem spansAhead_holds : Rows.SpansAheadSaid := spansAhead.proved
end Go.Proofs.Ytmbmalkpmanaaaa


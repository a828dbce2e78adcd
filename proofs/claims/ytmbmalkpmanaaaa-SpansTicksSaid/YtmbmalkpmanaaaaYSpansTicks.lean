/- The law SpansTicks: it holds at every input that its row reads. No condition of its own. -/
import Derived.Test.YtmbmalkpmanaaaaYSpansTicks7
import Derived.Test.YtmbmalkpmanaaaaYSpansTicks8
import Derived.Test.YtmbmalkpmanaaaaRows
import Derived.WalkKit
import Derived.ProofKit
import Derived.OpenShut
import Derived.ShutString
import Derived.ChangeOld
import Derived.Below
import Derived.SizedLaws
namespace Go.Proofs.Ytmbmalkpmanaaaa.Pure
set_option linter.unusedVariables false
set_option linter.unusedSimpArgs false
open Go.Proofs.Ytmbmalkpmanaaaa.P Go.RowKit Go.Proofs.YtmbmalkpmanaaaaW.PrintWords

theorem rdi_mid (pre r : List Int) (s : Int) : rd (pre ++ s :: r) (pre.length : Int) = s := by simp [rd]
theorem rdL_mid (pre r : List (List Sp)) (s : List Sp) : rd_L2 (pre ++ s :: r) (pre.length : Int) = s := by simp [rd_L2]

section
variable (a b : List Sp)
abbrev uS := keptL (fun a b => a || b) a b
abbrev cS := keptL (fun a b => a && b) a b
abbrev dS := keptL (fun a b => a && !b) a b
variable (ha : SL (-1099511627776) 1099511627776 a) (hb : SL (-1099511627776) 1099511627776 b) (la : a.length ≤ 40) (lb : b.length ≤ 40)
include ha hb la lb

theorem ticks_end : Ev (fun k => (epactlow_Anew.f (dS a b)).bind fun t2020 => (if t2020.length + (cS a b).length < 8796093022208 then ((spans_Make.f k (t2020 ++ (cS a b))).bind fun bt2026 => (if bt2026.2 = 0 then ((spans_Same.f k bt2026.1 a).bind fun t2030 => (if t2030 = true then ((epactlaw02_awake.f k).bind fun t2031 => (some t2031)) else (none))) else (none))) else (none))) true := by
  have t := kept_SL (fun a b => a && b) rfl ha hb
  have d := kept_SL (fun a b => a && !b) rfl ha hb
  have n2 : (cS a b).length ≤ _ := kept_len (fun a b => a && b) a b
  have n3 : (dS a b).length ≤ _ := kept_len (fun a b => a && !b) a b
  refine Ev.bind (a := dS a b) (Ev.val (by unfold epactlow_Anew.f; rw [if_pos (by unfold many; omega)])) (Ev.yes (by omega) ?_)
  have good : ∀ s ∈ dS a b ++ cS a b, -1099511627776 ≤ s.f0 ∧ s.f0 ≤ s.f1 ∧ s.f1 ≤ 1099511627776 := by
    intro s hs
    rcases List.mem_append.1 hs with h | h
    · exact SL.ticks d.1 h
    · exact SL.ticks t.1 h
  have hA : badA (dS a b ++ cS a b) = false := by
    rw [badA, List.any_eq_false]; intro s hs
    have := good s hs
    simp only [decide_eq_true_eq]; omega
  have hB : badB (dS a b ++ cS a b) = false := by
    rw [badB, List.any_eq_false]; intro s hs
    have := good s hs
    have e1 : tickB s.f0 = true := by simp only [tickB, Bool.and_eq_true, decide_eq_true_eq]; omega
    have e2 : tickB s.f1 = true := by simp only [tickB, Bool.and_eq_true, decide_eq_true_eq]; omega
    simp [e1, e2]
  have h2 : (makeS (dS a b ++ cS a b)).2 = 0 := by simp [makeS, hA, hB]
  obtain ⟨m1, m2⟩ := makeS_spec (dS a b ++ cS a b)
  have e : (makeS (dS a b ++ cS a b)).1 = a := SL.uniq m1 ha (fun x => by
    rw [m2 h2, hasL_append, d.2, t.2]; cases hasL a x <;> cases hasL b x <;> rfl)
  refine Ev.bind (make_ev _ (by rw [List.length_append]; omega)) (Ev.yes h2 ?_)
  rw [e]
  have := same_ev a a (by omega)
  rw [alikeB_iff.2 rfl] at this
  exact Ev.bind this (Ev.yes rfl (Ev.bind awake2_ev (Ev.now _)))

theorem ticks_l2 (q : List Int) (lq : q.length ≤ 1000000) : ∀ (rest pre : List Int), q = pre ++ rest → Ev (fun k => epactlaw02_SpansTicks.l2 k a b (uS a b) (cS a b) (dS a b) q (q.length : Int) (pre.length : Int)) true := by
  have u := kept_SL (fun a b => a || b) rfl ha hb
  have t := kept_SL (fun a b => a && b) rfl ha hb
  have d := kept_SL (fun a b => a && !b) rfl ha hb
  have n1 : (uS a b).length ≤ _ := kept_len (fun a b => a || b) a b
  have n2 : (cS a b).length ≤ _ := kept_len (fun a b => a && b) a b
  have n3 : (dS a b).length ≤ _ := kept_len (fun a b => a && !b) a b
  intro rest
  induction rest with
  | nil =>
    intro pre hp
    refine Ev.step (fun k => by rw [epactlaw02_SpansTicks.l2]) ?_
    refine Ev.no (by rw [hp]; simp) (ticks_end a b ha hb la lb)
  | cons x r ih =>
    intro pre hp
    have hlen : pre.length + 1 ≤ q.length := by rw [hp]; simp
    have hrd : rd q (pre.length : Int) = x := by rw [hp]; exact rdi_mid _ _ _
    have hw := wrap_len pre x q.length hlen (by omega)
    have next := ih (pre ++ [x]) (by rw [hp]; simp)
    refine Ev.step (fun k => by rw [epactlaw02_SpansTicks.l2]) ?_
    refine Ev.yes (by omega) (Ev.yes (by omega) (Ev.yes (by omega) ?_))
    rw [hrd, hw]
    refine Ev.bind (has_ev a x ha (by omega)) (Ev.bind (has_ev b x hb (by omega)) (Ev.bind (has_ev (uS a b) x u.1 (by omega)) ?_))
    by_cases h : hasL a x = true
    · refine Ev.yes h (Ev.no (by rw [u.2, h]; simp) (Ev.bind (has_ev (cS a b) x t.1 (by omega)) (Ev.no (by rw [t.2, h]; simp) (Ev.bind (has_ev (dS a b) x d.1 (by omega)) (Ev.no (by rw [d.2, h]; simp) next)))))
    · have h' : hasL a x = false := by simpa using h
      exact Ev.no h (Ev.no (by rw [u.2, h']; simp) (Ev.bind (has_ev (cS a b) x t.1 (by omega)) (Ev.no (by rw [t.2, h']; simp) (Ev.bind (has_ev (dS a b) x d.1 (by omega)) (Ev.no (by rw [d.2, h']; simp) next)))))

theorem ticks_l1 (y : List Sp) (ly : y.length ≤ 80) : ∀ (rest pre : List Sp) (q : List Int), y = pre ++ rest → q.length ≤ 1 + 4 * pre.length → Ev (fun k => epactlaw02_SpansTicks.l1 k a b (uS a b) (cS a b) (dS a b) q y (y.length : Int) (pre.length : Int)) true := by
  intro rest
  induction rest with
  | nil =>
    intro pre q hp hq
    have : pre.length = y.length := by rw [hp]; simp
    refine Ev.step (fun k => by rw [epactlaw02_SpansTicks.l1]) ?_
    exact Ev.no (by rw [hp]; simp) (ticks_l2 a b ha hb la lb q (by omega) q [] rfl)
  | cons s r ih =>
    intro pre q hp hq
    have hlen : pre.length + 1 ≤ y.length := by rw [hp]; simp
    have hw := wrap_len pre s y.length hlen (by omega)
    refine Ev.step (fun k => by rw [epactlaw02_SpansTicks.l1]) ?_
    refine Ev.yes (by omega) (Ev.yes (by omega) (Ev.yes (by omega) (Ev.bind (Ev.now _) (Ev.yes (by simp only [List.length_cons, List.length_nil]; omega) ?_))))
    rw [hw]
    exact ih (pre ++ [s]) _ (by rw [hp]; simp) (by simp only [List.length_append, List.length_cons, List.length_nil]; omega)

theorem ticks_l0 (x : Int) (y : List (List Sp)) (ly : y.length ≤ 5) (hy : ∀ s ∈ y, SL (-1099511627776) 1099511627776 s) : ∀ (rest pre : List (List Sp)), y = pre ++ rest → Ev (fun k => epactlaw02_SpansTicks.l0 k x a b (uS a b) (cS a b) (dS a b) y (y.length : Int) (pre.length : Int)) true := by
  intro rest
  induction rest with
  | nil =>
    intro pre hp
    refine Ev.step (fun k => by rw [epactlaw02_SpansTicks.l0]) ?_
    refine Ev.no (by rw [hp]; simp) ?_
    refine Ev.bind (a := a) (Ev.val (by unfold epactlow_Anew.f; rw [if_pos (by unfold many; omega)])) (Ev.yes (by omega) (Ev.bind (Ev.now _) ?_))
    exact ticks_l1 a b ha hb la lb (a ++ b) (by rw [List.length_append]; omega) (a ++ b) [] [x] rfl (by simp)
  | cons s r ih =>
    intro pre hp
    have hlen : pre.length + 1 ≤ y.length := by rw [hp]; simp
    have hrd : rd_L2 y (pre.length : Int) = s := by rw [hp]; exact rdL_mid _ _ _
    have hw := wrap_len pre s y.length hlen (by omega)
    have hs := hy s (by rw [hp]; simp)
    refine Ev.step (fun k => by rw [epactlaw02_SpansTicks.l0]) ?_
    refine Ev.yes (by omega) (Ev.yes (by omega) (Ev.yes (by omega) ?_))
    rw [hrd, hw]
    exact Ev.bind (right_ev s (by have := SL.len_le hs; omega)) (Ev.yes (slB_iff.2 hs) (ih (pre ++ [s]) (by rw [hp]; simp)))
end

theorem SpansTicks (l0 : List Sp) (_ : ∀ s ∈ l0, spFits s) (_ : l0.length ≤ 9223372036854775807) (l1 : List Sp) (_ : ∀ s ∈ l1, spFits s) (_ : l1.length ≤ 9223372036854775807) (a2 : Int) (_ : fits a2) : ∃ k, epactlaw02_SpansTicks.f k l0 l1 a2 = some true := by
  refine Ev.rounds ?_
  unfold epactlaw02_SpansTicks.f
  refine Ev.bind (made_ev l0) (Ev.bind (made_ev l1) ?_)
  have ha := madeS_SL l0
  have hb := madeS_SL l1
  have la := madeS_len l0
  have lb := madeS_len l1
  generalize madeS l0 = a at *
  generalize madeS l1 = b at *
  refine Ev.bind (Ev.val (union_f a b (by omega))) (Ev.bind (Ev.val (cut_f a b (by omega))) (Ev.bind (Ev.val (less_f a b (by omega))) (Ev.bind (Ev.now _) ?_)))
  exact ticks_l0 a b ha hb la lb a2 [a, b, uS a b, cS a b, dS a b] (by simp) (by
    intro s hs
    simp only [List.mem_cons, List.not_mem_nil, or_false] at hs
    rcases hs with rfl | rfl | rfl | rfl | rfl
    · exact ha
    · exact hb
    · exact (kept_SL _ rfl ha hb).1
    · exact (kept_SL _ rfl ha hb).1
    · exact (kept_SL _ rfl ha hb).1) _ [] rfl
end Go.Proofs.Ytmbmalkpmanaaaa.Pure

namespace Go.Proofs.Ytmbmalkpmanaaaa.spansTicks
open Go.ChangeShapes Go.WideShapes Go.ChangeAt Go.RowKit
open Go.ChangeMaps (open_string shut_string)
set_option linter.unusedVariables false
theorem own : ownKnob Try.prog.godebug = none := by kernel_rfl
theorem laidOut : laidOutB Try.prog = true := by kernel_rfl
set_option maxRecDepth 100000 in
theorem lifted (os : Os) (started : os.Started) (H : Type) (enc : TypeId × Value → H) :
    ReturnsInHanded {} Try.checked os 12 .any (Rows.spansTicksSpec.pre6 enc Try.prog Try.f12 Rows.spansTicksRow.domain false) (Rows.spansTicksSpec.post enc Try.prog Try.f12 false true false false) := by
  refine returnsInHanded_of_change_sized (C := Try.checked) own started (by kernel_rfl) Try.func12
    (ChangeSpec.witness6 (enc := enc) (C := Try.checked) false ⟨#[], #[.slice none 0 0, .slice none 0 0, .int .i64 0], []⟩ 8 (by kernel_rfl) (by kernel_rfl) (by kernel_rfl) (by kernel_rfl)) ?_
  intro W base args ds gs before hval0 hW hcnd hsz0 _
  have hval : ∀ (j : Nat) t v, Try.f12.params[j]? = some t → args[j]? = some v → Value.okWide Try.prog W .any base t v := hval0
  have hW' := hW
  obtain ⟨p, q, hA0, hV, rfl, hfz, hnd⟩ := hW
  have hA : DataW.TrodAll enc Try.prog W 0 (fun _ => true) true Try.f12.params.toList args.toList ds p := hA0
  rw [Try.params12] at hA hval
  obtain ⟨v0, vs0, d0, ds0, p0, q0, hargs, rfl, rfl, h0, r0⟩ := trodAll_cons hA
  obtain ⟨v1, vs1, d1, ds1, p1, q1, rfl, rfl, rfl, h1, r1⟩ := trodAll_cons r0
  obtain ⟨v2, vs2, d2, ds2, p2, q2, rfl, rfl, rfl, h2, r2⟩ := trodAll_cons r1
  obtain ⟨rfl, rfl, rfl⟩ := trodAll_nil r2
  obtain rfl : args = #[v0, v1, v2] := by cases args; simp_all
  obtain ⟨rfl, rfl⟩ := trodVars_none hV
  obtain ⟨a0, len0, cap0, rfl⟩ := okWide_slice Try.underlying24 (hval 0 24 v0 rfl rfl)
  have k0 := h0
  have lt0 : ∀ x ∈ p0, x.block < W.heap.size := by obtain ⟨m, hm⟩ := k0; exact DataW.trod_lt m _ _ _ hm
  obtain ⟨z0, rfl, w0, y0, x0, m0⟩ := P.open_spans h0
  obtain ⟨a1, len1, cap1, rfl⟩ := okWide_slice Try.underlying24 (hval 1 24 v1 rfl rfl)
  have k1 := h1
  have lt1 : ∀ x ∈ p1, x.block < W.heap.size := by obtain ⟨m, hm⟩ := k1; exact DataW.trod_lt m _ _ _ hm
  obtain ⟨z1, rfl, w1, y1, x1, m1⟩ := P.open_spans h1
  obtain ⟨a2, rfl, rfl, rfl, w2⟩ := open_int Try.underlying3 (hval 2 3 v2 rfl rfl) h2
  clear hA0 hval0 hsz0
  obtain ⟨kk, hP⟩ := Pure.SpansTicks z0 x0 m0 z1 x1 m1 a2 w2
  refine (P.epactlaw02_SpansTicks.calls kk _ _ z0 _ _ z1 a2 true W y0 w0 y1 w1 hP).mono fun e W' ⟨he, bel0⟩ => ?_
  have bel := bel0
  subst he
  exact ⟨_, rfl, _, _, _, [], _, [], hW', trodAll_mk1 (shut_bool Try.underlying4 _), (trodAll_cons_mk (Below.trod laidOut (by kernel_rfl) (of_decide_eq_true (by kernel_rfl)) k0 bel lt0) (trodAll_cons_mk (Below.trod laidOut (by kernel_rfl) (of_decide_eq_true (by kernel_rfl)) k1 bel lt1) (trodAll_cons_mk (shut_int Try.underlying3 w2) trodAll_mk0))), rfl, bel.frame _, fun h => by cases h⟩
theorem over : Rows.spansTicksRow.holds Try.pinned (OpenSpec.ofChange Rows.spansTicksSpec) :=
  OpenClaim.holds_of_wide 12 Try.f12 rfl rfl rfl rfl rfl rfl rfl ⟨rfl, rfl, rfl, rfl, rfl⟩ rfl rfl rfl rfl rfl (by kernel_rfl) Try.func12 (by kernel_rfl)
    (of_decide_eq_true (by kernel_rfl)) (by unfold Func.isWrapper; first | (rw [if_pos (by decide +kernel)]; kernel_rfl) | (rw [if_neg (by decide +kernel)]; exact ⟨rfl, rfl⟩))
    (fun os started H enc _ => lifted os started H enc)
theorem proved : Rows.SpansTicksSaid := over
#print axioms proved
end Go.Proofs.Ytmbmalkpmanaaaa.spansTicks
namespace Go.Proofs.Ytmbmalkpmanaaaa
theorem spansTicks_holds : Rows.SpansTicksSaid := spansTicks.proved
end Go.Proofs.Ytmbmalkpmanaaaa


/- Lemmas for the law SpansTells: what the functions that it reaches compute. No condition of its own. -/
import Derived.Test.YtmbmalkpmanaaaaYSpansTells2
import Derived.Test.YtmbmalkpmanaaaaYSpansTells5
import Derived.Test.YtmbmalkpmanaaaaYSpansTells6
import Derived.Test.YtmbmalkpmanaaaaYSpansTells4
import Derived.Deep.SlicePairs
import Derived.ChangeArms
import Derived.ProofKit
namespace Go.Proofs.Ytmbmalkpmanaaaa.P
open Go.RowKit Go.Proofs.YtmbmalkpmanaaaaW.PrintWords Go.Proofs.YtmbmalkpmanaaaaW.PrintLast Go.Proofs.YtmbmalkpmanaaaaW.PrintMore
attribute [local go_sem] max2_int min2_int max_two min_two max_three min_three max_four min_four   -- for this text's walks alone
set_option linter.unusedVariables false
set_option linter.unusedSimpArgs false

attribute [local go_sem high] eqA23
def epactlaw02_SpansTells.j0 : Nat → Int → List (S23) → List (S23) → List (S23) → List (S23) → Bool → Option (Bool)
 | 0, _, _, _, _, _, _ => none
 | k + 1, x3, x9, x10, x11, x12, x151 => if x151 = true then (none) else ((spans_Move.f k x11 x3).bind fun bt1963 => ((epactref02_Move.f k x9 x3).bind fun bt1967 => (if bt1963.2 = bt1967.2 then ((epactlow_Alike.f k bt1963.1 bt1967.1).bind fun t1971 => (if t1971 = true then ((epactlow_Alike.f k x11 x9).bind fun t1972 => (if t1972 = true then ((epactlow_Alike.f k x12 x10).bind fun t1973 => (if t1973 = true then ((epactlaw02_awake.f k).bind fun t1974 => (some t1974)) else (none))) else (none))) else (none))) else (none))))
def epactlaw02_SpansTells.f (k : Nat) (l0 : List (S23)) (l1 : List (S23)) (a2 : Int) (a3 : Int) : Option (Bool) := (epactlaw02_set.f k l0).bind fun t1658 => ((epactlaw02_set.f k l1).bind fun t1661 => ((epactlow_Anew.f t1658).bind fun t1664 => ((epactlow_Anew.f t1661).bind fun t1667 => ((epactref02_Set.f k 2 t1658 t1661).bind fun t1670 => ((epactref02_Set.f k 3 t1658 t1661).bind fun t1673 => ((spans_Union.f t1664 t1667).bind fun t1676 => ((epactref02_Set.f k 1 t1658 t1661).bind fun t1679 => ((epactlow_Alike.f k t1676 t1679).bind fun t1682 => (if t1682 = true then ((spans_Cut.f t1664 t1667).bind fun t1683 => ((epactlow_Alike.f k t1683 t1670).bind fun t1686 => (if t1686 = true then ((spans_Less.f t1664 t1667).bind fun t1687 => ((epactlow_Alike.f k t1687 t1673).bind fun t1690 => (if t1690 = true then ((spans_Has.f k t1664 a2).bind fun t1833 => ((epactref02_Has.f k t1658 a2).bind fun t1834 => (if (t1833 != t1834) = true then (none) else ((spans_Within.f t1664 t1667).bind fun t1835 => (if (t1835 != ((t1673.length : Int) == 0)) = true then (none) else ((spans_Meet.f t1664 t1667).bind fun t1836 => (if (t1836 != (decide ((t1670.length : Int) > 0))) = true then (none) else ((spans_Ahead.f t1664 t1667).bind fun t1837 => ((epactref02_Ahead.f k t1658 t1661).bind fun t1838 => (if (t1837 != t1838) = true then (none) else ((spans_Same.f k t1664 t1667).bind fun t1839 => ((epactlow_Alike.f k t1658 t1661).bind fun t1840 => (if (t1839 != t1840) = true then (none) else ((spans_Count.f k t1664).bind fun t1841 => ((epactref02_Count.f k t1658).bind fun t1842 => (if t1841 = t1842 then ((spans_Hull.f t1664).bind fun bt1909 => (if (bt1909.2.2 != (decide ((t1658.length : Int) > 0))) = true then (none) else (if bt1909.2.2 = true then (if 0 < (t1658.length : Int) then (if bt1909.1 = ((rd_T23 t1658 0).f0) then (if 0 ≤ (wrap64 ((t1658.length : Int) - 1)) then (if (wrap64 ((t1658.length : Int) - 1)) < (t1658.length : Int) then (if bt1909.2.1 = ((rd_T23 t1658 (wrap64 ((t1658.length : Int) - 1))).f1) then (epactlaw02_SpansTells.j0 k a3 t1658 t1661 t1664 t1667 false) else (none)) else (none)) else (none)) else (none)) else (none)) else (epactlaw02_SpansTells.j0 k a3 t1658 t1661 t1664 t1667 (!(bt1909.1 == 0) || (!(bt1909.2.1 == 0))))))) else (none))))))))))))))))) else (none)))) else (none)))) else (none))))))))))
theorem epactlaw02_SpansTells.mono_l : ∀ k, (∀ y0 y1 y2 y3 y4 y5, LeO (epactlaw02_SpansTells.j0 k y0 y1 y2 y3 y4 y5) (epactlaw02_SpansTells.j0 (k + 1) y0 y1 y2 y3 y4 y5))
 | 0 => fun _ _ _ _ _ _ r h => by simp [epactlaw02_SpansTells.j0] at h
 | k + 1 => by
  have ih0 := epactlaw02_SpansTells.mono_l k
  ·
   intro y0 y1 y2 y3 y4 y5
   unfold epactlaw02_SpansTells.j0
   repeat' first
   | (with_reducible exact ih0 _ _ _ _ _ _)
   | (with_reducible exact epactlaw02_awake.mono _)
   | (with_reducible exact epactlaw02_set.mono _ _)
   | (with_reducible exact epactlow_Alike.mono _ _ _)
   | (with_reducible exact epactref02_Ahead.mono _ _ _)
   | (with_reducible exact epactref02_Count.mono _ _)
   | (with_reducible exact epactref02_Has.mono _ _ _)
   | (with_reducible exact epactref02_Move.mono _ _ _)
   | (with_reducible exact epactref02_Set.mono _ _ _ _)
   | (with_reducible exact spans_Count.mono _ _)
   | (with_reducible exact spans_Has.mono _ _ _)
   | (with_reducible exact spans_Move.mono _ _ _)
   | (with_reducible exact spans_Same.mono _ _ _)
   | (with_reducible exact LeO.refl _)
   | (with_reducible exact LeO.none _)
   | (with_reducible refine LeO.ite ?_ ?_)
   | (with_reducible refine LeO.bind ?_ (fun _ => ?_))
   | exact ih0 _ _ _ _ _ _
   | exact epactlaw02_awake.mono _
   | exact epactlaw02_set.mono _ _
   | exact epactlow_Alike.mono _ _ _
   | exact epactref02_Ahead.mono _ _ _
   | exact epactref02_Count.mono _ _
   | exact epactref02_Has.mono _ _ _
   | exact epactref02_Move.mono _ _ _
   | exact epactref02_Set.mono _ _ _ _
   | exact spans_Count.mono _ _
   | exact spans_Has.mono _ _ _
   | exact spans_Move.mono _ _ _
   | exact spans_Same.mono _ _ _
   | exact LeO.none _
   | refine LeO.ite ?_ ?_
   | refine LeO.bind ?_ (fun _ => ?_)
theorem epactlaw02_SpansTells.mono : ∀ a0 a1 a2 a3 k, LeO (epactlaw02_SpansTells.f k a0 a1 a2 a3) (epactlaw02_SpansTells.f (k + 1) a0 a1 a2 a3) := by
 intro a0 a1 a2 a3 k
 have ih0 := epactlaw02_SpansTells.mono_l k
 unfold epactlaw02_SpansTells.f
 repeat' first
   | (with_reducible exact ih0 _ _ _ _ _ _)
   | (with_reducible exact epactlaw02_awake.mono _)
   | (with_reducible exact epactlaw02_set.mono _ _)
   | (with_reducible exact epactlow_Alike.mono _ _ _)
   | (with_reducible exact epactref02_Ahead.mono _ _ _)
   | (with_reducible exact epactref02_Count.mono _ _)
   | (with_reducible exact epactref02_Has.mono _ _ _)
   | (with_reducible exact epactref02_Move.mono _ _ _)
   | (with_reducible exact epactref02_Set.mono _ _ _ _)
   | (with_reducible exact spans_Count.mono _ _)
   | (with_reducible exact spans_Has.mono _ _ _)
   | (with_reducible exact spans_Move.mono _ _ _)
   | (with_reducible exact spans_Same.mono _ _ _)
   | (with_reducible exact LeO.refl _)
   | (with_reducible exact LeO.none _)
   | (with_reducible refine LeO.ite ?_ ?_)
   | (with_reducible refine LeO.bind ?_ (fun _ => ?_))
   | exact ih0 _ _ _ _ _ _
   | exact epactlaw02_awake.mono _
   | exact epactlaw02_set.mono _ _
   | exact epactlow_Alike.mono _ _ _
   | exact epactref02_Ahead.mono _ _ _
   | exact epactref02_Count.mono _ _
   | exact epactref02_Has.mono _ _ _
   | exact epactref02_Move.mono _ _ _
   | exact epactref02_Set.mono _ _ _ _
   | exact spans_Count.mono _ _
   | exact spans_Has.mono _ _ _
   | exact spans_Move.mono _ _ _
   | exact spans_Same.mono _ _ _
   | exact LeO.none _
   | refine LeO.ite ?_ ?_
   | refine LeO.bind ?_ (fun _ => ?_)
set_option maxHeartbeats 8000000 in
set_option maxRecDepth 100000 in
theorem epactlaw02_SpansTells.calls (k : Nat) (A0 : Option Addr) (c0 : Nat) (l0 : List (S23)) (A1 : Option Addr) (c1 : Nat) (l1 : List (S23)) (a2 : Int) (a3 : Int) (r : Bool) (w : World) (hr0 : Kd.C k23 w A0 l0.length l0) (hc0 : l0.length ≤ c0) (hr1 : Kd.C k23 w A1 l1.length l1) (hc1 : l1.length ≤ c1) (h : epactlaw02_SpansTells.f k l0 l1 a2 a3 = some r) :
  Calls Try.prog 11 #[.slice A0 l0.length c0, .slice A1 l1.length c1, .int .i64 a2, .int .i64 a3] w fun e w' => e = .returned (.bool r) ∧ Below w.heap.size w w' := by
 have hu23 := Try.underlying23
 have HR0 := Aside0.mk hr0
 have HC0 := Aside0.mk hc0
 clear hr0 hc0
 have HR1 := Aside0.mk hr1
 have HC1 := Aside0.mk hc1
 clear hr1 hc1
 have HB := Aside0.mk (Below.refl w.heap.size w)
 have H : ((epactlaw02_set.f k l0).bind fun t1658 => ((epactlaw02_set.f k l1).bind fun t1661 => ((epactlow_Anew.f t1658).bind fun t1664 => ((epactlow_Anew.f t1661).bind fun t1667 => ((epactref02_Set.f k 2 t1658 t1661).bind fun t1670 => ((epactref02_Set.f k 3 t1658 t1661).bind fun t1673 => ((spans_Union.f t1664 t1667).bind fun t1676 => ((epactref02_Set.f k 1 t1658 t1661).bind fun t1679 => ((epactlow_Alike.f k t1676 t1679).bind fun t1682 => (if t1682 = true then ((spans_Cut.f t1664 t1667).bind fun t1683 => ((epactlow_Alike.f k t1683 t1670).bind fun t1686 => (if t1686 = true then ((spans_Less.f t1664 t1667).bind fun t1687 => ((epactlow_Alike.f k t1687 t1673).bind fun t1690 => (if t1690 = true then ((spans_Has.f k t1664 a2).bind fun t1833 => ((epactref02_Has.f k t1658 a2).bind fun t1834 => (if (t1833 != t1834) = true then (none) else ((spans_Within.f t1664 t1667).bind fun t1835 => (if (t1835 != ((t1673.length : Int) == 0)) = true then (none) else ((spans_Meet.f t1664 t1667).bind fun t1836 => (if (t1836 != (decide ((t1670.length : Int) > 0))) = true then (none) else ((spans_Ahead.f t1664 t1667).bind fun t1837 => ((epactref02_Ahead.f k t1658 t1661).bind fun t1838 => (if (t1837 != t1838) = true then (none) else ((spans_Same.f k t1664 t1667).bind fun t1839 => ((epactlow_Alike.f k t1658 t1661).bind fun t1840 => (if (t1839 != t1840) = true then (none) else ((spans_Count.f k t1664).bind fun t1841 => ((epactref02_Count.f k t1658).bind fun t1842 => (if t1841 = t1842 then ((spans_Hull.f t1664).bind fun bt1909 => (if (bt1909.2.2 != (decide ((t1658.length : Int) > 0))) = true then (none) else (if bt1909.2.2 = true then (if 0 < (t1658.length : Int) then (if bt1909.1 = ((rd_T23 t1658 0).f0) then (if 0 ≤ (wrap64 ((t1658.length : Int) - 1)) then (if (wrap64 ((t1658.length : Int) - 1)) < (t1658.length : Int) then (if bt1909.2.1 = ((rd_T23 t1658 (wrap64 ((t1658.length : Int) - 1))).f1) then (epactlaw02_SpansTells.j0 k a3 t1658 t1661 t1664 t1667 false) else (none)) else (none)) else (none)) else (none)) else (none)) else (epactlaw02_SpansTells.j0 k a3 t1658 t1661 t1664 t1667 (!(bt1909.1 == 0) || (!(bt1909.2.1 == 0))))))) else (none))))))))))))))))) else (none)))) else (none)))) else (none))))))))))) = some r := h
 clear h
 replace H := Option.bind_eq_some_iff.mp H
 obtain ⟨t1658, A50, H⟩ := H
 replace H : ((epactlaw02_set.f k l1).bind fun t1661 => ((epactlow_Anew.f t1658).bind fun t1664 => ((epactlow_Anew.f t1661).bind fun t1667 => ((epactref02_Set.f k 2 t1658 t1661).bind fun t1670 => ((epactref02_Set.f k 3 t1658 t1661).bind fun t1673 => ((spans_Union.f t1664 t1667).bind fun t1676 => ((epactref02_Set.f k 1 t1658 t1661).bind fun t1679 => ((epactlow_Alike.f k t1676 t1679).bind fun t1682 => (if t1682 = true then ((spans_Cut.f t1664 t1667).bind fun t1683 => ((epactlow_Alike.f k t1683 t1670).bind fun t1686 => (if t1686 = true then ((spans_Less.f t1664 t1667).bind fun t1687 => ((epactlow_Alike.f k t1687 t1673).bind fun t1690 => (if t1690 = true then ((spans_Has.f k t1664 a2).bind fun t1833 => ((epactref02_Has.f k t1658 a2).bind fun t1834 => (if (t1833 != t1834) = true then (none) else ((spans_Within.f t1664 t1667).bind fun t1835 => (if (t1835 != ((t1673.length : Int) == 0)) = true then (none) else ((spans_Meet.f t1664 t1667).bind fun t1836 => (if (t1836 != (decide ((t1670.length : Int) > 0))) = true then (none) else ((spans_Ahead.f t1664 t1667).bind fun t1837 => ((epactref02_Ahead.f k t1658 t1661).bind fun t1838 => (if (t1837 != t1838) = true then (none) else ((spans_Same.f k t1664 t1667).bind fun t1839 => ((epactlow_Alike.f k t1658 t1661).bind fun t1840 => (if (t1839 != t1840) = true then (none) else ((spans_Count.f k t1664).bind fun t1841 => ((epactref02_Count.f k t1658).bind fun t1842 => (if t1841 = t1842 then ((spans_Hull.f t1664).bind fun bt1909 => (if (bt1909.2.2 != (decide ((t1658.length : Int) > 0))) = true then (none) else (if bt1909.2.2 = true then (if 0 < (t1658.length : Int) then (if bt1909.1 = ((rd_T23 t1658 0).f0) then (if 0 ≤ (wrap64 ((t1658.length : Int) - 1)) then (if (wrap64 ((t1658.length : Int) - 1)) < (t1658.length : Int) then (if bt1909.2.1 = ((rd_T23 t1658 (wrap64 ((t1658.length : Int) - 1))).f1) then (epactlaw02_SpansTells.j0 k a3 t1658 t1661 t1664 t1667 false) else (none)) else (none)) else (none)) else (none)) else (none)) else (epactlaw02_SpansTells.j0 k a3 t1658 t1661 t1664 t1667 (!(bt1909.1 == 0) || (!(bt1909.2.1 == 0))))))) else (none))))))))))))))))) else (none)))) else (none)))) else (none)))))))))) = some r := H
 have A5 := Aside0.mk A50
 clear A50
 replace H := Option.bind_eq_some_iff.mp H
 obtain ⟨t1661, A60, H⟩ := H
 replace H : ((epactlow_Anew.f t1658).bind fun t1664 => ((epactlow_Anew.f t1661).bind fun t1667 => ((epactref02_Set.f k 2 t1658 t1661).bind fun t1670 => ((epactref02_Set.f k 3 t1658 t1661).bind fun t1673 => ((spans_Union.f t1664 t1667).bind fun t1676 => ((epactref02_Set.f k 1 t1658 t1661).bind fun t1679 => ((epactlow_Alike.f k t1676 t1679).bind fun t1682 => (if t1682 = true then ((spans_Cut.f t1664 t1667).bind fun t1683 => ((epactlow_Alike.f k t1683 t1670).bind fun t1686 => (if t1686 = true then ((spans_Less.f t1664 t1667).bind fun t1687 => ((epactlow_Alike.f k t1687 t1673).bind fun t1690 => (if t1690 = true then ((spans_Has.f k t1664 a2).bind fun t1833 => ((epactref02_Has.f k t1658 a2).bind fun t1834 => (if (t1833 != t1834) = true then (none) else ((spans_Within.f t1664 t1667).bind fun t1835 => (if (t1835 != ((t1673.length : Int) == 0)) = true then (none) else ((spans_Meet.f t1664 t1667).bind fun t1836 => (if (t1836 != (decide ((t1670.length : Int) > 0))) = true then (none) else ((spans_Ahead.f t1664 t1667).bind fun t1837 => ((epactref02_Ahead.f k t1658 t1661).bind fun t1838 => (if (t1837 != t1838) = true then (none) else ((spans_Same.f k t1664 t1667).bind fun t1839 => ((epactlow_Alike.f k t1658 t1661).bind fun t1840 => (if (t1839 != t1840) = true then (none) else ((spans_Count.f k t1664).bind fun t1841 => ((epactref02_Count.f k t1658).bind fun t1842 => (if t1841 = t1842 then ((spans_Hull.f t1664).bind fun bt1909 => (if (bt1909.2.2 != (decide ((t1658.length : Int) > 0))) = true then (none) else (if bt1909.2.2 = true then (if 0 < (t1658.length : Int) then (if bt1909.1 = ((rd_T23 t1658 0).f0) then (if 0 ≤ (wrap64 ((t1658.length : Int) - 1)) then (if (wrap64 ((t1658.length : Int) - 1)) < (t1658.length : Int) then (if bt1909.2.1 = ((rd_T23 t1658 (wrap64 ((t1658.length : Int) - 1))).f1) then (epactlaw02_SpansTells.j0 k a3 t1658 t1661 t1664 t1667 false) else (none)) else (none)) else (none)) else (none)) else (none)) else (epactlaw02_SpansTells.j0 k a3 t1658 t1661 t1664 t1667 (!(bt1909.1 == 0) || (!(bt1909.2.1 == 0))))))) else (none))))))))))))))))) else (none)))) else (none)))) else (none))))))))) = some r := H
 have A6 := Aside0.mk A60
 clear A60
 replace H := Option.bind_eq_some_iff.mp H
 obtain ⟨t1664, A70, H⟩ := H
 replace H : ((epactlow_Anew.f t1661).bind fun t1667 => ((epactref02_Set.f k 2 t1658 t1661).bind fun t1670 => ((epactref02_Set.f k 3 t1658 t1661).bind fun t1673 => ((spans_Union.f t1664 t1667).bind fun t1676 => ((epactref02_Set.f k 1 t1658 t1661).bind fun t1679 => ((epactlow_Alike.f k t1676 t1679).bind fun t1682 => (if t1682 = true then ((spans_Cut.f t1664 t1667).bind fun t1683 => ((epactlow_Alike.f k t1683 t1670).bind fun t1686 => (if t1686 = true then ((spans_Less.f t1664 t1667).bind fun t1687 => ((epactlow_Alike.f k t1687 t1673).bind fun t1690 => (if t1690 = true then ((spans_Has.f k t1664 a2).bind fun t1833 => ((epactref02_Has.f k t1658 a2).bind fun t1834 => (if (t1833 != t1834) = true then (none) else ((spans_Within.f t1664 t1667).bind fun t1835 => (if (t1835 != ((t1673.length : Int) == 0)) = true then (none) else ((spans_Meet.f t1664 t1667).bind fun t1836 => (if (t1836 != (decide ((t1670.length : Int) > 0))) = true then (none) else ((spans_Ahead.f t1664 t1667).bind fun t1837 => ((epactref02_Ahead.f k t1658 t1661).bind fun t1838 => (if (t1837 != t1838) = true then (none) else ((spans_Same.f k t1664 t1667).bind fun t1839 => ((epactlow_Alike.f k t1658 t1661).bind fun t1840 => (if (t1839 != t1840) = true then (none) else ((spans_Count.f k t1664).bind fun t1841 => ((epactref02_Count.f k t1658).bind fun t1842 => (if t1841 = t1842 then ((spans_Hull.f t1664).bind fun bt1909 => (if (bt1909.2.2 != (decide ((t1658.length : Int) > 0))) = true then (none) else (if bt1909.2.2 = true then (if 0 < (t1658.length : Int) then (if bt1909.1 = ((rd_T23 t1658 0).f0) then (if 0 ≤ (wrap64 ((t1658.length : Int) - 1)) then (if (wrap64 ((t1658.length : Int) - 1)) < (t1658.length : Int) then (if bt1909.2.1 = ((rd_T23 t1658 (wrap64 ((t1658.length : Int) - 1))).f1) then (epactlaw02_SpansTells.j0 k a3 t1658 t1661 t1664 t1667 false) else (none)) else (none)) else (none)) else (none)) else (none)) else (epactlaw02_SpansTells.j0 k a3 t1658 t1661 t1664 t1667 (!(bt1909.1 == 0) || (!(bt1909.2.1 == 0))))))) else (none))))))))))))))))) else (none)))) else (none)))) else (none)))))))) = some r := H
 have A7 := Aside0.mk A70
 clear A70
 replace H := Option.bind_eq_some_iff.mp H
 obtain ⟨t1667, A80, H⟩ := H
 replace H : ((epactref02_Set.f k 2 t1658 t1661).bind fun t1670 => ((epactref02_Set.f k 3 t1658 t1661).bind fun t1673 => ((spans_Union.f t1664 t1667).bind fun t1676 => ((epactref02_Set.f k 1 t1658 t1661).bind fun t1679 => ((epactlow_Alike.f k t1676 t1679).bind fun t1682 => (if t1682 = true then ((spans_Cut.f t1664 t1667).bind fun t1683 => ((epactlow_Alike.f k t1683 t1670).bind fun t1686 => (if t1686 = true then ((spans_Less.f t1664 t1667).bind fun t1687 => ((epactlow_Alike.f k t1687 t1673).bind fun t1690 => (if t1690 = true then ((spans_Has.f k t1664 a2).bind fun t1833 => ((epactref02_Has.f k t1658 a2).bind fun t1834 => (if (t1833 != t1834) = true then (none) else ((spans_Within.f t1664 t1667).bind fun t1835 => (if (t1835 != ((t1673.length : Int) == 0)) = true then (none) else ((spans_Meet.f t1664 t1667).bind fun t1836 => (if (t1836 != (decide ((t1670.length : Int) > 0))) = true then (none) else ((spans_Ahead.f t1664 t1667).bind fun t1837 => ((epactref02_Ahead.f k t1658 t1661).bind fun t1838 => (if (t1837 != t1838) = true then (none) else ((spans_Same.f k t1664 t1667).bind fun t1839 => ((epactlow_Alike.f k t1658 t1661).bind fun t1840 => (if (t1839 != t1840) = true then (none) else ((spans_Count.f k t1664).bind fun t1841 => ((epactref02_Count.f k t1658).bind fun t1842 => (if t1841 = t1842 then ((spans_Hull.f t1664).bind fun bt1909 => (if (bt1909.2.2 != (decide ((t1658.length : Int) > 0))) = true then (none) else (if bt1909.2.2 = true then (if 0 < (t1658.length : Int) then (if bt1909.1 = ((rd_T23 t1658 0).f0) then (if 0 ≤ (wrap64 ((t1658.length : Int) - 1)) then (if (wrap64 ((t1658.length : Int) - 1)) < (t1658.length : Int) then (if bt1909.2.1 = ((rd_T23 t1658 (wrap64 ((t1658.length : Int) - 1))).f1) then (epactlaw02_SpansTells.j0 k a3 t1658 t1661 t1664 t1667 false) else (none)) else (none)) else (none)) else (none)) else (none)) else (epactlaw02_SpansTells.j0 k a3 t1658 t1661 t1664 t1667 (!(bt1909.1 == 0) || (!(bt1909.2.1 == 0))))))) else (none))))))))))))))))) else (none)))) else (none)))) else (none))))))) = some r := H
 have A8 := Aside0.mk A80
 clear A80
 replace H := Option.bind_eq_some_iff.mp H
 obtain ⟨t1670, A90, H⟩ := H
 replace H : ((epactref02_Set.f k 3 t1658 t1661).bind fun t1673 => ((spans_Union.f t1664 t1667).bind fun t1676 => ((epactref02_Set.f k 1 t1658 t1661).bind fun t1679 => ((epactlow_Alike.f k t1676 t1679).bind fun t1682 => (if t1682 = true then ((spans_Cut.f t1664 t1667).bind fun t1683 => ((epactlow_Alike.f k t1683 t1670).bind fun t1686 => (if t1686 = true then ((spans_Less.f t1664 t1667).bind fun t1687 => ((epactlow_Alike.f k t1687 t1673).bind fun t1690 => (if t1690 = true then ((spans_Has.f k t1664 a2).bind fun t1833 => ((epactref02_Has.f k t1658 a2).bind fun t1834 => (if (t1833 != t1834) = true then (none) else ((spans_Within.f t1664 t1667).bind fun t1835 => (if (t1835 != ((t1673.length : Int) == 0)) = true then (none) else ((spans_Meet.f t1664 t1667).bind fun t1836 => (if (t1836 != (decide ((t1670.length : Int) > 0))) = true then (none) else ((spans_Ahead.f t1664 t1667).bind fun t1837 => ((epactref02_Ahead.f k t1658 t1661).bind fun t1838 => (if (t1837 != t1838) = true then (none) else ((spans_Same.f k t1664 t1667).bind fun t1839 => ((epactlow_Alike.f k t1658 t1661).bind fun t1840 => (if (t1839 != t1840) = true then (none) else ((spans_Count.f k t1664).bind fun t1841 => ((epactref02_Count.f k t1658).bind fun t1842 => (if t1841 = t1842 then ((spans_Hull.f t1664).bind fun bt1909 => (if (bt1909.2.2 != (decide ((t1658.length : Int) > 0))) = true then (none) else (if bt1909.2.2 = true then (if 0 < (t1658.length : Int) then (if bt1909.1 = ((rd_T23 t1658 0).f0) then (if 0 ≤ (wrap64 ((t1658.length : Int) - 1)) then (if (wrap64 ((t1658.length : Int) - 1)) < (t1658.length : Int) then (if bt1909.2.1 = ((rd_T23 t1658 (wrap64 ((t1658.length : Int) - 1))).f1) then (epactlaw02_SpansTells.j0 k a3 t1658 t1661 t1664 t1667 false) else (none)) else (none)) else (none)) else (none)) else (none)) else (epactlaw02_SpansTells.j0 k a3 t1658 t1661 t1664 t1667 (!(bt1909.1 == 0) || (!(bt1909.2.1 == 0))))))) else (none))))))))))))))))) else (none)))) else (none)))) else (none)))))) = some r := H
 have A9 := Aside0.mk A90
 clear A90
 replace H := Option.bind_eq_some_iff.mp H
 obtain ⟨t1673, A100, H⟩ := H
 replace H : ((spans_Union.f t1664 t1667).bind fun t1676 => ((epactref02_Set.f k 1 t1658 t1661).bind fun t1679 => ((epactlow_Alike.f k t1676 t1679).bind fun t1682 => (if t1682 = true then ((spans_Cut.f t1664 t1667).bind fun t1683 => ((epactlow_Alike.f k t1683 t1670).bind fun t1686 => (if t1686 = true then ((spans_Less.f t1664 t1667).bind fun t1687 => ((epactlow_Alike.f k t1687 t1673).bind fun t1690 => (if t1690 = true then ((spans_Has.f k t1664 a2).bind fun t1833 => ((epactref02_Has.f k t1658 a2).bind fun t1834 => (if (t1833 != t1834) = true then (none) else ((spans_Within.f t1664 t1667).bind fun t1835 => (if (t1835 != ((t1673.length : Int) == 0)) = true then (none) else ((spans_Meet.f t1664 t1667).bind fun t1836 => (if (t1836 != (decide ((t1670.length : Int) > 0))) = true then (none) else ((spans_Ahead.f t1664 t1667).bind fun t1837 => ((epactref02_Ahead.f k t1658 t1661).bind fun t1838 => (if (t1837 != t1838) = true then (none) else ((spans_Same.f k t1664 t1667).bind fun t1839 => ((epactlow_Alike.f k t1658 t1661).bind fun t1840 => (if (t1839 != t1840) = true then (none) else ((spans_Count.f k t1664).bind fun t1841 => ((epactref02_Count.f k t1658).bind fun t1842 => (if t1841 = t1842 then ((spans_Hull.f t1664).bind fun bt1909 => (if (bt1909.2.2 != (decide ((t1658.length : Int) > 0))) = true then (none) else (if bt1909.2.2 = true then (if 0 < (t1658.length : Int) then (if bt1909.1 = ((rd_T23 t1658 0).f0) then (if 0 ≤ (wrap64 ((t1658.length : Int) - 1)) then (if (wrap64 ((t1658.length : Int) - 1)) < (t1658.length : Int) then (if bt1909.2.1 = ((rd_T23 t1658 (wrap64 ((t1658.length : Int) - 1))).f1) then (epactlaw02_SpansTells.j0 k a3 t1658 t1661 t1664 t1667 false) else (none)) else (none)) else (none)) else (none)) else (none)) else (epactlaw02_SpansTells.j0 k a3 t1658 t1661 t1664 t1667 (!(bt1909.1 == 0) || (!(bt1909.2.1 == 0))))))) else (none))))))))))))))))) else (none)))) else (none)))) else (none))))) = some r := H
 have A10 := Aside0.mk A100
 clear A100
 replace H := Option.bind_eq_some_iff.mp H
 obtain ⟨t1676, A110, H⟩ := H
 replace H : ((epactref02_Set.f k 1 t1658 t1661).bind fun t1679 => ((epactlow_Alike.f k t1676 t1679).bind fun t1682 => (if t1682 = true then ((spans_Cut.f t1664 t1667).bind fun t1683 => ((epactlow_Alike.f k t1683 t1670).bind fun t1686 => (if t1686 = true then ((spans_Less.f t1664 t1667).bind fun t1687 => ((epactlow_Alike.f k t1687 t1673).bind fun t1690 => (if t1690 = true then ((spans_Has.f k t1664 a2).bind fun t1833 => ((epactref02_Has.f k t1658 a2).bind fun t1834 => (if (t1833 != t1834) = true then (none) else ((spans_Within.f t1664 t1667).bind fun t1835 => (if (t1835 != ((t1673.length : Int) == 0)) = true then (none) else ((spans_Meet.f t1664 t1667).bind fun t1836 => (if (t1836 != (decide ((t1670.length : Int) > 0))) = true then (none) else ((spans_Ahead.f t1664 t1667).bind fun t1837 => ((epactref02_Ahead.f k t1658 t1661).bind fun t1838 => (if (t1837 != t1838) = true then (none) else ((spans_Same.f k t1664 t1667).bind fun t1839 => ((epactlow_Alike.f k t1658 t1661).bind fun t1840 => (if (t1839 != t1840) = true then (none) else ((spans_Count.f k t1664).bind fun t1841 => ((epactref02_Count.f k t1658).bind fun t1842 => (if t1841 = t1842 then ((spans_Hull.f t1664).bind fun bt1909 => (if (bt1909.2.2 != (decide ((t1658.length : Int) > 0))) = true then (none) else (if bt1909.2.2 = true then (if 0 < (t1658.length : Int) then (if bt1909.1 = ((rd_T23 t1658 0).f0) then (if 0 ≤ (wrap64 ((t1658.length : Int) - 1)) then (if (wrap64 ((t1658.length : Int) - 1)) < (t1658.length : Int) then (if bt1909.2.1 = ((rd_T23 t1658 (wrap64 ((t1658.length : Int) - 1))).f1) then (epactlaw02_SpansTells.j0 k a3 t1658 t1661 t1664 t1667 false) else (none)) else (none)) else (none)) else (none)) else (none)) else (epactlaw02_SpansTells.j0 k a3 t1658 t1661 t1664 t1667 (!(bt1909.1 == 0) || (!(bt1909.2.1 == 0))))))) else (none))))))))))))))))) else (none)))) else (none)))) else (none)))) = some r := H
 have A11 := Aside0.mk A110
 clear A110
 replace H := Option.bind_eq_some_iff.mp H
 obtain ⟨t1679, A120, H⟩ := H
 replace H : ((epactlow_Alike.f k t1676 t1679).bind fun t1682 => (if t1682 = true then ((spans_Cut.f t1664 t1667).bind fun t1683 => ((epactlow_Alike.f k t1683 t1670).bind fun t1686 => (if t1686 = true then ((spans_Less.f t1664 t1667).bind fun t1687 => ((epactlow_Alike.f k t1687 t1673).bind fun t1690 => (if t1690 = true then ((spans_Has.f k t1664 a2).bind fun t1833 => ((epactref02_Has.f k t1658 a2).bind fun t1834 => (if (t1833 != t1834) = true then (none) else ((spans_Within.f t1664 t1667).bind fun t1835 => (if (t1835 != ((t1673.length : Int) == 0)) = true then (none) else ((spans_Meet.f t1664 t1667).bind fun t1836 => (if (t1836 != (decide ((t1670.length : Int) > 0))) = true then (none) else ((spans_Ahead.f t1664 t1667).bind fun t1837 => ((epactref02_Ahead.f k t1658 t1661).bind fun t1838 => (if (t1837 != t1838) = true then (none) else ((spans_Same.f k t1664 t1667).bind fun t1839 => ((epactlow_Alike.f k t1658 t1661).bind fun t1840 => (if (t1839 != t1840) = true then (none) else ((spans_Count.f k t1664).bind fun t1841 => ((epactref02_Count.f k t1658).bind fun t1842 => (if t1841 = t1842 then ((spans_Hull.f t1664).bind fun bt1909 => (if (bt1909.2.2 != (decide ((t1658.length : Int) > 0))) = true then (none) else (if bt1909.2.2 = true then (if 0 < (t1658.length : Int) then (if bt1909.1 = ((rd_T23 t1658 0).f0) then (if 0 ≤ (wrap64 ((t1658.length : Int) - 1)) then (if (wrap64 ((t1658.length : Int) - 1)) < (t1658.length : Int) then (if bt1909.2.1 = ((rd_T23 t1658 (wrap64 ((t1658.length : Int) - 1))).f1) then (epactlaw02_SpansTells.j0 k a3 t1658 t1661 t1664 t1667 false) else (none)) else (none)) else (none)) else (none)) else (none)) else (epactlaw02_SpansTells.j0 k a3 t1658 t1661 t1664 t1667 (!(bt1909.1 == 0) || (!(bt1909.2.1 == 0))))))) else (none))))))))))))))))) else (none)))) else (none)))) else (none))) = some r := H
 have A12 := Aside0.mk A120
 clear A120
 replace H := Option.bind_eq_some_iff.mp H
 obtain ⟨t1682, A130, H⟩ := H
 replace H : (if t1682 = true then ((spans_Cut.f t1664 t1667).bind fun t1683 => ((epactlow_Alike.f k t1683 t1670).bind fun t1686 => (if t1686 = true then ((spans_Less.f t1664 t1667).bind fun t1687 => ((epactlow_Alike.f k t1687 t1673).bind fun t1690 => (if t1690 = true then ((spans_Has.f k t1664 a2).bind fun t1833 => ((epactref02_Has.f k t1658 a2).bind fun t1834 => (if (t1833 != t1834) = true then (none) else ((spans_Within.f t1664 t1667).bind fun t1835 => (if (t1835 != ((t1673.length : Int) == 0)) = true then (none) else ((spans_Meet.f t1664 t1667).bind fun t1836 => (if (t1836 != (decide ((t1670.length : Int) > 0))) = true then (none) else ((spans_Ahead.f t1664 t1667).bind fun t1837 => ((epactref02_Ahead.f k t1658 t1661).bind fun t1838 => (if (t1837 != t1838) = true then (none) else ((spans_Same.f k t1664 t1667).bind fun t1839 => ((epactlow_Alike.f k t1658 t1661).bind fun t1840 => (if (t1839 != t1840) = true then (none) else ((spans_Count.f k t1664).bind fun t1841 => ((epactref02_Count.f k t1658).bind fun t1842 => (if t1841 = t1842 then ((spans_Hull.f t1664).bind fun bt1909 => (if (bt1909.2.2 != (decide ((t1658.length : Int) > 0))) = true then (none) else (if bt1909.2.2 = true then (if 0 < (t1658.length : Int) then (if bt1909.1 = ((rd_T23 t1658 0).f0) then (if 0 ≤ (wrap64 ((t1658.length : Int) - 1)) then (if (wrap64 ((t1658.length : Int) - 1)) < (t1658.length : Int) then (if bt1909.2.1 = ((rd_T23 t1658 (wrap64 ((t1658.length : Int) - 1))).f1) then (epactlaw02_SpansTells.j0 k a3 t1658 t1661 t1664 t1667 false) else (none)) else (none)) else (none)) else (none)) else (none)) else (epactlaw02_SpansTells.j0 k a3 t1658 t1661 t1664 t1667 (!(bt1909.1 == 0) || (!(bt1909.2.1 == 0))))))) else (none))))))))))))))))) else (none)))) else (none)))) else (none)) = some r := H
 have A13 := Aside0.mk A130
 clear A130
 by_cases c14 : t1682 = true
 ·
  subst c14
  have H1 : ((spans_Cut.f t1664 t1667).bind fun t1683 => ((epactlow_Alike.f k t1683 t1670).bind fun t1686 => (if t1686 = true then ((spans_Less.f t1664 t1667).bind fun t1687 => ((epactlow_Alike.f k t1687 t1673).bind fun t1690 => (if t1690 = true then ((spans_Has.f k t1664 a2).bind fun t1833 => ((epactref02_Has.f k t1658 a2).bind fun t1834 => (if (t1833 != t1834) = true then (none) else ((spans_Within.f t1664 t1667).bind fun t1835 => (if (t1835 != ((t1673.length : Int) == 0)) = true then (none) else ((spans_Meet.f t1664 t1667).bind fun t1836 => (if (t1836 != (decide ((t1670.length : Int) > 0))) = true then (none) else ((spans_Ahead.f t1664 t1667).bind fun t1837 => ((epactref02_Ahead.f k t1658 t1661).bind fun t1838 => (if (t1837 != t1838) = true then (none) else ((spans_Same.f k t1664 t1667).bind fun t1839 => ((epactlow_Alike.f k t1658 t1661).bind fun t1840 => (if (t1839 != t1840) = true then (none) else ((spans_Count.f k t1664).bind fun t1841 => ((epactref02_Count.f k t1658).bind fun t1842 => (if t1841 = t1842 then ((spans_Hull.f t1664).bind fun bt1909 => (if (bt1909.2.2 != (decide ((t1658.length : Int) > 0))) = true then (none) else (if bt1909.2.2 = true then (if 0 < (t1658.length : Int) then (if bt1909.1 = ((rd_T23 t1658 0).f0) then (if 0 ≤ (wrap64 ((t1658.length : Int) - 1)) then (if (wrap64 ((t1658.length : Int) - 1)) < (t1658.length : Int) then (if bt1909.2.1 = ((rd_T23 t1658 (wrap64 ((t1658.length : Int) - 1))).f1) then (epactlaw02_SpansTells.j0 k a3 t1658 t1661 t1664 t1667 false) else (none)) else (none)) else (none)) else (none)) else (none)) else (epactlaw02_SpansTells.j0 k a3 t1658 t1661 t1664 t1667 (!(bt1909.1 == 0) || (!(bt1909.2.1 == 0))))))) else (none))))))))))))))))) else (none)))) else (none)))) = some r := by rw [if_pos rfl] at H; exact H
  clear H
  have H := H1
  clear H1
  replace H := Option.bind_eq_some_iff.mp H
  obtain ⟨t1683, A150, H⟩ := H
  replace H : ((epactlow_Alike.f k t1683 t1670).bind fun t1686 => (if t1686 = true then ((spans_Less.f t1664 t1667).bind fun t1687 => ((epactlow_Alike.f k t1687 t1673).bind fun t1690 => (if t1690 = true then ((spans_Has.f k t1664 a2).bind fun t1833 => ((epactref02_Has.f k t1658 a2).bind fun t1834 => (if (t1833 != t1834) = true then (none) else ((spans_Within.f t1664 t1667).bind fun t1835 => (if (t1835 != ((t1673.length : Int) == 0)) = true then (none) else ((spans_Meet.f t1664 t1667).bind fun t1836 => (if (t1836 != (decide ((t1670.length : Int) > 0))) = true then (none) else ((spans_Ahead.f t1664 t1667).bind fun t1837 => ((epactref02_Ahead.f k t1658 t1661).bind fun t1838 => (if (t1837 != t1838) = true then (none) else ((spans_Same.f k t1664 t1667).bind fun t1839 => ((epactlow_Alike.f k t1658 t1661).bind fun t1840 => (if (t1839 != t1840) = true then (none) else ((spans_Count.f k t1664).bind fun t1841 => ((epactref02_Count.f k t1658).bind fun t1842 => (if t1841 = t1842 then ((spans_Hull.f t1664).bind fun bt1909 => (if (bt1909.2.2 != (decide ((t1658.length : Int) > 0))) = true then (none) else (if bt1909.2.2 = true then (if 0 < (t1658.length : Int) then (if bt1909.1 = ((rd_T23 t1658 0).f0) then (if 0 ≤ (wrap64 ((t1658.length : Int) - 1)) then (if (wrap64 ((t1658.length : Int) - 1)) < (t1658.length : Int) then (if bt1909.2.1 = ((rd_T23 t1658 (wrap64 ((t1658.length : Int) - 1))).f1) then (epactlaw02_SpansTells.j0 k a3 t1658 t1661 t1664 t1667 false) else (none)) else (none)) else (none)) else (none)) else (none)) else (epactlaw02_SpansTells.j0 k a3 t1658 t1661 t1664 t1667 (!(bt1909.1 == 0) || (!(bt1909.2.1 == 0))))))) else (none))))))))))))))))) else (none)))) else (none))) = some r := H
  have A15 := Aside0.mk A150
  clear A150
  replace H := Option.bind_eq_some_iff.mp H
  obtain ⟨t1686, A160, H⟩ := H
  replace H : (if t1686 = true then ((spans_Less.f t1664 t1667).bind fun t1687 => ((epactlow_Alike.f k t1687 t1673).bind fun t1690 => (if t1690 = true then ((spans_Has.f k t1664 a2).bind fun t1833 => ((epactref02_Has.f k t1658 a2).bind fun t1834 => (if (t1833 != t1834) = true then (none) else ((spans_Within.f t1664 t1667).bind fun t1835 => (if (t1835 != ((t1673.length : Int) == 0)) = true then (none) else ((spans_Meet.f t1664 t1667).bind fun t1836 => (if (t1836 != (decide ((t1670.length : Int) > 0))) = true then (none) else ((spans_Ahead.f t1664 t1667).bind fun t1837 => ((epactref02_Ahead.f k t1658 t1661).bind fun t1838 => (if (t1837 != t1838) = true then (none) else ((spans_Same.f k t1664 t1667).bind fun t1839 => ((epactlow_Alike.f k t1658 t1661).bind fun t1840 => (if (t1839 != t1840) = true then (none) else ((spans_Count.f k t1664).bind fun t1841 => ((epactref02_Count.f k t1658).bind fun t1842 => (if t1841 = t1842 then ((spans_Hull.f t1664).bind fun bt1909 => (if (bt1909.2.2 != (decide ((t1658.length : Int) > 0))) = true then (none) else (if bt1909.2.2 = true then (if 0 < (t1658.length : Int) then (if bt1909.1 = ((rd_T23 t1658 0).f0) then (if 0 ≤ (wrap64 ((t1658.length : Int) - 1)) then (if (wrap64 ((t1658.length : Int) - 1)) < (t1658.length : Int) then (if bt1909.2.1 = ((rd_T23 t1658 (wrap64 ((t1658.length : Int) - 1))).f1) then (epactlaw02_SpansTells.j0 k a3 t1658 t1661 t1664 t1667 false) else (none)) else (none)) else (none)) else (none)) else (none)) else (epactlaw02_SpansTells.j0 k a3 t1658 t1661 t1664 t1667 (!(bt1909.1 == 0) || (!(bt1909.2.1 == 0))))))) else (none))))))))))))))))) else (none)))) else (none)) = some r := H
  have A16 := Aside0.mk A160
  clear A160
  by_cases c17 : t1686 = true
  ·
   subst c17
   have H1 : ((spans_Less.f t1664 t1667).bind fun t1687 => ((epactlow_Alike.f k t1687 t1673).bind fun t1690 => (if t1690 = true then ((spans_Has.f k t1664 a2).bind fun t1833 => ((epactref02_Has.f k t1658 a2).bind fun t1834 => (if (t1833 != t1834) = true then (none) else ((spans_Within.f t1664 t1667).bind fun t1835 => (if (t1835 != ((t1673.length : Int) == 0)) = true then (none) else ((spans_Meet.f t1664 t1667).bind fun t1836 => (if (t1836 != (decide ((t1670.length : Int) > 0))) = true then (none) else ((spans_Ahead.f t1664 t1667).bind fun t1837 => ((epactref02_Ahead.f k t1658 t1661).bind fun t1838 => (if (t1837 != t1838) = true then (none) else ((spans_Same.f k t1664 t1667).bind fun t1839 => ((epactlow_Alike.f k t1658 t1661).bind fun t1840 => (if (t1839 != t1840) = true then (none) else ((spans_Count.f k t1664).bind fun t1841 => ((epactref02_Count.f k t1658).bind fun t1842 => (if t1841 = t1842 then ((spans_Hull.f t1664).bind fun bt1909 => (if (bt1909.2.2 != (decide ((t1658.length : Int) > 0))) = true then (none) else (if bt1909.2.2 = true then (if 0 < (t1658.length : Int) then (if bt1909.1 = ((rd_T23 t1658 0).f0) then (if 0 ≤ (wrap64 ((t1658.length : Int) - 1)) then (if (wrap64 ((t1658.length : Int) - 1)) < (t1658.length : Int) then (if bt1909.2.1 = ((rd_T23 t1658 (wrap64 ((t1658.length : Int) - 1))).f1) then (epactlaw02_SpansTells.j0 k a3 t1658 t1661 t1664 t1667 false) else (none)) else (none)) else (none)) else (none)) else (none)) else (epactlaw02_SpansTells.j0 k a3 t1658 t1661 t1664 t1667 (!(bt1909.1 == 0) || (!(bt1909.2.1 == 0))))))) else (none))))))))))))))))) else (none)))) = some r := by rw [if_pos rfl] at H; exact H
   clear H
   have H := H1
   clear H1
   replace H := Option.bind_eq_some_iff.mp H
   obtain ⟨t1687, A180, H⟩ := H
   replace H : ((epactlow_Alike.f k t1687 t1673).bind fun t1690 => (if t1690 = true then ((spans_Has.f k t1664 a2).bind fun t1833 => ((epactref02_Has.f k t1658 a2).bind fun t1834 => (if (t1833 != t1834) = true then (none) else ((spans_Within.f t1664 t1667).bind fun t1835 => (if (t1835 != ((t1673.length : Int) == 0)) = true then (none) else ((spans_Meet.f t1664 t1667).bind fun t1836 => (if (t1836 != (decide ((t1670.length : Int) > 0))) = true then (none) else ((spans_Ahead.f t1664 t1667).bind fun t1837 => ((epactref02_Ahead.f k t1658 t1661).bind fun t1838 => (if (t1837 != t1838) = true then (none) else ((spans_Same.f k t1664 t1667).bind fun t1839 => ((epactlow_Alike.f k t1658 t1661).bind fun t1840 => (if (t1839 != t1840) = true then (none) else ((spans_Count.f k t1664).bind fun t1841 => ((epactref02_Count.f k t1658).bind fun t1842 => (if t1841 = t1842 then ((spans_Hull.f t1664).bind fun bt1909 => (if (bt1909.2.2 != (decide ((t1658.length : Int) > 0))) = true then (none) else (if bt1909.2.2 = true then (if 0 < (t1658.length : Int) then (if bt1909.1 = ((rd_T23 t1658 0).f0) then (if 0 ≤ (wrap64 ((t1658.length : Int) - 1)) then (if (wrap64 ((t1658.length : Int) - 1)) < (t1658.length : Int) then (if bt1909.2.1 = ((rd_T23 t1658 (wrap64 ((t1658.length : Int) - 1))).f1) then (epactlaw02_SpansTells.j0 k a3 t1658 t1661 t1664 t1667 false) else (none)) else (none)) else (none)) else (none)) else (none)) else (epactlaw02_SpansTells.j0 k a3 t1658 t1661 t1664 t1667 (!(bt1909.1 == 0) || (!(bt1909.2.1 == 0))))))) else (none))))))))))))))))) else (none))) = some r := H
   have A18 := Aside0.mk A180
   clear A180
   replace H := Option.bind_eq_some_iff.mp H
   obtain ⟨t1690, A190, H⟩ := H
   replace H : (if t1690 = true then ((spans_Has.f k t1664 a2).bind fun t1833 => ((epactref02_Has.f k t1658 a2).bind fun t1834 => (if (t1833 != t1834) = true then (none) else ((spans_Within.f t1664 t1667).bind fun t1835 => (if (t1835 != ((t1673.length : Int) == 0)) = true then (none) else ((spans_Meet.f t1664 t1667).bind fun t1836 => (if (t1836 != (decide ((t1670.length : Int) > 0))) = true then (none) else ((spans_Ahead.f t1664 t1667).bind fun t1837 => ((epactref02_Ahead.f k t1658 t1661).bind fun t1838 => (if (t1837 != t1838) = true then (none) else ((spans_Same.f k t1664 t1667).bind fun t1839 => ((epactlow_Alike.f k t1658 t1661).bind fun t1840 => (if (t1839 != t1840) = true then (none) else ((spans_Count.f k t1664).bind fun t1841 => ((epactref02_Count.f k t1658).bind fun t1842 => (if t1841 = t1842 then ((spans_Hull.f t1664).bind fun bt1909 => (if (bt1909.2.2 != (decide ((t1658.length : Int) > 0))) = true then (none) else (if bt1909.2.2 = true then (if 0 < (t1658.length : Int) then (if bt1909.1 = ((rd_T23 t1658 0).f0) then (if 0 ≤ (wrap64 ((t1658.length : Int) - 1)) then (if (wrap64 ((t1658.length : Int) - 1)) < (t1658.length : Int) then (if bt1909.2.1 = ((rd_T23 t1658 (wrap64 ((t1658.length : Int) - 1))).f1) then (epactlaw02_SpansTells.j0 k a3 t1658 t1661 t1664 t1667 false) else (none)) else (none)) else (none)) else (none)) else (none)) else (epactlaw02_SpansTells.j0 k a3 t1658 t1661 t1664 t1667 (!(bt1909.1 == 0) || (!(bt1909.2.1 == 0))))))) else (none))))))))))))))))) else (none)) = some r := H
   have A19 := Aside0.mk A190
   clear A190
   by_cases c20 : t1690 = true
   ·
    subst c20
    have H1 : ((spans_Has.f k t1664 a2).bind fun t1833 => ((epactref02_Has.f k t1658 a2).bind fun t1834 => (if (t1833 != t1834) = true then (none) else ((spans_Within.f t1664 t1667).bind fun t1835 => (if (t1835 != ((t1673.length : Int) == 0)) = true then (none) else ((spans_Meet.f t1664 t1667).bind fun t1836 => (if (t1836 != (decide ((t1670.length : Int) > 0))) = true then (none) else ((spans_Ahead.f t1664 t1667).bind fun t1837 => ((epactref02_Ahead.f k t1658 t1661).bind fun t1838 => (if (t1837 != t1838) = true then (none) else ((spans_Same.f k t1664 t1667).bind fun t1839 => ((epactlow_Alike.f k t1658 t1661).bind fun t1840 => (if (t1839 != t1840) = true then (none) else ((spans_Count.f k t1664).bind fun t1841 => ((epactref02_Count.f k t1658).bind fun t1842 => (if t1841 = t1842 then ((spans_Hull.f t1664).bind fun bt1909 => (if (bt1909.2.2 != (decide ((t1658.length : Int) > 0))) = true then (none) else (if bt1909.2.2 = true then (if 0 < (t1658.length : Int) then (if bt1909.1 = ((rd_T23 t1658 0).f0) then (if 0 ≤ (wrap64 ((t1658.length : Int) - 1)) then (if (wrap64 ((t1658.length : Int) - 1)) < (t1658.length : Int) then (if bt1909.2.1 = ((rd_T23 t1658 (wrap64 ((t1658.length : Int) - 1))).f1) then (epactlaw02_SpansTells.j0 k a3 t1658 t1661 t1664 t1667 false) else (none)) else (none)) else (none)) else (none)) else (none)) else (epactlaw02_SpansTells.j0 k a3 t1658 t1661 t1664 t1667 (!(bt1909.1 == 0) || (!(bt1909.2.1 == 0))))))) else (none))))))))))))))))) = some r := by rw [if_pos rfl] at H; exact H
    clear H
    have H := H1
    clear H1
    replace H := Option.bind_eq_some_iff.mp H
    obtain ⟨t1833, A210, H⟩ := H
    replace H : ((epactref02_Has.f k t1658 a2).bind fun t1834 => (if (t1833 != t1834) = true then (none) else ((spans_Within.f t1664 t1667).bind fun t1835 => (if (t1835 != ((t1673.length : Int) == 0)) = true then (none) else ((spans_Meet.f t1664 t1667).bind fun t1836 => (if (t1836 != (decide ((t1670.length : Int) > 0))) = true then (none) else ((spans_Ahead.f t1664 t1667).bind fun t1837 => ((epactref02_Ahead.f k t1658 t1661).bind fun t1838 => (if (t1837 != t1838) = true then (none) else ((spans_Same.f k t1664 t1667).bind fun t1839 => ((epactlow_Alike.f k t1658 t1661).bind fun t1840 => (if (t1839 != t1840) = true then (none) else ((spans_Count.f k t1664).bind fun t1841 => ((epactref02_Count.f k t1658).bind fun t1842 => (if t1841 = t1842 then ((spans_Hull.f t1664).bind fun bt1909 => (if (bt1909.2.2 != (decide ((t1658.length : Int) > 0))) = true then (none) else (if bt1909.2.2 = true then (if 0 < (t1658.length : Int) then (if bt1909.1 = ((rd_T23 t1658 0).f0) then (if 0 ≤ (wrap64 ((t1658.length : Int) - 1)) then (if (wrap64 ((t1658.length : Int) - 1)) < (t1658.length : Int) then (if bt1909.2.1 = ((rd_T23 t1658 (wrap64 ((t1658.length : Int) - 1))).f1) then (epactlaw02_SpansTells.j0 k a3 t1658 t1661 t1664 t1667 false) else (none)) else (none)) else (none)) else (none)) else (none)) else (epactlaw02_SpansTells.j0 k a3 t1658 t1661 t1664 t1667 (!(bt1909.1 == 0) || (!(bt1909.2.1 == 0))))))) else (none)))))))))))))))) = some r := H
    have A21 := Aside0.mk A210
    clear A210
    replace H := Option.bind_eq_some_iff.mp H
    obtain ⟨t1834, A220, H⟩ := H
    replace H : (if (t1833 != t1834) = true then (none) else ((spans_Within.f t1664 t1667).bind fun t1835 => (if (t1835 != ((t1673.length : Int) == 0)) = true then (none) else ((spans_Meet.f t1664 t1667).bind fun t1836 => (if (t1836 != (decide ((t1670.length : Int) > 0))) = true then (none) else ((spans_Ahead.f t1664 t1667).bind fun t1837 => ((epactref02_Ahead.f k t1658 t1661).bind fun t1838 => (if (t1837 != t1838) = true then (none) else ((spans_Same.f k t1664 t1667).bind fun t1839 => ((epactlow_Alike.f k t1658 t1661).bind fun t1840 => (if (t1839 != t1840) = true then (none) else ((spans_Count.f k t1664).bind fun t1841 => ((epactref02_Count.f k t1658).bind fun t1842 => (if t1841 = t1842 then ((spans_Hull.f t1664).bind fun bt1909 => (if (bt1909.2.2 != (decide ((t1658.length : Int) > 0))) = true then (none) else (if bt1909.2.2 = true then (if 0 < (t1658.length : Int) then (if bt1909.1 = ((rd_T23 t1658 0).f0) then (if 0 ≤ (wrap64 ((t1658.length : Int) - 1)) then (if (wrap64 ((t1658.length : Int) - 1)) < (t1658.length : Int) then (if bt1909.2.1 = ((rd_T23 t1658 (wrap64 ((t1658.length : Int) - 1))).f1) then (epactlaw02_SpansTells.j0 k a3 t1658 t1661 t1664 t1667 false) else (none)) else (none)) else (none)) else (none)) else (none)) else (epactlaw02_SpansTells.j0 k a3 t1658 t1661 t1664 t1667 (!(bt1909.1 == 0) || (!(bt1909.2.1 == 0))))))) else (none))))))))))))))) = some r := H
    have A22 := Aside0.mk A220
    clear A220
    by_cases c23 : (t1833 != t1834) = true
    ·
     rw [if_pos c23] at H
     exact absurd H (by simp)
    ·
     rw [if_neg c23] at H
     have c23b0 : (t1833 != t1834) = false := by simpa using c23
     (try (have c23b1 : decide (t1833 = t1834) = true := by simpa using c23))
     (try (have c23b2 : (t1833 == t1834) = true := by simpa using c23))
     clear c23
     replace H := Option.bind_eq_some_iff.mp H
     obtain ⟨t1835, A240, H⟩ := H
     replace H : (if (t1835 != ((t1673.length : Int) == 0)) = true then (none) else ((spans_Meet.f t1664 t1667).bind fun t1836 => (if (t1836 != (decide ((t1670.length : Int) > 0))) = true then (none) else ((spans_Ahead.f t1664 t1667).bind fun t1837 => ((epactref02_Ahead.f k t1658 t1661).bind fun t1838 => (if (t1837 != t1838) = true then (none) else ((spans_Same.f k t1664 t1667).bind fun t1839 => ((epactlow_Alike.f k t1658 t1661).bind fun t1840 => (if (t1839 != t1840) = true then (none) else ((spans_Count.f k t1664).bind fun t1841 => ((epactref02_Count.f k t1658).bind fun t1842 => (if t1841 = t1842 then ((spans_Hull.f t1664).bind fun bt1909 => (if (bt1909.2.2 != (decide ((t1658.length : Int) > 0))) = true then (none) else (if bt1909.2.2 = true then (if 0 < (t1658.length : Int) then (if bt1909.1 = ((rd_T23 t1658 0).f0) then (if 0 ≤ (wrap64 ((t1658.length : Int) - 1)) then (if (wrap64 ((t1658.length : Int) - 1)) < (t1658.length : Int) then (if bt1909.2.1 = ((rd_T23 t1658 (wrap64 ((t1658.length : Int) - 1))).f1) then (epactlaw02_SpansTells.j0 k a3 t1658 t1661 t1664 t1667 false) else (none)) else (none)) else (none)) else (none)) else (none)) else (epactlaw02_SpansTells.j0 k a3 t1658 t1661 t1664 t1667 (!(bt1909.1 == 0) || (!(bt1909.2.1 == 0))))))) else (none))))))))))))) = some r := H
     have A24 := Aside0.mk A240
     clear A240
     by_cases c25 : (t1835 != ((t1673.length : Int) == 0)) = true
     ·
      rw [if_pos c25] at H
      exact absurd H (by simp)
     ·
      rw [if_neg c25] at H
      have c25b0 : (t1835 != ((t1673.length : Int) == 0)) = false := by simpa using c25
      (try (have c25b1 : decide (t1835 = ((t1673.length : Int) == 0)) = true := by simpa using c25))
      (try (have c25b2 : (t1835 == ((t1673.length : Int) == 0)) = true := by simpa using c25))
      clear c25
      replace H := Option.bind_eq_some_iff.mp H
      obtain ⟨t1836, A260, H⟩ := H
      replace H : (if (t1836 != (decide ((t1670.length : Int) > 0))) = true then (none) else ((spans_Ahead.f t1664 t1667).bind fun t1837 => ((epactref02_Ahead.f k t1658 t1661).bind fun t1838 => (if (t1837 != t1838) = true then (none) else ((spans_Same.f k t1664 t1667).bind fun t1839 => ((epactlow_Alike.f k t1658 t1661).bind fun t1840 => (if (t1839 != t1840) = true then (none) else ((spans_Count.f k t1664).bind fun t1841 => ((epactref02_Count.f k t1658).bind fun t1842 => (if t1841 = t1842 then ((spans_Hull.f t1664).bind fun bt1909 => (if (bt1909.2.2 != (decide ((t1658.length : Int) > 0))) = true then (none) else (if bt1909.2.2 = true then (if 0 < (t1658.length : Int) then (if bt1909.1 = ((rd_T23 t1658 0).f0) then (if 0 ≤ (wrap64 ((t1658.length : Int) - 1)) then (if (wrap64 ((t1658.length : Int) - 1)) < (t1658.length : Int) then (if bt1909.2.1 = ((rd_T23 t1658 (wrap64 ((t1658.length : Int) - 1))).f1) then (epactlaw02_SpansTells.j0 k a3 t1658 t1661 t1664 t1667 false) else (none)) else (none)) else (none)) else (none)) else (none)) else (epactlaw02_SpansTells.j0 k a3 t1658 t1661 t1664 t1667 (!(bt1909.1 == 0) || (!(bt1909.2.1 == 0))))))) else (none))))))))))) = some r := H
      have A26 := Aside0.mk A260
      clear A260
      by_cases c27 : (t1836 != (decide ((t1670.length : Int) > 0))) = true
      ·
       rw [if_pos c27] at H
       exact absurd H (by simp)
      ·
       rw [if_neg c27] at H
       have c27b0 : (t1836 != (decide ((t1670.length : Int) > 0))) = false := by simpa using c27
       (try (have c27b1 : decide (t1836 = (decide ((t1670.length : Int) > 0))) = true := by simpa using c27))
       (try (have c27b3 : decide (t1836 = decide (0 < t1670.length)) = true := by simpa using c27))
       (try (have c27b4 : decide (0 < t1670.length) = t1836 := (of_decide_eq_true c27b3).symm))
       (try (have c27b2 : (t1836 == (decide ((t1670.length : Int) > 0))) = true := by simpa using c27))
       clear c27
       replace H := Option.bind_eq_some_iff.mp H
       obtain ⟨t1837, A280, H⟩ := H
       replace H : ((epactref02_Ahead.f k t1658 t1661).bind fun t1838 => (if (t1837 != t1838) = true then (none) else ((spans_Same.f k t1664 t1667).bind fun t1839 => ((epactlow_Alike.f k t1658 t1661).bind fun t1840 => (if (t1839 != t1840) = true then (none) else ((spans_Count.f k t1664).bind fun t1841 => ((epactref02_Count.f k t1658).bind fun t1842 => (if t1841 = t1842 then ((spans_Hull.f t1664).bind fun bt1909 => (if (bt1909.2.2 != (decide ((t1658.length : Int) > 0))) = true then (none) else (if bt1909.2.2 = true then (if 0 < (t1658.length : Int) then (if bt1909.1 = ((rd_T23 t1658 0).f0) then (if 0 ≤ (wrap64 ((t1658.length : Int) - 1)) then (if (wrap64 ((t1658.length : Int) - 1)) < (t1658.length : Int) then (if bt1909.2.1 = ((rd_T23 t1658 (wrap64 ((t1658.length : Int) - 1))).f1) then (epactlaw02_SpansTells.j0 k a3 t1658 t1661 t1664 t1667 false) else (none)) else (none)) else (none)) else (none)) else (none)) else (epactlaw02_SpansTells.j0 k a3 t1658 t1661 t1664 t1667 (!(bt1909.1 == 0) || (!(bt1909.2.1 == 0))))))) else (none))))))))) = some r := H
       have A28 := Aside0.mk A280
       clear A280
       replace H := Option.bind_eq_some_iff.mp H
       obtain ⟨t1838, A290, H⟩ := H
       replace H : (if (t1837 != t1838) = true then (none) else ((spans_Same.f k t1664 t1667).bind fun t1839 => ((epactlow_Alike.f k t1658 t1661).bind fun t1840 => (if (t1839 != t1840) = true then (none) else ((spans_Count.f k t1664).bind fun t1841 => ((epactref02_Count.f k t1658).bind fun t1842 => (if t1841 = t1842 then ((spans_Hull.f t1664).bind fun bt1909 => (if (bt1909.2.2 != (decide ((t1658.length : Int) > 0))) = true then (none) else (if bt1909.2.2 = true then (if 0 < (t1658.length : Int) then (if bt1909.1 = ((rd_T23 t1658 0).f0) then (if 0 ≤ (wrap64 ((t1658.length : Int) - 1)) then (if (wrap64 ((t1658.length : Int) - 1)) < (t1658.length : Int) then (if bt1909.2.1 = ((rd_T23 t1658 (wrap64 ((t1658.length : Int) - 1))).f1) then (epactlaw02_SpansTells.j0 k a3 t1658 t1661 t1664 t1667 false) else (none)) else (none)) else (none)) else (none)) else (none)) else (epactlaw02_SpansTells.j0 k a3 t1658 t1661 t1664 t1667 (!(bt1909.1 == 0) || (!(bt1909.2.1 == 0))))))) else (none)))))))) = some r := H
       have A29 := Aside0.mk A290
       clear A290
       by_cases c30 : (t1837 != t1838) = true
       ·
        rw [if_pos c30] at H
        exact absurd H (by simp)
       ·
        rw [if_neg c30] at H
        have c30b0 : (t1837 != t1838) = false := by simpa using c30
        (try (have c30b1 : decide (t1837 = t1838) = true := by simpa using c30))
        (try (have c30b2 : (t1837 == t1838) = true := by simpa using c30))
        clear c30
        replace H := Option.bind_eq_some_iff.mp H
        obtain ⟨t1839, A310, H⟩ := H
        replace H : ((epactlow_Alike.f k t1658 t1661).bind fun t1840 => (if (t1839 != t1840) = true then (none) else ((spans_Count.f k t1664).bind fun t1841 => ((epactref02_Count.f k t1658).bind fun t1842 => (if t1841 = t1842 then ((spans_Hull.f t1664).bind fun bt1909 => (if (bt1909.2.2 != (decide ((t1658.length : Int) > 0))) = true then (none) else (if bt1909.2.2 = true then (if 0 < (t1658.length : Int) then (if bt1909.1 = ((rd_T23 t1658 0).f0) then (if 0 ≤ (wrap64 ((t1658.length : Int) - 1)) then (if (wrap64 ((t1658.length : Int) - 1)) < (t1658.length : Int) then (if bt1909.2.1 = ((rd_T23 t1658 (wrap64 ((t1658.length : Int) - 1))).f1) then (epactlaw02_SpansTells.j0 k a3 t1658 t1661 t1664 t1667 false) else (none)) else (none)) else (none)) else (none)) else (none)) else (epactlaw02_SpansTells.j0 k a3 t1658 t1661 t1664 t1667 (!(bt1909.1 == 0) || (!(bt1909.2.1 == 0))))))) else (none)))))) = some r := H
        have A31 := Aside0.mk A310
        clear A310
        replace H := Option.bind_eq_some_iff.mp H
        obtain ⟨t1840, A320, H⟩ := H
        replace H : (if (t1839 != t1840) = true then (none) else ((spans_Count.f k t1664).bind fun t1841 => ((epactref02_Count.f k t1658).bind fun t1842 => (if t1841 = t1842 then ((spans_Hull.f t1664).bind fun bt1909 => (if (bt1909.2.2 != (decide ((t1658.length : Int) > 0))) = true then (none) else (if bt1909.2.2 = true then (if 0 < (t1658.length : Int) then (if bt1909.1 = ((rd_T23 t1658 0).f0) then (if 0 ≤ (wrap64 ((t1658.length : Int) - 1)) then (if (wrap64 ((t1658.length : Int) - 1)) < (t1658.length : Int) then (if bt1909.2.1 = ((rd_T23 t1658 (wrap64 ((t1658.length : Int) - 1))).f1) then (epactlaw02_SpansTells.j0 k a3 t1658 t1661 t1664 t1667 false) else (none)) else (none)) else (none)) else (none)) else (none)) else (epactlaw02_SpansTells.j0 k a3 t1658 t1661 t1664 t1667 (!(bt1909.1 == 0) || (!(bt1909.2.1 == 0))))))) else (none))))) = some r := H
        have A32 := Aside0.mk A320
        clear A320
        by_cases c33 : (t1839 != t1840) = true
        ·
         rw [if_pos c33] at H
         exact absurd H (by simp)
        ·
         rw [if_neg c33] at H
         have c33b0 : (t1839 != t1840) = false := by simpa using c33
         (try (have c33b1 : decide (t1839 = t1840) = true := by simpa using c33))
         (try (have c33b2 : (t1839 == t1840) = true := by simpa using c33))
         clear c33
         replace H := Option.bind_eq_some_iff.mp H
         obtain ⟨t1841, A340, H⟩ := H
         replace H : ((epactref02_Count.f k t1658).bind fun t1842 => (if t1841 = t1842 then ((spans_Hull.f t1664).bind fun bt1909 => (if (bt1909.2.2 != (decide ((t1658.length : Int) > 0))) = true then (none) else (if bt1909.2.2 = true then (if 0 < (t1658.length : Int) then (if bt1909.1 = ((rd_T23 t1658 0).f0) then (if 0 ≤ (wrap64 ((t1658.length : Int) - 1)) then (if (wrap64 ((t1658.length : Int) - 1)) < (t1658.length : Int) then (if bt1909.2.1 = ((rd_T23 t1658 (wrap64 ((t1658.length : Int) - 1))).f1) then (epactlaw02_SpansTells.j0 k a3 t1658 t1661 t1664 t1667 false) else (none)) else (none)) else (none)) else (none)) else (none)) else (epactlaw02_SpansTells.j0 k a3 t1658 t1661 t1664 t1667 (!(bt1909.1 == 0) || (!(bt1909.2.1 == 0))))))) else (none))) = some r := H
         have A34 := Aside0.mk A340
         clear A340
         replace H := Option.bind_eq_some_iff.mp H
         obtain ⟨t1842, A350, H⟩ := H
         replace H : (if t1841 = t1842 then ((spans_Hull.f t1664).bind fun bt1909 => (if (bt1909.2.2 != (decide ((t1658.length : Int) > 0))) = true then (none) else (if bt1909.2.2 = true then (if 0 < (t1658.length : Int) then (if bt1909.1 = ((rd_T23 t1658 0).f0) then (if 0 ≤ (wrap64 ((t1658.length : Int) - 1)) then (if (wrap64 ((t1658.length : Int) - 1)) < (t1658.length : Int) then (if bt1909.2.1 = ((rd_T23 t1658 (wrap64 ((t1658.length : Int) - 1))).f1) then (epactlaw02_SpansTells.j0 k a3 t1658 t1661 t1664 t1667 false) else (none)) else (none)) else (none)) else (none)) else (none)) else (epactlaw02_SpansTells.j0 k a3 t1658 t1661 t1664 t1667 (!(bt1909.1 == 0) || (!(bt1909.2.1 == 0))))))) else (none)) = some r := H
         have A35 := Aside0.mk A350
         clear A350
         by_cases c36 : t1841 = t1842
         ·
          rw [if_pos c36] at H
          have c36b0 : (t1841 == t1842) = true := beq_iff_eq.mpr c36
          have c36b1 : (t1841 != t1842) = false := bne_eq_false_iff_eq.mpr c36
          clear c36
          replace H := Option.bind_eq_some_iff.mp H
          obtain ⟨⟨t1909, t1910, t1911⟩, A370, H⟩ := H
          replace H : (if (t1911 != (decide ((t1658.length : Int) > 0))) = true then (none) else (if t1911 = true then (if 0 < (t1658.length : Int) then (if t1909 = ((rd_T23 t1658 0).f0) then (if 0 ≤ (wrap64 ((t1658.length : Int) - 1)) then (if (wrap64 ((t1658.length : Int) - 1)) < (t1658.length : Int) then (if t1910 = ((rd_T23 t1658 (wrap64 ((t1658.length : Int) - 1))).f1) then (epactlaw02_SpansTells.j0 k a3 t1658 t1661 t1664 t1667 false) else (none)) else (none)) else (none)) else (none)) else (none)) else (epactlaw02_SpansTells.j0 k a3 t1658 t1661 t1664 t1667 (!(t1909 == 0) || (!(t1910 == 0)))))) = some r := H
          have A37 := Aside0.mk A370
          clear A370
          have HC38 := Aside0.mk H
          clear H
          go_enter Try.func11, Try.ntmps11
          go_upto_region 9 with (first | (go_at_call 44; (with_reducible refine (epactlaw02_set.calls k _ _ l0 t1658 _ ?side1 ?side2 A5.out).mono ?_); (case side1 => repeat (first | exact HR0.out | (with_reducible refine Kd.C_alloc ?_ _) | (with_reducible refine Kd.C_drewN ?_ _) | (with_reducible refine Kd.C_drew ?_))); (case side2 => exact HC0.out); clear A5; rintro e w39 ⟨v1659, rfl, ho0, hb⟩; have n0_ := Aside0.mk (Kd.R_lower ho0 (below_size (by repeat (first | (with_reducible first | exact HB.out | apply below_alloc | apply pw_below_drewN | apply below_drew1) | exact HB.out)))); have n1_ := Aside0.mk (below_step (by repeat (first | (with_reducible first | exact HB.out | apply below_alloc | apply pw_below_drewN | apply below_drew1) | exact HB.out)) hb); clear HB; have HO1660 := n0_; have HB := n1_; clear n0_ n1_; (try clear hb); (try clear hb2); (try clear hk); (try clear hi); (try clear ho0)) | (go_at_call 44; (with_reducible refine (epactlaw02_set.calls k _ _ l1 t1661 _ ?side1 ?side2 A6.out).mono ?_); (case side1 => repeat (first | exact (Kd.C_below HR1.out HB.out) | (with_reducible refine Kd.C_alloc ?_ _) | (with_reducible refine Kd.C_drewN ?_ _) | (with_reducible refine Kd.C_drew ?_))); (case side2 => exact HC1.out); clear A6; rintro e w40 ⟨v1662, rfl, ho0, hb⟩; have n0_ := Aside0.mk (Kd.R_elder' (by (with_reducible repeat (first | apply Kd.R_alloc | apply Kd.R_drewN | apply Kd.R_drew)); exact HO1660.out) (Kd.R_base ho0) hb); have n1_ := Aside0.mk (Kd.R_lower (Kd.R_new' ho0 (Kd.R_lt (by (with_reducible repeat (first | apply Kd.R_alloc | apply Kd.R_drewN | apply Kd.R_drew)); exact HO1660.out))) (below_size (by repeat (first | (with_reducible first | exact HB.out | apply below_alloc | apply pw_below_drewN | apply below_drew1) | exact HB.out)))); have n2_ := Aside0.mk (below_step (by repeat (first | (with_reducible first | exact HB.out | apply below_alloc | apply pw_below_drewN | apply below_drew1) | exact HB.out)) hb); clear HO1660; clear HB; have HO1660 := n0_; have HO1663 := n1_; have HB := n2_; clear n0_ n1_ n2_; (try clear hb); (try clear hb2); (try clear hk); (try clear hi); (try clear ho0); obtain ⟨Ao41, co41, eo41⟩ := Kd.R_slice HO1660.out; subst eo41) | (go_at_call 27; (with_reducible refine (epactlow_Anew.calls _ _ t1658 t1664 _ ?side1 ?side2 A7.out).mono ?_); (case side1 => repeat (first | exact (Kd.R_reads' HO1660.out).2.2 | (with_reducible refine Kd.C_alloc ?_ _) | (with_reducible refine Kd.C_drewN ?_ _) | (with_reducible refine Kd.C_drew ?_))); (case side2 => exact (Kd.R_reads' HO1660.out).2.1); clear A7; rintro e w42 ⟨v1665, rfl, ho0, hb⟩; have n0_ := Aside0.mk (Kd.R_elder' (by (with_reducible repeat (first | apply Kd.R_alloc | apply Kd.R_drewN | apply Kd.R_drew)); exact HO1660.out) (Kd.R_base ho0) hb); have n1_ := Aside0.mk (Kd.R_elder' (by (with_reducible repeat (first | apply Kd.R_alloc | apply Kd.R_drewN | apply Kd.R_drew)); exact HO1663.out) (Kd.R_base ho0) hb); have n2_ := Aside0.mk (Kd.R_lower (Kd.R_new' (Kd.R_new' ho0 (Kd.R_lt (by (with_reducible repeat (first | apply Kd.R_alloc | apply Kd.R_drewN | apply Kd.R_drew)); exact HO1660.out))) (Kd.R_lt (by (with_reducible repeat (first | apply Kd.R_alloc | apply Kd.R_drewN | apply Kd.R_drew)); exact HO1663.out))) (below_size (by repeat (first | (with_reducible first | exact HB.out | apply below_alloc | apply pw_below_drewN | apply below_drew1) | exact HB.out)))); have n3_ := Aside0.mk (below_step (by repeat (first | (with_reducible first | exact HB.out | apply below_alloc | apply pw_below_drewN | apply below_drew1) | exact HB.out)) hb); clear HO1660; clear HO1663; clear HB; have HO1660 := n0_; have HO1663 := n1_; have HO1666 := n2_; have HB := n3_; clear n0_ n1_ n2_ n3_; (try clear hb); (try clear hb2); (try clear hk); (try clear hi); (try clear ho0); obtain ⟨Ao43, co43, eo43⟩ := Kd.R_slice HO1663.out; subst eo43) | (go_at_call 27; (with_reducible refine (epactlow_Anew.calls _ _ t1661 t1667 _ ?side1 ?side2 A8.out).mono ?_); (case side1 => repeat (first | exact (Kd.R_reads' HO1663.out).2.2 | (with_reducible refine Kd.C_alloc ?_ _) | (with_reducible refine Kd.C_drewN ?_ _) | (with_reducible refine Kd.C_drew ?_))); (case side2 => exact (Kd.R_reads' HO1663.out).2.1); clear A8; rintro e w44 ⟨v1668, rfl, ho0, hb⟩; have n0_ := Aside0.mk (Kd.R_elder' (by (with_reducible repeat (first | apply Kd.R_alloc | apply Kd.R_drewN | apply Kd.R_drew)); exact HO1660.out) (Kd.R_base ho0) hb); have n1_ := Aside0.mk (Kd.R_elder' (by (with_reducible repeat (first | apply Kd.R_alloc | apply Kd.R_drewN | apply Kd.R_drew)); exact HO1663.out) (Kd.R_base ho0) hb); have n2_ := Aside0.mk (Kd.R_elder' (by (with_reducible repeat (first | apply Kd.R_alloc | apply Kd.R_drewN | apply Kd.R_drew)); exact HO1666.out) (Kd.R_base ho0) hb); have n3_ := Aside0.mk (Kd.R_lower (Kd.R_new' (Kd.R_new' (Kd.R_new' ho0 (Kd.R_lt (by (with_reducible repeat (first | apply Kd.R_alloc | apply Kd.R_drewN | apply Kd.R_drew)); exact HO1660.out))) (Kd.R_lt (by (with_reducible repeat (first | apply Kd.R_alloc | apply Kd.R_drewN | apply Kd.R_drew)); exact HO1663.out))) (Kd.R_lt (by (with_reducible repeat (first | apply Kd.R_alloc | apply Kd.R_drewN | apply Kd.R_drew)); exact HO1666.out))) (below_size (by repeat (first | (with_reducible first | exact HB.out | apply below_alloc | apply pw_below_drewN | apply below_drew1) | exact HB.out)))); have n4_ := Aside0.mk (below_step (by repeat (first | (with_reducible first | exact HB.out | apply below_alloc | apply pw_below_drewN | apply below_drew1) | exact HB.out)) hb); clear HO1660; clear HO1663; clear HO1666; clear HB; have HO1660 := n0_; have HO1663 := n1_; have HO1666 := n2_; have HO1669 := n3_; have HB := n4_; clear n0_ n1_ n2_ n3_ n4_; (try clear hb); (try clear hb2); (try clear hk); (try clear hi); (try clear ho0)) | (go_at_call 45; (with_reducible refine (epactref02_Set.calls k 2 _ _ t1658 _ _ t1661 t1670 _ ?side1 ?side2 ?side3 ?side4 A9.out).mono ?_); (case side1 => repeat (first | exact (Kd.R_reads' HO1660.out).2.2 | (with_reducible refine Kd.C_alloc ?_ _) | (with_reducible refine Kd.C_drewN ?_ _) | (with_reducible refine Kd.C_drew ?_))); (case side2 => exact (Kd.R_reads' HO1660.out).2.1); (case side3 => repeat (first | exact (Kd.R_reads' HO1663.out).2.2 | (with_reducible refine Kd.C_alloc ?_ _) | (with_reducible refine Kd.C_drewN ?_ _) | (with_reducible refine Kd.C_drew ?_))); (case side4 => exact (Kd.R_reads' HO1663.out).2.1); clear A9; rintro e w45 ⟨v1671, rfl, ho0, hb⟩; have n0_ := Aside0.mk (Kd.R_elder' (by (with_reducible repeat (first | apply Kd.R_alloc | apply Kd.R_drewN | apply Kd.R_drew)); exact HO1660.out) (Kd.R_base ho0) hb); have n1_ := Aside0.mk (Kd.R_elder' (by (with_reducible repeat (first | apply Kd.R_alloc | apply Kd.R_drewN | apply Kd.R_drew)); exact HO1663.out) (Kd.R_base ho0) hb); have n2_ := Aside0.mk (Kd.R_elder' (by (with_reducible repeat (first | apply Kd.R_alloc | apply Kd.R_drewN | apply Kd.R_drew)); exact HO1666.out) (Kd.R_base ho0) hb); have n3_ := Aside0.mk (Kd.R_elder' (by (with_reducible repeat (first | apply Kd.R_alloc | apply Kd.R_drewN | apply Kd.R_drew)); exact HO1669.out) (Kd.R_base ho0) hb); have n4_ := Aside0.mk (Kd.R_lower (Kd.R_new' (Kd.R_new' (Kd.R_new' (Kd.R_new' ho0 (Kd.R_lt (by (with_reducible repeat (first | apply Kd.R_alloc | apply Kd.R_drewN | apply Kd.R_drew)); exact HO1660.out))) (Kd.R_lt (by (with_reducible repeat (first | apply Kd.R_alloc | apply Kd.R_drewN | apply Kd.R_drew)); exact HO1663.out))) (Kd.R_lt (by (with_reducible repeat (first | apply Kd.R_alloc | apply Kd.R_drewN | apply Kd.R_drew)); exact HO1666.out))) (Kd.R_lt (by (with_reducible repeat (first | apply Kd.R_alloc | apply Kd.R_drewN | apply Kd.R_drew)); exact HO1669.out))) (below_size (by repeat (first | (with_reducible first | exact HB.out | apply below_alloc | apply pw_below_drewN | apply below_drew1) | exact HB.out)))); have n5_ := Aside0.mk (below_step (by repeat (first | (with_reducible first | exact HB.out | apply below_alloc | apply pw_below_drewN | apply below_drew1) | exact HB.out)) hb); clear HO1660; clear HO1663; clear HO1666; clear HO1669; clear HB; have HO1660 := n0_; have HO1663 := n1_; have HO1666 := n2_; have HO1669 := n3_; have HO1672 := n4_; have HB := n5_; clear n0_ n1_ n2_ n3_ n4_ n5_; (try clear hb); (try clear hb2); (try clear hk); (try clear hi); (try clear ho0)) | (go_at_call 45; (with_reducible refine (epactref02_Set.calls k 3 _ _ t1658 _ _ t1661 t1673 _ ?side1 ?side2 ?side3 ?side4 A10.out).mono ?_); (case side1 => repeat (first | exact (Kd.R_reads' HO1660.out).2.2 | (with_reducible refine Kd.C_alloc ?_ _) | (with_reducible refine Kd.C_drewN ?_ _) | (with_reducible refine Kd.C_drew ?_))); (case side2 => exact (Kd.R_reads' HO1660.out).2.1); (case side3 => repeat (first | exact (Kd.R_reads' HO1663.out).2.2 | (with_reducible refine Kd.C_alloc ?_ _) | (with_reducible refine Kd.C_drewN ?_ _) | (with_reducible refine Kd.C_drew ?_))); (case side4 => exact (Kd.R_reads' HO1663.out).2.1); clear A10; rintro e w46 ⟨v1674, rfl, ho0, hb⟩; have n0_ := Aside0.mk (Kd.R_elder' (by (with_reducible repeat (first | apply Kd.R_alloc | apply Kd.R_drewN | apply Kd.R_drew)); exact HO1660.out) (Kd.R_base ho0) hb); have n1_ := Aside0.mk (Kd.R_elder' (by (with_reducible repeat (first | apply Kd.R_alloc | apply Kd.R_drewN | apply Kd.R_drew)); exact HO1663.out) (Kd.R_base ho0) hb); have n2_ := Aside0.mk (Kd.R_elder' (by (with_reducible repeat (first | apply Kd.R_alloc | apply Kd.R_drewN | apply Kd.R_drew)); exact HO1666.out) (Kd.R_base ho0) hb); have n3_ := Aside0.mk (Kd.R_elder' (by (with_reducible repeat (first | apply Kd.R_alloc | apply Kd.R_drewN | apply Kd.R_drew)); exact HO1669.out) (Kd.R_base ho0) hb); have n4_ := Aside0.mk (Kd.R_elder' (by (with_reducible repeat (first | apply Kd.R_alloc | apply Kd.R_drewN | apply Kd.R_drew)); exact HO1672.out) (Kd.R_base ho0) hb); have n5_ := Aside0.mk (Kd.R_lower (Kd.R_new' (Kd.R_new' (Kd.R_new' (Kd.R_new' (Kd.R_new' ho0 (Kd.R_lt (by (with_reducible repeat (first | apply Kd.R_alloc | apply Kd.R_drewN | apply Kd.R_drew)); exact HO1660.out))) (Kd.R_lt (by (with_reducible repeat (first | apply Kd.R_alloc | apply Kd.R_drewN | apply Kd.R_drew)); exact HO1663.out))) (Kd.R_lt (by (with_reducible repeat (first | apply Kd.R_alloc | apply Kd.R_drewN | apply Kd.R_drew)); exact HO1666.out))) (Kd.R_lt (by (with_reducible repeat (first | apply Kd.R_alloc | apply Kd.R_drewN | apply Kd.R_drew)); exact HO1669.out))) (Kd.R_lt (by (with_reducible repeat (first | apply Kd.R_alloc | apply Kd.R_drewN | apply Kd.R_drew)); exact HO1672.out))) (below_size (by repeat (first | (with_reducible first | exact HB.out | apply below_alloc | apply pw_below_drewN | apply below_drew1) | exact HB.out)))); have n6_ := Aside0.mk (below_step (by repeat (first | (with_reducible first | exact HB.out | apply below_alloc | apply pw_below_drewN | apply below_drew1) | exact HB.out)) hb); clear HO1660; clear HO1663; clear HO1666; clear HO1669; clear HO1672; clear HB; have HO1660 := n0_; have HO1663 := n1_; have HO1666 := n2_; have HO1669 := n3_; have HO1672 := n4_; have HO1675 := n5_; have HB := n6_; clear n0_ n1_ n2_ n3_ n4_ n5_ n6_; (try clear hb); (try clear hb2); (try clear hk); (try clear hi); (try clear ho0); obtain ⟨Ao47, co47, eo47⟩ := Kd.R_slice HO1666.out; subst eo47; obtain ⟨Ao48, co48, eo48⟩ := Kd.R_slice HO1669.out; subst eo48) | (go_at_call 35; (with_reducible refine (spans_Union.calls _ _ t1664 _ _ t1667 t1676 _ ?side1 ?side2 ?side3 ?side4 A11.out).mono ?_); (case side1 => repeat (first | exact (Kd.R_reads' HO1666.out).2.2 | (with_reducible refine Kd.C_alloc ?_ _) | (with_reducible refine Kd.C_drewN ?_ _) | (with_reducible refine Kd.C_drew ?_))); (case side2 => exact (Kd.R_reads' HO1666.out).2.1); (case side3 => repeat (first | exact (Kd.R_reads' HO1669.out).2.2 | (with_reducible refine Kd.C_alloc ?_ _) | (with_reducible refine Kd.C_drewN ?_ _) | (with_reducible refine Kd.C_drew ?_))); (case side4 => exact (Kd.R_reads' HO1669.out).2.1); clear A11; rintro e w49 ⟨v1677, rfl, ho0, hb⟩; have n0_ := Aside0.mk (Kd.R_elder' (by (with_reducible repeat (first | apply Kd.R_alloc | apply Kd.R_drewN | apply Kd.R_drew)); exact HO1660.out) (Kd.R_base ho0) hb); have n1_ := Aside0.mk (Kd.R_elder' (by (with_reducible repeat (first | apply Kd.R_alloc | apply Kd.R_drewN | apply Kd.R_drew)); exact HO1663.out) (Kd.R_base ho0) hb); have n2_ := Aside0.mk (Kd.R_elder' (by (with_reducible repeat (first | apply Kd.R_alloc | apply Kd.R_drewN | apply Kd.R_drew)); exact HO1666.out) (Kd.R_base ho0) hb); have n3_ := Aside0.mk (Kd.R_elder' (by (with_reducible repeat (first | apply Kd.R_alloc | apply Kd.R_drewN | apply Kd.R_drew)); exact HO1669.out) (Kd.R_base ho0) hb); have n4_ := Aside0.mk (Kd.R_elder' (by (with_reducible repeat (first | apply Kd.R_alloc | apply Kd.R_drewN | apply Kd.R_drew)); exact HO1672.out) (Kd.R_base ho0) hb); have n5_ := Aside0.mk (Kd.R_elder' (by (with_reducible repeat (first | apply Kd.R_alloc | apply Kd.R_drewN | apply Kd.R_drew)); exact HO1675.out) (Kd.R_base ho0) hb); have n6_ := Aside0.mk (Kd.R_lower (Kd.R_new' (Kd.R_new' (Kd.R_new' (Kd.R_new' (Kd.R_new' (Kd.R_new' ho0 (Kd.R_lt (by (with_reducible repeat (first | apply Kd.R_alloc | apply Kd.R_drewN | apply Kd.R_drew)); exact HO1660.out))) (Kd.R_lt (by (with_reducible repeat (first | apply Kd.R_alloc | apply Kd.R_drewN | apply Kd.R_drew)); exact HO1663.out))) (Kd.R_lt (by (with_reducible repeat (first | apply Kd.R_alloc | apply Kd.R_drewN | apply Kd.R_drew)); exact HO1666.out))) (Kd.R_lt (by (with_reducible repeat (first | apply Kd.R_alloc | apply Kd.R_drewN | apply Kd.R_drew)); exact HO1669.out))) (Kd.R_lt (by (with_reducible repeat (first | apply Kd.R_alloc | apply Kd.R_drewN | apply Kd.R_drew)); exact HO1672.out))) (Kd.R_lt (by (with_reducible repeat (first | apply Kd.R_alloc | apply Kd.R_drewN | apply Kd.R_drew)); exact HO1675.out))) (below_size (by repeat (first | (with_reducible first | exact HB.out | apply below_alloc | apply pw_below_drewN | apply below_drew1) | exact HB.out)))); have n7_ := Aside0.mk (below_step (by repeat (first | (with_reducible first | exact HB.out | apply below_alloc | apply pw_below_drewN | apply below_drew1) | exact HB.out)) hb); clear HO1660; clear HO1663; clear HO1666; clear HO1669; clear HO1672; clear HO1675; clear HB; have HO1660 := n0_; have HO1663 := n1_; have HO1666 := n2_; have HO1669 := n3_; have HO1672 := n4_; have HO1675 := n5_; have HO1678 := n6_; have HB := n7_; clear n0_ n1_ n2_ n3_ n4_ n5_ n6_ n7_; (try clear hb); (try clear hb2); (try clear hk); (try clear hi); (try clear ho0)) | (go_at_call 45; (with_reducible refine (epactref02_Set.calls k 1 _ _ t1658 _ _ t1661 t1679 _ ?side1 ?side2 ?side3 ?side4 A12.out).mono ?_); (case side1 => repeat (first | exact (Kd.R_reads' HO1660.out).2.2 | (with_reducible refine Kd.C_alloc ?_ _) | (with_reducible refine Kd.C_drewN ?_ _) | (with_reducible refine Kd.C_drew ?_))); (case side2 => exact (Kd.R_reads' HO1660.out).2.1); (case side3 => repeat (first | exact (Kd.R_reads' HO1663.out).2.2 | (with_reducible refine Kd.C_alloc ?_ _) | (with_reducible refine Kd.C_drewN ?_ _) | (with_reducible refine Kd.C_drew ?_))); (case side4 => exact (Kd.R_reads' HO1663.out).2.1); clear A12; rintro e w50 ⟨v1680, rfl, ho0, hb⟩; have n0_ := Aside0.mk (Kd.R_elder' (by (with_reducible repeat (first | apply Kd.R_alloc | apply Kd.R_drewN | apply Kd.R_drew)); exact HO1660.out) (Kd.R_base ho0) hb); have n1_ := Aside0.mk (Kd.R_elder' (by (with_reducible repeat (first | apply Kd.R_alloc | apply Kd.R_drewN | apply Kd.R_drew)); exact HO1663.out) (Kd.R_base ho0) hb); have n2_ := Aside0.mk (Kd.R_elder' (by (with_reducible repeat (first | apply Kd.R_alloc | apply Kd.R_drewN | apply Kd.R_drew)); exact HO1666.out) (Kd.R_base ho0) hb); have n3_ := Aside0.mk (Kd.R_elder' (by (with_reducible repeat (first | apply Kd.R_alloc | apply Kd.R_drewN | apply Kd.R_drew)); exact HO1669.out) (Kd.R_base ho0) hb); have n4_ := Aside0.mk (Kd.R_elder' (by (with_reducible repeat (first | apply Kd.R_alloc | apply Kd.R_drewN | apply Kd.R_drew)); exact HO1672.out) (Kd.R_base ho0) hb); have n5_ := Aside0.mk (Kd.R_elder' (by (with_reducible repeat (first | apply Kd.R_alloc | apply Kd.R_drewN | apply Kd.R_drew)); exact HO1675.out) (Kd.R_base ho0) hb); have n6_ := Aside0.mk (Kd.R_elder' (by (with_reducible repeat (first | apply Kd.R_alloc | apply Kd.R_drewN | apply Kd.R_drew)); exact HO1678.out) (Kd.R_base ho0) hb); have n7_ := Aside0.mk (Kd.R_lower (Kd.R_new' (Kd.R_new' (Kd.R_new' (Kd.R_new' (Kd.R_new' (Kd.R_new' (Kd.R_new' ho0 (Kd.R_lt (by (with_reducible repeat (first | apply Kd.R_alloc | apply Kd.R_drewN | apply Kd.R_drew)); exact HO1660.out))) (Kd.R_lt (by (with_reducible repeat (first | apply Kd.R_alloc | apply Kd.R_drewN | apply Kd.R_drew)); exact HO1663.out))) (Kd.R_lt (by (with_reducible repeat (first | apply Kd.R_alloc | apply Kd.R_drewN | apply Kd.R_drew)); exact HO1666.out))) (Kd.R_lt (by (with_reducible repeat (first | apply Kd.R_alloc | apply Kd.R_drewN | apply Kd.R_drew)); exact HO1669.out))) (Kd.R_lt (by (with_reducible repeat (first | apply Kd.R_alloc | apply Kd.R_drewN | apply Kd.R_drew)); exact HO1672.out))) (Kd.R_lt (by (with_reducible repeat (first | apply Kd.R_alloc | apply Kd.R_drewN | apply Kd.R_drew)); exact HO1675.out))) (Kd.R_lt (by (with_reducible repeat (first | apply Kd.R_alloc | apply Kd.R_drewN | apply Kd.R_drew)); exact HO1678.out))) (below_size (by repeat (first | (with_reducible first | exact HB.out | apply below_alloc | apply pw_below_drewN | apply below_drew1) | exact HB.out)))); have n8_ := Aside0.mk (below_step (by repeat (first | (with_reducible first | exact HB.out | apply below_alloc | apply pw_below_drewN | apply below_drew1) | exact HB.out)) hb); clear HO1660; clear HO1663; clear HO1666; clear HO1669; clear HO1672; clear HO1675; clear HO1678; clear HB; have HO1660 := n0_; have HO1663 := n1_; have HO1666 := n2_; have HO1669 := n3_; have HO1672 := n4_; have HO1675 := n5_; have HO1678 := n6_; have HO1681 := n7_; have HB := n8_; clear n0_ n1_ n2_ n3_ n4_ n5_ n6_ n7_ n8_; (try clear hb); (try clear hb2); (try clear hk); (try clear hi); (try clear ho0); obtain ⟨Ao51, co51, eo51⟩ := Kd.R_slice HO1678.out; subst eo51; obtain ⟨Ao52, co52, eo52⟩ := Kd.R_slice HO1681.out; subst eo52) | (go_at_call 30; (with_reducible refine (epactlow_Alike.calls k _ _ t1676 _ _ t1679 true _ ?side1 ?side2 ?side3 ?side4 A13.out).mono ?_); (case side1 => repeat (first | exact (Kd.R_reads' HO1678.out).2.2 | (with_reducible refine Kd.C_alloc ?_ _) | (with_reducible refine Kd.C_drewN ?_ _) | (with_reducible refine Kd.C_drew ?_))); (case side2 => exact (Kd.R_reads' HO1678.out).2.1); (case side3 => repeat (first | exact (Kd.R_reads' HO1681.out).2.2 | (with_reducible refine Kd.C_alloc ?_ _) | (with_reducible refine Kd.C_drewN ?_ _) | (with_reducible refine Kd.C_drew ?_))); (case side4 => exact (Kd.R_reads' HO1681.out).2.1); clear A13; rintro e w53 ⟨rfl, hb⟩; have n0_ := Aside0.mk (Kd.R_below (by (with_reducible repeat (first | apply Kd.R_alloc | apply Kd.R_drewN | apply Kd.R_drew)); exact HO1660.out) hb); have n1_ := Aside0.mk (Kd.R_below (by (with_reducible repeat (first | apply Kd.R_alloc | apply Kd.R_drewN | apply Kd.R_drew)); exact HO1663.out) hb); have n2_ := Aside0.mk (Kd.R_below (by (with_reducible repeat (first | apply Kd.R_alloc | apply Kd.R_drewN | apply Kd.R_drew)); exact HO1666.out) hb); have n3_ := Aside0.mk (Kd.R_below (by (with_reducible repeat (first | apply Kd.R_alloc | apply Kd.R_drewN | apply Kd.R_drew)); exact HO1669.out) hb); have n4_ := Aside0.mk (Kd.R_below (by (with_reducible repeat (first | apply Kd.R_alloc | apply Kd.R_drewN | apply Kd.R_drew)); exact HO1672.out) hb); have n5_ := Aside0.mk (Kd.R_below (by (with_reducible repeat (first | apply Kd.R_alloc | apply Kd.R_drewN | apply Kd.R_drew)); exact HO1675.out) hb); have n6_ := Aside0.mk (Kd.R_below (by (with_reducible repeat (first | apply Kd.R_alloc | apply Kd.R_drewN | apply Kd.R_drew)); exact HO1678.out) hb); have n7_ := Aside0.mk (Kd.R_below (by (with_reducible repeat (first | apply Kd.R_alloc | apply Kd.R_drewN | apply Kd.R_drew)); exact HO1681.out) hb); have n8_ := Aside0.mk (below_step (by repeat (first | (with_reducible first | exact HB.out | apply below_alloc | apply pw_below_drewN | apply below_drew1) | exact HB.out)) hb); clear HO1660; clear HO1663; clear HO1666; clear HO1669; clear HO1672; clear HO1675; clear HO1678; clear HO1681; clear HB; have HO1660 := n0_; have HO1663 := n1_; have HO1666 := n2_; have HO1669 := n3_; have HO1672 := n4_; have HO1675 := n5_; have HO1678 := n6_; have HO1681 := n7_; have HB := n8_; clear n0_ n1_ n2_ n3_ n4_ n5_ n6_ n7_ n8_; (try clear hb); (try clear hb2); (try clear hk); (try clear hi)) | (go_at_call 36; (with_reducible refine (spans_Cut.calls _ _ t1664 _ _ t1667 t1683 _ ?side1 ?side2 ?side3 ?side4 A15.out).mono ?_); (case side1 => repeat (first | exact (Kd.R_reads' HO1666.out).2.2 | (with_reducible refine Kd.C_alloc ?_ _) | (with_reducible refine Kd.C_drewN ?_ _) | (with_reducible refine Kd.C_drew ?_))); (case side2 => exact (Kd.R_reads' HO1666.out).2.1); (case side3 => repeat (first | exact (Kd.R_reads' HO1669.out).2.2 | (with_reducible refine Kd.C_alloc ?_ _) | (with_reducible refine Kd.C_drewN ?_ _) | (with_reducible refine Kd.C_drew ?_))); (case side4 => exact (Kd.R_reads' HO1669.out).2.1); clear A15; rintro e w54 ⟨v1684, rfl, ho0, hb⟩; have n0_ := Aside0.mk (Kd.R_elder' (by (with_reducible repeat (first | apply Kd.R_alloc | apply Kd.R_drewN | apply Kd.R_drew)); exact HO1660.out) (Kd.R_base ho0) hb); have n1_ := Aside0.mk (Kd.R_elder' (by (with_reducible repeat (first | apply Kd.R_alloc | apply Kd.R_drewN | apply Kd.R_drew)); exact HO1663.out) (Kd.R_base ho0) hb); have n2_ := Aside0.mk (Kd.R_elder' (by (with_reducible repeat (first | apply Kd.R_alloc | apply Kd.R_drewN | apply Kd.R_drew)); exact HO1666.out) (Kd.R_base ho0) hb); have n3_ := Aside0.mk (Kd.R_elder' (by (with_reducible repeat (first | apply Kd.R_alloc | apply Kd.R_drewN | apply Kd.R_drew)); exact HO1669.out) (Kd.R_base ho0) hb); have n4_ := Aside0.mk (Kd.R_elder' (by (with_reducible repeat (first | apply Kd.R_alloc | apply Kd.R_drewN | apply Kd.R_drew)); exact HO1672.out) (Kd.R_base ho0) hb); have n5_ := Aside0.mk (Kd.R_elder' (by (with_reducible repeat (first | apply Kd.R_alloc | apply Kd.R_drewN | apply Kd.R_drew)); exact HO1675.out) (Kd.R_base ho0) hb); have n6_ := Aside0.mk (Kd.R_elder' (by (with_reducible repeat (first | apply Kd.R_alloc | apply Kd.R_drewN | apply Kd.R_drew)); exact HO1678.out) (Kd.R_base ho0) hb); have n7_ := Aside0.mk (Kd.R_elder' (by (with_reducible repeat (first | apply Kd.R_alloc | apply Kd.R_drewN | apply Kd.R_drew)); exact HO1681.out) (Kd.R_base ho0) hb); have n8_ := Aside0.mk (Kd.R_lower (Kd.R_new' (Kd.R_new' (Kd.R_new' (Kd.R_new' (Kd.R_new' (Kd.R_new' (Kd.R_new' (Kd.R_new' ho0 (Kd.R_lt (by (with_reducible repeat (first | apply Kd.R_alloc | apply Kd.R_drewN | apply Kd.R_drew)); exact HO1660.out))) (Kd.R_lt (by (with_reducible repeat (first | apply Kd.R_alloc | apply Kd.R_drewN | apply Kd.R_drew)); exact HO1663.out))) (Kd.R_lt (by (with_reducible repeat (first | apply Kd.R_alloc | apply Kd.R_drewN | apply Kd.R_drew)); exact HO1666.out))) (Kd.R_lt (by (with_reducible repeat (first | apply Kd.R_alloc | apply Kd.R_drewN | apply Kd.R_drew)); exact HO1669.out))) (Kd.R_lt (by (with_reducible repeat (first | apply Kd.R_alloc | apply Kd.R_drewN | apply Kd.R_drew)); exact HO1672.out))) (Kd.R_lt (by (with_reducible repeat (first | apply Kd.R_alloc | apply Kd.R_drewN | apply Kd.R_drew)); exact HO1675.out))) (Kd.R_lt (by (with_reducible repeat (first | apply Kd.R_alloc | apply Kd.R_drewN | apply Kd.R_drew)); exact HO1678.out))) (Kd.R_lt (by (with_reducible repeat (first | apply Kd.R_alloc | apply Kd.R_drewN | apply Kd.R_drew)); exact HO1681.out))) (below_size (by repeat (first | (with_reducible first | exact HB.out | apply below_alloc | apply pw_below_drewN | apply below_drew1) | exact HB.out)))); have n9_ := Aside0.mk (below_step (by repeat (first | (with_reducible first | exact HB.out | apply below_alloc | apply pw_below_drewN | apply below_drew1) | exact HB.out)) hb); clear HO1660; clear HO1663; clear HO1666; clear HO1669; clear HO1672; clear HO1675; clear HO1678; clear HO1681; clear HB; have HO1660 := n0_; have HO1663 := n1_; have HO1666 := n2_; have HO1669 := n3_; have HO1672 := n4_; have HO1675 := n5_; have HO1678 := n6_; have HO1681 := n7_; have HO1685 := n8_; have HB := n9_; clear n0_ n1_ n2_ n3_ n4_ n5_ n6_ n7_ n8_ n9_; (try clear hb); (try clear hb2); (try clear hk); (try clear hi); (try clear ho0); obtain ⟨Ao55, co55, eo55⟩ := Kd.R_slice HO1685.out; subst eo55; obtain ⟨Ao56, co56, eo56⟩ := Kd.R_slice HO1672.out; subst eo56) | (go_at_call 30; (with_reducible refine (epactlow_Alike.calls k _ _ t1683 _ _ t1670 true _ ?side1 ?side2 ?side3 ?side4 A16.out).mono ?_); (case side1 => repeat (first | exact (Kd.R_reads' HO1685.out).2.2 | (with_reducible refine Kd.C_alloc ?_ _) | (with_reducible refine Kd.C_drewN ?_ _) | (with_reducible refine Kd.C_drew ?_))); (case side2 => exact (Kd.R_reads' HO1685.out).2.1); (case side3 => repeat (first | exact (Kd.R_reads' HO1672.out).2.2 | (with_reducible refine Kd.C_alloc ?_ _) | (with_reducible refine Kd.C_drewN ?_ _) | (with_reducible refine Kd.C_drew ?_))); (case side4 => exact (Kd.R_reads' HO1672.out).2.1); clear A16; rintro e w57 ⟨rfl, hb⟩; have n0_ := Aside0.mk (Kd.R_below (by (with_reducible repeat (first | apply Kd.R_alloc | apply Kd.R_drewN | apply Kd.R_drew)); exact HO1660.out) hb); have n1_ := Aside0.mk (Kd.R_below (by (with_reducible repeat (first | apply Kd.R_alloc | apply Kd.R_drewN | apply Kd.R_drew)); exact HO1663.out) hb); have n2_ := Aside0.mk (Kd.R_below (by (with_reducible repeat (first | apply Kd.R_alloc | apply Kd.R_drewN | apply Kd.R_drew)); exact HO1666.out) hb); have n3_ := Aside0.mk (Kd.R_below (by (with_reducible repeat (first | apply Kd.R_alloc | apply Kd.R_drewN | apply Kd.R_drew)); exact HO1669.out) hb); have n4_ := Aside0.mk (Kd.R_below (by (with_reducible repeat (first | apply Kd.R_alloc | apply Kd.R_drewN | apply Kd.R_drew)); exact HO1672.out) hb); have n5_ := Aside0.mk (Kd.R_below (by (with_reducible repeat (first | apply Kd.R_alloc | apply Kd.R_drewN | apply Kd.R_drew)); exact HO1675.out) hb); have n6_ := Aside0.mk (Kd.R_below (by (with_reducible repeat (first | apply Kd.R_alloc | apply Kd.R_drewN | apply Kd.R_drew)); exact HO1678.out) hb); have n7_ := Aside0.mk (Kd.R_below (by (with_reducible repeat (first | apply Kd.R_alloc | apply Kd.R_drewN | apply Kd.R_drew)); exact HO1681.out) hb); have n8_ := Aside0.mk (Kd.R_below (by (with_reducible repeat (first | apply Kd.R_alloc | apply Kd.R_drewN | apply Kd.R_drew)); exact HO1685.out) hb); have n9_ := Aside0.mk (below_step (by repeat (first | (with_reducible first | exact HB.out | apply below_alloc | apply pw_below_drewN | apply below_drew1) | exact HB.out)) hb); clear HO1660; clear HO1663; clear HO1666; clear HO1669; clear HO1672; clear HO1675; clear HO1678; clear HO1681; clear HO1685; clear HB; have HO1660 := n0_; have HO1663 := n1_; have HO1666 := n2_; have HO1669 := n3_; have HO1672 := n4_; have HO1675 := n5_; have HO1678 := n6_; have HO1681 := n7_; have HO1685 := n8_; have HB := n9_; clear n0_ n1_ n2_ n3_ n4_ n5_ n6_ n7_ n8_ n9_; (try clear hb); (try clear hb2); (try clear hk); (try clear hi)) | (go_at_call 37; (with_reducible refine (spans_Less.calls _ _ t1664 _ _ t1667 t1687 _ ?side1 ?side2 ?side3 ?side4 A18.out).mono ?_); (case side1 => repeat (first | exact (Kd.R_reads' HO1666.out).2.2 | (with_reducible refine Kd.C_alloc ?_ _) | (with_reducible refine Kd.C_drewN ?_ _) | (with_reducible refine Kd.C_drew ?_))); (case side2 => exact (Kd.R_reads' HO1666.out).2.1); (case side3 => repeat (first | exact (Kd.R_reads' HO1669.out).2.2 | (with_reducible refine Kd.C_alloc ?_ _) | (with_reducible refine Kd.C_drewN ?_ _) | (with_reducible refine Kd.C_drew ?_))); (case side4 => exact (Kd.R_reads' HO1669.out).2.1); clear A18; rintro e w58 ⟨v1688, rfl, ho0, hb⟩; have n0_ := Aside0.mk (Kd.R_elder' (by (with_reducible repeat (first | apply Kd.R_alloc | apply Kd.R_drewN | apply Kd.R_drew)); exact HO1660.out) (Kd.R_base ho0) hb); have n1_ := Aside0.mk (Kd.R_elder' (by (with_reducible repeat (first | apply Kd.R_alloc | apply Kd.R_drewN | apply Kd.R_drew)); exact HO1663.out) (Kd.R_base ho0) hb); have n2_ := Aside0.mk (Kd.R_elder' (by (with_reducible repeat (first | apply Kd.R_alloc | apply Kd.R_drewN | apply Kd.R_drew)); exact HO1666.out) (Kd.R_base ho0) hb); have n3_ := Aside0.mk (Kd.R_elder' (by (with_reducible repeat (first | apply Kd.R_alloc | apply Kd.R_drewN | apply Kd.R_drew)); exact HO1669.out) (Kd.R_base ho0) hb); have n4_ := Aside0.mk (Kd.R_elder' (by (with_reducible repeat (first | apply Kd.R_alloc | apply Kd.R_drewN | apply Kd.R_drew)); exact HO1672.out) (Kd.R_base ho0) hb); have n5_ := Aside0.mk (Kd.R_elder' (by (with_reducible repeat (first | apply Kd.R_alloc | apply Kd.R_drewN | apply Kd.R_drew)); exact HO1675.out) (Kd.R_base ho0) hb); have n6_ := Aside0.mk (Kd.R_elder' (by (with_reducible repeat (first | apply Kd.R_alloc | apply Kd.R_drewN | apply Kd.R_drew)); exact HO1678.out) (Kd.R_base ho0) hb); have n7_ := Aside0.mk (Kd.R_elder' (by (with_reducible repeat (first | apply Kd.R_alloc | apply Kd.R_drewN | apply Kd.R_drew)); exact HO1681.out) (Kd.R_base ho0) hb); have n8_ := Aside0.mk (Kd.R_elder' (by (with_reducible repeat (first | apply Kd.R_alloc | apply Kd.R_drewN | apply Kd.R_drew)); exact HO1685.out) (Kd.R_base ho0) hb); have n9_ := Aside0.mk (Kd.R_lower (Kd.R_new' (Kd.R_new' (Kd.R_new' (Kd.R_new' (Kd.R_new' (Kd.R_new' (Kd.R_new' (Kd.R_new' (Kd.R_new' ho0 (Kd.R_lt (by (with_reducible repeat (first | apply Kd.R_alloc | apply Kd.R_drewN | apply Kd.R_drew)); exact HO1660.out))) (Kd.R_lt (by (with_reducible repeat (first | apply Kd.R_alloc | apply Kd.R_drewN | apply Kd.R_drew)); exact HO1663.out))) (Kd.R_lt (by (with_reducible repeat (first | apply Kd.R_alloc | apply Kd.R_drewN | apply Kd.R_drew)); exact HO1666.out))) (Kd.R_lt (by (with_reducible repeat (first | apply Kd.R_alloc | apply Kd.R_drewN | apply Kd.R_drew)); exact HO1669.out))) (Kd.R_lt (by (with_reducible repeat (first | apply Kd.R_alloc | apply Kd.R_drewN | apply Kd.R_drew)); exact HO1672.out))) (Kd.R_lt (by (with_reducible repeat (first | apply Kd.R_alloc | apply Kd.R_drewN | apply Kd.R_drew)); exact HO1675.out))) (Kd.R_lt (by (with_reducible repeat (first | apply Kd.R_alloc | apply Kd.R_drewN | apply Kd.R_drew)); exact HO1678.out))) (Kd.R_lt (by (with_reducible repeat (first | apply Kd.R_alloc | apply Kd.R_drewN | apply Kd.R_drew)); exact HO1681.out))) (Kd.R_lt (by (with_reducible repeat (first | apply Kd.R_alloc | apply Kd.R_drewN | apply Kd.R_drew)); exact HO1685.out))) (below_size (by repeat (first | (with_reducible first | exact HB.out | apply below_alloc | apply pw_below_drewN | apply below_drew1) | exact HB.out)))); have n10_ := Aside0.mk (below_step (by repeat (first | (with_reducible first | exact HB.out | apply below_alloc | apply pw_below_drewN | apply below_drew1) | exact HB.out)) hb); clear HO1660; clear HO1663; clear HO1666; clear HO1669; clear HO1672; clear HO1675; clear HO1678; clear HO1681; clear HO1685; clear HB; have HO1660 := n0_; have HO1663 := n1_; have HO1666 := n2_; have HO1669 := n3_; have HO1672 := n4_; have HO1675 := n5_; have HO1678 := n6_; have HO1681 := n7_; have HO1685 := n8_; have HO1689 := n9_; have HB := n10_; clear n0_ n1_ n2_ n3_ n4_ n5_ n6_ n7_ n8_ n9_ n10_; (try clear hb); (try clear hb2); (try clear hk); (try clear hi); (try clear ho0); obtain ⟨Ao59, co59, eo59⟩ := Kd.R_slice HO1689.out; subst eo59; obtain ⟨Ao60, co60, eo60⟩ := Kd.R_slice HO1675.out; subst eo60) | (go_at_call 30; (with_reducible refine (epactlow_Alike.calls k _ _ t1687 _ _ t1673 true _ ?side1 ?side2 ?side3 ?side4 A19.out).mono ?_); (case side1 => repeat (first | exact (Kd.R_reads' HO1689.out).2.2 | (with_reducible refine Kd.C_alloc ?_ _) | (with_reducible refine Kd.C_drewN ?_ _) | (with_reducible refine Kd.C_drew ?_))); (case side2 => exact (Kd.R_reads' HO1689.out).2.1); (case side3 => repeat (first | exact (Kd.R_reads' HO1675.out).2.2 | (with_reducible refine Kd.C_alloc ?_ _) | (with_reducible refine Kd.C_drewN ?_ _) | (with_reducible refine Kd.C_drew ?_))); (case side4 => exact (Kd.R_reads' HO1675.out).2.1); clear A19; rintro e w61 ⟨rfl, hb⟩; have n0_ := Aside0.mk (Kd.R_below (by (with_reducible repeat (first | apply Kd.R_alloc | apply Kd.R_drewN | apply Kd.R_drew)); exact HO1660.out) hb); have n1_ := Aside0.mk (Kd.R_below (by (with_reducible repeat (first | apply Kd.R_alloc | apply Kd.R_drewN | apply Kd.R_drew)); exact HO1663.out) hb); have n2_ := Aside0.mk (Kd.R_below (by (with_reducible repeat (first | apply Kd.R_alloc | apply Kd.R_drewN | apply Kd.R_drew)); exact HO1666.out) hb); have n3_ := Aside0.mk (Kd.R_below (by (with_reducible repeat (first | apply Kd.R_alloc | apply Kd.R_drewN | apply Kd.R_drew)); exact HO1669.out) hb); have n4_ := Aside0.mk (Kd.R_below (by (with_reducible repeat (first | apply Kd.R_alloc | apply Kd.R_drewN | apply Kd.R_drew)); exact HO1672.out) hb); have n5_ := Aside0.mk (Kd.R_below (by (with_reducible repeat (first | apply Kd.R_alloc | apply Kd.R_drewN | apply Kd.R_drew)); exact HO1675.out) hb); have n6_ := Aside0.mk (Kd.R_below (by (with_reducible repeat (first | apply Kd.R_alloc | apply Kd.R_drewN | apply Kd.R_drew)); exact HO1678.out) hb); have n7_ := Aside0.mk (Kd.R_below (by (with_reducible repeat (first | apply Kd.R_alloc | apply Kd.R_drewN | apply Kd.R_drew)); exact HO1681.out) hb); have n8_ := Aside0.mk (Kd.R_below (by (with_reducible repeat (first | apply Kd.R_alloc | apply Kd.R_drewN | apply Kd.R_drew)); exact HO1685.out) hb); have n9_ := Aside0.mk (Kd.R_below (by (with_reducible repeat (first | apply Kd.R_alloc | apply Kd.R_drewN | apply Kd.R_drew)); exact HO1689.out) hb); have n10_ := Aside0.mk (below_step (by repeat (first | (with_reducible first | exact HB.out | apply below_alloc | apply pw_below_drewN | apply below_drew1) | exact HB.out)) hb); clear HO1660; clear HO1663; clear HO1666; clear HO1669; clear HO1672; clear HO1675; clear HO1678; clear HO1681; clear HO1685; clear HO1689; clear HB; have HO1660 := n0_; have HO1663 := n1_; have HO1666 := n2_; have HO1669 := n3_; have HO1672 := n4_; have HO1675 := n5_; have HO1678 := n6_; have HO1681 := n7_; have HO1685 := n8_; have HO1689 := n9_; have HB := n10_; clear n0_ n1_ n2_ n3_ n4_ n5_ n6_ n7_ n8_ n9_ n10_; (try clear hb); (try clear hb2); (try clear hk); (try clear hi)) | (go_at_call 24; (with_reducible refine (spans_Has.calls k _ _ t1664 a2 t1833 _ ?side1 ?side2 A21.out).mono ?_); (case side1 => repeat (first | exact (Kd.R_reads' HO1666.out).2.2 | (with_reducible refine Kd.C_alloc ?_ _) | (with_reducible refine Kd.C_drewN ?_ _) | (with_reducible refine Kd.C_drew ?_))); (case side2 => exact (Kd.R_reads' HO1666.out).2.1); clear A21; rintro e w62 ⟨rfl, hb⟩; have n0_ := Aside0.mk (Kd.R_below (by (with_reducible repeat (first | apply Kd.R_alloc | apply Kd.R_drewN | apply Kd.R_drew)); exact HO1660.out) hb); have n1_ := Aside0.mk (Kd.R_below (by (with_reducible repeat (first | apply Kd.R_alloc | apply Kd.R_drewN | apply Kd.R_drew)); exact HO1663.out) hb); have n2_ := Aside0.mk (Kd.R_below (by (with_reducible repeat (first | apply Kd.R_alloc | apply Kd.R_drewN | apply Kd.R_drew)); exact HO1666.out) hb); have n3_ := Aside0.mk (Kd.R_below (by (with_reducible repeat (first | apply Kd.R_alloc | apply Kd.R_drewN | apply Kd.R_drew)); exact HO1669.out) hb); have n4_ := Aside0.mk (Kd.R_below (by (with_reducible repeat (first | apply Kd.R_alloc | apply Kd.R_drewN | apply Kd.R_drew)); exact HO1672.out) hb); have n5_ := Aside0.mk (Kd.R_below (by (with_reducible repeat (first | apply Kd.R_alloc | apply Kd.R_drewN | apply Kd.R_drew)); exact HO1675.out) hb); have n6_ := Aside0.mk (Kd.R_below (by (with_reducible repeat (first | apply Kd.R_alloc | apply Kd.R_drewN | apply Kd.R_drew)); exact HO1678.out) hb); have n7_ := Aside0.mk (Kd.R_below (by (with_reducible repeat (first | apply Kd.R_alloc | apply Kd.R_drewN | apply Kd.R_drew)); exact HO1681.out) hb); have n8_ := Aside0.mk (Kd.R_below (by (with_reducible repeat (first | apply Kd.R_alloc | apply Kd.R_drewN | apply Kd.R_drew)); exact HO1685.out) hb); have n9_ := Aside0.mk (Kd.R_below (by (with_reducible repeat (first | apply Kd.R_alloc | apply Kd.R_drewN | apply Kd.R_drew)); exact HO1689.out) hb); have n10_ := Aside0.mk (below_step (by repeat (first | (with_reducible first | exact HB.out | apply below_alloc | apply pw_below_drewN | apply below_drew1) | exact HB.out)) hb); clear HO1660; clear HO1663; clear HO1666; clear HO1669; clear HO1672; clear HO1675; clear HO1678; clear HO1681; clear HO1685; clear HO1689; clear HB; have HO1660 := n0_; have HO1663 := n1_; have HO1666 := n2_; have HO1669 := n3_; have HO1672 := n4_; have HO1675 := n5_; have HO1678 := n6_; have HO1681 := n7_; have HO1685 := n8_; have HO1689 := n9_; have HB := n10_; clear n0_ n1_ n2_ n3_ n4_ n5_ n6_ n7_ n8_ n9_ n10_; (try clear hb); (try clear hb2); (try clear hk); (try clear hi)) | (go_at_call 46; (with_reducible refine (epactref02_Has.calls k _ _ t1658 a2 t1834 _ ?side1 ?side2 A22.out).mono ?_); (case side1 => repeat (first | exact (Kd.R_reads' HO1660.out).2.2 | (with_reducible refine Kd.C_alloc ?_ _) | (with_reducible refine Kd.C_drewN ?_ _) | (with_reducible refine Kd.C_drew ?_))); (case side2 => exact (Kd.R_reads' HO1660.out).2.1); clear A22; rintro e w' ⟨rfl, ⟨nd, rfl⟩⟩; (try first | exact ⟨rfl, _, World.drewN_drewN _ _ _⟩ | exact ⟨rfl, _, Eq.trans (World.drewN_drewN _ _ _) (congrArg (World.drewN _) (Nat.add_assoc _ _ _))⟩)) | (go_at_call 40; (with_reducible refine (spans_Within.calls _ _ t1664 _ _ t1667 t1835 _ ?side1 ?side2 ?side3 ?side4 A24.out).mono ?_); (case side1 => repeat (first | exact (Kd.R_reads' HO1666.out).2.2 | (with_reducible refine Kd.C_alloc ?_ _) | (with_reducible refine Kd.C_drewN ?_ _) | (with_reducible refine Kd.C_drew ?_))); (case side2 => exact (Kd.R_reads' HO1666.out).2.1); (case side3 => repeat (first | exact (Kd.R_reads' HO1669.out).2.2 | (with_reducible refine Kd.C_alloc ?_ _) | (with_reducible refine Kd.C_drewN ?_ _) | (with_reducible refine Kd.C_drew ?_))); (case side4 => exact (Kd.R_reads' HO1669.out).2.1); clear A24; rintro e w63 ⟨rfl, hb⟩; have n0_ := Aside0.mk (Kd.R_below (by (with_reducible repeat (first | apply Kd.R_alloc | apply Kd.R_drewN | apply Kd.R_drew)); exact HO1660.out) hb); have n1_ := Aside0.mk (Kd.R_below (by (with_reducible repeat (first | apply Kd.R_alloc | apply Kd.R_drewN | apply Kd.R_drew)); exact HO1663.out) hb); have n2_ := Aside0.mk (Kd.R_below (by (with_reducible repeat (first | apply Kd.R_alloc | apply Kd.R_drewN | apply Kd.R_drew)); exact HO1666.out) hb); have n3_ := Aside0.mk (Kd.R_below (by (with_reducible repeat (first | apply Kd.R_alloc | apply Kd.R_drewN | apply Kd.R_drew)); exact HO1669.out) hb); have n4_ := Aside0.mk (Kd.R_below (by (with_reducible repeat (first | apply Kd.R_alloc | apply Kd.R_drewN | apply Kd.R_drew)); exact HO1672.out) hb); have n5_ := Aside0.mk (Kd.R_below (by (with_reducible repeat (first | apply Kd.R_alloc | apply Kd.R_drewN | apply Kd.R_drew)); exact HO1675.out) hb); have n6_ := Aside0.mk (Kd.R_below (by (with_reducible repeat (first | apply Kd.R_alloc | apply Kd.R_drewN | apply Kd.R_drew)); exact HO1678.out) hb); have n7_ := Aside0.mk (Kd.R_below (by (with_reducible repeat (first | apply Kd.R_alloc | apply Kd.R_drewN | apply Kd.R_drew)); exact HO1681.out) hb); have n8_ := Aside0.mk (Kd.R_below (by (with_reducible repeat (first | apply Kd.R_alloc | apply Kd.R_drewN | apply Kd.R_drew)); exact HO1685.out) hb); have n9_ := Aside0.mk (Kd.R_below (by (with_reducible repeat (first | apply Kd.R_alloc | apply Kd.R_drewN | apply Kd.R_drew)); exact HO1689.out) hb); have n10_ := Aside0.mk (below_step (by repeat (first | (with_reducible first | exact HB.out | apply below_alloc | apply pw_below_drewN | apply below_drew1) | exact HB.out)) hb); clear HO1660; clear HO1663; clear HO1666; clear HO1669; clear HO1672; clear HO1675; clear HO1678; clear HO1681; clear HO1685; clear HO1689; clear HB; have HO1660 := n0_; have HO1663 := n1_; have HO1666 := n2_; have HO1669 := n3_; have HO1672 := n4_; have HO1675 := n5_; have HO1678 := n6_; have HO1681 := n7_; have HO1685 := n8_; have HO1689 := n9_; have HB := n10_; clear n0_ n1_ n2_ n3_ n4_ n5_ n6_ n7_ n8_ n9_ n10_; (try clear hb); (try clear hb2); (try clear hk); (try clear hi)) | (go_at_call 38; (with_reducible refine (spans_Meet.calls _ _ t1664 _ _ t1667 t1836 _ ?side1 ?side2 ?side3 ?side4 A26.out).mono ?_); (case side1 => repeat (first | exact (Kd.R_reads' HO1666.out).2.2 | (with_reducible refine Kd.C_alloc ?_ _) | (with_reducible refine Kd.C_drewN ?_ _) | (with_reducible refine Kd.C_drew ?_))); (case side2 => exact (Kd.R_reads' HO1666.out).2.1); (case side3 => repeat (first | exact (Kd.R_reads' HO1669.out).2.2 | (with_reducible refine Kd.C_alloc ?_ _) | (with_reducible refine Kd.C_drewN ?_ _) | (with_reducible refine Kd.C_drew ?_))); (case side4 => exact (Kd.R_reads' HO1669.out).2.1); clear A26; rintro e w64 ⟨rfl, hb⟩; have n0_ := Aside0.mk (Kd.R_below (by (with_reducible repeat (first | apply Kd.R_alloc | apply Kd.R_drewN | apply Kd.R_drew)); exact HO1660.out) hb); have n1_ := Aside0.mk (Kd.R_below (by (with_reducible repeat (first | apply Kd.R_alloc | apply Kd.R_drewN | apply Kd.R_drew)); exact HO1663.out) hb); have n2_ := Aside0.mk (Kd.R_below (by (with_reducible repeat (first | apply Kd.R_alloc | apply Kd.R_drewN | apply Kd.R_drew)); exact HO1666.out) hb); have n3_ := Aside0.mk (Kd.R_below (by (with_reducible repeat (first | apply Kd.R_alloc | apply Kd.R_drewN | apply Kd.R_drew)); exact HO1669.out) hb); have n4_ := Aside0.mk (Kd.R_below (by (with_reducible repeat (first | apply Kd.R_alloc | apply Kd.R_drewN | apply Kd.R_drew)); exact HO1672.out) hb); have n5_ := Aside0.mk (Kd.R_below (by (with_reducible repeat (first | apply Kd.R_alloc | apply Kd.R_drewN | apply Kd.R_drew)); exact HO1675.out) hb); have n6_ := Aside0.mk (Kd.R_below (by (with_reducible repeat (first | apply Kd.R_alloc | apply Kd.R_drewN | apply Kd.R_drew)); exact HO1678.out) hb); have n7_ := Aside0.mk (Kd.R_below (by (with_reducible repeat (first | apply Kd.R_alloc | apply Kd.R_drewN | apply Kd.R_drew)); exact HO1681.out) hb); have n8_ := Aside0.mk (Kd.R_below (by (with_reducible repeat (first | apply Kd.R_alloc | apply Kd.R_drewN | apply Kd.R_drew)); exact HO1685.out) hb); have n9_ := Aside0.mk (Kd.R_below (by (with_reducible repeat (first | apply Kd.R_alloc | apply Kd.R_drewN | apply Kd.R_drew)); exact HO1689.out) hb); have n10_ := Aside0.mk (below_step (by repeat (first | (with_reducible first | exact HB.out | apply below_alloc | apply pw_below_drewN | apply below_drew1) | exact HB.out)) hb); clear HO1660; clear HO1663; clear HO1666; clear HO1669; clear HO1672; clear HO1675; clear HO1678; clear HO1681; clear HO1685; clear HO1689; clear HB; have HO1660 := n0_; have HO1663 := n1_; have HO1666 := n2_; have HO1669 := n3_; have HO1672 := n4_; have HO1675 := n5_; have HO1678 := n6_; have HO1681 := n7_; have HO1685 := n8_; have HO1689 := n9_; have HB := n10_; clear n0_ n1_ n2_ n3_ n4_ n5_ n6_ n7_ n8_ n9_ n10_; (try clear hb); (try clear hb2); (try clear hk); (try clear hi)) | (go_at_call 42; (with_reducible refine (spans_Ahead.calls _ _ t1664 _ _ t1667 t1837 _ ?side1 ?side2 ?side3 ?side4 A28.out).mono ?_); (case side1 => repeat (first | exact (Kd.R_reads' HO1666.out).2.2 | (with_reducible refine Kd.C_alloc ?_ _) | (with_reducible refine Kd.C_drewN ?_ _) | (with_reducible refine Kd.C_drew ?_))); (case side2 => exact (Kd.R_reads' HO1666.out).2.1); (case side3 => repeat (first | exact (Kd.R_reads' HO1669.out).2.2 | (with_reducible refine Kd.C_alloc ?_ _) | (with_reducible refine Kd.C_drewN ?_ _) | (with_reducible refine Kd.C_drew ?_))); (case side4 => exact (Kd.R_reads' HO1669.out).2.1); clear A28; rintro e w' ⟨rfl, ⟨nd, rfl⟩⟩; (try first | exact ⟨rfl, _, World.drewN_drewN _ _ _⟩ | exact ⟨rfl, _, Eq.trans (World.drewN_drewN _ _ _) (congrArg (World.drewN _) (Nat.add_assoc _ _ _))⟩)) | (go_at_call 47; (with_reducible refine (epactref02_Ahead.calls k _ _ t1658 _ _ t1661 t1838 _ ?side1 ?side2 ?side3 ?side4 A29.out).mono ?_); (case side1 => repeat (first | exact (Kd.R_reads' HO1660.out).2.2 | (with_reducible refine Kd.C_alloc ?_ _) | (with_reducible refine Kd.C_drewN ?_ _) | (with_reducible refine Kd.C_drew ?_))); (case side2 => exact (Kd.R_reads' HO1660.out).2.1); (case side3 => repeat (first | exact (Kd.R_reads' HO1663.out).2.2 | (with_reducible refine Kd.C_alloc ?_ _) | (with_reducible refine Kd.C_drewN ?_ _) | (with_reducible refine Kd.C_drew ?_))); (case side4 => exact (Kd.R_reads' HO1663.out).2.1); clear A29; rintro e w' ⟨rfl, ⟨nd, rfl⟩⟩; (try first | exact ⟨rfl, _, World.drewN_drewN _ _ _⟩ | exact ⟨rfl, _, Eq.trans (World.drewN_drewN _ _ _) (congrArg (World.drewN _) (Nat.add_assoc _ _ _))⟩)) | (go_at_call 34; (with_reducible refine (spans_Same.calls k _ _ t1664 _ _ t1667 t1839 _ ?side1 ?side2 ?side3 ?side4 A31.out).mono ?_); (case side1 => repeat (first | exact (Kd.R_reads' HO1666.out).2.2 | (with_reducible refine Kd.C_alloc ?_ _) | (with_reducible refine Kd.C_drewN ?_ _) | (with_reducible refine Kd.C_drew ?_))); (case side2 => exact (Kd.R_reads' HO1666.out).2.1); (case side3 => repeat (first | exact (Kd.R_reads' HO1669.out).2.2 | (with_reducible refine Kd.C_alloc ?_ _) | (with_reducible refine Kd.C_drewN ?_ _) | (with_reducible refine Kd.C_drew ?_))); (case side4 => exact (Kd.R_reads' HO1669.out).2.1); clear A31; rintro e w' ⟨rfl, ⟨nd, rfl⟩⟩; (try first | exact ⟨rfl, _, World.drewN_drewN _ _ _⟩ | exact ⟨rfl, _, Eq.trans (World.drewN_drewN _ _ _) (congrArg (World.drewN _) (Nat.add_assoc _ _ _))⟩)) | (go_at_call 30; (with_reducible refine (epactlow_Alike.calls k _ _ t1658 _ _ t1661 t1840 _ ?side1 ?side2 ?side3 ?side4 A32.out).mono ?_); (case side1 => repeat (first | exact (Kd.R_reads' HO1660.out).2.2 | (with_reducible refine Kd.C_alloc ?_ _) | (with_reducible refine Kd.C_drewN ?_ _) | (with_reducible refine Kd.C_drew ?_))); (case side2 => exact (Kd.R_reads' HO1660.out).2.1); (case side3 => repeat (first | exact (Kd.R_reads' HO1663.out).2.2 | (with_reducible refine Kd.C_alloc ?_ _) | (with_reducible refine Kd.C_drewN ?_ _) | (with_reducible refine Kd.C_drew ?_))); (case side4 => exact (Kd.R_reads' HO1663.out).2.1); clear A32; rintro e w65 ⟨rfl, hb⟩; have n0_ := Aside0.mk (Kd.R_below (by (with_reducible repeat (first | apply Kd.R_alloc | apply Kd.R_drewN | apply Kd.R_drew)); exact HO1660.out) hb); have n1_ := Aside0.mk (Kd.R_below (by (with_reducible repeat (first | apply Kd.R_alloc | apply Kd.R_drewN | apply Kd.R_drew)); exact HO1663.out) hb); have n2_ := Aside0.mk (Kd.R_below (by (with_reducible repeat (first | apply Kd.R_alloc | apply Kd.R_drewN | apply Kd.R_drew)); exact HO1666.out) hb); have n3_ := Aside0.mk (Kd.R_below (by (with_reducible repeat (first | apply Kd.R_alloc | apply Kd.R_drewN | apply Kd.R_drew)); exact HO1669.out) hb); have n4_ := Aside0.mk (Kd.R_below (by (with_reducible repeat (first | apply Kd.R_alloc | apply Kd.R_drewN | apply Kd.R_drew)); exact HO1672.out) hb); have n5_ := Aside0.mk (Kd.R_below (by (with_reducible repeat (first | apply Kd.R_alloc | apply Kd.R_drewN | apply Kd.R_drew)); exact HO1675.out) hb); have n6_ := Aside0.mk (Kd.R_below (by (with_reducible repeat (first | apply Kd.R_alloc | apply Kd.R_drewN | apply Kd.R_drew)); exact HO1678.out) hb); have n7_ := Aside0.mk (Kd.R_below (by (with_reducible repeat (first | apply Kd.R_alloc | apply Kd.R_drewN | apply Kd.R_drew)); exact HO1681.out) hb); have n8_ := Aside0.mk (Kd.R_below (by (with_reducible repeat (first | apply Kd.R_alloc | apply Kd.R_drewN | apply Kd.R_drew)); exact HO1685.out) hb); have n9_ := Aside0.mk (Kd.R_below (by (with_reducible repeat (first | apply Kd.R_alloc | apply Kd.R_drewN | apply Kd.R_drew)); exact HO1689.out) hb); have n10_ := Aside0.mk (below_step (by repeat (first | (with_reducible first | exact HB.out | apply below_alloc | apply pw_below_drewN | apply below_drew1) | exact HB.out)) hb); clear HO1660; clear HO1663; clear HO1666; clear HO1669; clear HO1672; clear HO1675; clear HO1678; clear HO1681; clear HO1685; clear HO1689; clear HB; have HO1660 := n0_; have HO1663 := n1_; have HO1666 := n2_; have HO1669 := n3_; have HO1672 := n4_; have HO1675 := n5_; have HO1678 := n6_; have HO1681 := n7_; have HO1685 := n8_; have HO1689 := n9_; have HB := n10_; clear n0_ n1_ n2_ n3_ n4_ n5_ n6_ n7_ n8_ n9_ n10_; (try clear hb); (try clear hb2); (try clear hk); (try clear hi)) | (go_at_call 39; (with_reducible refine (spans_Count.calls k _ _ t1664 t1841 _ ?side1 ?side2 A34.out).mono ?_); (case side1 => repeat (first | exact (Kd.R_reads' HO1666.out).2.2 | (with_reducible refine Kd.C_alloc ?_ _) | (with_reducible refine Kd.C_drewN ?_ _) | (with_reducible refine Kd.C_drew ?_))); (case side2 => exact (Kd.R_reads' HO1666.out).2.1); clear A34; rintro e w66 ⟨rfl, hb⟩; have n0_ := Aside0.mk (Kd.R_below (by (with_reducible repeat (first | apply Kd.R_alloc | apply Kd.R_drewN | apply Kd.R_drew)); exact HO1660.out) hb); have n1_ := Aside0.mk (Kd.R_below (by (with_reducible repeat (first | apply Kd.R_alloc | apply Kd.R_drewN | apply Kd.R_drew)); exact HO1663.out) hb); have n2_ := Aside0.mk (Kd.R_below (by (with_reducible repeat (first | apply Kd.R_alloc | apply Kd.R_drewN | apply Kd.R_drew)); exact HO1666.out) hb); have n3_ := Aside0.mk (Kd.R_below (by (with_reducible repeat (first | apply Kd.R_alloc | apply Kd.R_drewN | apply Kd.R_drew)); exact HO1669.out) hb); have n4_ := Aside0.mk (Kd.R_below (by (with_reducible repeat (first | apply Kd.R_alloc | apply Kd.R_drewN | apply Kd.R_drew)); exact HO1672.out) hb); have n5_ := Aside0.mk (Kd.R_below (by (with_reducible repeat (first | apply Kd.R_alloc | apply Kd.R_drewN | apply Kd.R_drew)); exact HO1675.out) hb); have n6_ := Aside0.mk (Kd.R_below (by (with_reducible repeat (first | apply Kd.R_alloc | apply Kd.R_drewN | apply Kd.R_drew)); exact HO1678.out) hb); have n7_ := Aside0.mk (Kd.R_below (by (with_reducible repeat (first | apply Kd.R_alloc | apply Kd.R_drewN | apply Kd.R_drew)); exact HO1681.out) hb); have n8_ := Aside0.mk (Kd.R_below (by (with_reducible repeat (first | apply Kd.R_alloc | apply Kd.R_drewN | apply Kd.R_drew)); exact HO1685.out) hb); have n9_ := Aside0.mk (Kd.R_below (by (with_reducible repeat (first | apply Kd.R_alloc | apply Kd.R_drewN | apply Kd.R_drew)); exact HO1689.out) hb); have n10_ := Aside0.mk (below_step (by repeat (first | (with_reducible first | exact HB.out | apply below_alloc | apply pw_below_drewN | apply below_drew1) | exact HB.out)) hb); clear HO1660; clear HO1663; clear HO1666; clear HO1669; clear HO1672; clear HO1675; clear HO1678; clear HO1681; clear HO1685; clear HO1689; clear HB; have HO1660 := n0_; have HO1663 := n1_; have HO1666 := n2_; have HO1669 := n3_; have HO1672 := n4_; have HO1675 := n5_; have HO1678 := n6_; have HO1681 := n7_; have HO1685 := n8_; have HO1689 := n9_; have HB := n10_; clear n0_ n1_ n2_ n3_ n4_ n5_ n6_ n7_ n8_ n9_ n10_; (try clear hb); (try clear hb2); (try clear hk); (try clear hi)) | (go_at_call 48; (with_reducible refine (epactref02_Count.calls k _ _ t1658 t1842 _ ?side1 ?side2 A35.out).mono ?_); (case side1 => repeat (first | exact (Kd.R_reads' HO1660.out).2.2 | (with_reducible refine Kd.C_alloc ?_ _) | (with_reducible refine Kd.C_drewN ?_ _) | (with_reducible refine Kd.C_drew ?_))); (case side2 => exact (Kd.R_reads' HO1660.out).2.1); clear A35; rintro e w' ⟨rfl, ⟨nd, rfl⟩⟩; (try first | exact ⟨rfl, _, World.drewN_drewN _ _ _⟩ | exact ⟨rfl, _, Eq.trans (World.drewN_drewN _ _ _) (congrArg (World.drewN _) (Nat.add_assoc _ _ _))⟩)) | (go_at_call 43; (with_reducible refine (spans_Hull.calls _ _ t1664 t1909 t1910 t1911 _ ?side1 ?side2 A37.out).mono ?_); (case side1 => repeat (first | exact (Kd.R_reads' HO1666.out).2.2 | (with_reducible refine Kd.C_alloc ?_ _) | (with_reducible refine Kd.C_drewN ?_ _) | (with_reducible refine Kd.C_drew ?_))); (case side2 => exact (Kd.R_reads' HO1666.out).2.1); clear A37; rintro e w67 ⟨rfl, hb⟩; have n0_ := Aside0.mk (Kd.R_below (by (with_reducible repeat (first | apply Kd.R_alloc | apply Kd.R_drewN | apply Kd.R_drew)); exact HO1660.out) hb); have n1_ := Aside0.mk (Kd.R_below (by (with_reducible repeat (first | apply Kd.R_alloc | apply Kd.R_drewN | apply Kd.R_drew)); exact HO1663.out) hb); have n2_ := Aside0.mk (Kd.R_below (by (with_reducible repeat (first | apply Kd.R_alloc | apply Kd.R_drewN | apply Kd.R_drew)); exact HO1666.out) hb); have n3_ := Aside0.mk (Kd.R_below (by (with_reducible repeat (first | apply Kd.R_alloc | apply Kd.R_drewN | apply Kd.R_drew)); exact HO1669.out) hb); have n4_ := Aside0.mk (Kd.R_below (by (with_reducible repeat (first | apply Kd.R_alloc | apply Kd.R_drewN | apply Kd.R_drew)); exact HO1672.out) hb); have n5_ := Aside0.mk (Kd.R_below (by (with_reducible repeat (first | apply Kd.R_alloc | apply Kd.R_drewN | apply Kd.R_drew)); exact HO1675.out) hb); have n6_ := Aside0.mk (Kd.R_below (by (with_reducible repeat (first | apply Kd.R_alloc | apply Kd.R_drewN | apply Kd.R_drew)); exact HO1678.out) hb); have n7_ := Aside0.mk (Kd.R_below (by (with_reducible repeat (first | apply Kd.R_alloc | apply Kd.R_drewN | apply Kd.R_drew)); exact HO1681.out) hb); have n8_ := Aside0.mk (Kd.R_below (by (with_reducible repeat (first | apply Kd.R_alloc | apply Kd.R_drewN | apply Kd.R_drew)); exact HO1685.out) hb); have n9_ := Aside0.mk (Kd.R_below (by (with_reducible repeat (first | apply Kd.R_alloc | apply Kd.R_drewN | apply Kd.R_drew)); exact HO1689.out) hb); have n10_ := Aside0.mk (below_step (by repeat (first | (with_reducible first | exact HB.out | apply below_alloc | apply pw_below_drewN | apply below_drew1) | exact HB.out)) hb); clear HO1660; clear HO1663; clear HO1666; clear HO1669; clear HO1672; clear HO1675; clear HO1678; clear HO1681; clear HO1685; clear HO1689; clear HB; have HO1660 := n0_; have HO1663 := n1_; have HO1666 := n2_; have HO1669 := n3_; have HO1672 := n4_; have HO1675 := n5_; have HO1678 := n6_; have HO1681 := n7_; have HO1685 := n8_; have HO1689 := n9_; have HB := n10_; clear n0_ n1_ n2_ n3_ n4_ n5_ n6_ n7_ n8_ n9_ n10_; (try clear hb); (try clear hb2); (try clear hk); (try clear hi)) | ((with_reducible refine gate_dst (N := 15) rfl ?_); (try (refine gate_guard (by rfl) ?_; dsimp only)); refine box_event ?hg (N := 15) ?hd (cs := #[.int .i64 0, .int .i64 0]) (t := 23) ?hr ?_; (case hd => rfl); (case hg => rfl); (case hr => first | (go_simp; done) | (go_simp; rfl)); intro gb1912 hg w68 hbox hb; have n0_ := Aside0.mk (Kd.R_below (Kd.R_elderB (by (with_reducible repeat (first | apply Kd.R_alloc | apply Kd.R_drewN | apply Kd.R_drew)); exact HO1660.out) gb1912 (Nat.le_of_eq hg.symm)) hb); have n1_ := Aside0.mk (Kd.R_below (Kd.R_elderB (by (with_reducible repeat (first | apply Kd.R_alloc | apply Kd.R_drewN | apply Kd.R_drew)); exact HO1663.out) gb1912 (Nat.le_of_eq hg.symm)) hb); have n2_ := Aside0.mk (Kd.R_below (Kd.R_elderB (by (with_reducible repeat (first | apply Kd.R_alloc | apply Kd.R_drewN | apply Kd.R_drew)); exact HO1666.out) gb1912 (Nat.le_of_eq hg.symm)) hb); have n3_ := Aside0.mk (Kd.R_below (Kd.R_elderB (by (with_reducible repeat (first | apply Kd.R_alloc | apply Kd.R_drewN | apply Kd.R_drew)); exact HO1669.out) gb1912 (Nat.le_of_eq hg.symm)) hb); have n4_ := Aside0.mk (Kd.R_below (Kd.R_elderB (by (with_reducible repeat (first | apply Kd.R_alloc | apply Kd.R_drewN | apply Kd.R_drew)); exact HO1672.out) gb1912 (Nat.le_of_eq hg.symm)) hb); have n5_ := Aside0.mk (Kd.R_below (Kd.R_elderB (by (with_reducible repeat (first | apply Kd.R_alloc | apply Kd.R_drewN | apply Kd.R_drew)); exact HO1675.out) gb1912 (Nat.le_of_eq hg.symm)) hb); have n6_ := Aside0.mk (Kd.R_below (Kd.R_elderB (by (with_reducible repeat (first | apply Kd.R_alloc | apply Kd.R_drewN | apply Kd.R_drew)); exact HO1678.out) gb1912 (Nat.le_of_eq hg.symm)) hb); have n7_ := Aside0.mk (Kd.R_below (Kd.R_elderB (by (with_reducible repeat (first | apply Kd.R_alloc | apply Kd.R_drewN | apply Kd.R_drew)); exact HO1681.out) gb1912 (Nat.le_of_eq hg.symm)) hb); have n8_ := Aside0.mk (Kd.R_below (Kd.R_elderB (by (with_reducible repeat (first | apply Kd.R_alloc | apply Kd.R_drewN | apply Kd.R_drew)); exact HO1685.out) gb1912 (Nat.le_of_eq hg.symm)) hb); have n9_ := Aside0.mk (Kd.R_below (Kd.R_elderB (by (with_reducible repeat (first | apply Kd.R_alloc | apply Kd.R_drewN | apply Kd.R_drew)); exact HO1689.out) gb1912 (Nat.le_of_eq hg.symm)) hb); have n10_ := Aside0.mk (below_step (by repeat (first | (with_reducible first | exact HB.out | apply below_alloc | apply pw_below_drewN | apply below_drew1) | exact HB.out)) hb); have n11_ := Aside0.mk (hbox); have n12_ := Aside0.mk ((by rw [hg]; exact (below_size (by repeat (first | (with_reducible first | exact HB.out | apply below_alloc | apply pw_below_drewN | apply below_drew1) | exact HB.out))) : w.heap.size ≤ gb1912)); have n13_ := Aside0.mk ((by rw [hg]; exact (below_size (by repeat (first | (with_reducible first | exact HB.out | apply below_alloc | apply pw_below_drewN | apply below_drew1) | exact HB.out))) : w.heap.size ≤ gb1912)); clear HO1660; clear HO1663; clear HO1666; clear HO1669; clear HO1672; clear HO1675; clear HO1678; clear HO1681; clear HO1685; clear HO1689; clear HB; have HO1660 := n0_; have HO1663 := n1_; have HO1666 := n2_; have HO1669 := n3_; have HO1672 := n4_; have HO1675 := n5_; have HO1678 := n6_; have HO1681 := n7_; have HO1685 := n8_; have HO1689 := n9_; have HB := n10_; have BK1912 := n11_; have GW1912 := n12_; have GE1912 := n13_; clear n0_ n1_ n2_ n3_ n4_ n5_ n6_ n7_ n8_ n9_ n10_ n11_ n12_ n13_; clear hb hbox hg; have hcz69_0 : w68.cell? ⟨gb1912, 0, none⟩ = some (.int .i64 0) := (blk_cell BK1912.out 0).trans rfl; have hcz69_1 : w68.cell? ⟨gb1912, 1, none⟩ = some (.int .i64 0) := (blk_cell BK1912.out 1).trans rfl; have hfz69_0 := blk_frozen BK1912.out 0; have hfz69_1 := blk_frozen BK1912.out 1))
          repeat (go_quiet (fail); try go_upto_region 9 with (fail))
          (try simp only [Act.put, List.setIfInBounds_toArray, List.set_cons_zero, List.set_cons_succ])
          go_cut [151] (fun v151 wc => ∃ (kq : Nat) (x151_37 : Bool), v151 = .bool x151_37 ∧ Aside0 (epactlaw02_SpansTells.j0 kq a3 t1658 t1661 t1664 t1667 x151_37 = some r) ∧ Aside0 (kq ≤ k) ∧ Aside0 (Kd.R k23 23 wc w.heap.size (fun k_ => some k_ ≠ ((.slice Ao43 t1661.length co43) : Value).ownBlock ∧ some k_ ≠ ((.slice Ao47 t1664.length co47) : Value).ownBlock ∧ some k_ ≠ ((.slice Ao48 t1667.length co48) : Value).ownBlock ∧ k_ ≠ gb1912) (.slice Ao41 t1658.length co41) t1658) ∧ Aside0 (Kd.R k23 23 wc w.heap.size (fun k_ => some k_ ≠ ((.slice Ao41 t1658.length co41) : Value).ownBlock ∧ some k_ ≠ ((.slice Ao47 t1664.length co47) : Value).ownBlock ∧ some k_ ≠ ((.slice Ao48 t1667.length co48) : Value).ownBlock ∧ k_ ≠ gb1912) (.slice Ao43 t1661.length co43) t1661) ∧ Aside0 (Kd.R k23 23 wc w.heap.size (fun k_ => some k_ ≠ ((.slice Ao41 t1658.length co41) : Value).ownBlock ∧ some k_ ≠ ((.slice Ao43 t1661.length co43) : Value).ownBlock ∧ some k_ ≠ ((.slice Ao48 t1667.length co48) : Value).ownBlock ∧ k_ ≠ gb1912) (.slice Ao47 t1664.length co47) t1664) ∧ Aside0 (Kd.R k23 23 wc w.heap.size (fun k_ => some k_ ≠ ((.slice Ao41 t1658.length co41) : Value).ownBlock ∧ some k_ ≠ ((.slice Ao43 t1661.length co43) : Value).ownBlock ∧ some k_ ≠ ((.slice Ao47 t1664.length co47) : Value).ownBlock ∧ k_ ≠ gb1912) (.slice Ao48 t1667.length co48) t1667) ∧ Aside0 (wc.heap[gb1912]? = some (.cells #[.int .i64 t1909, .int .i64 t1910] 23 (0, 0))) ∧ Aside0 (Below w.heap.size w wc))
          case first =>
           have H := HC38.out
           clear HC38
           by_cases c70 : (t1911 != (decide ((t1658.length : Int) > 0))) = true
           ·
            rw [if_pos c70] at H
            exact absurd H (by simp)
           ·
            rw [if_neg c70] at H
            have c70b0 : (t1911 != (decide ((t1658.length : Int) > 0))) = false := by simpa using c70
            (try (have c70b1 : decide (t1911 = (decide ((t1658.length : Int) > 0))) = true := by simpa using c70))
            (try (have c70b3 : decide (t1911 = decide (0 < t1658.length)) = true := by simpa using c70))
            (try (have c70b4 : decide (0 < t1658.length) = t1911 := (of_decide_eq_true c70b3).symm))
            (try (have c70b2 : (t1911 == (decide ((t1658.length : Int) > 0))) = true := by simpa using c70))
            clear c70
            (first | rw [c70b0] | (simp only [i64_w, i32_w]; rw [c70b0]) | skip)
            by_cases c71 : t1911 = true
            ·
             subst c71
             have H1 : (if 0 < (t1658.length : Int) then (if t1909 = ((rd_T23 t1658 0).f0) then (if 0 ≤ (wrap64 ((t1658.length : Int) - 1)) then (if (wrap64 ((t1658.length : Int) - 1)) < (t1658.length : Int) then (if t1910 = ((rd_T23 t1658 (wrap64 ((t1658.length : Int) - 1))).f1) then (epactlaw02_SpansTells.j0 k a3 t1658 t1661 t1664 t1667 false) else (none)) else (none)) else (none)) else (none)) else (none)) = some r := by rw [if_pos rfl] at H; exact H
             clear H
             have H := H1
             clear H1
             by_cases c72 : 0 < (t1658.length : Int)
             ·
              rw [if_pos c72] at H
              have c72b0 : decide (0 < (t1658.length : Int)) = true := decide_eq_true c72
              have c72b1 : decide (0 < t1658.length) = true := decide_eq_true (by omega)
              clear c72
              by_cases c73 : t1909 = ((rd_T23 t1658 0).f0)
              ·
               rw [if_pos c73] at H
               have c73b0 : (t1909 == ((rd_T23 t1658 0).f0)) = true := beq_iff_eq.mpr c73
               have c73b1 : (t1909 != ((rd_T23 t1658 0).f0)) = false := bne_eq_false_iff_eq.mpr c73
               clear c73
               obtain ⟨ji74, hji74⟩ : ∃ j_ : Int, (wrap64 ((t1658.length : Int) - 1)) = j_ := ⟨_, rfl⟩
               replace H : (if 0 ≤ (ji74) then (if (ji74) < (t1658.length : Int) then (if t1910 = ((rd_T23 t1658 (ji74)).f1) then (epactlaw02_SpansTells.j0 k a3 t1658 t1661 t1664 t1667 false) else (none)) else (none)) else (none)) = some r := by first | (rw [hji74] at H; exact H) | (simp only [hji74] at H ⊢; exact H)
               have hji74w : (IntKind.i64.wrap ((t1658.length : Int) - 1)) = ji74 := (i64_w _).trans hji74
               by_cases c75 : 0 ≤ (ji74)
               ·
                rw [if_pos c75] at H
                have c75b0 : decide (0 ≤ (ji74)) = true := decide_eq_true c75
                clear c75
                by_cases c76 : (ji74) < (t1658.length : Int)
                ·
                 rw [if_pos c76] at H
                 have c76b0 : decide ((ji74) < (t1658.length : Int)) = true := decide_eq_true c76
                 clear c76
                 by_cases c77 : t1910 = ((rd_T23 t1658 (ji74)).f1)
                 ·
                  rw [if_pos c77] at H
                  have c77b0 : (t1910 == ((rd_T23 t1658 (ji74)).f1)) = true := beq_iff_eq.mpr c77
                  have c77b1 : (t1910 != ((rd_T23 t1658 (ji74)).f1)) = false := bne_eq_false_iff_eq.mpr c77
                  clear c77
                  have H' := Aside0.mk H
                  clear H
                  have hcz78_0 : w68.cell? ⟨gb1912, 0, none⟩ = some (.int .i64 0) := (blk_cell BK1912.out 0).trans rfl
                  have hcz78_1 : w68.cell? ⟨gb1912, 1, none⟩ = some (.int .i64 0) := (blk_cell BK1912.out 1).trans rfl
                  have hfz78_0 := blk_frozen BK1912.out 0
                  have hfz78_1 := blk_frozen BK1912.out 1
                  have p1913 : 0 ≤ (0 : Int) := (by omega)
                  have q1913 : 0 < (t1658.length : Int) := of_decide_eq_true (by first | (with_reducible assumption) | assumption)
                  obtain ⟨ad1913, e1913, hx1913_0, hx1913_1⟩ := at_T23 (Kd.R_reads' HO1660.out).2.2 0 p1913 q1913
                  cases e1913
                  have qi1913 : (0 < t1658.length) = True := eq_true (by omega)
                  (try rw [show ((0 : Int)).toNat = 0 from rfl] at hx1913_0)
                  (try rw [show 0 * 2 = 0 from rfl] at hx1913_0)
                  (try rw [Addr.add_zero'] at hx1913_0)
                  (try rw [show ((0 : Int)).toNat = 0 from rfl] at hx1913_1)
                  (try rw [show 0 * 2 = 0 from rfl] at hx1913_1)
                  (try rw [Addr.add_zero'] at hx1913_1)
                  have hn1913_0 : ad1913.block ≠ gb1912 := Kd.own_blk (Kd.R_away HO1660.out (fun _ hk => hk.2))
                  have hn1913_1 : ad1913.block ≠ gb1912 := Kd.own_blk (Kd.R_away HO1660.out (fun _ hk => hk.2))
                  replace hx1913_0 := (cell_far (p := ⟨gb1912, 0, none⟩) (by first | (rw [add_block]; exact hn1913_0) | (show (Addr.add _ _).block ≠ _; rw [add_block]; exact hn1913_0) | exact hn1913_0) (.int .i64 t1909)).trans hx1913_0
                  replace hx1913_1 := (cell_far (p := ⟨gb1912, 0, none⟩) (by first | (rw [add_block]; exact hn1913_0) | (show (Addr.add _ _).block ≠ _; rw [add_block]; exact hn1913_0) | exact hn1913_0) (.int .i64 t1909)).trans hx1913_1
                  replace hx1913_0 := (cell_far (p := ⟨gb1912, 1, none⟩) (by first | (rw [add_block]; exact hn1913_1) | (show (Addr.add _ _).block ≠ _; rw [add_block]; exact hn1913_1) | exact hn1913_1) (.int .i64 t1910)).trans hx1913_0
                  replace hx1913_1 := (cell_far (p := ⟨gb1912, 1, none⟩) (by first | (rw [add_block]; exact hn1913_1) | (show (Addr.add _ _).block ≠ _; rw [add_block]; exact hn1913_1) | exact hn1913_1) (.int .i64 t1910)).trans hx1913_1
                  (try have hy1913_0 := fun (n_ : Nat) => (show ((((w68.drewN n_).setCell ⟨gb1912, 0, none⟩ (.int .i64 t1909)).setCell ⟨gb1912, 1, none⟩ (.int .i64 t1910))).cell? _ = some _ from hx1913_0))
                  (try have hy1913_1 := fun (n_ : Nat) => (show ((((w68.drewN n_).setCell ⟨gb1912, 0, none⟩ (.int .i64 t1909)).setCell ⟨gb1912, 1, none⟩ (.int .i64 t1910))).cell? _ = some _ from hx1913_1))
                  clear hn1913_0
                  clear hn1913_1
                  replace p1913 := eq_true p1913
                  replace q1913 := eq_true q1913
                  have p1914 : 0 ≤ ((ji74) : Int) := of_decide_eq_true (by first | (with_reducible assumption) | assumption)
                  have q1914 : (ji74) < (t1658.length : Int) := of_decide_eq_true (by first | (with_reducible assumption) | assumption)
                  obtain ⟨ad1914, e1914, hx1914_0, hx1914_1⟩ := at_T23 (Kd.R_reads' HO1660.out).2.2 (ji74) p1914 q1914
                  obtain rfl : ad1913 = ad1914 := (by injection e1914)
                  have hn1914_0 : ad1913.block ≠ gb1912 := Kd.own_blk (Kd.R_away HO1660.out (fun _ hk => hk.2))
                  have hn1914_1 : ad1913.block ≠ gb1912 := Kd.own_blk (Kd.R_away HO1660.out (fun _ hk => hk.2))
                  replace hx1914_0 := (cell_far (p := ⟨gb1912, 0, none⟩) (by first | (rw [add_block]; exact hn1914_0) | (show (Addr.add _ _).block ≠ _; rw [add_block]; exact hn1914_0) | exact hn1914_0) (.int .i64 t1909)).trans hx1914_0
                  replace hx1914_1 := (cell_far (p := ⟨gb1912, 0, none⟩) (by first | (rw [add_block]; exact hn1914_0) | (show (Addr.add _ _).block ≠ _; rw [add_block]; exact hn1914_0) | exact hn1914_0) (.int .i64 t1909)).trans hx1914_1
                  replace hx1914_0 := (cell_far (p := ⟨gb1912, 1, none⟩) (by first | (rw [add_block]; exact hn1914_1) | (show (Addr.add _ _).block ≠ _; rw [add_block]; exact hn1914_1) | exact hn1914_1) (.int .i64 t1910)).trans hx1914_0
                  replace hx1914_1 := (cell_far (p := ⟨gb1912, 1, none⟩) (by first | (rw [add_block]; exact hn1914_1) | (show (Addr.add _ _).block ≠ _; rw [add_block]; exact hn1914_1) | exact hn1914_1) (.int .i64 t1910)).trans hx1914_1
                  (try have hy1914_0 := fun (n_ : Nat) => (show ((((w68.drewN n_).setCell ⟨gb1912, 0, none⟩ (.int .i64 t1909)).setCell ⟨gb1912, 1, none⟩ (.int .i64 t1910))).cell? _ = some _ from hx1914_0))
                  (try have hy1914_1 := fun (n_ : Nat) => (show ((((w68.drewN n_).setCell ⟨gb1912, 0, none⟩ (.int .i64 t1909)).setCell ⟨gb1912, 1, none⟩ (.int .i64 t1910))).cell? _ = some _ from hx1914_1))
                  clear hn1914_0
                  clear hn1914_1
                  replace p1914 := eq_true p1914
                  replace q1914 := eq_true q1914
                  go_wp2
                  repeat (go_quiet (fail); try go_wp2)
                  go_meet
                  case rel => exact ⟨_, (false), (by first | rfl | (simp; done) | (simp [*]; done)), H', ⟨by first | omega | exact Nat.le_refl _⟩, ⟨by (with_reducible repeat (first | apply Kd.R_alloc | apply Kd.R_drewN | apply Kd.R_drew)); exact Kd.R_mono (Kd.R_far (p := ⟨gb1912, 1, none⟩) (Kd.R_far (p := ⟨gb1912, 0, none⟩) (Kd.R_mono HO1660.out (fun k_ hk => (⟨hk, hk.2⟩ : _ ∧ k_ ≠ gb1912))) (fun _ hk => hk.2) (.int .i64 t1909)) (fun _ hk => hk.2) (.int .i64 t1910)) (fun _ hk => ⟨hk.1.1.1.1.1.1.1.1.1.1.2, ⟨hk.1.1.1.1.1.1.1.1.1.2, ⟨hk.1.1.1.1.1.1.1.1.2, hk.1.2⟩⟩⟩)⟩, ⟨by (with_reducible repeat (first | apply Kd.R_alloc | apply Kd.R_drewN | apply Kd.R_drew)); exact Kd.R_mono (Kd.R_far (p := ⟨gb1912, 1, none⟩) (Kd.R_far (p := ⟨gb1912, 0, none⟩) (Kd.R_mono HO1663.out (fun k_ hk => (⟨hk, hk.2⟩ : _ ∧ k_ ≠ gb1912))) (fun _ hk => hk.2) (.int .i64 t1909)) (fun _ hk => hk.2) (.int .i64 t1910)) (fun _ hk => ⟨hk.1.1.1.1.1.1.1.1.1.1.2, ⟨hk.1.1.1.1.1.1.1.1.1.2, ⟨hk.1.1.1.1.1.1.1.1.2, hk.1.2⟩⟩⟩)⟩, ⟨by (with_reducible repeat (first | apply Kd.R_alloc | apply Kd.R_drewN | apply Kd.R_drew)); exact Kd.R_mono (Kd.R_far (p := ⟨gb1912, 1, none⟩) (Kd.R_far (p := ⟨gb1912, 0, none⟩) (Kd.R_mono HO1666.out (fun k_ hk => (⟨hk, hk.2⟩ : _ ∧ k_ ≠ gb1912))) (fun _ hk => hk.2) (.int .i64 t1909)) (fun _ hk => hk.2) (.int .i64 t1910)) (fun _ hk => ⟨hk.1.1.1.1.1.1.1.1.1.1.2, ⟨hk.1.1.1.1.1.1.1.1.1.2, ⟨hk.1.1.1.1.1.1.1.1.2, hk.1.2⟩⟩⟩)⟩, ⟨by (with_reducible repeat (first | apply Kd.R_alloc | apply Kd.R_drewN | apply Kd.R_drew)); exact Kd.R_mono (Kd.R_far (p := ⟨gb1912, 1, none⟩) (Kd.R_far (p := ⟨gb1912, 0, none⟩) (Kd.R_mono HO1669.out (fun k_ hk => (⟨hk, hk.2⟩ : _ ∧ k_ ≠ gb1912))) (fun _ hk => hk.2) (.int .i64 t1909)) (fun _ hk => hk.2) (.int .i64 t1910)) (fun _ hk => ⟨hk.1.1.1.1.1.1.1.1.1.1.2, ⟨hk.1.1.1.1.1.1.1.1.1.2, ⟨hk.1.1.1.1.1.1.1.1.2, hk.1.2⟩⟩⟩)⟩, ⟨by (with_reducible repeat (first | refine blk_drewN ?_ _ | refine blk_drew ?_ | refine blk_alloc ?_ _)); refine blk_put (cs := #[.int .i64 t1909, .int .i64 0]) ?_ 1 _ rfl; (with_reducible repeat (first | refine blk_drewN ?_ _ | refine blk_drew ?_ | refine blk_alloc ?_ _)); refine blk_put (cs := #[.int .i64 0, .int .i64 0]) ?_ 0 _ rfl; (with_reducible repeat (first | refine blk_drewN ?_ _ | refine blk_drew ?_ | refine blk_alloc ?_ _)); exact BK1912.out⟩, ⟨by repeat (first | (with_reducible first | exact HB.out | apply below_alloc | apply pw_below_drewN | apply below_drew1 | refine below_set ?_ GE1912.out) | exact HB.out)⟩⟩
                 ·
                  rw [if_neg c77] at H
                  exact absurd H (by simp)
                ·
                 rw [if_neg c76] at H
                 exact absurd H (by simp)
               ·
                rw [if_neg c75] at H
                exact absurd H (by simp)
              ·
               rw [if_neg c73] at H
               exact absurd H (by simp)
             ·
              rw [if_neg c72] at H
              exact absurd H (by simp)
            ·
             replace c71 := Bool.eq_false_iff.mpr c71
             subst c71
             have H1 : (epactlaw02_SpansTells.j0 k a3 t1658 t1661 t1664 t1667 (!(t1909 == 0) || (!(t1910 == 0)))) = some r := by rw [if_neg (show ¬ (false = true) by decide)] at H; exact H
             clear H
             have H := H1
             clear H1
             have H' := Aside0.mk H
             clear H
             have hcz79_0 : w68.cell? ⟨gb1912, 0, none⟩ = some (.int .i64 0) := (blk_cell BK1912.out 0).trans rfl
             have hcz79_1 : w68.cell? ⟨gb1912, 1, none⟩ = some (.int .i64 0) := (blk_cell BK1912.out 1).trans rfl
             have hfz79_0 := blk_frozen BK1912.out 0
             have hfz79_1 := blk_frozen BK1912.out 1
             go_wp2
             repeat (go_quiet (fail); try go_wp2)
             go_meet
             case rel => exact ⟨_, ((!(t1909 == 0) || (!(t1910 == 0)))), (by first | rfl | (simp; done) | (simp [*]; done)), H', ⟨by first | omega | exact Nat.le_refl _⟩, ⟨by (with_reducible repeat (first | apply Kd.R_alloc | apply Kd.R_drewN | apply Kd.R_drew)); exact Kd.R_mono (Kd.R_far (p := ⟨gb1912, 1, none⟩) (Kd.R_far (p := ⟨gb1912, 0, none⟩) (Kd.R_mono HO1660.out (fun k_ hk => (⟨hk, hk.2⟩ : _ ∧ k_ ≠ gb1912))) (fun _ hk => hk.2) (.int .i64 t1909)) (fun _ hk => hk.2) (.int .i64 t1910)) (fun _ hk => ⟨hk.1.1.1.1.1.1.1.1.1.1.2, ⟨hk.1.1.1.1.1.1.1.1.1.2, ⟨hk.1.1.1.1.1.1.1.1.2, hk.1.2⟩⟩⟩)⟩, ⟨by (with_reducible repeat (first | apply Kd.R_alloc | apply Kd.R_drewN | apply Kd.R_drew)); exact Kd.R_mono (Kd.R_far (p := ⟨gb1912, 1, none⟩) (Kd.R_far (p := ⟨gb1912, 0, none⟩) (Kd.R_mono HO1663.out (fun k_ hk => (⟨hk, hk.2⟩ : _ ∧ k_ ≠ gb1912))) (fun _ hk => hk.2) (.int .i64 t1909)) (fun _ hk => hk.2) (.int .i64 t1910)) (fun _ hk => ⟨hk.1.1.1.1.1.1.1.1.1.1.2, ⟨hk.1.1.1.1.1.1.1.1.1.2, ⟨hk.1.1.1.1.1.1.1.1.2, hk.1.2⟩⟩⟩)⟩, ⟨by (with_reducible repeat (first | apply Kd.R_alloc | apply Kd.R_drewN | apply Kd.R_drew)); exact Kd.R_mono (Kd.R_far (p := ⟨gb1912, 1, none⟩) (Kd.R_far (p := ⟨gb1912, 0, none⟩) (Kd.R_mono HO1666.out (fun k_ hk => (⟨hk, hk.2⟩ : _ ∧ k_ ≠ gb1912))) (fun _ hk => hk.2) (.int .i64 t1909)) (fun _ hk => hk.2) (.int .i64 t1910)) (fun _ hk => ⟨hk.1.1.1.1.1.1.1.1.1.1.2, ⟨hk.1.1.1.1.1.1.1.1.1.2, ⟨hk.1.1.1.1.1.1.1.1.2, hk.1.2⟩⟩⟩)⟩, ⟨by (with_reducible repeat (first | apply Kd.R_alloc | apply Kd.R_drewN | apply Kd.R_drew)); exact Kd.R_mono (Kd.R_far (p := ⟨gb1912, 1, none⟩) (Kd.R_far (p := ⟨gb1912, 0, none⟩) (Kd.R_mono HO1669.out (fun k_ hk => (⟨hk, hk.2⟩ : _ ∧ k_ ≠ gb1912))) (fun _ hk => hk.2) (.int .i64 t1909)) (fun _ hk => hk.2) (.int .i64 t1910)) (fun _ hk => ⟨hk.1.1.1.1.1.1.1.1.1.1.2, ⟨hk.1.1.1.1.1.1.1.1.1.2, ⟨hk.1.1.1.1.1.1.1.1.2, hk.1.2⟩⟩⟩)⟩, ⟨by (with_reducible repeat (first | refine blk_drewN ?_ _ | refine blk_drew ?_ | refine blk_alloc ?_ _)); refine blk_put (cs := #[.int .i64 t1909, .int .i64 0]) ?_ 1 _ rfl; (with_reducible repeat (first | refine blk_drewN ?_ _ | refine blk_drew ?_ | refine blk_alloc ?_ _)); refine blk_put (cs := #[.int .i64 0, .int .i64 0]) ?_ 0 _ rfl; (with_reducible repeat (first | refine blk_drewN ?_ _ | refine blk_drew ?_ | refine blk_alloc ?_ _)); exact BK1912.out⟩, ⟨by repeat (first | (with_reducible first | exact HB.out | apply below_alloc | apply pw_below_drewN | apply below_drew1 | refine below_set ?_ GE1912.out) | exact HB.out)⟩⟩
          case rest =>
           clear HC38
           try clear c1
           try clear p1
           try clear q1
           try clear hx1
           try clear qi1
           try clear c2
           try clear p2
           try clear c3
           try clear p6
           try clear c7
           try clear c11
           try clear c14
           try clear c17
           try clear p19
           try clear q19
           try clear hx19
           try clear qi19
           try clear c20
           try clear c23
           try clear c23b0
           try clear c23b1
           try clear c23b2
           try clear c25
           try clear c25b0
           try clear c25b1
           try clear c25b2
           try clear c27
           try clear c27b0
           try clear c27b1
           try clear c27b2
           try clear c30
           try clear c30b0
           try clear c30b1
           try clear c30b2
           try clear c33
           try clear c33b0
           try clear c33b1
           try clear c33b2
           try clear c36
           try clear c36b0
           try clear c36b1
           try clear p64
           try clear c70
           try clear c70b0
           try clear c70b1
           try clear c70b2
           try clear c71
           try clear c72
           try clear c72b0
           try clear c72b1
           try clear c73
           try clear c73b0
           try clear c73b1
           try clear c75
           try clear c75b0
           try clear c76
           try clear c76b0
           try clear c77
           try clear c77b0
           try clear c77b1
           try clear hcz69_0
           try clear hcz69_1
           try clear hcz78_0
           try clear hcz78_1
           try clear hcz79_0
           try clear hcz79_1
           try clear hfz69_0
           try clear hfz69_1
           try clear hfz78_0
           try clear hfz78_1
           try clear hfz79_0
           try clear hfz79_1
           try clear hx1913_0
           try clear hx1913_1
           try clear hx1914_0
           try clear hx1914_1
           try clear p1913
           try clear p1914
           try clear q1913
           try clear q1914
           obtain ⟨kq, x151_37, rfl, HA, HJ37, HO_9, HO_10, HO_11, HO_12, BK1912, HB⟩ := hcut
           cases kq with
           | zero => exact absurd HA.out (by simp [epactlaw02_SpansTells.j0])
           | succ kj37 =>
            have H := HA.out
            clear HA
            simp only [epactlaw02_SpansTells.j0] at H
            by_cases c80 : x151_37 = true
            ·
             subst c80
             have H1 : (none) = some r := by rw [if_pos rfl] at H; exact H
             clear H
             have H := H1
             clear H1
             exact absurd H (by simp)
            ·
             replace c80 := Bool.eq_false_iff.mpr c80
             subst c80
             have H1 : ((spans_Move.f kj37 t1664 a3).bind fun bt1963 => ((epactref02_Move.f kj37 t1658 a3).bind fun bt1967 => (if bt1963.2 = bt1967.2 then ((epactlow_Alike.f kj37 bt1963.1 bt1967.1).bind fun t1971 => (if t1971 = true then ((epactlow_Alike.f kj37 t1664 t1658).bind fun t1972 => (if t1972 = true then ((epactlow_Alike.f kj37 t1667 t1661).bind fun t1973 => (if t1973 = true then ((epactlaw02_awake.f kj37).bind fun t1974 => (some t1974)) else (none))) else (none))) else (none))) else (none)))) = some r := by rw [if_neg (show ¬ (false = true) by decide)] at H; exact H
             clear H
             have H := H1
             clear H1
             replace H := Option.bind_eq_some_iff.mp H
             obtain ⟨⟨t1963, t1964⟩, A810, H⟩ := H
             replace H : ((epactref02_Move.f kj37 t1658 a3).bind fun bt1967 => (if t1964 = bt1967.2 then ((epactlow_Alike.f kj37 t1963 bt1967.1).bind fun t1971 => (if t1971 = true then ((epactlow_Alike.f kj37 t1664 t1658).bind fun t1972 => (if t1972 = true then ((epactlow_Alike.f kj37 t1667 t1661).bind fun t1973 => (if t1973 = true then ((epactlaw02_awake.f kj37).bind fun t1974 => (some t1974)) else (none))) else (none))) else (none))) else (none))) = some r := H
             have A81 := Aside0.mk A810
             clear A810
             replace H := Option.bind_eq_some_iff.mp H
             obtain ⟨⟨t1967, t1968⟩, A820, H⟩ := H
             replace H : (if t1964 = t1968 then ((epactlow_Alike.f kj37 t1963 t1967).bind fun t1971 => (if t1971 = true then ((epactlow_Alike.f kj37 t1664 t1658).bind fun t1972 => (if t1972 = true then ((epactlow_Alike.f kj37 t1667 t1661).bind fun t1973 => (if t1973 = true then ((epactlaw02_awake.f kj37).bind fun t1974 => (some t1974)) else (none))) else (none))) else (none))) else (none)) = some r := H
             have A82 := Aside0.mk A820
             clear A820
             by_cases c83 : t1964 = t1968
             ·
              rw [if_pos c83] at H
              have c83b0 : (t1964 == t1968) = true := beq_iff_eq.mpr c83
              have c83b1 : (t1964 != t1968) = false := bne_eq_false_iff_eq.mpr c83
              clear c83
              replace H := Option.bind_eq_some_iff.mp H
              obtain ⟨t1971, A840, H⟩ := H
              replace H : (if t1971 = true then ((epactlow_Alike.f kj37 t1664 t1658).bind fun t1972 => (if t1972 = true then ((epactlow_Alike.f kj37 t1667 t1661).bind fun t1973 => (if t1973 = true then ((epactlaw02_awake.f kj37).bind fun t1974 => (some t1974)) else (none))) else (none))) else (none)) = some r := H
              have A84 := Aside0.mk A840
              clear A840
              by_cases c85 : t1971 = true
              ·
               subst c85
               have H1 : ((epactlow_Alike.f kj37 t1664 t1658).bind fun t1972 => (if t1972 = true then ((epactlow_Alike.f kj37 t1667 t1661).bind fun t1973 => (if t1973 = true then ((epactlaw02_awake.f kj37).bind fun t1974 => (some t1974)) else (none))) else (none))) = some r := by rw [if_pos rfl] at H; exact H
               clear H
               have H := H1
               clear H1
               replace H := Option.bind_eq_some_iff.mp H
               obtain ⟨t1972, A860, H⟩ := H
               replace H : (if t1972 = true then ((epactlow_Alike.f kj37 t1667 t1661).bind fun t1973 => (if t1973 = true then ((epactlaw02_awake.f kj37).bind fun t1974 => (some t1974)) else (none))) else (none)) = some r := H
               have A86 := Aside0.mk A860
               clear A860
               by_cases c87 : t1972 = true
               ·
                subst c87
                have H1 : ((epactlow_Alike.f kj37 t1667 t1661).bind fun t1973 => (if t1973 = true then ((epactlaw02_awake.f kj37).bind fun t1974 => (some t1974)) else (none))) = some r := by rw [if_pos rfl] at H; exact H
                clear H
                have H := H1
                clear H1
                replace H := Option.bind_eq_some_iff.mp H
                obtain ⟨t1973, A880, H⟩ := H
                replace H : (if t1973 = true then ((epactlaw02_awake.f kj37).bind fun t1974 => (some t1974)) else (none)) = some r := H
                have A88 := Aside0.mk A880
                clear A880
                by_cases c89 : t1973 = true
                ·
                 subst c89
                 have H1 : ((epactlaw02_awake.f kj37).bind fun t1974 => (some t1974)) = some r := by rw [if_pos rfl] at H; exact H
                 clear H
                 have H := H1
                 clear H1
                 replace H := Option.bind_eq_some_iff.mp H
                 obtain ⟨t1974, A900, H⟩ := H
                 replace H : (some t1974) = some r := H
                 have A90 := Aside0.mk A900
                 clear A900
                 obtain rfl := Option.some.inj H
                 go_wp2_with (first | (go_at_call 41; (with_reducible refine (spans_Move.calls kj37 _ _ t1664 a3 t1963 t1964 _ ?side1 ?side2 A81.out).mono ?_); (case side1 => repeat (first | exact (Kd.R_reads' HO_11.out).2.2 | (with_reducible refine Kd.C_alloc ?_ _) | (with_reducible refine Kd.C_drewN ?_ _) | (with_reducible refine Kd.C_drew ?_))); (case side2 => exact (Kd.R_reads' HO_11.out).2.1); clear A81; rintro e w91 ⟨v1965, rfl, ho0, hb⟩; have n0_ := Aside0.mk (Kd.R_elder' (by (with_reducible repeat (first | apply Kd.R_alloc | apply Kd.R_drewN | apply Kd.R_drew)); exact HO_9.out) (Kd.R_base ho0) hb); have n1_ := Aside0.mk (Kd.R_elder' (by (with_reducible repeat (first | apply Kd.R_alloc | apply Kd.R_drewN | apply Kd.R_drew)); exact HO_10.out) (Kd.R_base ho0) hb); have n2_ := Aside0.mk (Kd.R_elder' (by (with_reducible repeat (first | apply Kd.R_alloc | apply Kd.R_drewN | apply Kd.R_drew)); exact HO_11.out) (Kd.R_base ho0) hb); have n3_ := Aside0.mk (Kd.R_elder' (by (with_reducible repeat (first | apply Kd.R_alloc | apply Kd.R_drewN | apply Kd.R_drew)); exact HO_12.out) (Kd.R_base ho0) hb); have n4_ := Aside0.mk (Kd.R_lower (Kd.R_newB (Kd.R_new' (Kd.R_new' (Kd.R_new' (Kd.R_new' ho0 (Kd.R_lt (by (with_reducible repeat (first | apply Kd.R_alloc | apply Kd.R_drewN | apply Kd.R_drew)); exact HO_9.out))) (Kd.R_lt (by (with_reducible repeat (first | apply Kd.R_alloc | apply Kd.R_drewN | apply Kd.R_drew)); exact HO_10.out))) (Kd.R_lt (by (with_reducible repeat (first | apply Kd.R_alloc | apply Kd.R_drewN | apply Kd.R_drew)); exact HO_11.out))) (Kd.R_lt (by (with_reducible repeat (first | apply Kd.R_alloc | apply Kd.R_drewN | apply Kd.R_drew)); exact HO_12.out))) (g := gb1912) (o := .cells #[.int .i64 t1909, .int .i64 t1910] 23 (0, 0)) (by (with_reducible repeat (first | refine blk_drewN ?_ _ | refine blk_drew ?_ | refine blk_alloc ?_ _)); exact BK1912.out)) (below_size (by repeat (first | (with_reducible first | exact HB.out | apply below_alloc | apply pw_below_drewN | apply below_drew1 | refine below_set ?_ GE1912.out) | exact HB.out)))); have n5_ := Aside0.mk (blk_below (g := gb1912) (o := .cells #[.int .i64 t1909, .int .i64 t1910] 23 (0, 0)) (by (with_reducible repeat (first | refine blk_drewN ?_ _ | refine blk_drew ?_ | refine blk_alloc ?_ _)); exact BK1912.out) hb); have n6_ := Aside0.mk (below_step (by repeat (first | (with_reducible first | exact HB.out | apply below_alloc | apply pw_below_drewN | apply below_drew1 | refine below_set ?_ GE1912.out) | exact HB.out)) hb); clear HO_9; clear HO_10; clear HO_11; clear HO_12; clear BK1912; clear HB; have HO_9 := n0_; have HO_10 := n1_; have HO_11 := n2_; have HO_12 := n3_; have HO1966 := n4_; have BK1912 := n5_; have HB := n6_; clear n0_ n1_ n2_ n3_ n4_ n5_ n6_; (try clear hb); (try clear hb2); (try clear hk); (try clear hi); (try clear ho0)) | (go_at_call 49; (with_reducible refine (epactref02_Move.calls kj37 _ _ t1658 a3 t1967 t1968 _ ?side1 ?side2 A82.out).mono ?_); (case side1 => repeat (first | exact (Kd.R_reads' HO_9.out).2.2 | (with_reducible refine Kd.C_alloc ?_ _) | (with_reducible refine Kd.C_drewN ?_ _) | (with_reducible refine Kd.C_drew ?_))); (case side2 => exact (Kd.R_reads' HO_9.out).2.1); clear A82; rintro e w92 ⟨v1969, rfl, ho0, hb⟩; have n0_ := Aside0.mk (Kd.R_elder' (by (with_reducible repeat (first | apply Kd.R_alloc | apply Kd.R_drewN | apply Kd.R_drew)); exact HO_9.out) (Kd.R_base ho0) hb); have n1_ := Aside0.mk (Kd.R_elder' (by (with_reducible repeat (first | apply Kd.R_alloc | apply Kd.R_drewN | apply Kd.R_drew)); exact HO_10.out) (Kd.R_base ho0) hb); have n2_ := Aside0.mk (Kd.R_elder' (by (with_reducible repeat (first | apply Kd.R_alloc | apply Kd.R_drewN | apply Kd.R_drew)); exact HO_11.out) (Kd.R_base ho0) hb); have n3_ := Aside0.mk (Kd.R_elder' (by (with_reducible repeat (first | apply Kd.R_alloc | apply Kd.R_drewN | apply Kd.R_drew)); exact HO_12.out) (Kd.R_base ho0) hb); have n4_ := Aside0.mk (Kd.R_elder' (by (with_reducible repeat (first | apply Kd.R_alloc | apply Kd.R_drewN | apply Kd.R_drew)); exact HO1966.out) (Kd.R_base ho0) hb); have n5_ := Aside0.mk (Kd.R_lower (Kd.R_newB (Kd.R_new' (Kd.R_new' (Kd.R_new' (Kd.R_new' (Kd.R_new' ho0 (Kd.R_lt (by (with_reducible repeat (first | apply Kd.R_alloc | apply Kd.R_drewN | apply Kd.R_drew)); exact HO_9.out))) (Kd.R_lt (by (with_reducible repeat (first | apply Kd.R_alloc | apply Kd.R_drewN | apply Kd.R_drew)); exact HO_10.out))) (Kd.R_lt (by (with_reducible repeat (first | apply Kd.R_alloc | apply Kd.R_drewN | apply Kd.R_drew)); exact HO_11.out))) (Kd.R_lt (by (with_reducible repeat (first | apply Kd.R_alloc | apply Kd.R_drewN | apply Kd.R_drew)); exact HO_12.out))) (Kd.R_lt (by (with_reducible repeat (first | apply Kd.R_alloc | apply Kd.R_drewN | apply Kd.R_drew)); exact HO1966.out))) (g := gb1912) (o := .cells #[.int .i64 t1909, .int .i64 t1910] 23 (0, 0)) (by (with_reducible repeat (first | refine blk_drewN ?_ _ | refine blk_drew ?_ | refine blk_alloc ?_ _)); exact BK1912.out)) (below_size (by repeat (first | (with_reducible first | exact HB.out | apply below_alloc | apply pw_below_drewN | apply below_drew1 | refine below_set ?_ GE1912.out) | exact HB.out)))); have n6_ := Aside0.mk (blk_below (g := gb1912) (o := .cells #[.int .i64 t1909, .int .i64 t1910] 23 (0, 0)) (by (with_reducible repeat (first | refine blk_drewN ?_ _ | refine blk_drew ?_ | refine blk_alloc ?_ _)); exact BK1912.out) hb); have n7_ := Aside0.mk (below_step (by repeat (first | (with_reducible first | exact HB.out | apply below_alloc | apply pw_below_drewN | apply below_drew1 | refine below_set ?_ GE1912.out) | exact HB.out)) hb); clear HO_9; clear HO_10; clear HO_11; clear HO_12; clear HO1966; clear BK1912; clear HB; have HO_9 := n0_; have HO_10 := n1_; have HO_11 := n2_; have HO_12 := n3_; have HO1966 := n4_; have HO1970 := n5_; have BK1912 := n6_; have HB := n7_; clear n0_ n1_ n2_ n3_ n4_ n5_ n6_ n7_; (try clear hb); (try clear hb2); (try clear hk); (try clear hi); (try clear ho0); obtain ⟨Ao93, co93, eo93⟩ := Kd.R_slice HO1966.out; subst eo93; obtain ⟨Ao94, co94, eo94⟩ := Kd.R_slice HO1970.out; subst eo94) | (go_at_call 30; (with_reducible refine (epactlow_Alike.calls kj37 _ _ t1963 _ _ t1967 true _ ?side1 ?side2 ?side3 ?side4 A84.out).mono ?_); (case side1 => repeat (first | exact (Kd.R_reads' HO1966.out).2.2 | (with_reducible refine Kd.C_alloc ?_ _) | (with_reducible refine Kd.C_drewN ?_ _) | (with_reducible refine Kd.C_drew ?_))); (case side2 => exact (Kd.R_reads' HO1966.out).2.1); (case side3 => repeat (first | exact (Kd.R_reads' HO1970.out).2.2 | (with_reducible refine Kd.C_alloc ?_ _) | (with_reducible refine Kd.C_drewN ?_ _) | (with_reducible refine Kd.C_drew ?_))); (case side4 => exact (Kd.R_reads' HO1970.out).2.1); clear A84; rintro e w95 ⟨rfl, hb⟩; have n0_ := Aside0.mk (Kd.R_below (by (with_reducible repeat (first | apply Kd.R_alloc | apply Kd.R_drewN | apply Kd.R_drew)); exact HO_9.out) hb); have n1_ := Aside0.mk (Kd.R_below (by (with_reducible repeat (first | apply Kd.R_alloc | apply Kd.R_drewN | apply Kd.R_drew)); exact HO_10.out) hb); have n2_ := Aside0.mk (Kd.R_below (by (with_reducible repeat (first | apply Kd.R_alloc | apply Kd.R_drewN | apply Kd.R_drew)); exact HO_11.out) hb); have n3_ := Aside0.mk (Kd.R_below (by (with_reducible repeat (first | apply Kd.R_alloc | apply Kd.R_drewN | apply Kd.R_drew)); exact HO_12.out) hb); have n4_ := Aside0.mk (Kd.R_below (by (with_reducible repeat (first | apply Kd.R_alloc | apply Kd.R_drewN | apply Kd.R_drew)); exact HO1966.out) hb); have n5_ := Aside0.mk (Kd.R_below (by (with_reducible repeat (first | apply Kd.R_alloc | apply Kd.R_drewN | apply Kd.R_drew)); exact HO1970.out) hb); have n6_ := Aside0.mk (blk_below (g := gb1912) (o := .cells #[.int .i64 t1909, .int .i64 t1910] 23 (0, 0)) (by (with_reducible repeat (first | refine blk_drewN ?_ _ | refine blk_drew ?_ | refine blk_alloc ?_ _)); exact BK1912.out) hb); have n7_ := Aside0.mk (below_step (by repeat (first | (with_reducible first | exact HB.out | apply below_alloc | apply pw_below_drewN | apply below_drew1 | refine below_set ?_ GE1912.out) | exact HB.out)) hb); clear HO_9; clear HO_10; clear HO_11; clear HO_12; clear HO1966; clear HO1970; clear BK1912; clear HB; have HO_9 := n0_; have HO_10 := n1_; have HO_11 := n2_; have HO_12 := n3_; have HO1966 := n4_; have HO1970 := n5_; have BK1912 := n6_; have HB := n7_; clear n0_ n1_ n2_ n3_ n4_ n5_ n6_ n7_; (try clear hb); (try clear hb2); (try clear hk); (try clear hi)) | (go_at_call 30; (with_reducible refine (epactlow_Alike.calls kj37 _ _ t1664 _ _ t1658 true _ ?side1 ?side2 ?side3 ?side4 A86.out).mono ?_); (case side1 => repeat (first | exact (Kd.R_reads' HO_11.out).2.2 | (with_reducible refine Kd.C_alloc ?_ _) | (with_reducible refine Kd.C_drewN ?_ _) | (with_reducible refine Kd.C_drew ?_))); (case side2 => exact (Kd.R_reads' HO_11.out).2.1); (case side3 => repeat (first | exact (Kd.R_reads' HO_9.out).2.2 | (with_reducible refine Kd.C_alloc ?_ _) | (with_reducible refine Kd.C_drewN ?_ _) | (with_reducible refine Kd.C_drew ?_))); (case side4 => exact (Kd.R_reads' HO_9.out).2.1); clear A86; rintro e w96 ⟨rfl, hb⟩; have n0_ := Aside0.mk (Kd.R_below (by (with_reducible repeat (first | apply Kd.R_alloc | apply Kd.R_drewN | apply Kd.R_drew)); exact HO_9.out) hb); have n1_ := Aside0.mk (Kd.R_below (by (with_reducible repeat (first | apply Kd.R_alloc | apply Kd.R_drewN | apply Kd.R_drew)); exact HO_10.out) hb); have n2_ := Aside0.mk (Kd.R_below (by (with_reducible repeat (first | apply Kd.R_alloc | apply Kd.R_drewN | apply Kd.R_drew)); exact HO_11.out) hb); have n3_ := Aside0.mk (Kd.R_below (by (with_reducible repeat (first | apply Kd.R_alloc | apply Kd.R_drewN | apply Kd.R_drew)); exact HO_12.out) hb); have n4_ := Aside0.mk (Kd.R_below (by (with_reducible repeat (first | apply Kd.R_alloc | apply Kd.R_drewN | apply Kd.R_drew)); exact HO1966.out) hb); have n5_ := Aside0.mk (Kd.R_below (by (with_reducible repeat (first | apply Kd.R_alloc | apply Kd.R_drewN | apply Kd.R_drew)); exact HO1970.out) hb); have n6_ := Aside0.mk (blk_below (g := gb1912) (o := .cells #[.int .i64 t1909, .int .i64 t1910] 23 (0, 0)) (by (with_reducible repeat (first | refine blk_drewN ?_ _ | refine blk_drew ?_ | refine blk_alloc ?_ _)); exact BK1912.out) hb); have n7_ := Aside0.mk (below_step (by repeat (first | (with_reducible first | exact HB.out | apply below_alloc | apply pw_below_drewN | apply below_drew1 | refine below_set ?_ GE1912.out) | exact HB.out)) hb); clear HO_9; clear HO_10; clear HO_11; clear HO_12; clear HO1966; clear HO1970; clear BK1912; clear HB; have HO_9 := n0_; have HO_10 := n1_; have HO_11 := n2_; have HO_12 := n3_; have HO1966 := n4_; have HO1970 := n5_; have BK1912 := n6_; have HB := n7_; clear n0_ n1_ n2_ n3_ n4_ n5_ n6_ n7_; (try clear hb); (try clear hb2); (try clear hk); (try clear hi)) | (go_at_call 30; (with_reducible refine (epactlow_Alike.calls kj37 _ _ t1667 _ _ t1661 true _ ?side1 ?side2 ?side3 ?side4 A88.out).mono ?_); (case side1 => repeat (first | exact (Kd.R_reads' HO_12.out).2.2 | (with_reducible refine Kd.C_alloc ?_ _) | (with_reducible refine Kd.C_drewN ?_ _) | (with_reducible refine Kd.C_drew ?_))); (case side2 => exact (Kd.R_reads' HO_12.out).2.1); (case side3 => repeat (first | exact (Kd.R_reads' HO_10.out).2.2 | (with_reducible refine Kd.C_alloc ?_ _) | (with_reducible refine Kd.C_drewN ?_ _) | (with_reducible refine Kd.C_drew ?_))); (case side4 => exact (Kd.R_reads' HO_10.out).2.1); clear A88; rintro e w97 ⟨rfl, hb⟩; have n0_ := Aside0.mk (Kd.R_below (by (with_reducible repeat (first | apply Kd.R_alloc | apply Kd.R_drewN | apply Kd.R_drew)); exact HO_9.out) hb); have n1_ := Aside0.mk (Kd.R_below (by (with_reducible repeat (first | apply Kd.R_alloc | apply Kd.R_drewN | apply Kd.R_drew)); exact HO_10.out) hb); have n2_ := Aside0.mk (Kd.R_below (by (with_reducible repeat (first | apply Kd.R_alloc | apply Kd.R_drewN | apply Kd.R_drew)); exact HO_11.out) hb); have n3_ := Aside0.mk (Kd.R_below (by (with_reducible repeat (first | apply Kd.R_alloc | apply Kd.R_drewN | apply Kd.R_drew)); exact HO_12.out) hb); have n4_ := Aside0.mk (Kd.R_below (by (with_reducible repeat (first | apply Kd.R_alloc | apply Kd.R_drewN | apply Kd.R_drew)); exact HO1966.out) hb); have n5_ := Aside0.mk (Kd.R_below (by (with_reducible repeat (first | apply Kd.R_alloc | apply Kd.R_drewN | apply Kd.R_drew)); exact HO1970.out) hb); have n6_ := Aside0.mk (blk_below (g := gb1912) (o := .cells #[.int .i64 t1909, .int .i64 t1910] 23 (0, 0)) (by (with_reducible repeat (first | refine blk_drewN ?_ _ | refine blk_drew ?_ | refine blk_alloc ?_ _)); exact BK1912.out) hb); have n7_ := Aside0.mk (below_step (by repeat (first | (with_reducible first | exact HB.out | apply below_alloc | apply pw_below_drewN | apply below_drew1 | refine below_set ?_ GE1912.out) | exact HB.out)) hb); clear HO_9; clear HO_10; clear HO_11; clear HO_12; clear HO1966; clear HO1970; clear BK1912; clear HB; have HO_9 := n0_; have HO_10 := n1_; have HO_11 := n2_; have HO_12 := n3_; have HO1966 := n4_; have HO1970 := n5_; have BK1912 := n6_; have HB := n7_; clear n0_ n1_ n2_ n3_ n4_ n5_ n6_ n7_; (try clear hb); (try clear hb2); (try clear hk); (try clear hi)) | (go_at_call 26; (with_reducible refine (epactlaw02_awake.calls kj37  t1974 _ A90.out).mono ?_); clear A90; rintro e w98 ⟨rfl, hb⟩; have n0_ := Aside0.mk (Kd.R_below (by (with_reducible repeat (first | apply Kd.R_alloc | apply Kd.R_drewN | apply Kd.R_drew)); exact HO_9.out) hb); have n1_ := Aside0.mk (Kd.R_below (by (with_reducible repeat (first | apply Kd.R_alloc | apply Kd.R_drewN | apply Kd.R_drew)); exact HO_10.out) hb); have n2_ := Aside0.mk (Kd.R_below (by (with_reducible repeat (first | apply Kd.R_alloc | apply Kd.R_drewN | apply Kd.R_drew)); exact HO_11.out) hb); have n3_ := Aside0.mk (Kd.R_below (by (with_reducible repeat (first | apply Kd.R_alloc | apply Kd.R_drewN | apply Kd.R_drew)); exact HO_12.out) hb); have n4_ := Aside0.mk (Kd.R_below (by (with_reducible repeat (first | apply Kd.R_alloc | apply Kd.R_drewN | apply Kd.R_drew)); exact HO1966.out) hb); have n5_ := Aside0.mk (Kd.R_below (by (with_reducible repeat (first | apply Kd.R_alloc | apply Kd.R_drewN | apply Kd.R_drew)); exact HO1970.out) hb); have n6_ := Aside0.mk (blk_below (g := gb1912) (o := .cells #[.int .i64 t1909, .int .i64 t1910] 23 (0, 0)) (by (with_reducible repeat (first | refine blk_drewN ?_ _ | refine blk_drew ?_ | refine blk_alloc ?_ _)); exact BK1912.out) hb); have n7_ := Aside0.mk (below_step (by repeat (first | (with_reducible first | exact HB.out | apply below_alloc | apply pw_below_drewN | apply below_drew1 | refine below_set ?_ GE1912.out) | exact HB.out)) hb); clear HO_9; clear HO_10; clear HO_11; clear HO_12; clear HO1966; clear HO1970; clear BK1912; clear HB; have HO_9 := n0_; have HO_10 := n1_; have HO_11 := n2_; have HO_12 := n3_; have HO1966 := n4_; have HO1970 := n5_; have BK1912 := n6_; have HB := n7_; clear n0_ n1_ n2_ n3_ n4_ n5_ n6_ n7_; (try clear hb); (try clear hb2); (try clear hk); (try clear hi)))
                 repeat (go_quiet (fail); try go_wp2)
                 go_ret
                 exact ⟨by first | rfl | (simp [errW_none, errW_some] <;> rfl) | (simp [*, errW_none, errW_some] <;> rfl), by repeat (first | (with_reducible first | exact HB.out | apply below_alloc | apply pw_below_drewN | apply below_drew1 | refine below_set ?_ GE1912.out) | exact HB.out)⟩
                 all_goals (first | (rename_i hx_; exact absurd (of_decide_eq_true c27b3) hx_) | skip)
                ·
                 replace c89 := Bool.eq_false_iff.mpr c89
                 subst c89
                 have H1 : (none) = some r := by rw [if_neg (show ¬ (false = true) by decide)] at H; exact H
                 clear H
                 have H := H1
                 clear H1
                 exact absurd H (by simp)
               ·
                replace c87 := Bool.eq_false_iff.mpr c87
                subst c87
                have H1 : (none) = some r := by rw [if_neg (show ¬ (false = true) by decide)] at H; exact H
                clear H
                have H := H1
                clear H1
                exact absurd H (by simp)
              ·
               replace c85 := Bool.eq_false_iff.mpr c85
               subst c85
               have H1 : (none) = some r := by rw [if_neg (show ¬ (false = true) by decide)] at H; exact H
               clear H
               have H := H1
               clear H1
               exact absurd H (by simp)
             ·
              rw [if_neg c83] at H
              exact absurd H (by simp)
         ·
          rw [if_neg c36] at H
          exact absurd H (by simp)
   ·
    replace c20 := Bool.eq_false_iff.mpr c20
    subst c20
    have H1 : (none) = some r := by rw [if_neg (show ¬ (false = true) by decide)] at H; exact H
    clear H
    have H := H1
    clear H1
    exact absurd H (by simp)
  ·
   replace c17 := Bool.eq_false_iff.mpr c17
   subst c17
   have H1 : (none) = some r := by rw [if_neg (show ¬ (false = true) by decide)] at H; exact H
   clear H
   have H := H1
   clear H1
   exact absurd H (by simp)
 ·
  replace c14 := Bool.eq_false_iff.mpr c14
  subst c14
  have H1 : (none) = some r := by rw [if_neg (show ¬ (false = true) by decide)] at H; exact H
  clear H
  have H := H1
  clear H1
  exact absurd H (by simp)

end Go.Proofs.Ytmbmalkpmanaaaa.P

namespace Go.Proofs.Ytmbmalkpmanaaaa.P
set_option linter.unusedVariables false
set_option linter.unusedSimpArgs false
open Go.RowKit

def SL (lo hi : Int) : List Sp → Prop
  | [] => True
  | s :: r => lo ≤ s.f0 ∧ s.f0 ≤ s.f1 ∧ s.f1 ≤ hi ∧ SL (s.f1 + 2) hi r
def hasL (l : List Sp) (x : Int) : Bool := l.any fun s => decide (s.f0 ≤ x) && decide (x ≤ s.f1)

theorem hasL_nil (x : Int) : hasL [] x = false := rfl
theorem hasL_cons (s : Sp) (r : List Sp) (x : Int) : hasL (s :: r) x = ((decide (s.f0 ≤ x) && decide (x ≤ s.f1)) || hasL r x) := rfl
theorem hasL_append (l m : List Sp) (x : Int) : hasL (l ++ m) x = (hasL l x || hasL m x) := by simp [hasL]
theorem hasL_true {l : List Sp} {x : Int} : hasL l x = true ↔ ∃ s ∈ l, s.f0 ≤ x ∧ x ≤ s.f1 := by simp [hasL]
theorem SL.mono {lo lo' hi : Int} (h : lo' ≤ lo) : ∀ {l : List Sp}, SL lo hi l → SL lo' hi l
  | [], _ => trivial
  | _ :: _, hs => ⟨by have := hs.1; omega, hs.2⟩
theorem SL.low {lo hi : Int} {l : List Sp} (hs : SL lo hi l) {x : Int} (hx : x < lo) : hasL l x = false := by
  induction l generalizing lo with
  | nil => rfl
  | cons s r ih =>
    obtain ⟨h1, h2, h3, h4⟩ := hs
    rw [hasL_cons, ih h4 (by omega)]
    have : ¬ s.f0 ≤ x := by omega
    simp [this]
theorem SL.high {lo hi : Int} {l : List Sp} (hs : SL lo hi l) {x : Int} (hx : hi < x) : hasL l x = false := by
  induction l generalizing lo with
  | nil => rfl
  | cons s r ih =>
    obtain ⟨h1, h2, h3, h4⟩ := hs
    rw [hasL_cons, ih h4]
    have : ¬ x ≤ s.f1 := by omega
    simp [this]
theorem SL.ticks {lo hi : Int} {l : List Sp} (hs : SL lo hi l) {s : Sp} (h : s ∈ l) : lo ≤ s.f0 ∧ s.f0 ≤ s.f1 ∧ s.f1 ≤ hi := by
  induction l generalizing lo with
  | nil => simp at h
  | cons t r ih =>
    obtain ⟨h1, h2, h3, h4⟩ := hs
    rcases List.mem_cons.1 h with rfl | h
    · exact ⟨h1, h2, h3⟩
    · obtain ⟨a, b, c⟩ := ih h4 h
      exact ⟨by omega, b, c⟩

theorem SL.uniq {hi hi' : Int} : ∀ {l m : List Sp} {lo lo' : Int}, SL lo hi l → SL lo' hi' m → (∀ x, hasL l x = hasL m x) → l = m
  | [], [], _, _, _, _, _ => rfl
  | [], t :: r, _, _, _, hm, h => by
    have := h t.f0
    rw [hasL_cons] at this
    have h2 := hm.2.1
    simp [hasL_nil, h2] at this
  | s :: r, [], _, _, hl, _, h => by
    have := h s.f0
    rw [hasL_cons] at this
    have h2 := hl.2.1
    simp [hasL_nil, h2] at this
  | s :: r, t :: q, lo, lo', hl, hm, h => by
    obtain ⟨a1, a2, a3, a4⟩ := hl
    obtain ⟨b1, b2, b3, b4⟩ := hm
    have key : ∀ {s t : Sp} {r q : List Sp} {hi hi' : Int}, s.f0 ≤ s.f1 → t.f0 ≤ t.f1 → SL (s.f1 + 2) hi r → SL (t.f1 + 2) hi' q → (∀ x, hasL (s :: r) x = hasL (t :: q) x) → t.f0 ≤ s.f0 := by
      intro s t r q hi hi' a2 b2 a4 b4 h
      by_cases hlt : t.f0 ≤ s.f0
      · exact hlt
      · have hx := h s.f0
        rw [hasL_cons, hasL_cons, b4.low (by omega)] at hx
        have : ¬ t.f0 ≤ s.f0 := hlt
        simp [this, a2] at hx
    have e0 : s.f0 = t.f0 := by
      have h1 := key a2 b2 a4 b4 h
      have h2 := key b2 a2 b4 a4 (fun x => (h x).symm)
      omega
    have key2 : ∀ {s t : Sp} {r q : List Sp} {hi hi' : Int}, s.f0 = t.f0 → s.f0 ≤ s.f1 → t.f0 ≤ t.f1 → SL (s.f1 + 2) hi r → SL (t.f1 + 2) hi' q → (∀ x, hasL (s :: r) x = hasL (t :: q) x) → t.f1 ≤ s.f1 := by
      intro s t r q hi hi' e0 a2 b2 a4 b4 h
      by_cases hlt : t.f1 ≤ s.f1
      · exact hlt
      · have hx := h (s.f1 + 1)
        rw [hasL_cons, hasL_cons, a4.low (by omega)] at hx
        have c1 : ¬ s.f1 + 1 ≤ s.f1 := by omega
        have c2 : t.f0 ≤ s.f1 + 1 := by omega
        have c3 : s.f1 + 1 ≤ t.f1 := by omega
        simp [c2, c3] at hx
        omega
    have e1 : s.f1 = t.f1 := by
      have h1 := key2 e0 a2 b2 a4 b4 h
      have h2 := key2 e0.symm b2 a2 b4 a4 (fun x => (h x).symm)
      omega
    have est : s = t := by cases s; cases t; simp only at e0 e1; rw [e0, e1]
    subst est
    have : r = q := SL.uniq a4 b4 (fun x => by
      have hx := h x
      rw [hasL_cons, hasL_cons] at hx
      by_cases hc : x < s.f1 + 2
      · rw [a4.low hc, b4.low hc]
      · have : ¬ x ≤ s.f1 := by omega
        simpa [this] using hx)
    rw [this]

def Inv (hi : Int) (a : List Sp) (i : Bool) (p : Int) : Prop :=
  match a, i with
  | [], i => i = false
  | s :: r, true => s.f0 ≤ p ∧ p ≤ s.f1 ∧ s.f1 ≤ hi ∧ SL (s.f1 + 2) hi r
  | s :: r, false => SL (p + 1) hi (s :: r)
theorem wrap_ok {n : Int} (h1 : -9223372036854775808 ≤ n) (h2 : n ≤ 9223372036854775807) : wrap64 n = n := by unfold wrap64; omega
theorem Inv.nxt {hi p : Int} {a : List Sp} {i : Bool} (h : Inv hi a i p) (hp : -4611686018427387904 ≤ p) (hh : hi ≤ 4611686018427387904) (hn : a ≠ []) : p < nxtL a i ∧ nxtL a i ≤ hi + 1 := by
  match a, i, hn with
  | s :: r, true, _ =>
    obtain ⟨h1, h2, h3, h4⟩ := h
    have hw : wrap64 (s.f1 + 1) = s.f1 + 1 := wrap_ok (by omega) (by omega)
    simp only [nxtL, hw]
    omega
  | s :: r, false, _ =>
    obtain ⟨h1, h2, h3, h4⟩ := h
    simp only [nxtL]
    omega
theorem Inv.step {hi p t : Int} {a : List Sp} {i : Bool} (h : Inv hi a i p) (hp : -4611686018427387904 ≤ p) (hh : hi ≤ 4611686018427387904) (hpt : p < t) (ht : a ≠ [] → t ≤ nxtL a i) :
    Inv hi (pastL a i t).1 (pastL a i t).2 t ∧ (∀ x, t ≤ x → hasL (pastL a i t).1 x = hasL a x) ∧ (∀ x, p ≤ x → x < t → hasL a x = i) := by
  match a, i with
  | [], i =>
    have : i = false := h
    subst this
    exact ⟨rfl, fun _ _ => rfl, fun _ _ _ => rfl⟩
  | s :: r, true =>
    obtain ⟨h1, h2, h3, h4⟩ := h
    have hw : wrap64 (s.f1 + 1) = s.f1 + 1 := wrap_ok (by omega) (by omega)
    have ht' := ht (by simp)
    simp only [nxtL, hw] at ht'
    have hin : ∀ x, p ≤ x → x < t → hasL (s :: r) x = true := fun x a b => by
      have c1 : s.f0 ≤ x := by omega
      have c2 : x ≤ s.f1 := by omega
      simp [hasL_cons, c1, c2]
    simp only [pastL, hw]
    by_cases e : s.f1 + 1 = t
    · rw [if_pos e]
      refine ⟨?_, fun x hx => ?_, hin⟩
      · cases r with
        | nil => rfl
        | cons u r => exact SL.mono (by omega) h4
      · have : ¬ x ≤ s.f1 := by omega
        simp [hasL_cons, this]
    · rw [if_neg e]
      exact ⟨⟨by omega, by omega, h3, h4⟩, fun _ _ => rfl, hin⟩
  | s :: r, false =>
    obtain ⟨h1, h2, h3, h4⟩ := h
    have ht' := ht (by simp)
    simp only [nxtL] at ht'
    have hout : ∀ x, p ≤ x → x < t → hasL (s :: r) x = false := fun x a b => by
      have c1 : ¬ s.f0 ≤ x := by omega
      rw [hasL_cons, h4.low (by omega)]
      simp [c1]
    simp only [pastL]
    by_cases e : s.f0 = t
    · rw [if_pos e]
      exact ⟨⟨by omega, by omega, h3, h4⟩, fun _ _ => rfl, hout⟩
    · rw [if_neg e]
      exact ⟨⟨by omega, h2, h3, h4⟩, fun _ _ => rfl, hout⟩

theorem fold_out (yes : Bool → Bool → Bool) (xs : List Bd) : ∀ (i : Bool) (f : Int) (o : List Sp), (xs.foldl (kstep yes) ⟨i, f, o⟩).out = o ++ (xs.foldl (kstep yes) ⟨i, f, []⟩).out := by
  induction xs with
  | nil => intro i f o; simp
  | cons x xs ih =>
    intro i f o
    simp only [List.foldl_cons, kstep]
    split
    · exact ih _ _ _
    · split
      · rw [ih _ _ (o ++ _), ih _ _ ([] ++ _)]; simp
      · exact ih _ _ _

theorem sweep (yes : Bool → Bool → Bool) (hy : yes false false = false) (hi lo0 : Int) (hlo : -4611686018427387904 ≤ lo0) (hh : hi ≤ 4611686018427387904) (n : Nat) : ∀ (a : List Sp) (ia : Bool) (b : List Sp) (ib : Bool) (p from_ : Int),
    msr a ia + msr b ib ≤ n → Inv hi a ia p → Inv hi b ib p → lo0 ≤ p + 1 → -4611686018427387904 ≤ p → (yes ia ib = true → lo0 ≤ from_ ∧ from_ ≤ p) →
    SL (if yes ia ib then from_ else p + 1) hi ((bords a ia b ib).foldl (kstep yes) ⟨yes ia ib, from_, []⟩).out ∧
    ∀ x, hasL ((bords a ia b ib).foldl (kstep yes) ⟨yes ia ib, from_, []⟩).out x = if x < p then (yes ia ib && decide (from_ ≤ x)) else yes (hasL a x) (hasL b x) := by
  induction n with
  | zero =>
    intro a ia b ib p from_ hm ha hb hp hp2 hf
    have e : a = [] ∧ b = [] := by
      by_cases e : a = [] ∧ b = []
      · exact e
      · have := step_lt a ia b ib e; omega
    obtain ⟨rfl, rfl⟩ := e
    have h1 : ia = false := ha
    have h2 : ib = false := hb
    subst h1 h2
    rw [bords_nil, hy]
    refine ⟨trivial, fun x => ?_⟩
    simp [hasL_nil, hy]
  | succ n ih =>
    intro a ia b ib p from_ hm ha hb hp hp2 hf
    by_cases e : a = [] ∧ b = []
    · obtain ⟨rfl, rfl⟩ := e
      have h1 : ia = false := ha
      have h2 : ib = false := hb
      subst h1 h2
      rw [bords_nil, hy]
      refine ⟨trivial, fun x => ?_⟩
      simp [hasL_nil, hy]
    · have hlt := step_lt a ia b ib e
      rw [bords_cons a ia b ib e]
      have ht : p < atL a ia b ib ∧ atL a ia b ib ≤ hi + 1 ∧ (a ≠ [] → atL a ia b ib ≤ nxtL a ia) ∧ (b ≠ [] → atL a ia b ib ≤ nxtL b ib) := by
        unfold atL
        by_cases h1 : a = []
        · have h2 : b ≠ [] := fun h => e ⟨h1, h⟩
          rw [if_pos h1]
          have := hb.nxt hp2 hh h2
          exact ⟨this.1, this.2, fun h => absurd h1 h, fun _ => Int.le_refl _⟩
        · rw [if_neg h1]
          have q1 := ha.nxt hp2 hh h1
          by_cases h2 : b = []
          · rw [if_pos h2]
            exact ⟨q1.1, q1.2, fun _ => Int.le_refl _, fun h => absurd h2 h⟩
          · rw [if_neg h2]
            have q2 := hb.nxt hp2 hh h2
            exact ⟨by omega, by omega, fun _ => by omega, fun _ => by omega⟩
      obtain ⟨t, hte⟩ : ∃ t, atL a ia b ib = t := ⟨_, rfl⟩
      rw [hte] at ht hlt ⊢
      obtain ⟨ht1, ht2, ht3, ht4⟩ := ht
      obtain ⟨ia2, ha2, ha3⟩ := ha.step hp2 hh ht1 ht3
      obtain ⟨ib2, hb2, hb3⟩ := hb.step hp2 hh ht1 ht4
      obtain ⟨a1, ia1, hpa⟩ : ∃ a1 ia1, pastL a ia t = (a1, ia1) := ⟨_, _, rfl⟩
      obtain ⟨b1, ib1, hpb⟩ : ∃ b1 ib1, pastL b ib t = (b1, ib1) := ⟨_, _, rfl⟩
      rw [hpa] at hlt ia2 ha2 ⊢
      rw [hpb] at hlt ib2 hb2 ⊢
      dsimp only at hlt ia2 ha2 ib2 hb2 ⊢
      have hw : wrap64 (t - 1) = t - 1 := wrap_ok (by omega) (by omega)
      have hval : ∀ x, p ≤ x → x < t → yes (hasL a x) (hasL b x) = yes ia ib := fun x h1 h2 => by rw [ha3 x h1 h2, hb3 x h1 h2]
      have hval2 : ∀ x, t ≤ x → yes (hasL a1 x) (hasL b1 x) = yes (hasL a x) (hasL b x) := fun x h1 => by rw [ha2 x h1, hb2 x h1]
      simp only [List.foldl_cons]
      cases hin : yes ia ib with
      | false =>
        cases hnow : yes ia1 ib1 with
        | true =>
          have hk : kstep yes ⟨false, from_, []⟩ ⟨t, ia1, ib1⟩ = ⟨yes ia1 ib1, t, []⟩ := by simp [kstep, hnow]
          rw [hk]
          obtain ⟨s1, s2⟩ := ih a1 ia1 b1 ib1 t t (by omega) ia2 ib2 (by omega) (by omega) (fun _ => ⟨by omega, Int.le_refl _⟩)
          rw [hnow] at s1 s2 ⊢
          refine ⟨by simpa using SL.mono (by simp; omega) s1, fun x => ?_⟩
          rw [s2 x]
          by_cases c1 : x < p
          · have c2 : x < t := by omega
            have c3 : ¬ t ≤ x := by omega
            simp [c1, c2, c3]
          · by_cases c2 : x < t
            · have c3 : ¬ t ≤ x := by omega
              rw [if_neg c1, hval x (by omega) c2, hin]
              simp [c2, c3]
            · rw [if_neg c1, if_neg c2, hval2 x (by omega)]
        | false =>
          have hk : kstep yes ⟨false, from_, []⟩ ⟨t, ia1, ib1⟩ = ⟨yes ia1 ib1, from_, []⟩ := by simp [kstep, hnow]
          rw [hk]
          obtain ⟨s1, s2⟩ := ih a1 ia1 b1 ib1 t from_ (by omega) ia2 ib2 (by omega) (by omega) (fun h => by rw [hnow] at h; cases h)
          rw [hnow] at s1 s2 ⊢
          refine ⟨by simpa using SL.mono (by simp; omega) s1, fun x => ?_⟩
          rw [s2 x]
          by_cases c1 : x < p
          · have c2 : x < t := by omega
            simp [c1, c2]
          · by_cases c2 : x < t
            · rw [if_neg c1, hval x (by omega) c2, hin]
              simp [c2]
            · rw [if_neg c1, if_neg c2, hval2 x (by omega)]
      | true =>
        obtain ⟨hf1, hf2⟩ := hf hin
        cases hnow : yes ia1 ib1 with
        | true =>
          have hk : kstep yes ⟨true, from_, []⟩ ⟨t, ia1, ib1⟩ = ⟨yes ia1 ib1, from_, []⟩ := by simp [kstep, hnow]
          rw [hk]
          obtain ⟨s1, s2⟩ := ih a1 ia1 b1 ib1 t from_ (by omega) ia2 ib2 (by omega) (by omega) (fun _ => ⟨hf1, by omega⟩)
          rw [hnow] at s1 s2 ⊢
          refine ⟨by simpa using s1, fun x => ?_⟩
          rw [s2 x]
          by_cases c1 : x < p
          · have c2 : x < t := by omega
            simp [c1, c2]
          · by_cases c2 : x < t
            · have c3 : from_ ≤ x := by omega
              rw [if_neg c1, hval x (by omega) c2, hin]
              simp [c2, c3]
            · rw [if_neg c1, if_neg c2, hval2 x (by omega)]
        | false =>
          have hk : kstep yes ⟨true, from_, []⟩ ⟨t, ia1, ib1⟩ = ⟨yes ia1 ib1, from_, [⟨from_, t - 1⟩]⟩ := by simp [kstep, hnow, hw]
          rw [hk, fold_out]
          obtain ⟨s1, s2⟩ := ih a1 ia1 b1 ib1 t from_ (by omega) ia2 ib2 (by omega) (by omega) (fun h => by rw [hnow] at h; cases h)
          rw [hnow] at s1 s2 ⊢
          refine ⟨⟨by simp, by show from_ ≤ t - 1; omega, by show t - 1 ≤ hi; omega, ?_⟩, fun x => ?_⟩
          · have : (t - 1 : Int) + 2 = t + 1 := by omega
            show SL (t - 1 + 2) hi _
            rw [this]
            simpa using s1
          · have hcons : hasL ([⟨from_, t - 1⟩] ++ (List.foldl (kstep yes) ⟨false, from_, []⟩ (bords a1 ia1 b1 ib1)).out) x = ((decide (from_ ≤ x) && decide (x ≤ t - 1)) || hasL (List.foldl (kstep yes) ⟨false, from_, []⟩ (bords a1 ia1 b1 ib1)).out x) := rfl
            rw [hcons, s2 x]
            by_cases c1 : x < p
            · have c2 : x < t := by omega
              have c3 : x ≤ t - 1 := by omega
              simp [c1, c2, c3]
            · by_cases c2 : x < t
              · have c3 : from_ ≤ x := by omega
                have c4 : x ≤ t - 1 := by omega
                rw [if_neg c1, hval x (by omega) c2, hin]
                simp [c2, c3, c4]
              · have c4 : ¬ x ≤ t - 1 := by omega
                rw [if_neg c1, if_neg c2, hval2 x (by omega)]
                simp [c4]

theorem keptL_spec (yes : Bool → Bool → Bool) (hy : yes false false = false) {lo hi : Int} (hlo : -4611686018427387903 ≤ lo) (hh : hi ≤ 4611686018427387904) {a b : List Sp} (ha : SL lo hi a) (hb : SL lo hi b) :
    SL lo hi (keptL yes a b) ∧ ∀ x, hasL (keptL yes a b) x = yes (hasL a x) (hasL b x) := by
  have inv : ∀ {a : List Sp}, SL lo hi a → Inv hi a false (lo - 1) := by
    intro a h
    cases a with
    | nil => rfl
    | cons s r => exact SL.mono (by omega) h
  obtain ⟨h1, h2⟩ := sweep yes hy hi lo (by omega) hh _ a false b false (lo - 1) 0 (Nat.le_refl _) (inv ha) (inv hb) (by omega) (by omega) (fun h => by rw [hy] at h; cases h)
  rw [hy] at h1 h2
  refine ⟨by simpa [keptL, kfold] using SL.mono (by simp) h1, fun x => ?_⟩
  have := h2 x
  unfold keptL kfold
  rw [this]
  by_cases c : x < lo - 1
  · rw [if_pos c, ha.low (by omega), hb.low (by omega), hy]; simp
  · rw [if_neg c]
end Go.Proofs.Ytmbmalkpmanaaaa.P

namespace Go.Proofs.Ytmbmalkpmanaaaa.P
set_option linter.unusedVariables false
set_option linter.unusedSimpArgs false
open Go.RowKit

def ins : List Int → Int → List Int
  | [], x => [x]
  | y :: r, x => if y = x then y :: r else if y > x then x :: y :: r else y :: ins r x
def Up (l : List Int) : Prop := l.Pairwise (· < ·)
theorem ins_mem (l : List Int) (x z : Int) : z ∈ ins l x ↔ z ∈ l ∨ z = x := by
  induction l with
  | nil => simp [ins]
  | cons y r ih =>
    simp only [ins]
    by_cases h : y = x
    · rw [if_pos h]; subst h; simp; exact fun e => .inl e
    · rw [if_neg h]
      by_cases h2 : y > x
      · rw [if_pos h2]; simp; constructor
        · rintro (h | h | h)
          · exact .inr h
          · exact .inl (.inl h)
          · exact .inl (.inr h)
        · rintro ((h | h) | h)
          · exact .inr (.inl h)
          · exact .inr (.inr h)
          · exact .inl h
      · rw [if_neg h2]; simp [ih, or_assoc]
theorem ins_up {l : List Int} (h : Up l) (x : Int) : Up (ins l x) := by
  induction l with
  | nil => simp [ins, Up]
  | cons y r ih =>
    have hy := (List.pairwise_cons.1 h)
    simp only [ins]
    by_cases h1 : y = x
    · rw [if_pos h1]; exact h
    · rw [if_neg h1]
      by_cases h2 : y > x
      · rw [if_pos h2]
        refine List.pairwise_cons.2 ⟨fun z hz => ?_, h⟩
        rcases List.mem_cons.1 hz with rfl | hz
        · exact h2
        · exact Int.lt_trans h2 (hy.1 z hz)
      · rw [if_neg h2]
        refine List.pairwise_cons.2 ⟨fun z hz => ?_, ih hy.2⟩
        rcases (ins_mem r x z).1 hz with hz | rfl
        · exact hy.1 z hz
        · omega
theorem ins_len (l : List Int) (x : Int) : (ins l x).length ≤ l.length + 1 := by
  induction l with
  | nil => simp [ins]
  | cons y r ih =>
    simp only [ins]
    split
    · simp
    · split <;> simp; omega
def plc : List Sp → List Int → List Int
  | [], p => p
  | s :: r, p => plc r (ins (ins p s.f0) (s.f1 + 1))
theorem plc_mem (l : List Sp) : ∀ (p : List Int) (z : Int), z ∈ plc l p ↔ z ∈ p ∨ ∃ s ∈ l, z = s.f0 ∨ z = s.f1 + 1 := by
  induction l with
  | nil => intro p z; simp [plc]
  | cons s r ih =>
    intro p z
    simp only [plc, ih, ins_mem, List.mem_cons]
    constructor
    · rintro (((h | h) | h) | ⟨t, ht, h⟩)
      · exact .inl h
      · exact .inr ⟨s, .inl rfl, .inl h⟩
      · exact .inr ⟨s, .inl rfl, .inr h⟩
      · exact .inr ⟨t, .inr ht, h⟩
    · rintro (h | ⟨t, rfl | ht, h⟩)
      · exact .inl (.inl (.inl h))
      · rcases h with h | h
        · exact .inl (.inl (.inr h))
        · exact .inl (.inr h)
      · exact .inr ⟨t, ht, h⟩
theorem plc_up (l : List Sp) : ∀ {p : List Int}, Up p → Up (plc l p) := by
  induction l with
  | nil => intro p h; exact h
  | cons s r ih => intro p h; exact ih (ins_up (ins_up h _) _)
theorem plc_len (l : List Sp) : ∀ (p : List Int), (plc l p).length ≤ p.length + 2 * l.length := by
  induction l with
  | nil => intro p; simp [plc]
  | cons s r ih =>
    intro p
    have h1 := ih (ins (ins p s.f0) (s.f1 + 1))
    have h2 := ins_len (ins p s.f0) (s.f1 + 1)
    have h3 := ins_len p s.f0
    simp only [plc, List.length_cons]
    omega

def join (out : List Sp) (x y : Int) : List Sp :=
  match out.reverse with
  | [] => [⟨x, y - 1⟩]
  | z :: o => if z.f1 = x - 1 then o.reverse ++ [⟨z.f0, y - 1⟩] else out ++ [⟨x, y - 1⟩]
theorem join_nil (x y : Int) : join [] x y = [⟨x, y - 1⟩] := rfl
theorem join_snoc (o : List Sp) (z : Sp) (x y : Int) : join (o ++ [z]) x y = if z.f1 = x - 1 then o ++ [⟨z.f0, y - 1⟩] else o ++ [z] ++ [⟨x, y - 1⟩] := by
  simp [join]
def setGo (q : Int → Bool) : List Sp → List Int → List Sp
  | out, x :: y :: r => setGo q (if q x then join out x y else out) (y :: r)
  | out, _ => out

theorem SL_snoc {lo hi : Int} {o : List Sp} {z : Sp} : SL lo hi (o ++ [z]) ↔ SL lo hi o ∧ (∀ s ∈ o, s.f1 + 2 ≤ z.f0) ∧ lo ≤ z.f0 ∧ z.f0 ≤ z.f1 ∧ z.f1 ≤ hi := by
  induction o generalizing lo with
  | nil => simp [SL]
  | cons t o ih =>
    simp only [List.cons_append, SL, ih, List.mem_cons]
    constructor
    · rintro ⟨h1, h2, h3, h4, h5, h6, h7, h8⟩
      exact ⟨⟨h1, h2, h3, h4⟩, fun s hs => by rcases hs with rfl | hs; exact h6; exact h5 s hs, by omega, h7, h8⟩
    · rintro ⟨⟨h1, h2, h3, h4⟩, h5, h6, h7, h8⟩
      exact ⟨h1, h2, h3, h4, fun s hs => h5 s (.inr hs), h5 t (.inl rfl), h7, h8⟩

theorem join_spec {lo hi : Int} {out : List Sp} {x y : Int} (hs : SL lo hi out) (hb : ∀ s ∈ out, s.f1 ≤ x - 1) (hx : lo ≤ x) (hxy : x < y) (hy : y - 1 ≤ hi) :
    SL lo hi (join out x y) ∧ (∀ s ∈ join out x y, s.f1 ≤ y - 1) ∧ ∀ t, hasL (join out x y) t = (hasL out t || (decide (x ≤ t) && decide (t < y))) := by
  have hdec : ∀ t : Int, decide (t ≤ y - 1) = decide (t < y) := fun t => by
    by_cases h : t < y
    · have : t ≤ y - 1 := by omega
      simp [h, this]
    · have : ¬ t ≤ y - 1 := by omega
      simp [h, this]
  rcases List.eq_nil_or_concat out with rfl | ⟨o, z, rfl⟩
  · rw [join_nil]
    refine ⟨⟨hx, by show x ≤ y - 1; omega, hy, trivial⟩, fun s h => by simp at h; subst h; exact Int.le_refl _, fun t => ?_⟩
    simp [hasL, hdec]
  · rw [List.concat_eq_append] at *
    obtain ⟨h1, h2, h3, h4, h5⟩ := SL_snoc.1 hs
    have hz := hb z (by simp)
    rw [join_snoc]
    by_cases e : z.f1 = x - 1
    · rw [if_pos e]
      refine ⟨SL_snoc.2 ⟨h1, h2, h3, by show z.f0 ≤ y - 1; omega, hy⟩, fun s h => ?_, fun t => ?_⟩
      · simp at h
        rcases h with h | rfl
        · have := hb s (by simp [h]); omega
        · exact Int.le_refl _
      · rw [hasL_append, hasL_append]
        simp only [hasL_cons, hasL_nil, Bool.or_false, hdec]
        rw [Bool.or_assoc]
        congr 1
        by_cases c : t < x
        · have a1 : t < y := by omega
          have a2 : t ≤ z.f1 := by omega
          have a3 : ¬ x ≤ t := by omega
          simp [a1, a2, a3]
        · have a2 : ¬ t ≤ z.f1 := by omega
          have a3 : x ≤ t := by omega
          have a4 : z.f0 ≤ t := by omega
          simp [a2, a3, a4]
    · rw [if_neg e]
      refine ⟨SL_snoc.2 ⟨hs, fun s h => ?_, hx, by show x ≤ y - 1; omega, hy⟩, fun s h => ?_, fun t => ?_⟩
      · simp at h
        rcases h with h | rfl
        · have := h2 s h; show s.f1 + 2 ≤ x; omega
        · show s.f1 + 2 ≤ x; omega
      · simp at h
        rcases h with h | rfl | rfl
        · have := hb s (by simp [h]); omega
        · have := hb s (by simp); omega
        · exact Int.le_refl _
      · rw [hasL_append]
        simp only [hasL_cons, hasL_nil, Bool.or_false, hdec]

theorem setGo_spec {lo hi : Int} (q : Int → Bool) : ∀ (p : List Int) (out : List Sp) (x : Int), Up (x :: p) → SL lo hi out → (∀ s ∈ out, s.f1 ≤ x - 1) → lo ≤ x → (∀ z ∈ x :: p, z - 1 ≤ hi) →
    (∀ t, t < x → hasL out t = q t) → (∀ (u : Int), u ∈ x :: p → ∀ t, u ≤ t → (∀ v, v ∈ x :: p → v ≤ u ∨ t < v) → q t = q u) → (∀ t, (∀ v ∈ x :: p, v ≤ t) → q t = false) →
    SL lo hi (setGo q out (x :: p)) ∧ ∀ t, hasL (setGo q out (x :: p)) t = q t := by
  intro p
  induction p with
  | nil =>
    intro out x hu hs hb hx hh hq hc hz
    refine ⟨hs, fun t => ?_⟩
    by_cases h : t < x
    · exact hq t h
    · have : hasL out t = false := by
        rw [Bool.eq_false_iff]; intro e
        obtain ⟨s, h1, _, h2⟩ := hasL_true.1 e
        have := hb s h1; omega
      show hasL out t = q t
      rw [this, hz t (fun v hv => by simp at hv; omega)]
  | cons y r ih =>
    intro out x hu hs hb hx hh hq hc hz
    obtain ⟨hu1, hu2⟩ := List.pairwise_cons.1 hu
    have hxy : x < y := hu1 y (by simp)
    have hyr := (List.pairwise_cons.1 hu2).1
    have hseg : ∀ t, x ≤ t → t < y → q t = q x := fun t h1 h2 => hc x (by simp) t h1 (fun v hv => by
      rcases List.mem_cons.1 hv with rfl | hv
      · exact .inl (Int.le_refl _)
      · rcases List.mem_cons.1 hv with rfl | hv
        · exact .inr h2
        · exact .inr (Int.lt_trans h2 (hyr v hv)))
    show SL lo hi (setGo q (if q x then join out x y else out) (y :: r)) ∧ ∀ t, hasL (setGo q (if q x then join out x y else out) (y :: r)) t = q t
    have common : ∀ out' : List Sp, SL lo hi out' → (∀ s ∈ out', s.f1 ≤ y - 1) → (∀ t, t < y → hasL out' t = q t) → SL lo hi (setGo q out' (y :: r)) ∧ ∀ t, hasL (setGo q out' (y :: r)) t = q t := by
      intro out' a1 a2 a3
      refine ih out' y hu2 a1 a2 (by omega) (fun z hz' => hh z (by simp at hz' ⊢; exact .inr hz')) a3 (fun u hu' t h1 h2 => hc u (by simp at hu' ⊢; exact .inr hu') t h1 (fun v hv => ?_)) (fun t ht => hz t (fun v hv => ?_))
      · rcases List.mem_cons.1 hv with rfl | hv
        · refine .inl ?_
          rcases List.mem_cons.1 hu' with rfl | hu'
          · omega
          · have := hyr u hu'; omega
        · exact h2 v hv
      · rcases List.mem_cons.1 hv with rfl | hv
        · have := ht y (by simp); omega
        · exact ht v hv
    by_cases hqx : q x = true
    · rw [if_pos hqx]
      obtain ⟨j1, j2, j3⟩ := join_spec hs hb hx hxy (hh y (by simp))
      refine common _ j1 j2 (fun t ht => ?_)
      rw [j3]
      by_cases c : t < x
      · have : ¬ x ≤ t := by omega
        rw [hq t c]; simp [this]
      · have : x ≤ t := by omega
        rw [hseg t this ht, hqx]; simp [this, ht]
    · rw [if_neg hqx]
      refine common _ hs (fun s h => by have := hb s h; omega) (fun t ht => ?_)
      by_cases c : t < x
      · exact hq t c
      · rw [hseg t (by omega) ht]
        have h1 : q x = false := by simpa using hqx
        have h2 : hasL out t = false := by
          rw [Bool.eq_false_iff]; intro e
          obtain ⟨s, h1, _, h2⟩ := hasL_true.1 e
          have := hb s h1; omega
        rw [h1, h2]

theorem has_const {a : List Sp} {u t : Int} (p : List Int) (hp : ∀ s ∈ a, s.f0 ∈ p ∧ s.f1 + 1 ∈ p) (hut : u ≤ t) (h : ∀ v ∈ p, v ≤ u ∨ t < v) : hasL a t = hasL a u := by
  induction a with
  | nil => rfl
  | cons s a ih =>
    rw [hasL_cons, hasL_cons, ih (fun s' hs' => hp s' (by simp [hs']))]
    obtain ⟨h1, h2⟩ := hp s (by simp)
    have e1 : decide (s.f0 ≤ t) = decide (s.f0 ≤ u) := by
      rcases h _ h1 with h | h
      · have a : s.f0 ≤ t := by omega
        simp [h, a]
      · have a : ¬ s.f0 ≤ t := by omega
        have b : ¬ s.f0 ≤ u := by omega
        simp [a, b]
    have e2 : decide (t ≤ s.f1) = decide (u ≤ s.f1) := by
      rcases h _ h2 with h | h
      · have a : ¬ t ≤ s.f1 := by omega
        have b : ¬ u ≤ s.f1 := by omega
        simp [a, b]
      · have a : t ≤ s.f1 := by omega
        have b : u ≤ s.f1 := by omega
        simp [a, b]
    rw [e1, e2]
theorem setRef_spec (yes : Bool → Bool → Bool) (hy : yes false false = false) {lo hi : Int} {a b : List Sp} (ha : ∀ s ∈ a, lo ≤ s.f0 ∧ s.f0 ≤ s.f1 ∧ s.f1 ≤ hi) (hb : ∀ s ∈ b, lo ≤ s.f0 ∧ s.f0 ≤ s.f1 ∧ s.f1 ≤ hi) :
    SL lo hi (setGo (fun x => yes (hasL a x) (hasL b x)) [] (plc b (plc a []))) ∧ ∀ t, hasL (setGo (fun x => yes (hasL a x) (hasL b x)) [] (plc b (plc a []))) t = yes (hasL a t) (hasL b t) := by
  have hup : Up (plc b (plc a [])) := plc_up b (plc_up a List.Pairwise.nil)
  have hmem : ∀ z, z ∈ plc b (plc a []) ↔ (∃ s ∈ a, z = s.f0 ∨ z = s.f1 + 1) ∨ ∃ s ∈ b, z = s.f0 ∨ z = s.f1 + 1 := fun z => by rw [plc_mem, plc_mem]; simp
  have hpa : ∀ s ∈ a, s.f0 ∈ plc b (plc a []) ∧ s.f1 + 1 ∈ plc b (plc a []) := fun s hs => ⟨(hmem _).2 (.inl ⟨s, hs, .inl rfl⟩), (hmem _).2 (.inl ⟨s, hs, .inr rfl⟩)⟩
  have hpb : ∀ s ∈ b, s.f0 ∈ plc b (plc a []) ∧ s.f1 + 1 ∈ plc b (plc a []) := fun s hs => ⟨(hmem _).2 (.inr ⟨s, hs, .inl rfl⟩), (hmem _).2 (.inr ⟨s, hs, .inr rfl⟩)⟩
  have hout : ∀ {a : List Sp} {p : List Int}, (∀ s ∈ a, s.f0 ∈ p ∧ s.f1 + 1 ∈ p) → ∀ t, ((∀ v ∈ p, v ≤ t) ∨ ∀ v ∈ p, t < v) → hasL a t = false := by
    intro a p h t ht
    rw [Bool.eq_false_iff]; intro e
    obtain ⟨s, h1, h2, h3⟩ := hasL_true.1 e
    obtain ⟨h4, h5⟩ := h s h1
    rcases ht with ht | ht
    · have := ht _ h5; omega
    · have := ht _ h4; omega
  have hrange : ∀ z ∈ plc b (plc a []), lo ≤ z ∧ z - 1 ≤ hi := by
    intro z hz
    rcases (hmem z).1 hz with ⟨s, hs, h⟩ | ⟨s, hs, h⟩
    · have := ha s hs; rcases h with rfl | rfl <;> omega
    · have := hb s hs; rcases h with rfl | rfl <;> omega
  cases hp : plc b (plc a []) with
  | nil =>
    have ea : ∀ t, hasL a t = false := fun t => hout hpa t (.inl (by rw [hp]; simp))
    have eb : ∀ t, hasL b t = false := fun t => hout hpb t (.inl (by rw [hp]; simp))
    refine ⟨trivial, fun t => ?_⟩
    rw [ea, eb, hy]; rfl
  | cons x p =>
    rw [hp] at hup hpa hpb hrange
    refine setGo_spec _ p [] x hup trivial (by simp) (hrange x (by simp)).1 (fun z hz => (hrange z hz).2) (fun t ht => ?_) (fun u hu t h1 h2 => ?_) (fun t ht => ?_)
    · have hlt : ∀ v ∈ x :: p, t < v := fun v hv => by
        rcases List.mem_cons.1 hv with rfl | hv
        · exact ht
        · exact Int.lt_trans ht ((List.pairwise_cons.1 hup).1 v hv)
      rw [hout hpa t (.inr hlt), hout hpb t (.inr hlt), hy]; rfl
    · rw [has_const _ hpa h1 h2, has_const _ hpb h1 h2]
    · rw [hout hpa t (.inl ht), hout hpb t (.inl ht), hy]

def glue (out : List Sp) (s : Sp) : List Sp :=
  match out.reverse with
  | [] => [s]
  | z :: o => if s.f0 ≤ z.f1 + 1 then o.reverse ++ [⟨z.f0, max z.f1 s.f1⟩] else out ++ [s]
theorem glue_nil (s : Sp) : glue [] s = [s] := rfl
theorem glue_snoc (o : List Sp) (z s : Sp) : glue (o ++ [z]) s = if s.f0 ≤ z.f1 + 1 then o ++ [⟨z.f0, max z.f1 s.f1⟩] else o ++ [z] ++ [s] := by simp [glue]
theorem glue_spec {lo hi : Int} {out : List Sp} {s : Sp} (hs : SL lo hi out) (hb : ∀ z ∈ out, z.f0 ≤ s.f0) (h0 : lo ≤ s.f0) (h1 : s.f0 ≤ s.f1) (h2 : s.f1 ≤ hi) :
    SL lo hi (glue out s) ∧ (∀ z ∈ glue out s, z.f0 ≤ s.f0) ∧ ∀ t, hasL (glue out s) t = (hasL out t || (decide (s.f0 ≤ t) && decide (t ≤ s.f1))) := by
  rcases List.eq_nil_or_concat out with rfl | ⟨o, z, rfl⟩
  · rw [glue_nil]
    exact ⟨⟨h0, h1, h2, trivial⟩, fun z h => by simp at h; subst h; exact Int.le_refl _, fun t => by simp [hasL]⟩
  · rw [List.concat_eq_append] at *
    obtain ⟨a1, a2, a3, a4, a5⟩ := SL_snoc.1 hs
    have hz := hb z (by simp)
    rw [glue_snoc]
    by_cases e : s.f0 ≤ z.f1 + 1
    · rw [if_pos e]
      refine ⟨SL_snoc.2 ⟨a1, a2, a3, by show z.f0 ≤ max z.f1 s.f1; omega, by show max z.f1 s.f1 ≤ hi; omega⟩, fun u h => ?_, fun t => ?_⟩
      · simp at h
        rcases h with h | rfl
        · exact hb u (by simp [h])
        · exact hz
      · rw [hasL_append, hasL_append]
        simp only [hasL_cons, hasL_nil, Bool.or_false]
        rw [Bool.or_assoc]
        congr 1
        rw [Bool.eq_iff_iff]
        simp only [Bool.and_eq_true, Bool.or_eq_true, decide_eq_true_eq]
        omega
    · rw [if_neg e]
      refine ⟨SL_snoc.2 ⟨hs, fun u h => ?_, h0, h1, h2⟩, fun u h => ?_, fun t => ?_⟩
      · simp at h
        rcases h with h | rfl
        · have := a2 u h; omega
        · omega
      · simp at h
        rcases h with h | rfl | rfl
        · exact hb u (by simp [h])
        · exact hz
        · exact Int.le_refl _
      · rw [hasL_append]; simp [hasL_cons, hasL_nil]
theorem glueAll_spec {lo hi : Int} : ∀ (l out : List Sp), SL lo hi out → (∀ s ∈ l, lo ≤ s.f0 ∧ s.f0 ≤ s.f1 ∧ s.f1 ≤ hi) → (∀ z ∈ out, ∀ s ∈ l, z.f0 ≤ s.f0) → l.Pairwise (fun x y => x.f0 ≤ y.f0) →
    SL lo hi (l.foldl glue out) ∧ ∀ t, hasL (l.foldl glue out) t = (hasL out t || hasL l t) := by
  intro l
  induction l with
  | nil => intro out hs _ _ _; exact ⟨hs, fun t => by simp [hasL_nil]⟩
  | cons s r ih =>
    intro out hs hl hb hp
    obtain ⟨p1, p2⟩ := List.pairwise_cons.1 hp
    obtain ⟨b0, b1, b2⟩ := hl s (by simp)
    obtain ⟨g1, g2, g3⟩ := glue_spec hs (fun z hz => hb z hz s (by simp)) b0 b1 b2
    obtain ⟨i1, i2⟩ := ih (glue out s) g1 (fun u hu => hl u (by simp [hu])) (fun z hz u hu => Int.le_trans (g2 z hz) (p1 u hu)) p2
    refine ⟨i1, fun t => ?_⟩
    simp only [List.foldl_cons]
    rw [i2, g3, hasL_cons, Bool.or_assoc]
theorem glue_len (out : List Sp) (s : Sp) : (glue out s).length ≤ out.length + 1 := by
  rcases List.eq_nil_or_concat out with rfl | ⟨o, z, rfl⟩
  · simp [glue_nil]
  · rw [List.concat_eq_append, glue_snoc]; split <;> simp
theorem hasL_perm {l m : List Sp} (h : l.Perm m) (x : Int) : hasL l x = hasL m x := by
  rw [Bool.eq_iff_iff, hasL_true, hasL_true]
  exact ⟨fun ⟨s, h1, h2⟩ => ⟨s, h.mem_iff.1 h1, h2⟩, fun ⟨s, h1, h2⟩ => ⟨s, h.mem_iff.2 h1, h2⟩⟩
end Go.Proofs.Ytmbmalkpmanaaaa.P

namespace Go.Proofs.Ytmbmalkpmanaaaa.P
set_option linter.unusedVariables false
set_option linter.unusedSimpArgs false
open Go.RowKit Go.ChangeShapes Go.WideShapes Go.Deep Go.Proofs.YtmbmalkpmanaaaaW.PrintWords

def fits (n : Int) : Prop := (Lit.int .i64 n).wf = true
def spFits (s : Sp) : Prop := fits s.f0 ∧ fits s.f1

theorem open_spans {H : Type} {enc : TypeId × Value → H} {w : World} {base : Nat} {held : Bool} {a : Option Addr} {len cap : Nat} {d : DataW H} {p : List MemPlace}
    (h : DataW.Trod enc Try.prog w base (fun _ => true) held 24 (.slice a len cap) d p) :
    ∃ l : List Sp, len = l.length ∧ l.length ≤ cap ∧ Kd.C k23 w a l.length l ∧ (∀ s ∈ l, spFits s) ∧ l.length ≤ 9223372036854775807 := by
  obtain ⟨fuel, hf⟩ := h
  rcases open_slice_pairs Try.underlying24 Try.underlying23 (by kernel_rfl) rfl rfl (by kernel_rfl) (by kernel_rfl) hf with ⟨hc, _⟩ | ⟨ad, len', cap', m, n, V0, V1, D0, D1, P0, P1, hc, hb, hl, hm, hmm, hx, hi⟩
  · simp [Value.cells] at hc
    obtain ⟨rfl, rfl, rfl⟩ := hc
    exact ⟨[], rfl, Nat.le_refl _, ⟨rfl, by simp, fun h => absurd h (by simp)⟩, by simp, by simp⟩
  · simp [Value.cells] at hc
    obtain ⟨rfl, rfl, rfl⟩ := hc
    have hlm : len ≤ m := by rw [hmm]; simpa using hl
    have hk : ∀ i, i < len → ∃ s : Sp, w.cell? (ad.add (i * 2)) = some (.int .i64 s.f0) ∧ w.cell? (ad.add (i * 2 + 1)) = some (.int .i64 s.f1) ∧ spFits s := by
      intro i hi'
      obtain ⟨c0, c1, t0, t1⟩ := hi i (by omega)
      obtain ⟨x, e0, _, w0⟩ := DataW.trod_int Try.underlying3 t0
      obtain ⟨y, e1, _, w1⟩ := DataW.trod_int Try.underlying3 t1
      simp only [List.cons.injEq, and_true] at e0 e1
      exact ⟨⟨x, y⟩, by rw [c0, e0], by rw [c1, e1], w0, w1⟩
    have hmax : len ≤ 9223372036854775807 := by unfold maxLen at hm; omega
    suffices key : ∀ k, k ≤ len → ∃ l : List Sp, l.length = k ∧ (∀ j s, l[j]? = some s → w.cell? (ad.add (j * 2)) = some (.int .i64 s.f0) ∧ w.cell? (ad.add (j * 2 + 1)) = some (.int .i64 s.f1)) ∧ ∀ s ∈ l, spFits s by
      obtain ⟨l, rfl, hl2, hfit⟩ := key len (Nat.le_refl _)
      refine ⟨l, rfl, hl, ⟨rfl, hmax, fun _ => ⟨ad, rfl, fun j s hj => ⟨[.int .i64 s.f0, .int .i64 s.f1], rfl, k23_mk w s, fun i u hu => ?_⟩⟩⟩, hfit, hmax⟩
      have := hl2 j s hj
      match i, hu with
      | 0, hu => simp at hu; subst hu; exact this.1
      | 1, hu => simp at hu; subst hu; exact this.2
    intro k
    induction k with
    | zero => exact fun _ => ⟨[], rfl, fun j s h => by simp at h, by simp⟩
    | succ k ih =>
      intro hk'
      obtain ⟨l, hl1, hl2, hl3⟩ := ih (by omega)
      obtain ⟨s, h0, h1, h2⟩ := hk k (by omega)
      refine ⟨l ++ [s], by simp [hl1], fun j t hj => ?_, fun t ht => ?_⟩
      · by_cases hjk : j < l.length
        · rw [List.getElem?_append_left hjk] at hj; exact hl2 j t hj
        · rw [List.getElem?_append_right (by omega)] at hj
          have : j - l.length = 0 := by
            by_cases e : j - l.length = 0
            · exact e
            · rw [List.getElem?_eq_none (by simp; omega)] at hj; cases hj
          rw [this] at hj
          simp at hj
          subst hj
          have : j = k := by omega
          subst this
          exact ⟨h0, h1⟩
      · simp at ht
        rcases ht with ht | rfl
        · exact hl3 t ht
        · exact h2
end Go.Proofs.Ytmbmalkpmanaaaa.P


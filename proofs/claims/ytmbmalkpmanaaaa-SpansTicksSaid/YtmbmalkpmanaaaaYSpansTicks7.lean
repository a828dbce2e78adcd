/- Lemmas for the law SpansTicks: what the functions that it reaches compute. No condition of its own. -/
import Derived.Test.YtmbmalkpmanaaaaYSpansTicks2
import Derived.Test.YtmbmalkpmanaaaaYSpansTicks5
import Derived.Test.YtmbmalkpmanaaaaYSpansTicks4
import Derived.Test.YtmbmalkpmanaaaaYSpansTicks6
import Derived.Deep.SlicePairs
import Derived.ChangeArms
import Derived.ProofKit
namespace Go.Proofs.Ytmbmalkpmanaaaa.P
open Go.RowKit Go.Proofs.YtmbmalkpmanaaaaW.PrintWords Go.Proofs.YtmbmalkpmanaaaaW.PrintLast Go.Proofs.YtmbmalkpmanaaaaW.PrintMore
attribute [local go_sem] max2_int min2_int max_two min_two max_three min_three max_four min_four   -- for this text's walks alone
set_option linter.unusedVariables false
set_option linter.unusedSimpArgs false

mutual
def epactlaw02_SpansTicks.l0 : Nat → Int → List (S23) → List (S23) → List (S23) → List (S23) → List (S23) → List (List (S23)) → Int → Int → Option (Bool)
 | 0, _, _, _, _, _, _, _, _, _ => none
 | k + 1, x2, x7, x8, x9, x10, x11, x41, x42, x43 => if x43 < x42 then (if 0 ≤ x43 then (if x43 < (x41.length : Int) then ((spans_Right.f k (rd_L2 x41 x43)).bind fun t1994 => (if t1994 = true then (epactlaw02_SpansTicks.l0 k x2 x7 x8 x9 x10 x11 x41 x42 (wrap64 (x43 + 1))) else (none))) else (none)) else (none)) else ((epactlow_Anew.f x7).bind fun t1998 => (if t1998.length + x8.length < 8796093022208 then ((some (t1998 ++ x8 : List (S23))).bind fun y2001 => (epactlaw02_SpansTicks.l1 k x7 x8 x9 x10 x11 (([x2] : List Int)) y2001 (y2001.length : Int) 0)) else (none)))
def epactlaw02_SpansTicks.l1 : Nat → List (S23) → List (S23) → List (S23) → List (S23) → List (S23) → List Int → List (S23) → Int → Int → Option (Bool)
 | 0, _, _, _, _, _, _, _, _, _ => none
 | k + 1, x7, x8, x9, x10, x11, x14, x56, x57, x58 => if x58 < x57 then (if 0 ≤ x58 then (if x58 < (x56.length : Int) then ((some (([wrap64 (((rd_T23 x56 x58).f0) - 1), (rd_T23 x56 x58).f0, (rd_T23 x56 x58).f1, wrap64 (((rd_T23 x56 x58).f1) + 1)] : List Int) : List Int)).bind fun y2006 => (if x14.length + y2006.length < 17592186044416 then (epactlaw02_SpansTicks.l1 k x7 x8 x9 x10 x11 (x14 ++ y2006) x56 x57 (wrap64 (x58 + 1))) else (none))) else (none)) else (none)) else (epactlaw02_SpansTicks.l2 k x7 x8 x9 x10 x11 x14 (x14.length : Int) 0)
def epactlaw02_SpansTicks.l2 : Nat → List (S23) → List (S23) → List (S23) → List (S23) → List (S23) → List Int → Int → Int → Option (Bool)
 | 0, _, _, _, _, _, _, _, _ => none
 | k + 1, x7, x8, x9, x10, x11, x76, x77, x78 => if x78 < x77 then (if 0 ≤ x78 then (if x78 < (x76.length : Int) then ((spans_Has.f k x7 (rd x76 x78)).bind fun t2013 => ((spans_Has.f k x8 (rd x76 x78)).bind fun t2014 => ((spans_Has.f k x9 (rd x76 x78)).bind fun t2015 => (if t2013 = true then (if (t2015 != true) = true then (none) else ((spans_Has.f k x10 (rd x76 x78)).bind fun t2016 => (if (t2016 != t2014) = true then (none) else ((spans_Has.f k x11 (rd x76 x78)).bind fun t2017 => (if (t2017 != (!t2014)) = true then (none) else (epactlaw02_SpansTicks.l2 k x7 x8 x9 x10 x11 x76 x77 (wrap64 (x78 + 1)))))))) else (if (t2015 != t2014) = true then (none) else ((spans_Has.f k x10 (rd x76 x78)).bind fun t2018 => (if (t2018 != false) = true then (none) else ((spans_Has.f k x11 (rd x76 x78)).bind fun t2019 => (if (t2019 != false) = true then (none) else (epactlaw02_SpansTicks.l2 k x7 x8 x9 x10 x11 x76 x77 (wrap64 (x78 + 1)))))))))))) else (none)) else (none)) else ((epactlow_Anew.f x11).bind fun t2020 => (if t2020.length + x10.length < 8796093022208 then ((spans_Make.f k (t2020 ++ x10)).bind fun bt2026 => (if bt2026.2 = 0 then ((spans_Same.f k bt2026.1 x7).bind fun t2030 => (if t2030 = true then ((epactlaw02_awake.f k).bind fun t2031 => (some t2031)) else (none))) else (none))) else (none)))
end
def epactlaw02_SpansTicks.f (k : Nat) (l0 : List (S23)) (l1 : List (S23)) (a2 : Int) : Option (Bool) := (epactlaw02_made.f k l0).bind fun t1975 => ((epactlaw02_made.f k l1).bind fun t1978 => ((spans_Union.f t1975 t1978).bind fun t1981 => ((spans_Cut.f t1975 t1978).bind fun t1984 => ((spans_Less.f t1975 t1978).bind fun t1987 => ((some (([t1975, t1978, t1981, t1984, t1987] : List (List (S23))) : List (List (S23)))).bind fun y1990 => (epactlaw02_SpansTicks.l0 k a2 t1975 t1978 t1981 t1984 t1987 y1990 (y1990.length : Int) 0))))))
theorem epactlaw02_SpansTicks.mono_l : ∀ k, (∀ y0 y1 y2 y3 y4 y5 y6 y7 y8, LeO (epactlaw02_SpansTicks.l0 k y0 y1 y2 y3 y4 y5 y6 y7 y8) (epactlaw02_SpansTicks.l0 (k + 1) y0 y1 y2 y3 y4 y5 y6 y7 y8)) ∧ (∀ y0 y1 y2 y3 y4 y5 y6 y7 y8, LeO (epactlaw02_SpansTicks.l1 k y0 y1 y2 y3 y4 y5 y6 y7 y8) (epactlaw02_SpansTicks.l1 (k + 1) y0 y1 y2 y3 y4 y5 y6 y7 y8)) ∧ (∀ y0 y1 y2 y3 y4 y5 y6 y7, LeO (epactlaw02_SpansTicks.l2 k y0 y1 y2 y3 y4 y5 y6 y7) (epactlaw02_SpansTicks.l2 (k + 1) y0 y1 y2 y3 y4 y5 y6 y7))
 | 0 => ⟨fun _ _ _ _ _ _ _ _ _ r h => by simp [epactlaw02_SpansTicks.l0] at h, fun _ _ _ _ _ _ _ _ _ r h => by simp [epactlaw02_SpansTicks.l1] at h, fun _ _ _ _ _ _ _ _ r h => by simp [epactlaw02_SpansTicks.l2] at h⟩
 | k + 1 => by
  obtain ⟨ih0, ih1, ih2⟩ := epactlaw02_SpansTicks.mono_l k
  refine ⟨?_, ?_, ?_⟩
  ·
   intro y0 y1 y2 y3 y4 y5 y6 y7 y8
   unfold epactlaw02_SpansTicks.l0
   repeat' first
   | (with_reducible exact ih0 _ _ _ _ _ _ _ _ _)
   | (with_reducible exact ih1 _ _ _ _ _ _ _ _ _)
   | (with_reducible exact ih2 _ _ _ _ _ _ _ _)
   | (with_reducible exact epactlaw02_awake.mono _)
   | (with_reducible exact epactlaw02_made.mono _ _)
   | (with_reducible exact spans_Has.mono _ _ _)
   | (with_reducible exact spans_Make.mono _ _)
   | (with_reducible exact spans_Right.mono _ _)
   | (with_reducible exact spans_Same.mono _ _ _)
   | (with_reducible exact LeO.refl _)
   | (with_reducible exact LeO.none _)
   | (with_reducible refine LeO.ite ?_ ?_)
   | (with_reducible refine LeO.bind ?_ (fun _ => ?_))
   | exact ih0 _ _ _ _ _ _ _ _ _
   | exact ih1 _ _ _ _ _ _ _ _ _
   | exact ih2 _ _ _ _ _ _ _ _
   | exact epactlaw02_awake.mono _
   | exact epactlaw02_made.mono _ _
   | exact spans_Has.mono _ _ _
   | exact spans_Make.mono _ _
   | exact spans_Right.mono _ _
   | exact spans_Same.mono _ _ _
   | exact LeO.none _
   | refine LeO.ite ?_ ?_
   | refine LeO.bind ?_ (fun _ => ?_)
  ·
   intro y0 y1 y2 y3 y4 y5 y6 y7 y8
   unfold epactlaw02_SpansTicks.l1
   repeat' first
   | (with_reducible exact ih0 _ _ _ _ _ _ _ _ _)
   | (with_reducible exact ih1 _ _ _ _ _ _ _ _ _)
   | (with_reducible exact ih2 _ _ _ _ _ _ _ _)
   | (with_reducible exact epactlaw02_awake.mono _)
   | (with_reducible exact epactlaw02_made.mono _ _)
   | (with_reducible exact spans_Has.mono _ _ _)
   | (with_reducible exact spans_Make.mono _ _)
   | (with_reducible exact spans_Right.mono _ _)
   | (with_reducible exact spans_Same.mono _ _ _)
   | (with_reducible exact LeO.refl _)
   | (with_reducible exact LeO.none _)
   | (with_reducible refine LeO.ite ?_ ?_)
   | (with_reducible refine LeO.bind ?_ (fun _ => ?_))
   | exact ih0 _ _ _ _ _ _ _ _ _
   | exact ih1 _ _ _ _ _ _ _ _ _
   | exact ih2 _ _ _ _ _ _ _ _
   | exact epactlaw02_awake.mono _
   | exact epactlaw02_made.mono _ _
   | exact spans_Has.mono _ _ _
   | exact spans_Make.mono _ _
   | exact spans_Right.mono _ _
   | exact spans_Same.mono _ _ _
   | exact LeO.none _
   | refine LeO.ite ?_ ?_
   | refine LeO.bind ?_ (fun _ => ?_)
  ·
   intro y0 y1 y2 y3 y4 y5 y6 y7
   unfold epactlaw02_SpansTicks.l2
   repeat' first
   | (with_reducible exact ih0 _ _ _ _ _ _ _ _ _)
   | (with_reducible exact ih1 _ _ _ _ _ _ _ _ _)
   | (with_reducible exact ih2 _ _ _ _ _ _ _ _)
   | (with_reducible exact epactlaw02_awake.mono _)
   | (with_reducible exact epactlaw02_made.mono _ _)
   | (with_reducible exact spans_Has.mono _ _ _)
   | (with_reducible exact spans_Make.mono _ _)
   | (with_reducible exact spans_Right.mono _ _)
   | (with_reducible exact spans_Same.mono _ _ _)
   | (with_reducible exact LeO.refl _)
   | (with_reducible exact LeO.none _)
   | (with_reducible refine LeO.ite ?_ ?_)
   | (with_reducible refine LeO.bind ?_ (fun _ => ?_))
   | exact ih0 _ _ _ _ _ _ _ _ _
   | exact ih1 _ _ _ _ _ _ _ _ _
   | exact ih2 _ _ _ _ _ _ _ _
   | exact epactlaw02_awake.mono _
   | exact epactlaw02_made.mono _ _
   | exact spans_Has.mono _ _ _
   | exact spans_Make.mono _ _
   | exact spans_Right.mono _ _
   | exact spans_Same.mono _ _ _
   | exact LeO.none _
   | refine LeO.ite ?_ ?_
   | refine LeO.bind ?_ (fun _ => ?_)
theorem epactlaw02_SpansTicks.mono : ∀ a0 a1 a2 k, LeO (epactlaw02_SpansTicks.f k a0 a1 a2) (epactlaw02_SpansTicks.f (k + 1) a0 a1 a2) := by
 intro a0 a1 a2 k
 obtain ⟨ih0, ih1, ih2⟩ := epactlaw02_SpansTicks.mono_l k
 unfold epactlaw02_SpansTicks.f
 repeat' first
   | (with_reducible exact ih0 _ _ _ _ _ _ _ _ _)
   | (with_reducible exact ih1 _ _ _ _ _ _ _ _ _)
   | (with_reducible exact ih2 _ _ _ _ _ _ _ _)
   | (with_reducible exact epactlaw02_awake.mono _)
   | (with_reducible exact epactlaw02_made.mono _ _)
   | (with_reducible exact spans_Has.mono _ _ _)
   | (with_reducible exact spans_Make.mono _ _)
   | (with_reducible exact spans_Right.mono _ _)
   | (with_reducible exact spans_Same.mono _ _ _)
   | (with_reducible exact LeO.refl _)
   | (with_reducible exact LeO.none _)
   | (with_reducible refine LeO.ite ?_ ?_)
   | (with_reducible refine LeO.bind ?_ (fun _ => ?_))
   | exact ih0 _ _ _ _ _ _ _ _ _
   | exact ih1 _ _ _ _ _ _ _ _ _
   | exact ih2 _ _ _ _ _ _ _ _
   | exact epactlaw02_awake.mono _
   | exact epactlaw02_made.mono _ _
   | exact spans_Has.mono _ _ _
   | exact spans_Make.mono _ _
   | exact spans_Right.mono _ _
   | exact spans_Same.mono _ _ _
   | exact LeO.none _
   | refine LeO.ite ?_ ?_
   | refine LeO.bind ?_ (fun _ => ?_)
set_option maxHeartbeats 8000000 in
set_option maxRecDepth 100000 in
theorem epactlaw02_SpansTicks.calls (k : Nat) (A0 : Option Addr) (c0 : Nat) (l0 : List (S23)) (A1 : Option Addr) (c1 : Nat) (l1 : List (S23)) (a2 : Int) (r : Bool) (w : World) (hr0 : Kd.C k23 w A0 l0.length l0) (hc0 : l0.length ≤ c0) (hr1 : Kd.C k23 w A1 l1.length l1) (hc1 : l1.length ≤ c1) (h : epactlaw02_SpansTicks.f k l0 l1 a2 = some r) :
  Calls Try.prog 12 #[.slice A0 l0.length c0, .slice A1 l1.length c1, .int .i64 a2] w fun e w' => e = .returned (.bool r) ∧ Below w.heap.size w w' := by
 have hu23 := Try.underlying23
 have HR0 := Aside0.mk hr0
 have HC0 := Aside0.mk hc0
 clear hr0 hc0
 have HR1 := Aside0.mk hr1
 have HC1 := Aside0.mk hc1
 clear hr1 hc1
 have HB := Aside0.mk (Below.refl w.heap.size w)
 have H : ((epactlaw02_made.f k l0).bind fun t1975 => ((epactlaw02_made.f k l1).bind fun t1978 => ((spans_Union.f t1975 t1978).bind fun t1981 => ((spans_Cut.f t1975 t1978).bind fun t1984 => ((spans_Less.f t1975 t1978).bind fun t1987 => ((some (([t1975, t1978, t1981, t1984, t1987] : List (List (S23))) : List (List (S23)))).bind fun y1990 => (epactlaw02_SpansTicks.l0 k a2 t1975 t1978 t1981 t1984 t1987 y1990 (y1990.length : Int) 0))))))) = some r := h
 clear h
 replace H := Option.bind_eq_some_iff.mp H
 obtain ⟨t1975, A40, H⟩ := H
 replace H : ((epactlaw02_made.f k l1).bind fun t1978 => ((spans_Union.f t1975 t1978).bind fun t1981 => ((spans_Cut.f t1975 t1978).bind fun t1984 => ((spans_Less.f t1975 t1978).bind fun t1987 => ((some (([t1975, t1978, t1981, t1984, t1987] : List (List (S23))) : List (List (S23)))).bind fun y1990 => (epactlaw02_SpansTicks.l0 k a2 t1975 t1978 t1981 t1984 t1987 y1990 (y1990.length : Int) 0)))))) = some r := H
 have A4 := Aside0.mk A40
 clear A40
 replace H := Option.bind_eq_some_iff.mp H
 obtain ⟨t1978, A50, H⟩ := H
 replace H : ((spans_Union.f t1975 t1978).bind fun t1981 => ((spans_Cut.f t1975 t1978).bind fun t1984 => ((spans_Less.f t1975 t1978).bind fun t1987 => ((some (([t1975, t1978, t1981, t1984, t1987] : List (List (S23))) : List (List (S23)))).bind fun y1990 => (epactlaw02_SpansTicks.l0 k a2 t1975 t1978 t1981 t1984 t1987 y1990 (y1990.length : Int) 0))))) = some r := H
 have A5 := Aside0.mk A50
 clear A50
 replace H := Option.bind_eq_some_iff.mp H
 obtain ⟨t1981, A60, H⟩ := H
 replace H : ((spans_Cut.f t1975 t1978).bind fun t1984 => ((spans_Less.f t1975 t1978).bind fun t1987 => ((some (([t1975, t1978, t1981, t1984, t1987] : List (List (S23))) : List (List (S23)))).bind fun y1990 => (epactlaw02_SpansTicks.l0 k a2 t1975 t1978 t1981 t1984 t1987 y1990 (y1990.length : Int) 0)))) = some r := H
 have A6 := Aside0.mk A60
 clear A60
 replace H := Option.bind_eq_some_iff.mp H
 obtain ⟨t1984, A70, H⟩ := H
 replace H : ((spans_Less.f t1975 t1978).bind fun t1987 => ((some (([t1975, t1978, t1981, t1984, t1987] : List (List (S23))) : List (List (S23)))).bind fun y1990 => (epactlaw02_SpansTicks.l0 k a2 t1975 t1978 t1981 t1984 t1987 y1990 (y1990.length : Int) 0))) = some r := H
 have A7 := Aside0.mk A70
 clear A70
 replace H := Option.bind_eq_some_iff.mp H
 obtain ⟨t1987, A80, H⟩ := H
 replace H : ((some (([t1975, t1978, t1981, t1984, t1987] : List (List (S23))) : List (List (S23)))).bind fun y1990 => (epactlaw02_SpansTicks.l0 k a2 t1975 t1978 t1981 t1984 t1987 y1990 (y1990.length : Int) 0)) = some r := H
 have A8 := Aside0.mk A80
 clear A80
 obtain ⟨y1990, hy1990⟩ : ∃ y_ : List (List (S23)), y_ = (([t1975, t1978, t1981, t1984, t1987] : List (List (S23)))) := ⟨_, rfl⟩
 replace H : (epactlaw02_SpansTicks.l0 k a2 t1975 t1978 t1981 t1984 t1987 y1990 (y1990.length : Int) 0) = some r := by first | (rw [hy1990]; with_reducible exact H) | (have H2_ := (Option.bind_some _ _).symm.trans H; rw [hy1990]; with_reducible exact H2_) | (have H2_ := (Option.bind_some _ _).symm.trans H; with_reducible exact H2_) | with_reducible exact H | (rw [hy1990]; exact H) | exact H
 have Ny1990 := Aside0.mk hy1990
 clear hy1990
 have H' := Aside0.mk H
 clear H
 go_enter Try.func12, Try.ntmps12
 go_wp2_with (first | ((with_reducible refine gate_callee (f := 33) rfl ?_); refine goesL_ (some 24) rfl rfl Try.func33 (by kernel_rfl) rfl #[.slice A0 l0.length c0] rfl (by (try simp only [List.map_toArray, List.map_cons, List.map_nil]); first | done | rfl | (simp only [List.length_drop, List.length_take]; rfl)) ?_; (with_reducible refine (epactlaw02_made.calls k _ _ l0 t1975 _ ?side1 ?side2 A4.out).mono ?_); (case side1 => repeat (first | exact HR0.out | (with_reducible refine Kd.C_alloc ?_ _) | (with_reducible refine Kd.C_drewN ?_ _) | (with_reducible refine Kd.C_drew ?_))); (case side2 => exact HC0.out); clear A4; rintro e w9 ⟨v1976, rfl, ho0, hb⟩; refine ⟨_, rfl, ?_⟩; have n0_ := Aside0.mk (Kd.R_lower ho0 (below_size (by repeat (first | (with_reducible first | exact HB.out | apply below_alloc | apply pw_below_drewN | apply below_drew1) | exact HB.out)))); have n1_ := Aside0.mk (below_step (by repeat (first | (with_reducible first | exact HB.out | apply below_alloc | apply pw_below_drewN | apply below_drew1) | exact HB.out)) hb); clear HB; have HO1977 := n0_; have HB := n1_; clear n0_ n1_; (try clear hb); (try clear hb2); (try clear hk); (try clear hi); (try clear ho0)) | ((with_reducible refine gate_callee (f := 33) rfl ?_); refine goesL_ (some 26) rfl rfl Try.func33 (by kernel_rfl) rfl #[.slice A1 l1.length c1] rfl (by (try simp only [List.map_toArray, List.map_cons, List.map_nil]); first | done | rfl | (simp only [List.length_drop, List.length_take]; rfl)) ?_; (with_reducible refine (epactlaw02_made.calls k _ _ l1 t1978 _ ?side1 ?side2 A5.out).mono ?_); (case side1 => repeat (first | exact (Kd.C_below HR1.out HB.out) | (with_reducible refine Kd.C_alloc ?_ _) | (with_reducible refine Kd.C_drewN ?_ _) | (with_reducible refine Kd.C_drew ?_))); (case side2 => exact HC1.out); clear A5; rintro e w10 ⟨v1979, rfl, ho0, hb⟩; refine ⟨_, rfl, ?_⟩; have n0_ := Aside0.mk (Kd.R_elder' (by (with_reducible repeat (first | apply Kd.R_alloc | apply Kd.R_drewN | apply Kd.R_drew)); exact HO1977.out) (Kd.R_base ho0) hb); have n1_ := Aside0.mk (Kd.R_lower (Kd.R_new' ho0 (Kd.R_lt (by (with_reducible repeat (first | apply Kd.R_alloc | apply Kd.R_drewN | apply Kd.R_drew)); exact HO1977.out))) (below_size (by repeat (first | (with_reducible first | exact HB.out | apply below_alloc | apply pw_below_drewN | apply below_drew1) | exact HB.out)))); have n2_ := Aside0.mk (below_step (by repeat (first | (with_reducible first | exact HB.out | apply below_alloc | apply pw_below_drewN | apply below_drew1) | exact HB.out)) hb); clear HO1977; clear HB; have HO1977 := n0_; have HO1980 := n1_; have HB := n2_; clear n0_ n1_ n2_; (try clear hb); (try clear hb2); (try clear hk); (try clear hi); (try clear ho0); obtain ⟨Ao11, co11, eo11⟩ := Kd.R_slice HO1977.out; subst eo11; obtain ⟨Ao12, co12, eo12⟩ := Kd.R_slice HO1980.out; subst eo12) | ((with_reducible refine gate_callee (f := 35) rfl ?_); refine goesL_ (some 29) rfl rfl Try.func35 (by kernel_rfl) rfl #[.slice Ao11 t1975.length co11, .slice Ao12 t1978.length co12] rfl (by (try simp only [List.map_toArray, List.map_cons, List.map_nil]); first | done | rfl | (simp only [List.length_drop, List.length_take]; rfl)) ?_; (with_reducible refine (spans_Union.calls _ _ t1975 _ _ t1978 t1981 _ ?side1 ?side2 ?side3 ?side4 A6.out).mono ?_); (case side1 => repeat (first | exact (Kd.R_reads' HO1977.out).2.2 | (with_reducible refine Kd.C_alloc ?_ _) | (with_reducible refine Kd.C_drewN ?_ _) | (with_reducible refine Kd.C_drew ?_))); (case side2 => exact (Kd.R_reads' HO1977.out).2.1); (case side3 => repeat (first | exact (Kd.R_reads' HO1980.out).2.2 | (with_reducible refine Kd.C_alloc ?_ _) | (with_reducible refine Kd.C_drewN ?_ _) | (with_reducible refine Kd.C_drew ?_))); (case side4 => exact (Kd.R_reads' HO1980.out).2.1); clear A6; rintro e w13 ⟨v1982, rfl, ho0, hb⟩; refine ⟨_, rfl, ?_⟩; have n0_ := Aside0.mk (Kd.R_elder' (by (with_reducible repeat (first | apply Kd.R_alloc | apply Kd.R_drewN | apply Kd.R_drew)); exact HO1977.out) (Kd.R_base ho0) hb); have n1_ := Aside0.mk (Kd.R_elder' (by (with_reducible repeat (first | apply Kd.R_alloc | apply Kd.R_drewN | apply Kd.R_drew)); exact HO1980.out) (Kd.R_base ho0) hb); have n2_ := Aside0.mk (Kd.R_lower (Kd.R_new' (Kd.R_new' ho0 (Kd.R_lt (by (with_reducible repeat (first | apply Kd.R_alloc | apply Kd.R_drewN | apply Kd.R_drew)); exact HO1977.out))) (Kd.R_lt (by (with_reducible repeat (first | apply Kd.R_alloc | apply Kd.R_drewN | apply Kd.R_drew)); exact HO1980.out))) (below_size (by repeat (first | (with_reducible first | exact HB.out | apply below_alloc | apply pw_below_drewN | apply below_drew1) | exact HB.out)))); have n3_ := Aside0.mk (below_step (by repeat (first | (with_reducible first | exact HB.out | apply below_alloc | apply pw_below_drewN | apply below_drew1) | exact HB.out)) hb); clear HO1977; clear HO1980; clear HB; have HO1977 := n0_; have HO1980 := n1_; have HO1983 := n2_; have HB := n3_; clear n0_ n1_ n2_ n3_; (try clear hb); (try clear hb2); (try clear hk); (try clear hi); (try clear ho0)) | ((with_reducible refine gate_callee (f := 36) rfl ?_); refine goesL_ (some 32) rfl rfl Try.func36 (by kernel_rfl) rfl #[.slice Ao11 t1975.length co11, .slice Ao12 t1978.length co12] rfl (by (try simp only [List.map_toArray, List.map_cons, List.map_nil]); first | done | rfl | (simp only [List.length_drop, List.length_take]; rfl)) ?_; (with_reducible refine (spans_Cut.calls _ _ t1975 _ _ t1978 t1984 _ ?side1 ?side2 ?side3 ?side4 A7.out).mono ?_); (case side1 => repeat (first | exact (Kd.R_reads' HO1977.out).2.2 | (with_reducible refine Kd.C_alloc ?_ _) | (with_reducible refine Kd.C_drewN ?_ _) | (with_reducible refine Kd.C_drew ?_))); (case side2 => exact (Kd.R_reads' HO1977.out).2.1); (case side3 => repeat (first | exact (Kd.R_reads' HO1980.out).2.2 | (with_reducible refine Kd.C_alloc ?_ _) | (with_reducible refine Kd.C_drewN ?_ _) | (with_reducible refine Kd.C_drew ?_))); (case side4 => exact (Kd.R_reads' HO1980.out).2.1); clear A7; rintro e w14 ⟨v1985, rfl, ho0, hb⟩; refine ⟨_, rfl, ?_⟩; have n0_ := Aside0.mk (Kd.R_elder' (by (with_reducible repeat (first | apply Kd.R_alloc | apply Kd.R_drewN | apply Kd.R_drew)); exact HO1977.out) (Kd.R_base ho0) hb); have n1_ := Aside0.mk (Kd.R_elder' (by (with_reducible repeat (first | apply Kd.R_alloc | apply Kd.R_drewN | apply Kd.R_drew)); exact HO1980.out) (Kd.R_base ho0) hb); have n2_ := Aside0.mk (Kd.R_elder' (by (with_reducible repeat (first | apply Kd.R_alloc | apply Kd.R_drewN | apply Kd.R_drew)); exact HO1983.out) (Kd.R_base ho0) hb); have n3_ := Aside0.mk (Kd.R_lower (Kd.R_new' (Kd.R_new' (Kd.R_new' ho0 (Kd.R_lt (by (with_reducible repeat (first | apply Kd.R_alloc | apply Kd.R_drewN | apply Kd.R_drew)); exact HO1977.out))) (Kd.R_lt (by (with_reducible repeat (first | apply Kd.R_alloc | apply Kd.R_drewN | apply Kd.R_drew)); exact HO1980.out))) (Kd.R_lt (by (with_reducible repeat (first | apply Kd.R_alloc | apply Kd.R_drewN | apply Kd.R_drew)); exact HO1983.out))) (below_size (by repeat (first | (with_reducible first | exact HB.out | apply below_alloc | apply pw_below_drewN | apply below_drew1) | exact HB.out)))); have n4_ := Aside0.mk (below_step (by repeat (first | (with_reducible first | exact HB.out | apply below_alloc | apply pw_below_drewN | apply below_drew1) | exact HB.out)) hb); clear HO1977; clear HO1980; clear HO1983; clear HB; have HO1977 := n0_; have HO1980 := n1_; have HO1983 := n2_; have HO1986 := n3_; have HB := n4_; clear n0_ n1_ n2_ n3_ n4_; (try clear hb); (try clear hb2); (try clear hk); (try clear hi); (try clear ho0)) | ((with_reducible refine gate_callee (f := 37) rfl ?_); refine goesL_ (some 35) rfl rfl Try.func37 (by kernel_rfl) rfl #[.slice Ao11 t1975.length co11, .slice Ao12 t1978.length co12] rfl (by (try simp only [List.map_toArray, List.map_cons, List.map_nil]); first | done | rfl | (simp only [List.length_drop, List.length_take]; rfl)) ?_; (with_reducible refine (spans_Less.calls _ _ t1975 _ _ t1978 t1987 _ ?side1 ?side2 ?side3 ?side4 A8.out).mono ?_); (case side1 => repeat (first | exact (Kd.R_reads' HO1977.out).2.2 | (with_reducible refine Kd.C_alloc ?_ _) | (with_reducible refine Kd.C_drewN ?_ _) | (with_reducible refine Kd.C_drew ?_))); (case side2 => exact (Kd.R_reads' HO1977.out).2.1); (case side3 => repeat (first | exact (Kd.R_reads' HO1980.out).2.2 | (with_reducible refine Kd.C_alloc ?_ _) | (with_reducible refine Kd.C_drewN ?_ _) | (with_reducible refine Kd.C_drew ?_))); (case side4 => exact (Kd.R_reads' HO1980.out).2.1); clear A8; rintro e w15 ⟨v1988, rfl, ho0, hb⟩; refine ⟨_, rfl, ?_⟩; have n0_ := Aside0.mk (Kd.R_elder' (by (with_reducible repeat (first | apply Kd.R_alloc | apply Kd.R_drewN | apply Kd.R_drew)); exact HO1977.out) (Kd.R_base ho0) hb); have n1_ := Aside0.mk (Kd.R_elder' (by (with_reducible repeat (first | apply Kd.R_alloc | apply Kd.R_drewN | apply Kd.R_drew)); exact HO1980.out) (Kd.R_base ho0) hb); have n2_ := Aside0.mk (Kd.R_elder' (by (with_reducible repeat (first | apply Kd.R_alloc | apply Kd.R_drewN | apply Kd.R_drew)); exact HO1983.out) (Kd.R_base ho0) hb); have n3_ := Aside0.mk (Kd.R_elder' (by (with_reducible repeat (first | apply Kd.R_alloc | apply Kd.R_drewN | apply Kd.R_drew)); exact HO1986.out) (Kd.R_base ho0) hb); have n4_ := Aside0.mk (Kd.R_lower (Kd.R_new' (Kd.R_new' (Kd.R_new' (Kd.R_new' ho0 (Kd.R_lt (by (with_reducible repeat (first | apply Kd.R_alloc | apply Kd.R_drewN | apply Kd.R_drew)); exact HO1977.out))) (Kd.R_lt (by (with_reducible repeat (first | apply Kd.R_alloc | apply Kd.R_drewN | apply Kd.R_drew)); exact HO1980.out))) (Kd.R_lt (by (with_reducible repeat (first | apply Kd.R_alloc | apply Kd.R_drewN | apply Kd.R_drew)); exact HO1983.out))) (Kd.R_lt (by (with_reducible repeat (first | apply Kd.R_alloc | apply Kd.R_drewN | apply Kd.R_drew)); exact HO1986.out))) (below_size (by repeat (first | (with_reducible first | exact HB.out | apply below_alloc | apply pw_below_drewN | apply below_drew1) | exact HB.out)))); have n5_ := Aside0.mk (below_step (by repeat (first | (with_reducible first | exact HB.out | apply below_alloc | apply pw_below_drewN | apply below_drew1) | exact HB.out)) hb); clear HO1977; clear HO1980; clear HO1983; clear HO1986; clear HB; have HO1977 := n0_; have HO1980 := n1_; have HO1983 := n2_; have HO1986 := n3_; have HO1989 := n4_; have HB := n5_; clear n0_ n1_ n2_ n3_ n4_ n5_; (try clear hb); (try clear hb2); (try clear hk); (try clear hi); (try clear ho0); obtain ⟨Ao16, co16, eo16⟩ := Kd.R_slice HO1983.out; subst eo16; obtain ⟨Ao17, co17, eo17⟩ := Kd.R_slice HO1986.out; subst eo17; obtain ⟨Ao18, co18, eo18⟩ := Kd.R_slice HO1989.out; subst eo18) | ((with_reducible refine gate_dst (N := 41) rfl ?_); refine Kd.N_lit (Kd.slice 23 k23) _ 24 ?hg (N' := 41) ?hd (xs := ([t1975, t1978, t1981, t1984, t1987] : List (List (S23)))) (inner := [.slice Ao11 t1975.length co11, .slice Ao12 t1978.length co12, .slice Ao16 t1981.length co16, .slice Ao17 t1984.length co17, .slice Ao18 t1987.length co18]) (ok := (fun _ => True)) (okp := (fun _ => True)) ?hr ?hp (fun _ hk => hk) ((show ∀ k_, w15.heap.size ≤ k_ → (fun _ => True) k_ from fun k_ hk => trivial) _ (Nat.le_refl _)) (Below.refl _ _) (Nat.le_refl _) (by simp) ?_; (case hd => rfl); (case hg => rfl); (case hr => first | (go_simp; done) | (go_simp; rfl)); (case hp => exact (Reps.one (show Kd.FK (Kd.slice 23 k23) _ _ t1975 [.slice Ao11 t1975.length co11] from (Kd.FK_slice_mk (Kd.R_reads' (Kd.R_mono (ok' := (fun _ => True)) (HO1977.out) (fun k_ hk => trivial))).2.1 (Kd.R_F (Kd.R_mono (ok' := (fun _ => True)) (HO1977.out) (fun k_ hk => trivial))))) (Reps.one (show Kd.FK (Kd.slice 23 k23) _ _ t1978 [.slice Ao12 t1978.length co12] from (Kd.FK_slice_mk (Kd.R_reads' (Kd.R_mono (ok' := (fun _ => True)) (HO1980.out) (fun k_ hk => trivial))).2.1 (Kd.R_F (Kd.R_mono (ok' := (fun _ => True)) (HO1980.out) (fun k_ hk => trivial))))) (Reps.one (show Kd.FK (Kd.slice 23 k23) _ _ t1981 [.slice Ao16 t1981.length co16] from (Kd.FK_slice_mk (Kd.R_reads' (Kd.R_mono (ok' := (fun _ => True)) (HO1983.out) (fun k_ hk => trivial))).2.1 (Kd.R_F (Kd.R_mono (ok' := (fun _ => True)) (HO1983.out) (fun k_ hk => trivial))))) (Reps.one (show Kd.FK (Kd.slice 23 k23) _ _ t1984 [.slice Ao17 t1984.length co17] from (Kd.FK_slice_mk (Kd.R_reads' (Kd.R_mono (ok' := (fun _ => True)) (HO1986.out) (fun k_ hk => trivial))).2.1 (Kd.R_F (Kd.R_mono (ok' := (fun _ => True)) (HO1986.out) (fun k_ hk => trivial))))) (Reps.one (show Kd.FK (Kd.slice 23 k23) _ _ t1987 [.slice Ao18 t1987.length co18] from (Kd.FK_slice_mk (Kd.R_reads' (Kd.R_mono (ok' := (fun _ => True)) (HO1989.out) (fun k_ hk => trivial))).2.1 (Kd.R_F (Kd.R_mono (ok' := (fun _ => True)) (HO1989.out) (fun k_ hk => trivial))))) (Reps.none _ _))))))); intro v1991 w19 ho20 hb hg_ hnew_; have kHO1977_ := Aside0.mk (Kd.R_mono (ok' := fun _ => True) (Kd.R_below (by (with_reducible repeat (first | apply Kd.R_alloc | apply Kd.R_drewN | apply Kd.R_drew)); exact HO1977.out) hb) (fun _ _ => trivial)); have kHO1980_ := Aside0.mk (Kd.R_mono (ok' := fun _ => True) (Kd.R_below (by (with_reducible repeat (first | apply Kd.R_alloc | apply Kd.R_drewN | apply Kd.R_drew)); exact HO1980.out) hb) (fun _ _ => trivial)); have kHO1983_ := Aside0.mk (Kd.R_mono (ok' := fun _ => True) (Kd.R_below (by (with_reducible repeat (first | apply Kd.R_alloc | apply Kd.R_drewN | apply Kd.R_drew)); exact HO1983.out) hb) (fun _ _ => trivial)); have kHO1986_ := Aside0.mk (Kd.R_mono (ok' := fun _ => True) (Kd.R_below (by (with_reducible repeat (first | apply Kd.R_alloc | apply Kd.R_drewN | apply Kd.R_drew)); exact HO1986.out) hb) (fun _ _ => trivial)); have kHO1989_ := Aside0.mk (Kd.R_mono (ok' := fun _ => True) (Kd.R_below (by (with_reducible repeat (first | apply Kd.R_alloc | apply Kd.R_drewN | apply Kd.R_drew)); exact HO1989.out) hb) (fun _ _ => trivial)); clear hg_ hnew_; (first | rw [← Ny1990.out] at ho20 | (simp only [Int.reduceToNat] at ho20; rw [← Ny1990.out] at ho20)); have n0_ := Aside0.mk (Kd.N_lower ho20 (below_size (by repeat (first | (with_reducible first | exact HB.out | apply below_alloc | apply pw_below_drewN | apply below_drew1) | exact HB.out)))); have n1_ := Aside0.mk (below_step (by repeat (first | (with_reducible first | exact HB.out | apply below_alloc | apply pw_below_drewN | apply below_drew1) | exact HB.out)) hb); clear HB; clear HO1977; have HO1977 := kHO1977_; clear kHO1977_; clear HO1980; have HO1980 := kHO1980_; clear kHO1980_; clear HO1983; have HO1983 := kHO1983_; clear kHO1983_; clear HO1986; have HO1986 := kHO1986_; clear kHO1986_; clear HO1989; have HO1989 := kHO1989_; clear kHO1989_; have HO1992 := n0_; have HB := n1_; clear n0_ n1_; clear hb ho20; obtain ⟨Ao21, co21, eo21⟩ := Kd.N_slice HO1992.out; subst eo21))
 go_loopg [43] k (fun kq v43 w' => ∃ (x43_1 : Int), v43 = .int .i64 x43_1 ∧ Aside0 (epactlaw02_SpansTicks.l0 kq a2 t1975 t1978 t1981 t1984 t1987 y1990 (y1990.length : Int) x43_1 = some r) ∧ Aside0 (kq ≤ k) ∧ Aside0 (Kd.R k23 23 w' w.heap.size (fun _ => True) (.slice Ao11 t1975.length co11) t1975) ∧ Aside0 (Kd.R k23 23 w' w.heap.size (fun _ => True) (.slice Ao12 t1978.length co12) t1978) ∧ Aside0 (Kd.R k23 23 w' w.heap.size (fun _ => True) (.slice Ao16 t1981.length co16) t1981) ∧ Aside0 (Kd.R k23 23 w' w.heap.size (fun _ => True) (.slice Ao17 t1984.length co17) t1984) ∧ Aside0 (Kd.R k23 23 w' w.heap.size (fun _ => True) (.slice Ao18 t1987.length co18) t1987) ∧ Aside0 (Kd.N (Kd.slice 23 k23) 24 w' w.heap.size (fun _ => True) (.slice Ao21 y1990.length co21) y1990) ∧ Aside0 (Below w.heap.size w w'))
 case atStart => exact ⟨(0), (by first | rfl | (simp; done) | (simp [*]; done)), H', ⟨Nat.le_refl _⟩, ⟨by (with_reducible repeat (first | apply Kd.R_alloc | apply Kd.R_drewN | apply Kd.R_drew)); exact HO1977.out⟩, ⟨by (with_reducible repeat (first | apply Kd.R_alloc | apply Kd.R_drewN | apply Kd.R_drew)); exact HO1980.out⟩, ⟨by (with_reducible repeat (first | apply Kd.R_alloc | apply Kd.R_drewN | apply Kd.R_drew)); exact HO1983.out⟩, ⟨by (with_reducible repeat (first | apply Kd.R_alloc | apply Kd.R_drewN | apply Kd.R_drew)); exact HO1986.out⟩, ⟨by (with_reducible repeat (first | apply Kd.R_alloc | apply Kd.R_drewN | apply Kd.R_drew)); exact HO1989.out⟩, ⟨by (with_reducible repeat (first | apply Kd.N_alloc | apply Kd.N_drewN | apply Kd.N_drew)); exact HO1992.out⟩, ⟨by repeat (first | (with_reducible first | exact HB.out | apply below_alloc | apply pw_below_drewN | apply below_drew1) | exact HB.out)⟩⟩
 case round =>
  clear H'
  try clear c1
  try clear p2
  try clear c3
  try clear c12
  obtain ⟨x43_1, rfl, HA, HK1, HO_7, HO_8, HO_9, HO_10, HO_11, HO_41, HB⟩ := hrel
  cases gk with
  | zero => exact absurd HA.out (by simp [epactlaw02_SpansTicks.l0])
  | succ k1 =>
   have H := HA.out
   clear HA
   simp only [epactlaw02_SpansTicks.l0] at H
   by_cases c22 : x43_1 < (y1990.length : Int)
   ·
    rw [if_pos c22] at H
    have c22b0 : decide (x43_1 < (y1990.length : Int)) = true := decide_eq_true c22
    clear c22
    by_cases c23 : 0 ≤ x43_1
    ·
     rw [if_pos c23] at H
     have c23b0 : decide (0 ≤ x43_1) = true := decide_eq_true c23
     clear c23
     by_cases c24 : x43_1 < (y1990.length : Int)
     ·
      rw [if_pos c24] at H
      have c24b0 : decide (x43_1 < (y1990.length : Int)) = true := decide_eq_true c24
      clear c24
      replace H := Option.bind_eq_some_iff.mp H
      obtain ⟨t1994, A250, H⟩ := H
      replace H : (if t1994 = true then (epactlaw02_SpansTicks.l0 k1 a2 t1975 t1978 t1981 t1984 t1987 y1990 (y1990.length : Int) (wrap64 (x43_1 + 1))) else (none)) = some r := H
      have A25 := Aside0.mk A250
      clear A250
      by_cases c26 : t1994 = true
      ·
       subst c26
       have H1 : (epactlaw02_SpansTicks.l0 k1 a2 t1975 t1978 t1981 t1984 t1987 y1990 (y1990.length : Int) (wrap64 (x43_1 + 1))) = some r := by rw [if_pos rfl] at H; exact H
       clear H
       have H := H1
       clear H1
       have H' := Aside0.mk H
       clear H
       have p1993 : 0 ≤ (x43_1 : Int) := of_decide_eq_true (by first | (with_reducible assumption) | assumption)
       have q1993 : x43_1 < (y1990.length : Int) := of_decide_eq_true (by first | (with_reducible assumption) | assumption)
       obtain ⟨ad1993, A1993_0, c1993_0, e1993, hx1993_0, hl1993_0, hi1993_0⟩ := at_L2 (Kd.N_reads' HO_41.out).2.2 x43_1 p1993 q1993
       cases e1993
       obtain ⟨ce1993, hce1993, hMe1993, hcc1993⟩ := Kd.N_get HO_41.out [] x43_1 p1993 (by first | exact q1993 | exact of_decide_eq_true (by first | (with_reducible assumption) | assumption) | (have e_ := (Kd.N_reads' HO_41.out).1; omega))
       obtain ⟨ua1993_0, uc1993_0, rfl, ul1993_0, ge1993_0⟩ := Kd.FK_slice_open hMe1993
       have hv1993_0 := hcc1993 0 _ rfl
       rw [Nat.add_zero, show ((Kd.slice 23 k23)).sz = 1 from rfl, Nat.mul_one] at hv1993_0
       replace hv1993_0 := Option.some.inj (hv1993_0.symm.trans hx1993_0)
       injection hv1993_0 with hva_ hvn_ hvc_
       rw [hva_] at ge1993_0
       rw [hvc_] at ul1993_0
       have HL1993_0 := Aside0.mk (show Kd.V k23 23 _ w.heap.size _ _ (rd_L2 y1990 x43_1) from Kd.V_mk ul1993_0 ge1993_0)
       clear hva_ hvn_ hvc_ ge1993_0 ul1993_0
       clear hcc1993 hce1993
       have HR1993_0 := Aside0.mk hi1993_0
       have HC1993_0 := Aside0.mk hl1993_0
       clear hi1993_0 hl1993_0
       replace p1993 := eq_true p1993
       replace q1993 := eq_true q1993
       go_wp2_with (first | ((with_reducible refine gate_callee (f := 31) rfl ?_); refine goesL_ (some 48) rfl rfl Try.func31 (by kernel_rfl) rfl #[.slice A1993_0 (rd_L2 y1990 x43_1).length c1993_0] rfl (by (try simp only [List.map_toArray, List.map_cons, List.map_nil]); first | done | rfl | (simp only [List.length_drop, List.length_take]; rfl)) ?_; (with_reducible refine (spans_Right.calls k1 _ _ (rd_L2 y1990 x43_1) true _ ?side1 ?side2 A25.out).mono ?_); (case side1 => repeat (first | exact (by repeat (first | (with_reducible exact HR1993_0.out) | (with_reducible refine Kd.C_alloc ?_ _) | (with_reducible refine Kd.C_drewN ?_ _) | (with_reducible refine Kd.C_drew ?_) | exact HR1993_0.out)) | (with_reducible refine Kd.C_alloc ?_ _) | (with_reducible refine Kd.C_drewN ?_ _) | (with_reducible refine Kd.C_drew ?_))); (case side2 => exact HC1993_0.out); clear A25; rintro e w27 ⟨rfl, hb⟩; refine ⟨_, rfl, ?_⟩; have n0_ := Aside0.mk (Kd.R_below (by (with_reducible repeat (first | apply Kd.R_alloc | apply Kd.R_drewN | apply Kd.R_drew)); exact HO_7.out) hb); have n1_ := Aside0.mk (Kd.R_below (by (with_reducible repeat (first | apply Kd.R_alloc | apply Kd.R_drewN | apply Kd.R_drew)); exact HO_8.out) hb); have n2_ := Aside0.mk (Kd.R_below (by (with_reducible repeat (first | apply Kd.R_alloc | apply Kd.R_drewN | apply Kd.R_drew)); exact HO_9.out) hb); have n3_ := Aside0.mk (Kd.R_below (by (with_reducible repeat (first | apply Kd.R_alloc | apply Kd.R_drewN | apply Kd.R_drew)); exact HO_10.out) hb); have n4_ := Aside0.mk (Kd.R_below (by (with_reducible repeat (first | apply Kd.R_alloc | apply Kd.R_drewN | apply Kd.R_drew)); exact HO_11.out) hb); have n5_ := Aside0.mk (Kd.N_below (by (with_reducible repeat (first | apply Kd.N_alloc | apply Kd.N_drewN | apply Kd.N_drew)); exact HO_41.out) hb); have n6_ := Aside0.mk (Kd.V_below (by (with_reducible repeat (first | apply Kd.V_alloc | apply Kd.V_drewN | apply Kd.V_drew)); exact HL1993_0.out) hb); have n7_ := Aside0.mk (Kd.C_below (by repeat (first | (with_reducible exact HR1993_0.out) | (with_reducible refine Kd.C_alloc ?_ _) | (with_reducible refine Kd.C_drewN ?_ _) | (with_reducible refine Kd.C_drew ?_) | exact HR1993_0.out)) hb); have n8_ := Aside0.mk (below_step (by repeat (first | (with_reducible first | exact HB.out | apply below_alloc | apply pw_below_drewN | apply below_drew1) | exact HB.out)) hb); clear HO_7; clear HO_8; clear HO_9; clear HO_10; clear HO_11; clear HO_41; clear HL1993_0; clear HR1993_0; clear HB; have HO_7 := n0_; have HO_8 := n1_; have HO_9 := n2_; have HO_10 := n3_; have HO_11 := n4_; have HO_41 := n5_; have HL1993_0 := n6_; have HR1993_0 := n7_; have HB := n8_; clear n0_ n1_ n2_ n3_ n4_ n5_ n6_ n7_ n8_; (try clear hb); (try clear hb2); (try clear hk); (try clear hi)))
       go_roundg k1
       case measure => have := HK1.out; omega
       case rel => exact ⟨(wrap64 (x43_1 + 1)), (by first | rfl | (simp; done) | (simp [*]; done)), H', ⟨by have := HK1.out; omega⟩, ⟨by (with_reducible repeat (first | apply Kd.R_alloc | apply Kd.R_drewN | apply Kd.R_drew)); exact HO_7.out⟩, ⟨by (with_reducible repeat (first | apply Kd.R_alloc | apply Kd.R_drewN | apply Kd.R_drew)); exact HO_8.out⟩, ⟨by (with_reducible repeat (first | apply Kd.R_alloc | apply Kd.R_drewN | apply Kd.R_drew)); exact HO_9.out⟩, ⟨by (with_reducible repeat (first | apply Kd.R_alloc | apply Kd.R_drewN | apply Kd.R_drew)); exact HO_10.out⟩, ⟨by (with_reducible repeat (first | apply Kd.R_alloc | apply Kd.R_drewN | apply Kd.R_drew)); exact HO_11.out⟩, ⟨by (with_reducible repeat (first | apply Kd.N_alloc | apply Kd.N_drewN | apply Kd.N_drew)); exact HO_41.out⟩, ⟨by repeat (first | (with_reducible first | exact HB.out | apply below_alloc | apply pw_below_drewN | apply below_drew1) | exact HB.out)⟩⟩
      ·
       replace c26 := Bool.eq_false_iff.mpr c26
       subst c26
       have H1 : (none) = some r := by rw [if_neg (show ¬ (false = true) by decide)] at H; exact H
       clear H
       have H := H1
       clear H1
       exact absurd H (by simp)
     ·
      rw [if_neg c24] at H
      exact absurd H (by simp)
    ·
     rw [if_neg c23] at H
     exact absurd H (by simp)
   ·
    rw [if_neg c22] at H
    have c22b0 : decide (x43_1 < (y1990.length : Int)) = false := decide_eq_false c22
    clear c22
    obtain ⟨y1995, hy1995⟩ : ∃ y_ : List Int, y_ = (([a2] : List Int)) := ⟨_, rfl⟩
    replace H : ((epactlow_Anew.f t1975).bind fun t1998 => (if t1998.length + t1978.length < 8796093022208 then ((some (t1998 ++ t1978 : List (S23))).bind fun y2001 => (epactlaw02_SpansTicks.l1 k1 t1975 t1978 t1981 t1984 t1987 y1995 y2001 (y2001.length : Int) 0)) else (none))) = some r := by first | (rw [hy1995]; with_reducible exact H) | (have H2_ := (Option.bind_some _ _).symm.trans H; rw [hy1995]; with_reducible exact H2_) | (have H2_ := (Option.bind_some _ _).symm.trans H; with_reducible exact H2_) | with_reducible exact H | (rw [hy1995]; exact H) | exact H
    have Ny1995 := Aside0.mk hy1995
    clear hy1995
    replace H := Option.bind_eq_some_iff.mp H
    obtain ⟨t1998, A280, H⟩ := H
    replace H : (if t1998.length + t1978.length < 8796093022208 then ((some (t1998 ++ t1978 : List (S23))).bind fun y2001 => (epactlaw02_SpansTicks.l1 k1 t1975 t1978 t1981 t1984 t1987 y1995 y2001 (y2001.length : Int) 0)) else (none)) = some r := H
    have A28 := Aside0.mk A280
    clear A280
    by_cases c29 : t1998.length + t1978.length < 8796093022208
    ·
     rw [if_pos c29] at H
     have LMc29 := Aside0.mk c29
     clear c29
     obtain ⟨y2001, hy2001⟩ : ∃ y_ : List (S23), y_ = (t1998 ++ t1978) := ⟨_, rfl⟩
     replace H : (epactlaw02_SpansTicks.l1 k1 t1975 t1978 t1981 t1984 t1987 y1995 y2001 (y2001.length : Int) 0) = some r := by first | (rw [hy2001]; with_reducible exact H) | (have H2_ := (Option.bind_some _ _).symm.trans H; rw [hy2001]; with_reducible exact H2_) | (have H2_ := (Option.bind_some _ _).symm.trans H; with_reducible exact H2_) | with_reducible exact H | (rw [hy2001]; exact H) | exact H
     have Ny2001 := Aside0.mk hy2001
     clear hy2001
     have H' := Aside0.mk H
     clear H
     go_wp2_with (first | ((with_reducible refine gate_dst (N := 52) rfl ?_); refine Kd.R_lit (Kd.int .i64) _ 3 ?hg (N := 52) ?hd (xs := ([a2] : List Int)) (inner := [.int .i64 a2]) (ok := fun _ => True) (okp := fun _ => True) ?hr ?hp (fun _ hk => hk) trivial (Below.refl _ _) (Nat.le_refl _) (by simp) ?_; (case hd => rfl); (case hg => rfl); (case hr => first | (go_simp; done) | (go_simp; rfl)); (case hp => exact (Reps.one (show Kd.M (Kd.int .i64) _ _ _ a2 [.int .i64 a2] from rfl) (Reps.none _ _))); intro v1996 w30 ho31 hb hg_ hnew_; clear hg_ hnew_; (first | rw [← Ny1995.out] at ho31 | (simp only [Int.reduceToNat] at ho31; rw [← Ny1995.out] at ho31)); have n0_ := Aside0.mk (Kd.R_below (by (with_reducible repeat (first | apply Kd.R_alloc | apply Kd.R_drewN | apply Kd.R_drew)); exact HO_7.out) hb); have n1_ := Aside0.mk (Kd.R_below (by (with_reducible repeat (first | apply Kd.R_alloc | apply Kd.R_drewN | apply Kd.R_drew)); exact HO_8.out) hb); have n2_ := Aside0.mk (Kd.R_below (by (with_reducible repeat (first | apply Kd.R_alloc | apply Kd.R_drewN | apply Kd.R_drew)); exact HO_9.out) hb); have n3_ := Aside0.mk (Kd.R_below (by (with_reducible repeat (first | apply Kd.R_alloc | apply Kd.R_drewN | apply Kd.R_drew)); exact HO_10.out) hb); have n4_ := Aside0.mk (Kd.R_below (by (with_reducible repeat (first | apply Kd.R_alloc | apply Kd.R_drewN | apply Kd.R_drew)); exact HO_11.out) hb); have n5_ := Aside0.mk (Kd.N_elder' (by (with_reducible repeat (first | apply Kd.N_alloc | apply Kd.N_drewN | apply Kd.N_drew)); exact HO_41.out) (Kd.R_base ho31) hb); have n6_ := Aside0.mk (Kd.R_lower ho31 (below_size (by repeat (first | (with_reducible first | exact HB.out | apply below_alloc | apply pw_below_drewN | apply below_drew1) | exact HB.out)))); have n7_ := Aside0.mk (below_step (by repeat (first | (with_reducible first | exact HB.out | apply below_alloc | apply pw_below_drewN | apply below_drew1) | exact HB.out)) hb); clear HO_7; clear HO_8; clear HO_9; clear HO_10; clear HO_11; clear HO_41; clear HB; have HO_7 := n0_; have HO_8 := n1_; have HO_9 := n2_; have HO_10 := n3_; have HO_11 := n4_; have HO_41 := n5_; have HO1997 := n6_; have HB := n7_; clear n0_ n1_ n2_ n3_ n4_ n5_ n6_ n7_; clear hb ho31) | ((with_reducible refine gate_callee (f := 27) rfl ?_); refine goesL_ (some 54) rfl rfl Try.func27 (by kernel_rfl) rfl #[.slice Ao11 t1975.length co11] rfl (by (try simp only [List.map_toArray, List.map_cons, List.map_nil]); first | done | rfl | (simp only [List.length_drop, List.length_take]; rfl)) ?_; (with_reducible refine (epactlow_Anew.calls _ _ t1975 t1998 _ ?side1 ?side2 A28.out).mono ?_); (case side1 => repeat (first | exact (Kd.R_reads' HO_7.out).2.2 | (with_reducible refine Kd.C_alloc ?_ _) | (with_reducible refine Kd.C_drewN ?_ _) | (with_reducible refine Kd.C_drew ?_))); (case side2 => exact (Kd.R_reads' HO_7.out).2.1); clear A28; rintro e w32 ⟨v1999, rfl, ho0, hb⟩; refine ⟨_, rfl, ?_⟩; have n0_ := Aside0.mk (Kd.R_elder' (by (with_reducible repeat (first | apply Kd.R_alloc | apply Kd.R_drewN | apply Kd.R_drew)); exact HO_7.out) (Kd.R_base ho0) hb); have n1_ := Aside0.mk (Kd.R_elder' (by (with_reducible repeat (first | apply Kd.R_alloc | apply Kd.R_drewN | apply Kd.R_drew)); exact HO_8.out) (Kd.R_base ho0) hb); have n2_ := Aside0.mk (Kd.R_elder' (by (with_reducible repeat (first | apply Kd.R_alloc | apply Kd.R_drewN | apply Kd.R_drew)); exact HO_9.out) (Kd.R_base ho0) hb); have n3_ := Aside0.mk (Kd.R_elder' (by (with_reducible repeat (first | apply Kd.R_alloc | apply Kd.R_drewN | apply Kd.R_drew)); exact HO_10.out) (Kd.R_base ho0) hb); have n4_ := Aside0.mk (Kd.R_elder' (by (with_reducible repeat (first | apply Kd.R_alloc | apply Kd.R_drewN | apply Kd.R_drew)); exact HO_11.out) (Kd.R_base ho0) hb); have n5_ := Aside0.mk (Kd.N_elder' (by (with_reducible repeat (first | apply Kd.N_alloc | apply Kd.N_drewN | apply Kd.N_drew)); exact HO_41.out) (Kd.R_base ho0) hb); have n6_ := Aside0.mk (Kd.R_below (by (with_reducible repeat (first | apply Kd.R_alloc | apply Kd.R_drewN | apply Kd.R_drew)); exact HO1997.out) hb); have n7_ := Aside0.mk (Kd.R_lower (Kd.R_new' (Kd.R_new' (Kd.R_new' (Kd.R_new' (Kd.R_new' ho0 (Kd.R_lt (by (with_reducible repeat (first | apply Kd.R_alloc | apply Kd.R_drewN | apply Kd.R_drew)); exact HO_7.out))) (Kd.R_lt (by (with_reducible repeat (first | apply Kd.R_alloc | apply Kd.R_drewN | apply Kd.R_drew)); exact HO_8.out))) (Kd.R_lt (by (with_reducible repeat (first | apply Kd.R_alloc | apply Kd.R_drewN | apply Kd.R_drew)); exact HO_9.out))) (Kd.R_lt (by (with_reducible repeat (first | apply Kd.R_alloc | apply Kd.R_drewN | apply Kd.R_drew)); exact HO_10.out))) (Kd.R_lt (by (with_reducible repeat (first | apply Kd.R_alloc | apply Kd.R_drewN | apply Kd.R_drew)); exact HO_11.out))) (below_size (by repeat (first | (with_reducible first | exact HB.out | apply below_alloc | apply pw_below_drewN | apply below_drew1) | exact HB.out)))); have n8_ := Aside0.mk (below_step (by repeat (first | (with_reducible first | exact HB.out | apply below_alloc | apply pw_below_drewN | apply below_drew1) | exact HB.out)) hb); clear HO_7; clear HO_8; clear HO_9; clear HO_10; clear HO_11; clear HO_41; clear HO1997; clear HB; have HO_7 := n0_; have HO_8 := n1_; have HO_9 := n2_; have HO_10 := n3_; have HO_11 := n4_; have HO_41 := n5_; have HO1997 := n6_; have HO2000 := n7_; have HB := n8_; clear n0_ n1_ n2_ n3_ n4_ n5_ n6_ n7_ n8_; (try clear hb); (try clear hb2); (try clear hk); (try clear hi); (try clear ho0)) | ((with_reducible refine gate_builtin (b := .append) (xs := #[.tmp 54, .tmp 55]) rfl ?_); at_builtin; refine Kd.R_append_rows k23 (w0 := w) w.heap.size rfl (.tmp 54) (.tmp 55) 24 23 (.agg #[(.int .i64 0), (.int .i64 0)]) 16 rfl Try.underlying24 info23 rfl (by decide) (by omega) v1999 t1998 t1978 _ _ _ (fun k_ => some k_ ≠ (.slice Ao11 t1975.length co11 : Value).ownBlock ∧ some k_ ≠ (.slice Ao12 t1978.length co12 : Value).ownBlock ∧ some k_ ≠ (.slice Ao16 t1981.length co16 : Value).ownBlock ∧ some k_ ≠ (.slice Ao17 t1984.length co17 : Value).ownBlock ∧ some k_ ≠ (.slice Ao18 t1987.length co18 : Value).ownBlock) (fun _ => False) rfl rfl ?aO ?aR (fun _ _ h => h) (fun _ h => h.elim) ?aF ?aB ?aS ?aL ?_; (case aR => repeat (first | exact (Kd.R_reads' HO_8.out).2.2 | (with_reducible refine Kd.C_alloc ?_ _) | (with_reducible refine Kd.C_drewN ?_ _) | (with_reducible refine Kd.C_drew ?_))); (case aB => exact (by repeat (first | (with_reducible first | exact HB.out | apply below_alloc | apply pw_below_drewN | apply below_drew1) | exact HB.out))); (case aF => exact (fun k_ hk => ⟨Kd.fresh' (Kd.R_lt (by (with_reducible repeat (first | apply Kd.R_alloc | apply Kd.R_drewN | apply Kd.R_drew)); exact HO_7.out)) k_ hk, Kd.fresh' (Kd.R_lt (by (with_reducible repeat (first | apply Kd.R_alloc | apply Kd.R_drewN | apply Kd.R_drew)); exact HO_8.out)) k_ hk, Kd.fresh' (Kd.R_lt (by (with_reducible repeat (first | apply Kd.R_alloc | apply Kd.R_drewN | apply Kd.R_drew)); exact HO_9.out)) k_ hk, Kd.fresh' (Kd.R_lt (by (with_reducible repeat (first | apply Kd.R_alloc | apply Kd.R_drewN | apply Kd.R_drew)); exact HO_10.out)) k_ hk, Kd.fresh' (Kd.R_lt (by (with_reducible repeat (first | apply Kd.R_alloc | apply Kd.R_drewN | apply Kd.R_drew)); exact HO_11.out)) k_ hk⟩)); (case aO => exact (by (with_reducible repeat (first | apply Kd.R_alloc | apply Kd.R_drewN | apply Kd.R_drew)); exact Kd.R_mono HO2000.out (fun _ hk => ⟨hk.1.1.1.1.2, ⟨hk.1.1.1.2, ⟨hk.1.1.2, ⟨hk.1.2, hk.2⟩⟩⟩⟩))); (case aS => exact (below_size (by repeat (first | (with_reducible first | exact HB.out | apply below_alloc | apply pw_below_drewN | apply below_drew1) | exact HB.out)))); (case aL => have := LMc29.out; omega); intro v2002 w33 ho hb hg hat; rw [← Ny2001.out] at ho; have n0_ := Aside0.mk (Kd.R_after (ok := (fun _ => True)) (by (with_reducible repeat (first | apply Kd.R_alloc | apply Kd.R_drewN | apply Kd.R_drew)); exact HO_7.out) hg hat); have n1_ := Aside0.mk (Kd.R_after (ok := (fun _ => True)) (by (with_reducible repeat (first | apply Kd.R_alloc | apply Kd.R_drewN | apply Kd.R_drew)); exact HO_8.out) hg hat); have n2_ := Aside0.mk (Kd.R_after (ok := (fun _ => True)) (by (with_reducible repeat (first | apply Kd.R_alloc | apply Kd.R_drewN | apply Kd.R_drew)); exact HO_9.out) hg hat); have n3_ := Aside0.mk (Kd.R_after (ok := (fun _ => True)) (by (with_reducible repeat (first | apply Kd.R_alloc | apply Kd.R_drewN | apply Kd.R_drew)); exact HO_10.out) hg hat); have n4_ := Aside0.mk (Kd.R_after (ok := (fun _ => True)) (by (with_reducible repeat (first | apply Kd.R_alloc | apply Kd.R_drewN | apply Kd.R_drew)); exact HO_11.out) hg hat); have n5_ := Aside0.mk (Kd.N_afterv (ok := (fun k_ => some k_ ≠ (v1996 : Value).ownBlock)) (by (with_reducible repeat (first | apply Kd.N_alloc | apply Kd.N_drewN | apply Kd.N_drew)); exact Kd.N_mono HO_41.out (fun _ hk => ⟨hk.1.2, hk.2⟩)) hg hat); have n6_ := Aside0.mk (Kd.R_over' (by (with_reducible repeat (first | apply Kd.R_alloc | apply Kd.R_drewN | apply Kd.R_drew)); exact HO1997.out) (Kd.R_typed (by (with_reducible repeat (first | apply Kd.R_alloc | apply Kd.R_drewN | apply Kd.R_drew)); exact HO2000.out)) (by decide) hg); have n7_ := Aside0.mk (hb); have n8_ := Aside0.mk (ho); clear HO_7; clear HO_8; clear HO_9; clear HO_10; clear HO_11; clear HO_41; clear HO1997; clear HB; clear HO2000; have HO_7 := n0_; have HO_8 := n1_; have HO_9 := n2_; have HO_10 := n3_; have HO_11 := n4_; have HO_41 := n5_; have HO1997 := n6_; have HB := n7_; have HO2003 := n8_; clear n0_ n1_ n2_ n3_ n4_ n5_ n6_ n7_ n8_; clear ho hb hg hat; obtain ⟨Ao34, co34, eo34⟩ := Kd.R_slice HO2003.out; subst eo34))
     go_loopg [14, 58] k1 (fun kq v14 v58 w' => ∃ (x14_2 : List Int) (x58_2 : Int), v58 = .int .i64 x58_2 ∧ Aside0 (epactlaw02_SpansTicks.l1 kq t1975 t1978 t1981 t1984 t1987 x14_2 y2001 (y2001.length : Int) x58_2 = some r) ∧ Aside0 (kq ≤ k1) ∧ Aside0 (Kd.R k23 23 w' w.heap.size (fun k_ => some k_ ≠ ((.slice Ao34 y2001.length co34) : Value).ownBlock) (.slice Ao11 t1975.length co11) t1975) ∧ Aside0 (Kd.R k23 23 w' w.heap.size (fun k_ => some k_ ≠ ((.slice Ao34 y2001.length co34) : Value).ownBlock) (.slice Ao12 t1978.length co12) t1978) ∧ Aside0 (Kd.R k23 23 w' w.heap.size (fun k_ => some k_ ≠ ((.slice Ao34 y2001.length co34) : Value).ownBlock) (.slice Ao16 t1981.length co16) t1981) ∧ Aside0 (Kd.R k23 23 w' w.heap.size (fun k_ => some k_ ≠ ((.slice Ao34 y2001.length co34) : Value).ownBlock) (.slice Ao17 t1984.length co17) t1984) ∧ Aside0 (Kd.R k23 23 w' w.heap.size (fun k_ => some k_ ≠ ((.slice Ao34 y2001.length co34) : Value).ownBlock) (.slice Ao18 t1987.length co18) t1987) ∧ Aside0 (Kd.R (Kd.int .i64) 3 w' w.heap.size (fun _ => True) v14 x14_2) ∧ Aside0 (Kd.R k23 23 w' w.heap.size (fun k_ => some k_ ≠ ((.slice Ao11 t1975.length co11) : Value).ownBlock ∧ some k_ ≠ ((.slice Ao12 t1978.length co12) : Value).ownBlock ∧ some k_ ≠ ((.slice Ao16 t1981.length co16) : Value).ownBlock ∧ some k_ ≠ ((.slice Ao17 t1984.length co17) : Value).ownBlock ∧ some k_ ≠ ((.slice Ao18 t1987.length co18) : Value).ownBlock) (.slice Ao34 y2001.length co34) y2001) ∧ Aside0 (Below w.heap.size w w'))
     case atStart => exact ⟨(y1995), (0), (by first | rfl | (simp; done) | (simp [*]; done)), H', ⟨Nat.le_refl _⟩, ⟨by (with_reducible repeat (first | apply Kd.R_alloc | apply Kd.R_drewN | apply Kd.R_drew)); exact Kd.R_mono HO_7.out (fun _ hk => hk.2)⟩, ⟨by (with_reducible repeat (first | apply Kd.R_alloc | apply Kd.R_drewN | apply Kd.R_drew)); exact Kd.R_mono HO_8.out (fun _ hk => hk.2)⟩, ⟨by (with_reducible repeat (first | apply Kd.R_alloc | apply Kd.R_drewN | apply Kd.R_drew)); exact Kd.R_mono HO_9.out (fun _ hk => hk.2)⟩, ⟨by (with_reducible repeat (first | apply Kd.R_alloc | apply Kd.R_drewN | apply Kd.R_drew)); exact Kd.R_mono HO_10.out (fun _ hk => hk.2)⟩, ⟨by (with_reducible repeat (first | apply Kd.R_alloc | apply Kd.R_drewN | apply Kd.R_drew)); exact Kd.R_mono HO_11.out (fun _ hk => hk.2)⟩, ⟨by (with_reducible repeat (first | apply Kd.R_alloc | apply Kd.R_drewN | apply Kd.R_drew)); exact HO1997.out⟩, ⟨by (with_reducible repeat (first | apply Kd.R_alloc | apply Kd.R_drewN | apply Kd.R_drew)); exact HO2003.out⟩, ⟨by repeat (first | (with_reducible first | exact HB.out | apply below_alloc | apply pw_below_drewN | apply below_drew1) | exact HB.out)⟩⟩
     case round =>
      clear H'
      try clear c1
      try clear p1
      try clear q1
      try clear hx1
      try clear c2
      try clear p2
      try clear c3
      try clear p6
      try clear c12
      try clear c19
      try clear p19
      try clear q19
      try clear hx19
      try clear c22
      try clear c22b0
      try clear c23
      try clear c23b0
      try clear c24
      try clear c24b0
      try clear c26
      try clear c27
      try clear c29
      try clear c31
      try clear c33
      try clear hx1993_0
      try clear p1993
      try clear p2
      try clear q1993
      obtain ⟨x14_2, x58_2, rfl, HA, HK2, HO_7, HO_8, HO_9, HO_10, HO_11, HO_14, HO_56, HB⟩ := hrel
      cases gk with
      | zero => exact absurd HA.out (by simp [epactlaw02_SpansTicks.l1])
      | succ k2 =>
       have H := HA.out
       clear HA
       simp only [epactlaw02_SpansTicks.l1] at H
       by_cases c35 : x58_2 < (y2001.length : Int)
       ·
        rw [if_pos c35] at H
        have c35b0 : decide (x58_2 < (y2001.length : Int)) = true := decide_eq_true c35
        clear c35
        by_cases c36 : 0 ≤ x58_2
        ·
         rw [if_pos c36] at H
         have c36b0 : decide (0 ≤ x58_2) = true := decide_eq_true c36
         clear c36
         by_cases c37 : x58_2 < (y2001.length : Int)
         ·
          rw [if_pos c37] at H
          have c37b0 : decide (x58_2 < (y2001.length : Int)) = true := decide_eq_true c37
          clear c37
          obtain ⟨y2006, hy2006⟩ : ∃ y_ : List Int, y_ = (([wrap64 (((rd_T23 y2001 x58_2).f0) - 1), (rd_T23 y2001 x58_2).f0, (rd_T23 y2001 x58_2).f1, wrap64 (((rd_T23 y2001 x58_2).f1) + 1)] : List Int)) := ⟨_, rfl⟩
          replace H : (if x14_2.length + y2006.length < 17592186044416 then (epactlaw02_SpansTicks.l1 k2 t1975 t1978 t1981 t1984 t1987 (x14_2 ++ y2006) y2001 (y2001.length : Int) (wrap64 (x58_2 + 1))) else (none)) = some r := by first | (rw [hy2006]; with_reducible exact H) | (have H2_ := (Option.bind_some _ _).symm.trans H; rw [hy2006]; with_reducible exact H2_) | (have H2_ := (Option.bind_some _ _).symm.trans H; with_reducible exact H2_) | with_reducible exact H | (rw [hy2006]; exact H) | exact H
          have Ny2006 := Aside0.mk hy2006
          clear hy2006
          by_cases c38 : x14_2.length + y2006.length < 17592186044416
          ·
           rw [if_pos c38] at H
           have LMc38 := Aside0.mk c38
           clear c38
           obtain ⟨y2009, hy2009⟩ : ∃ y_ : List Int, y_ = (x14_2 ++ y2006) := ⟨_, rfl⟩
           replace H : (epactlaw02_SpansTicks.l1 k2 t1975 t1978 t1981 t1984 t1987 y2009 y2001 (y2001.length : Int) (wrap64 (x58_2 + 1))) = some r := by first | (rw [hy2009]; with_reducible exact H) | (have H2_ := (Option.bind_some _ _).symm.trans H; rw [hy2009]; with_reducible exact H2_) | (have H2_ := (Option.bind_some _ _).symm.trans H; with_reducible exact H2_) | with_reducible exact H | (rw [hy2009]; exact H) | exact H
           have Ny2009 := Aside0.mk hy2009
           clear hy2009
           have H' := Aside0.mk H
           clear H
           have p2004 : 0 ≤ (x58_2 : Int) := of_decide_eq_true (by first | (with_reducible assumption) | assumption)
           have q2004 : x58_2 < (y2001.length : Int) := of_decide_eq_true (by first | (with_reducible assumption) | assumption)
           obtain ⟨ad2004, e2004, hx2004_0, hx2004_1⟩ := at_T23 (Kd.R_reads' HO_56.out).2.2 x58_2 p2004 q2004
           cases e2004
           replace p2004 := eq_true p2004
           replace q2004 := eq_true q2004
           go_wp2_with (first | ((with_reducible refine gate_dst (N := 16) rfl ?_); refine box_event ?hg (N := 16) ?hd (cs := #[.int .i64 0, .int .i64 0]) (t := 23) ?hr ?_; (case hd => rfl); (case hg => rfl); (case hr => first | (go_simp; done) | (go_simp; rfl)); intro gb2005 hg w39 hbox hb; have n0_ := Aside0.mk (Kd.R_below (Kd.R_elderB (by (with_reducible repeat (first | apply Kd.R_alloc | apply Kd.R_drewN | apply Kd.R_drew)); exact HO_7.out) gb2005 (Nat.le_of_eq hg.symm)) hb); have n1_ := Aside0.mk (Kd.R_below (Kd.R_elderB (by (with_reducible repeat (first | apply Kd.R_alloc | apply Kd.R_drewN | apply Kd.R_drew)); exact HO_8.out) gb2005 (Nat.le_of_eq hg.symm)) hb); have n2_ := Aside0.mk (Kd.R_below (Kd.R_elderB (by (with_reducible repeat (first | apply Kd.R_alloc | apply Kd.R_drewN | apply Kd.R_drew)); exact HO_9.out) gb2005 (Nat.le_of_eq hg.symm)) hb); have n3_ := Aside0.mk (Kd.R_below (Kd.R_elderB (by (with_reducible repeat (first | apply Kd.R_alloc | apply Kd.R_drewN | apply Kd.R_drew)); exact HO_10.out) gb2005 (Nat.le_of_eq hg.symm)) hb); have n4_ := Aside0.mk (Kd.R_below (Kd.R_elderB (by (with_reducible repeat (first | apply Kd.R_alloc | apply Kd.R_drewN | apply Kd.R_drew)); exact HO_11.out) gb2005 (Nat.le_of_eq hg.symm)) hb); have n5_ := Aside0.mk (Kd.R_below (by (with_reducible repeat (first | apply Kd.R_alloc | apply Kd.R_drewN | apply Kd.R_drew)); exact HO_14.out) hb); have n6_ := Aside0.mk (Kd.R_below (Kd.R_elderB (by (with_reducible repeat (first | apply Kd.R_alloc | apply Kd.R_drewN | apply Kd.R_drew)); exact HO_56.out) gb2005 (Nat.le_of_eq hg.symm)) hb); have n7_ := Aside0.mk (below_step (by repeat (first | (with_reducible first | exact HB.out | apply below_alloc | apply pw_below_drewN | apply below_drew1) | exact HB.out)) hb); have n8_ := Aside0.mk (hbox); have n9_ := Aside0.mk ((by rw [hg]; exact (below_size (by repeat (first | (with_reducible first | exact HB.out | apply below_alloc | apply pw_below_drewN | apply below_drew1) | exact HB.out))) : w.heap.size ≤ gb2005)); have n10_ := Aside0.mk ((by rw [hg]; exact (below_size (by repeat (first | (with_reducible first | exact HB.out | apply below_alloc | apply pw_below_drewN | apply below_drew1) | exact HB.out))) : w.heap.size ≤ gb2005)); clear HO_7; clear HO_8; clear HO_9; clear HO_10; clear HO_11; clear HO_14; clear HO_56; clear HB; have HO_7 := n0_; have HO_8 := n1_; have HO_9 := n2_; have HO_10 := n3_; have HO_11 := n4_; have HO_14 := n5_; have HO_56 := n6_; have HB := n7_; have BK2005 := n8_; have GW2005 := n9_; have GE2005 := n10_; clear n0_ n1_ n2_ n3_ n4_ n5_ n6_ n7_ n8_ n9_ n10_; clear hb hbox hg; have hcz40_0 : w39.cell? ⟨gb2005, 0, none⟩ = some (.int .i64 0) := (blk_cell BK2005.out 0).trans rfl; have hcz40_1 : w39.cell? ⟨gb2005, 1, none⟩ = some (.int .i64 0) := (blk_cell BK2005.out 1).trans rfl; have hfz40_0 := blk_frozen BK2005.out 0; have hfz40_1 := blk_frozen BK2005.out 1) | ((with_reducible refine gate_dst (N := 73) rfl ?_); refine Kd.R_lit (Kd.int .i64) _ 3 ?hg (N := 73) ?hd (xs := ([wrap64 (((rd_T23 y2001 x58_2).f0) - 1), (rd_T23 y2001 x58_2).f0, (rd_T23 y2001 x58_2).f1, wrap64 (((rd_T23 y2001 x58_2).f1) + 1)] : List Int)) (inner := [.int .i64 (wrap64 (((rd_T23 y2001 x58_2).f0) - 1)), .int .i64 ((rd_T23 y2001 x58_2).f0), .int .i64 ((rd_T23 y2001 x58_2).f1), .int .i64 (wrap64 (((rd_T23 y2001 x58_2).f1) + 1))]) (ok := fun _ => True) (okp := fun _ => True) ?hr ?hp (fun _ hk => hk) trivial (Below.refl _ _) (Nat.le_refl _) (by simp) ?_; (case hd => rfl); (case hg => rfl); (case hr => first | (go_simp; done) | (go_simp; rfl)); (case hp => exact (Reps.one (show Kd.M (Kd.int .i64) _ _ _ (wrap64 (((rd_T23 y2001 x58_2).f0) - 1)) [.int .i64 (wrap64 (((rd_T23 y2001 x58_2).f0) - 1))] from rfl) (Reps.one (show Kd.M (Kd.int .i64) _ _ _ ((rd_T23 y2001 x58_2).f0) [.int .i64 ((rd_T23 y2001 x58_2).f0)] from rfl) (Reps.one (show Kd.M (Kd.int .i64) _ _ _ ((rd_T23 y2001 x58_2).f1) [.int .i64 ((rd_T23 y2001 x58_2).f1)] from rfl) (Reps.one (show Kd.M (Kd.int .i64) _ _ _ (wrap64 (((rd_T23 y2001 x58_2).f1) + 1)) [.int .i64 (wrap64 (((rd_T23 y2001 x58_2).f1) + 1))] from rfl) (Reps.none _ _)))))); intro v2007 w41 ho42 hb hg_ hnew_; clear hg_ hnew_; (first | rw [← Ny2006.out] at ho42 | (simp only [Int.reduceToNat] at ho42; rw [← Ny2006.out] at ho42)); have n0_ := Aside0.mk (Kd.R_below (by (with_reducible repeat (first | apply Kd.R_alloc | apply Kd.R_drewN | apply Kd.R_drew)); exact (Kd.R_mono (Kd.R_far (p := ⟨gb2005, 1, none⟩) (Kd.R_far (p := ⟨gb2005, 0, none⟩) (Kd.R_mono HO_7.out (fun k_ hk => (⟨hk, hk.2⟩ : _ ∧ k_ ≠ gb2005))) (fun _ hk => hk.2) (.int .i64 ((rd_T23 y2001 x58_2).f0))) (fun _ hk => hk.2) (.int .i64 ((rd_T23 y2001 x58_2).f1))) (fun _ h_ => h_.1))) hb); have n1_ := Aside0.mk (Kd.R_below (by (with_reducible repeat (first | apply Kd.R_alloc | apply Kd.R_drewN | apply Kd.R_drew)); exact (Kd.R_mono (Kd.R_far (p := ⟨gb2005, 1, none⟩) (Kd.R_far (p := ⟨gb2005, 0, none⟩) (Kd.R_mono HO_8.out (fun k_ hk => (⟨hk, hk.2⟩ : _ ∧ k_ ≠ gb2005))) (fun _ hk => hk.2) (.int .i64 ((rd_T23 y2001 x58_2).f0))) (fun _ hk => hk.2) (.int .i64 ((rd_T23 y2001 x58_2).f1))) (fun _ h_ => h_.1))) hb); have n2_ := Aside0.mk (Kd.R_below (by (with_reducible repeat (first | apply Kd.R_alloc | apply Kd.R_drewN | apply Kd.R_drew)); exact (Kd.R_mono (Kd.R_far (p := ⟨gb2005, 1, none⟩) (Kd.R_far (p := ⟨gb2005, 0, none⟩) (Kd.R_mono HO_9.out (fun k_ hk => (⟨hk, hk.2⟩ : _ ∧ k_ ≠ gb2005))) (fun _ hk => hk.2) (.int .i64 ((rd_T23 y2001 x58_2).f0))) (fun _ hk => hk.2) (.int .i64 ((rd_T23 y2001 x58_2).f1))) (fun _ h_ => h_.1))) hb); have n3_ := Aside0.mk (Kd.R_below (by (with_reducible repeat (first | apply Kd.R_alloc | apply Kd.R_drewN | apply Kd.R_drew)); exact (Kd.R_mono (Kd.R_far (p := ⟨gb2005, 1, none⟩) (Kd.R_far (p := ⟨gb2005, 0, none⟩) (Kd.R_mono HO_10.out (fun k_ hk => (⟨hk, hk.2⟩ : _ ∧ k_ ≠ gb2005))) (fun _ hk => hk.2) (.int .i64 ((rd_T23 y2001 x58_2).f0))) (fun _ hk => hk.2) (.int .i64 ((rd_T23 y2001 x58_2).f1))) (fun _ h_ => h_.1))) hb); have n4_ := Aside0.mk (Kd.R_below (by (with_reducible repeat (first | apply Kd.R_alloc | apply Kd.R_drewN | apply Kd.R_drew)); exact (Kd.R_mono (Kd.R_far (p := ⟨gb2005, 1, none⟩) (Kd.R_far (p := ⟨gb2005, 0, none⟩) (Kd.R_mono HO_11.out (fun k_ hk => (⟨hk, hk.2⟩ : _ ∧ k_ ≠ gb2005))) (fun _ hk => hk.2) (.int .i64 ((rd_T23 y2001 x58_2).f0))) (fun _ hk => hk.2) (.int .i64 ((rd_T23 y2001 x58_2).f1))) (fun _ h_ => h_.1))) hb); have n5_ := Aside0.mk (Kd.R_elder' (by (with_reducible repeat (first | apply Kd.R_alloc | apply Kd.R_drewN | apply Kd.R_drew)); exact (Kd.R_mono (Kd.R_far (p := ⟨gb2005, 1, none⟩) (Kd.R_far (p := ⟨gb2005, 0, none⟩) (Kd.R_types HO_14.out BK2005.out (by decide)) (fun _ hk => hk.2) (.int .i64 ((rd_T23 y2001 x58_2).f0))) (fun _ hk => hk.2) (.int .i64 ((rd_T23 y2001 x58_2).f1))) (fun _ h_ => h_.1))) (Kd.R_base ho42) hb); have n6_ := Aside0.mk (Kd.R_below (by (with_reducible repeat (first | apply Kd.R_alloc | apply Kd.R_drewN | apply Kd.R_drew)); exact (Kd.R_mono (Kd.R_far (p := ⟨gb2005, 1, none⟩) (Kd.R_far (p := ⟨gb2005, 0, none⟩) (Kd.R_mono HO_56.out (fun k_ hk => (⟨hk, hk.2⟩ : _ ∧ k_ ≠ gb2005))) (fun _ hk => hk.2) (.int .i64 ((rd_T23 y2001 x58_2).f0))) (fun _ hk => hk.2) (.int .i64 ((rd_T23 y2001 x58_2).f1))) (fun _ h_ => h_.1))) hb); have n7_ := Aside0.mk (Kd.R_lower (Kd.R_new' ho42 (Kd.R_lt (by (with_reducible repeat (first | apply Kd.R_alloc | apply Kd.R_drewN | apply Kd.R_drew)); exact (Kd.R_mono (Kd.R_far (p := ⟨gb2005, 1, none⟩) (Kd.R_far (p := ⟨gb2005, 0, none⟩) (Kd.R_types HO_14.out BK2005.out (by decide)) (fun _ hk => hk.2) (.int .i64 ((rd_T23 y2001 x58_2).f0))) (fun _ hk => hk.2) (.int .i64 ((rd_T23 y2001 x58_2).f1))) (fun _ h_ => h_.1))))) (below_size (by repeat (first | (with_reducible first | exact HB.out | apply below_alloc | apply pw_below_drewN | apply below_drew1 | refine below_set ?_ GE2005.out) | exact HB.out)))); have n8_ := Aside0.mk (blk_below (g := gb2005) (o := .cells #[.int .i64 ((rd_T23 y2001 x58_2).f0), .int .i64 ((rd_T23 y2001 x58_2).f1)] 23 (0, 0)) (by (with_reducible repeat (first | refine blk_drewN ?_ _ | refine blk_drew ?_ | refine blk_alloc ?_ _)); refine blk_put (cs := #[.int .i64 ((rd_T23 y2001 x58_2).f0), .int .i64 0]) ?_ 1 _ rfl; (with_reducible repeat (first | refine blk_drewN ?_ _ | refine blk_drew ?_ | refine blk_alloc ?_ _)); refine blk_put (cs := #[.int .i64 0, .int .i64 0]) ?_ 0 _ rfl; (with_reducible repeat (first | refine blk_drewN ?_ _ | refine blk_drew ?_ | refine blk_alloc ?_ _)); exact BK2005.out) hb); have n9_ := Aside0.mk (below_step (by repeat (first | (with_reducible first | exact HB.out | apply below_alloc | apply pw_below_drewN | apply below_drew1 | refine below_set ?_ GE2005.out) | exact HB.out)) hb); clear HO_7; clear HO_8; clear HO_9; clear HO_10; clear HO_11; clear HO_14; clear HO_56; clear BK2005; clear HB; have HO_7 := n0_; have HO_8 := n1_; have HO_9 := n2_; have HO_10 := n3_; have HO_11 := n4_; have HO_14 := n5_; have HO_56 := n6_; have HO2008 := n7_; have BK2005 := n8_; have HB := n9_; clear n0_ n1_ n2_ n3_ n4_ n5_ n6_ n7_ n8_ n9_; clear hb ho42; obtain ⟨Ao44, co44, eo44⟩ := Kd.R_slice HO2008.out; subst eo44) | ((with_reducible refine gate_builtin (b := .append) (xs := #[.tmp 62, .tmp 73]) rfl ?_); at_builtin; refine Kd.R_append_rows (Kd.int .i64) (w0 := w) w.heap.size rfl (.tmp 62) (.tmp 73) 29 3 (.int .i64 0) 8 rfl Try.underlying29 info3 rfl (by decide) (by omega) u14 x14_2 y2006 _ _ _ (fun k_ => some k_ ≠ (.slice Ao44 y2006.length co44 : Value).ownBlock) (fun _ => False) rfl rfl ?aO ?aR (fun _ _ h => h) (fun _ h => h.elim) ?aF ?aB ?aS ?aL ?_; (case aR => repeat (first | exact (Kd.R_reads' HO2008.out).2.2 | (with_reducible refine Kd.C_alloc ?_ _) | (with_reducible refine Kd.C_drewN ?_ _) | (with_reducible refine Kd.C_drew ?_))); (case aB => exact (by repeat (first | (with_reducible first | exact HB.out | apply below_alloc | apply pw_below_drewN | apply below_drew1 | refine below_set ?_ GE2005.out) | exact HB.out))); (case aF => exact (fun k_ hk => Kd.fresh' (Kd.R_lt (by (with_reducible repeat (first | apply Kd.R_alloc | apply Kd.R_drewN | apply Kd.R_drew)); exact HO2008.out)) k_ hk)); (case aO => exact (by (with_reducible repeat (first | apply Kd.R_alloc | apply Kd.R_drewN | apply Kd.R_drew)); exact Kd.R_mono HO_14.out (fun _ hk => hk.2))); (case aS => exact (below_size (by repeat (first | (with_reducible first | exact HB.out | apply below_alloc | apply pw_below_drewN | apply below_drew1 | refine below_set ?_ GE2005.out) | exact HB.out)))); (case aL => have := LMc38.out; omega); intro v2010 w43 ho hb hg hat; rw [← Ny2009.out] at ho; have n0_ := Aside0.mk (Kd.R_over' (by (with_reducible repeat (first | apply Kd.R_alloc | apply Kd.R_drewN | apply Kd.R_drew)); exact HO_7.out) (Kd.R_typed (by (with_reducible repeat (first | apply Kd.R_alloc | apply Kd.R_drewN | apply Kd.R_drew)); exact HO_14.out)) (by decide) hg); have n1_ := Aside0.mk (Kd.R_over' (by (with_reducible repeat (first | apply Kd.R_alloc | apply Kd.R_drewN | apply Kd.R_drew)); exact HO_8.out) (Kd.R_typed (by (with_reducible repeat (first | apply Kd.R_alloc | apply Kd.R_drewN | apply Kd.R_drew)); exact HO_14.out)) (by decide) hg); have n2_ := Aside0.mk (Kd.R_over' (by (with_reducible repeat (first | apply Kd.R_alloc | apply Kd.R_drewN | apply Kd.R_drew)); exact HO_9.out) (Kd.R_typed (by (with_reducible repeat (first | apply Kd.R_alloc | apply Kd.R_drewN | apply Kd.R_drew)); exact HO_14.out)) (by decide) hg); have n3_ := Aside0.mk (Kd.R_over' (by (with_reducible repeat (first | apply Kd.R_alloc | apply Kd.R_drewN | apply Kd.R_drew)); exact HO_10.out) (Kd.R_typed (by (with_reducible repeat (first | apply Kd.R_alloc | apply Kd.R_drewN | apply Kd.R_drew)); exact HO_14.out)) (by decide) hg); have n4_ := Aside0.mk (Kd.R_over' (by (with_reducible repeat (first | apply Kd.R_alloc | apply Kd.R_drewN | apply Kd.R_drew)); exact HO_11.out) (Kd.R_typed (by (with_reducible repeat (first | apply Kd.R_alloc | apply Kd.R_drewN | apply Kd.R_drew)); exact HO_14.out)) (by decide) hg); have n5_ := Aside0.mk (Kd.R_over' (by (with_reducible repeat (first | apply Kd.R_alloc | apply Kd.R_drewN | apply Kd.R_drew)); exact HO_56.out) (Kd.R_typed (by (with_reducible repeat (first | apply Kd.R_alloc | apply Kd.R_drewN | apply Kd.R_drew)); exact HO_14.out)) (by decide) hg); have n6_ := Aside0.mk (blk_grown (g := gb2005) (o := .cells #[.int .i64 ((rd_T23 y2001 x58_2).f0), .int .i64 ((rd_T23 y2001 x58_2).f1)] 23 (0, 0)) (by (with_reducible repeat (first | refine blk_drewN ?_ _ | refine blk_drew ?_ | refine blk_alloc ?_ _)); exact BK2005.out) hg (Kd.R_ne HO_14.out BK2005.out (by decide))); have n7_ := Aside0.mk (Kd.R_after (ok := (fun _ => True)) (by (with_reducible repeat (first | apply Kd.R_alloc | apply Kd.R_drewN | apply Kd.R_drew)); exact HO2008.out) hg hat); have n8_ := Aside0.mk (hb); have n9_ := Aside0.mk (ho); clear HO_7; clear HO_8; clear HO_9; clear HO_10; clear HO_11; clear HO_56; clear BK2005; clear HO2008; clear HB; clear HO_14; have HO_7 := n0_; have HO_8 := n1_; have HO_9 := n2_; have HO_10 := n3_; have HO_11 := n4_; have HO_56 := n5_; have BK2005 := n6_; have HO2008 := n7_; have HB := n8_; have HO2011 := n9_; clear n0_ n1_ n2_ n3_ n4_ n5_ n6_ n7_ n8_ n9_; clear ho hb hg hat))
           go_roundg k2
           case measure => have := HK1.out; have := HK2.out; omega
           case rel => exact ⟨(y2009), (wrap64 (x58_2 + 1)), (by first | rfl | (simp; done) | (simp [*]; done)), H', ⟨by have := HK1.out; have := HK2.out; omega⟩, ⟨by (with_reducible repeat (first | apply Kd.R_alloc | apply Kd.R_drewN | apply Kd.R_drew)); exact Kd.R_mono HO_7.out (fun _ hk => hk.1)⟩, ⟨by (with_reducible repeat (first | apply Kd.R_alloc | apply Kd.R_drewN | apply Kd.R_drew)); exact Kd.R_mono HO_8.out (fun _ hk => hk.1)⟩, ⟨by (with_reducible repeat (first | apply Kd.R_alloc | apply Kd.R_drewN | apply Kd.R_drew)); exact Kd.R_mono HO_9.out (fun _ hk => hk.1)⟩, ⟨by (with_reducible repeat (first | apply Kd.R_alloc | apply Kd.R_drewN | apply Kd.R_drew)); exact Kd.R_mono HO_10.out (fun _ hk => hk.1)⟩, ⟨by (with_reducible repeat (first | apply Kd.R_alloc | apply Kd.R_drewN | apply Kd.R_drew)); exact Kd.R_mono HO_11.out (fun _ hk => hk.1)⟩, ⟨by (with_reducible repeat (first | apply Kd.R_alloc | apply Kd.R_drewN | apply Kd.R_drew)); exact Kd.R_mono HO2011.out (fun _ hk => trivial)⟩, ⟨by (with_reducible repeat (first | apply Kd.R_alloc | apply Kd.R_drewN | apply Kd.R_drew)); exact Kd.R_mono HO_56.out (fun _ hk => ⟨hk.1.1, ⟨hk.1.2.1, ⟨hk.1.2.2.1, ⟨hk.1.2.2.2.1, hk.1.2.2.2.2⟩⟩⟩⟩)⟩, ⟨by repeat (first | (with_reducible first | exact HB.out | apply below_alloc | apply pw_below_drewN | apply below_drew1 | refine below_set ?_ GE2005.out) | exact HB.out)⟩⟩
          ·
           rw [if_neg c38] at H
           exact absurd H (by simp)
         ·
          rw [if_neg c37] at H
          exact absurd H (by simp)
        ·
         rw [if_neg c36] at H
         exact absurd H (by simp)
       ·
        rw [if_neg c35] at H
        have c35b0 : decide (x58_2 < (y2001.length : Int)) = false := decide_eq_false c35
        clear c35
        have H' := Aside0.mk H
        clear H
        obtain ⟨Ao45, co45, eo45⟩ := Kd.R_slice HO_14.out
        subst eo45
        go_wp2
        go_loopg [78] k2 (fun kq v78 w' => ∃ (x78_3 : Int), v78 = .int .i64 x78_3 ∧ Aside0 (epactlaw02_SpansTicks.l2 kq t1975 t1978 t1981 t1984 t1987 x14_2 (x14_2.length : Int) x78_3 = some r) ∧ Aside0 (kq ≤ k2) ∧ Aside0 (Kd.R k23 23 w' w.heap.size (fun _ => True) (.slice Ao11 t1975.length co11) t1975) ∧ Aside0 (Kd.R k23 23 w' w.heap.size (fun _ => True) (.slice Ao12 t1978.length co12) t1978) ∧ Aside0 (Kd.R k23 23 w' w.heap.size (fun _ => True) (.slice Ao16 t1981.length co16) t1981) ∧ Aside0 (Kd.R k23 23 w' w.heap.size (fun _ => True) (.slice Ao17 t1984.length co17) t1984) ∧ Aside0 (Kd.R k23 23 w' w.heap.size (fun _ => True) (.slice Ao18 t1987.length co18) t1987) ∧ Aside0 (Kd.R (Kd.int .i64) 3 w' w.heap.size (fun _ => True) (.slice Ao45 x14_2.length co45) x14_2) ∧ Aside0 (Below w.heap.size w w'))
        case atStart => exact ⟨(0), (by first | rfl | (simp; done) | (simp [*]; done)), H', ⟨Nat.le_refl _⟩, ⟨by (with_reducible repeat (first | apply Kd.R_alloc | apply Kd.R_drewN | apply Kd.R_drew)); exact Kd.R_mono HO_7.out (fun _ hk => trivial)⟩, ⟨by (with_reducible repeat (first | apply Kd.R_alloc | apply Kd.R_drewN | apply Kd.R_drew)); exact Kd.R_mono HO_8.out (fun _ hk => trivial)⟩, ⟨by (with_reducible repeat (first | apply Kd.R_alloc | apply Kd.R_drewN | apply Kd.R_drew)); exact Kd.R_mono HO_9.out (fun _ hk => trivial)⟩, ⟨by (with_reducible repeat (first | apply Kd.R_alloc | apply Kd.R_drewN | apply Kd.R_drew)); exact Kd.R_mono HO_10.out (fun _ hk => trivial)⟩, ⟨by (with_reducible repeat (first | apply Kd.R_alloc | apply Kd.R_drewN | apply Kd.R_drew)); exact Kd.R_mono HO_11.out (fun _ hk => trivial)⟩, ⟨by (with_reducible repeat (first | apply Kd.R_alloc | apply Kd.R_drewN | apply Kd.R_drew)); exact HO_14.out⟩, ⟨by repeat (first | (with_reducible first | exact HB.out | apply below_alloc | apply pw_below_drewN | apply below_drew1) | exact HB.out)⟩⟩
        case round =>
         clear H'
         try clear c1
         try clear p1
         try clear q1
         try clear hx1
         try clear c2
         try clear p2
         try clear q2
         try clear hx2
         try clear c3
         try clear p6
         try clear c12
         try clear c19
         try clear p19
         try clear q19
         try clear hx19
         try clear p20
         try clear q20
         try clear hx20
         try clear c22
         try clear c22b0
         try clear c23
         try clear c23b0
         try clear c24
         try clear c24b0
         try clear c26
         try clear c27
         try clear c29
         try clear c31
         try clear c33
         try clear c35
         try clear c35b0
         try clear c36
         try clear c36b0
         try clear c37
         try clear c37b0
         try clear c38
         try clear hcz40_0
         try clear hcz40_1
         try clear hfz40_0
         try clear hfz40_1
         try clear hx1993_0
         try clear hx2004_0
         try clear hx2004_1
         try clear p1
         try clear p19
         try clear p1993
         try clear p2
         try clear p2004
         try clear p6
         try clear q1
         try clear q19
         try clear q1993
         try clear q2004
         obtain ⟨x78_3, rfl, HA, HK3, HO_7, HO_8, HO_9, HO_10, HO_11, HO_76, HB⟩ := hrel
         cases gk with
         | zero => exact absurd HA.out (by simp [epactlaw02_SpansTicks.l2])
         | succ k3 =>
          have H := HA.out
          clear HA
          simp only [epactlaw02_SpansTicks.l2] at H
          by_cases c46 : x78_3 < (x14_2.length : Int)
          ·
           rw [if_pos c46] at H
           have c46b0 : decide (x78_3 < (x14_2.length : Int)) = true := decide_eq_true c46
           clear c46
           by_cases c47 : 0 ≤ x78_3
           ·
            rw [if_pos c47] at H
            have c47b0 : decide (0 ≤ x78_3) = true := decide_eq_true c47
            clear c47
            by_cases c48 : x78_3 < (x14_2.length : Int)
            ·
             rw [if_pos c48] at H
             have c48b0 : decide (x78_3 < (x14_2.length : Int)) = true := decide_eq_true c48
             clear c48
             replace H := Option.bind_eq_some_iff.mp H
             obtain ⟨t2013, A490, H⟩ := H
             replace H : ((spans_Has.f k3 t1978 (rd x14_2 x78_3)).bind fun t2014 => ((spans_Has.f k3 t1981 (rd x14_2 x78_3)).bind fun t2015 => (if t2013 = true then (if (t2015 != true) = true then (none) else ((spans_Has.f k3 t1984 (rd x14_2 x78_3)).bind fun t2016 => (if (t2016 != t2014) = true then (none) else ((spans_Has.f k3 t1987 (rd x14_2 x78_3)).bind fun t2017 => (if (t2017 != (!t2014)) = true then (none) else (epactlaw02_SpansTicks.l2 k3 t1975 t1978 t1981 t1984 t1987 x14_2 (x14_2.length : Int) (wrap64 (x78_3 + 1)))))))) else (if (t2015 != t2014) = true then (none) else ((spans_Has.f k3 t1984 (rd x14_2 x78_3)).bind fun t2018 => (if (t2018 != false) = true then (none) else ((spans_Has.f k3 t1987 (rd x14_2 x78_3)).bind fun t2019 => (if (t2019 != false) = true then (none) else (epactlaw02_SpansTicks.l2 k3 t1975 t1978 t1981 t1984 t1987 x14_2 (x14_2.length : Int) (wrap64 (x78_3 + 1))))))))))) = some r := H
             have A49 := Aside0.mk A490
             clear A490
             replace H := Option.bind_eq_some_iff.mp H
             obtain ⟨t2014, A500, H⟩ := H
             replace H : ((spans_Has.f k3 t1981 (rd x14_2 x78_3)).bind fun t2015 => (if t2013 = true then (if (t2015 != true) = true then (none) else ((spans_Has.f k3 t1984 (rd x14_2 x78_3)).bind fun t2016 => (if (t2016 != t2014) = true then (none) else ((spans_Has.f k3 t1987 (rd x14_2 x78_3)).bind fun t2017 => (if (t2017 != (!t2014)) = true then (none) else (epactlaw02_SpansTicks.l2 k3 t1975 t1978 t1981 t1984 t1987 x14_2 (x14_2.length : Int) (wrap64 (x78_3 + 1)))))))) else (if (t2015 != t2014) = true then (none) else ((spans_Has.f k3 t1984 (rd x14_2 x78_3)).bind fun t2018 => (if (t2018 != false) = true then (none) else ((spans_Has.f k3 t1987 (rd x14_2 x78_3)).bind fun t2019 => (if (t2019 != false) = true then (none) else (epactlaw02_SpansTicks.l2 k3 t1975 t1978 t1981 t1984 t1987 x14_2 (x14_2.length : Int) (wrap64 (x78_3 + 1)))))))))) = some r := H
             have A50 := Aside0.mk A500
             clear A500
             replace H := Option.bind_eq_some_iff.mp H
             obtain ⟨t2015, A510, H⟩ := H
             replace H : (if t2013 = true then (if (t2015 != true) = true then (none) else ((spans_Has.f k3 t1984 (rd x14_2 x78_3)).bind fun t2016 => (if (t2016 != t2014) = true then (none) else ((spans_Has.f k3 t1987 (rd x14_2 x78_3)).bind fun t2017 => (if (t2017 != (!t2014)) = true then (none) else (epactlaw02_SpansTicks.l2 k3 t1975 t1978 t1981 t1984 t1987 x14_2 (x14_2.length : Int) (wrap64 (x78_3 + 1)))))))) else (if (t2015 != t2014) = true then (none) else ((spans_Has.f k3 t1984 (rd x14_2 x78_3)).bind fun t2018 => (if (t2018 != false) = true then (none) else ((spans_Has.f k3 t1987 (rd x14_2 x78_3)).bind fun t2019 => (if (t2019 != false) = true then (none) else (epactlaw02_SpansTicks.l2 k3 t1975 t1978 t1981 t1984 t1987 x14_2 (x14_2.length : Int) (wrap64 (x78_3 + 1))))))))) = some r := H
             have A51 := Aside0.mk A510
             clear A510
             by_cases c52 : t2013 = true
             ·
              subst c52
              have H1 : (if (t2015 != true) = true then (none) else ((spans_Has.f k3 t1984 (rd x14_2 x78_3)).bind fun t2016 => (if (t2016 != t2014) = true then (none) else ((spans_Has.f k3 t1987 (rd x14_2 x78_3)).bind fun t2017 => (if (t2017 != (!t2014)) = true then (none) else (epactlaw02_SpansTicks.l2 k3 t1975 t1978 t1981 t1984 t1987 x14_2 (x14_2.length : Int) (wrap64 (x78_3 + 1)))))))) = some r := by rw [if_pos rfl] at H; exact H
              clear H
              have H := H1
              clear H1
              by_cases c53 : (t2015 != true) = true
              ·
               rw [if_pos c53] at H
               exact absurd H (by simp)
              ·
               rw [if_neg c53] at H
               have c53b0 : (t2015 != true) = false := by simpa using c53
               (try (have c53b1 : decide (t2015 = true) = true := by simpa using c53))
               (try (have c53b2 : (t2015 == true) = true := by simpa using c53))
               clear c53
               replace H := Option.bind_eq_some_iff.mp H
               obtain ⟨t2016, A540, H⟩ := H
               replace H : (if (t2016 != t2014) = true then (none) else ((spans_Has.f k3 t1987 (rd x14_2 x78_3)).bind fun t2017 => (if (t2017 != (!t2014)) = true then (none) else (epactlaw02_SpansTicks.l2 k3 t1975 t1978 t1981 t1984 t1987 x14_2 (x14_2.length : Int) (wrap64 (x78_3 + 1)))))) = some r := H
               have A54 := Aside0.mk A540
               clear A540
               by_cases c55 : (t2016 != t2014) = true
               ·
                rw [if_pos c55] at H
                exact absurd H (by simp)
               ·
                rw [if_neg c55] at H
                have c55b0 : (t2016 != t2014) = false := by simpa using c55
                (try (have c55b1 : decide (t2016 = t2014) = true := by simpa using c55))
                (try (have c55b2 : (t2016 == t2014) = true := by simpa using c55))
                clear c55
                replace H := Option.bind_eq_some_iff.mp H
                obtain ⟨t2017, A560, H⟩ := H
                replace H : (if (t2017 != (!t2014)) = true then (none) else (epactlaw02_SpansTicks.l2 k3 t1975 t1978 t1981 t1984 t1987 x14_2 (x14_2.length : Int) (wrap64 (x78_3 + 1)))) = some r := H
                have A56 := Aside0.mk A560
                clear A560
                by_cases c57 : (t2017 != (!t2014)) = true
                ·
                 rw [if_pos c57] at H
                 exact absurd H (by simp)
                ·
                 rw [if_neg c57] at H
                 have c57b0 : (t2017 != (!t2014)) = false := by simpa using c57
                 (try (have c57b1 : decide (t2017 = (!t2014)) = true := by simpa using c57))
                 (try (have c57b5 : (t2017 == (!t2014)) = true := (by decide : ∀ x y : Bool, ¬ (x != !y) = true → (x == (!y)) = true) _ _ c57))
                 (try (have c57b2 : (t2017 == (!t2014)) = true := by simpa using c57))
                 clear c57
                 have H' := Aside0.mk H
                 clear H
                 have p2012 : 0 ≤ (x78_3 : Int) := of_decide_eq_true (by first | (with_reducible assumption) | assumption)
                 have q2012 : x78_3 < (x14_2.length : Int) := of_decide_eq_true (by first | (with_reducible assumption) | assumption)
                 obtain ⟨ad2012, e2012, hx2012_0⟩ := Kd.at_int (Kd.R_reads' HO_76.out).2.2 x78_3 p2012 q2012
                 cases e2012
                 replace p2012 := eq_true p2012
                 replace q2012 := eq_true q2012
                 go_wp2_with (first | ((with_reducible refine gate_callee (f := 24) rfl ?_); refine goesL_ (some 84) rfl rfl Try.func24 (by kernel_rfl) rfl #[.slice Ao11 t1975.length co11, .int .i64 (rd x14_2 x78_3)] rfl (by (try simp only [List.map_toArray, List.map_cons, List.map_nil]); first | done | rfl | (simp only [List.length_drop, List.length_take]; rfl)) ?_; (with_reducible refine (spans_Has.calls k3 _ _ t1975 (rd x14_2 x78_3) true _ ?side1 ?side2 A49.out).mono ?_); (case side1 => repeat (first | exact (Kd.R_reads' HO_7.out).2.2 | (with_reducible refine Kd.C_alloc ?_ _) | (with_reducible refine Kd.C_drewN ?_ _) | (with_reducible refine Kd.C_drew ?_))); (case side2 => exact (Kd.R_reads' HO_7.out).2.1); clear A49; rintro e w58 ⟨rfl, hb⟩; refine ⟨_, rfl, ?_⟩; have n0_ := Aside0.mk (Kd.R_below (by (with_reducible repeat (first | apply Kd.R_alloc | apply Kd.R_drewN | apply Kd.R_drew)); exact HO_7.out) hb); have n1_ := Aside0.mk (Kd.R_below (by (with_reducible repeat (first | apply Kd.R_alloc | apply Kd.R_drewN | apply Kd.R_drew)); exact HO_8.out) hb); have n2_ := Aside0.mk (Kd.R_below (by (with_reducible repeat (first | apply Kd.R_alloc | apply Kd.R_drewN | apply Kd.R_drew)); exact HO_9.out) hb); have n3_ := Aside0.mk (Kd.R_below (by (with_reducible repeat (first | apply Kd.R_alloc | apply Kd.R_drewN | apply Kd.R_drew)); exact HO_10.out) hb); have n4_ := Aside0.mk (Kd.R_below (by (with_reducible repeat (first | apply Kd.R_alloc | apply Kd.R_drewN | apply Kd.R_drew)); exact HO_11.out) hb); have n5_ := Aside0.mk (Kd.R_below (by (with_reducible repeat (first | apply Kd.R_alloc | apply Kd.R_drewN | apply Kd.R_drew)); exact HO_76.out) hb); have n6_ := Aside0.mk (below_step (by repeat (first | (with_reducible first | exact HB.out | apply below_alloc | apply pw_below_drewN | apply below_drew1) | exact HB.out)) hb); clear HO_7; clear HO_8; clear HO_9; clear HO_10; clear HO_11; clear HO_76; clear HB; have HO_7 := n0_; have HO_8 := n1_; have HO_9 := n2_; have HO_10 := n3_; have HO_11 := n4_; have HO_76 := n5_; have HB := n6_; clear n0_ n1_ n2_ n3_ n4_ n5_ n6_; (try clear hb); (try clear hb2); (try clear hk); (try clear hi)) | ((with_reducible refine gate_callee (f := 24) rfl ?_); refine goesL_ (some 87) rfl rfl Try.func24 (by kernel_rfl) rfl #[.slice Ao12 t1978.length co12, .int .i64 (rd x14_2 x78_3)] rfl (by (try simp only [List.map_toArray, List.map_cons, List.map_nil]); first | done | rfl | (simp only [List.length_drop, List.length_take]; rfl)) ?_; (with_reducible refine (spans_Has.calls k3 _ _ t1978 (rd x14_2 x78_3) t2014 _ ?side1 ?side2 A50.out).mono ?_); (case side1 => repeat (first | exact (Kd.R_reads' HO_8.out).2.2 | (with_reducible refine Kd.C_alloc ?_ _) | (with_reducible refine Kd.C_drewN ?_ _) | (with_reducible refine Kd.C_drew ?_))); (case side2 => exact (Kd.R_reads' HO_8.out).2.1); clear A50; rintro e w59 ⟨rfl, hb⟩; refine ⟨_, rfl, ?_⟩; have n0_ := Aside0.mk (Kd.R_below (by (with_reducible repeat (first | apply Kd.R_alloc | apply Kd.R_drewN | apply Kd.R_drew)); exact HO_7.out) hb); have n1_ := Aside0.mk (Kd.R_below (by (with_reducible repeat (first | apply Kd.R_alloc | apply Kd.R_drewN | apply Kd.R_drew)); exact HO_8.out) hb); have n2_ := Aside0.mk (Kd.R_below (by (with_reducible repeat (first | apply Kd.R_alloc | apply Kd.R_drewN | apply Kd.R_drew)); exact HO_9.out) hb); have n3_ := Aside0.mk (Kd.R_below (by (with_reducible repeat (first | apply Kd.R_alloc | apply Kd.R_drewN | apply Kd.R_drew)); exact HO_10.out) hb); have n4_ := Aside0.mk (Kd.R_below (by (with_reducible repeat (first | apply Kd.R_alloc | apply Kd.R_drewN | apply Kd.R_drew)); exact HO_11.out) hb); have n5_ := Aside0.mk (Kd.R_below (by (with_reducible repeat (first | apply Kd.R_alloc | apply Kd.R_drewN | apply Kd.R_drew)); exact HO_76.out) hb); have n6_ := Aside0.mk (below_step (by repeat (first | (with_reducible first | exact HB.out | apply below_alloc | apply pw_below_drewN | apply below_drew1) | exact HB.out)) hb); clear HO_7; clear HO_8; clear HO_9; clear HO_10; clear HO_11; clear HO_76; clear HB; have HO_7 := n0_; have HO_8 := n1_; have HO_9 := n2_; have HO_10 := n3_; have HO_11 := n4_; have HO_76 := n5_; have HB := n6_; clear n0_ n1_ n2_ n3_ n4_ n5_ n6_; (try clear hb); (try clear hb2); (try clear hk); (try clear hi)) | ((with_reducible refine gate_callee (f := 24) rfl ?_); refine goesL_ (some 90) rfl rfl Try.func24 (by kernel_rfl) rfl #[.slice Ao16 t1981.length co16, .int .i64 (rd x14_2 x78_3)] rfl (by (try simp only [List.map_toArray, List.map_cons, List.map_nil]); first | done | rfl | (simp only [List.length_drop, List.length_take]; rfl)) ?_; (with_reducible refine (spans_Has.calls k3 _ _ t1981 (rd x14_2 x78_3) t2015 _ ?side1 ?side2 A51.out).mono ?_); (case side1 => repeat (first | exact (Kd.R_reads' HO_9.out).2.2 | (with_reducible refine Kd.C_alloc ?_ _) | (with_reducible refine Kd.C_drewN ?_ _) | (with_reducible refine Kd.C_drew ?_))); (case side2 => exact (Kd.R_reads' HO_9.out).2.1); clear A51; rintro e w60 ⟨rfl, hb⟩; refine ⟨_, rfl, ?_⟩; have n0_ := Aside0.mk (Kd.R_below (by (with_reducible repeat (first | apply Kd.R_alloc | apply Kd.R_drewN | apply Kd.R_drew)); exact HO_7.out) hb); have n1_ := Aside0.mk (Kd.R_below (by (with_reducible repeat (first | apply Kd.R_alloc | apply Kd.R_drewN | apply Kd.R_drew)); exact HO_8.out) hb); have n2_ := Aside0.mk (Kd.R_below (by (with_reducible repeat (first | apply Kd.R_alloc | apply Kd.R_drewN | apply Kd.R_drew)); exact HO_9.out) hb); have n3_ := Aside0.mk (Kd.R_below (by (with_reducible repeat (first | apply Kd.R_alloc | apply Kd.R_drewN | apply Kd.R_drew)); exact HO_10.out) hb); have n4_ := Aside0.mk (Kd.R_below (by (with_reducible repeat (first | apply Kd.R_alloc | apply Kd.R_drewN | apply Kd.R_drew)); exact HO_11.out) hb); have n5_ := Aside0.mk (Kd.R_below (by (with_reducible repeat (first | apply Kd.R_alloc | apply Kd.R_drewN | apply Kd.R_drew)); exact HO_76.out) hb); have n6_ := Aside0.mk (below_step (by repeat (first | (with_reducible first | exact HB.out | apply below_alloc | apply pw_below_drewN | apply below_drew1) | exact HB.out)) hb); clear HO_7; clear HO_8; clear HO_9; clear HO_10; clear HO_11; clear HO_76; clear HB; have HO_7 := n0_; have HO_8 := n1_; have HO_9 := n2_; have HO_10 := n3_; have HO_11 := n4_; have HO_76 := n5_; have HB := n6_; clear n0_ n1_ n2_ n3_ n4_ n5_ n6_; (try clear hb); (try clear hb2); (try clear hk); (try clear hi)) | (go_at_call 24; (with_reducible refine (spans_Has.calls k3 _ _ t1984 (rd x14_2 x78_3) t2016 _ ?side1 ?side2 A54.out).mono ?_); (case side1 => repeat (first | exact (Kd.R_reads' HO_10.out).2.2 | (with_reducible refine Kd.C_alloc ?_ _) | (with_reducible refine Kd.C_drewN ?_ _) | (with_reducible refine Kd.C_drew ?_))); (case side2 => exact (Kd.R_reads' HO_10.out).2.1); clear A54; rintro e w61 ⟨rfl, hb⟩; have n0_ := Aside0.mk (Kd.R_below (by (with_reducible repeat (first | apply Kd.R_alloc | apply Kd.R_drewN | apply Kd.R_drew)); exact HO_7.out) hb); have n1_ := Aside0.mk (Kd.R_below (by (with_reducible repeat (first | apply Kd.R_alloc | apply Kd.R_drewN | apply Kd.R_drew)); exact HO_8.out) hb); have n2_ := Aside0.mk (Kd.R_below (by (with_reducible repeat (first | apply Kd.R_alloc | apply Kd.R_drewN | apply Kd.R_drew)); exact HO_9.out) hb); have n3_ := Aside0.mk (Kd.R_below (by (with_reducible repeat (first | apply Kd.R_alloc | apply Kd.R_drewN | apply Kd.R_drew)); exact HO_10.out) hb); have n4_ := Aside0.mk (Kd.R_below (by (with_reducible repeat (first | apply Kd.R_alloc | apply Kd.R_drewN | apply Kd.R_drew)); exact HO_11.out) hb); have n5_ := Aside0.mk (Kd.R_below (by (with_reducible repeat (first | apply Kd.R_alloc | apply Kd.R_drewN | apply Kd.R_drew)); exact HO_76.out) hb); have n6_ := Aside0.mk (below_step (by repeat (first | (with_reducible first | exact HB.out | apply below_alloc | apply pw_below_drewN | apply below_drew1) | exact HB.out)) hb); clear HO_7; clear HO_8; clear HO_9; clear HO_10; clear HO_11; clear HO_76; clear HB; have HO_7 := n0_; have HO_8 := n1_; have HO_9 := n2_; have HO_10 := n3_; have HO_11 := n4_; have HO_76 := n5_; have HB := n6_; clear n0_ n1_ n2_ n3_ n4_ n5_ n6_; (try clear hb); (try clear hb2); (try clear hk); (try clear hi)) | (go_at_call 24; (with_reducible refine (spans_Has.calls k3 _ _ t1987 (rd x14_2 x78_3) t2017 _ ?side1 ?side2 A56.out).mono ?_); (case side1 => repeat (first | exact (Kd.R_reads' HO_11.out).2.2 | (with_reducible refine Kd.C_alloc ?_ _) | (with_reducible refine Kd.C_drewN ?_ _) | (with_reducible refine Kd.C_drew ?_))); (case side2 => exact (Kd.R_reads' HO_11.out).2.1); clear A56; rintro e w62 ⟨rfl, hb⟩; have n0_ := Aside0.mk (Kd.R_below (by (with_reducible repeat (first | apply Kd.R_alloc | apply Kd.R_drewN | apply Kd.R_drew)); exact HO_7.out) hb); have n1_ := Aside0.mk (Kd.R_below (by (with_reducible repeat (first | apply Kd.R_alloc | apply Kd.R_drewN | apply Kd.R_drew)); exact HO_8.out) hb); have n2_ := Aside0.mk (Kd.R_below (by (with_reducible repeat (first | apply Kd.R_alloc | apply Kd.R_drewN | apply Kd.R_drew)); exact HO_9.out) hb); have n3_ := Aside0.mk (Kd.R_below (by (with_reducible repeat (first | apply Kd.R_alloc | apply Kd.R_drewN | apply Kd.R_drew)); exact HO_10.out) hb); have n4_ := Aside0.mk (Kd.R_below (by (with_reducible repeat (first | apply Kd.R_alloc | apply Kd.R_drewN | apply Kd.R_drew)); exact HO_11.out) hb); have n5_ := Aside0.mk (Kd.R_below (by (with_reducible repeat (first | apply Kd.R_alloc | apply Kd.R_drewN | apply Kd.R_drew)); exact HO_76.out) hb); have n6_ := Aside0.mk (below_step (by repeat (first | (with_reducible first | exact HB.out | apply below_alloc | apply pw_below_drewN | apply below_drew1) | exact HB.out)) hb); clear HO_7; clear HO_8; clear HO_9; clear HO_10; clear HO_11; clear HO_76; clear HB; have HO_7 := n0_; have HO_8 := n1_; have HO_9 := n2_; have HO_10 := n3_; have HO_11 := n4_; have HO_76 := n5_; have HB := n6_; clear n0_ n1_ n2_ n3_ n4_ n5_ n6_; (try clear hb); (try clear hb2); (try clear hk); (try clear hi)))
                 go_roundg k3
                 case measure => have := HK1.out; have := HK2.out; have := HK3.out; omega
                 case rel => exact ⟨(wrap64 (x78_3 + 1)), (by first | rfl | (simp; done) | (simp [*]; done)), H', ⟨by have := HK1.out; have := HK2.out; have := HK3.out; omega⟩, ⟨by (with_reducible repeat (first | apply Kd.R_alloc | apply Kd.R_drewN | apply Kd.R_drew)); exact HO_7.out⟩, ⟨by (with_reducible repeat (first | apply Kd.R_alloc | apply Kd.R_drewN | apply Kd.R_drew)); exact HO_8.out⟩, ⟨by (with_reducible repeat (first | apply Kd.R_alloc | apply Kd.R_drewN | apply Kd.R_drew)); exact HO_9.out⟩, ⟨by (with_reducible repeat (first | apply Kd.R_alloc | apply Kd.R_drewN | apply Kd.R_drew)); exact HO_10.out⟩, ⟨by (with_reducible repeat (first | apply Kd.R_alloc | apply Kd.R_drewN | apply Kd.R_drew)); exact HO_11.out⟩, ⟨by (with_reducible repeat (first | apply Kd.R_alloc | apply Kd.R_drewN | apply Kd.R_drew)); exact HO_76.out⟩, ⟨by repeat (first | (with_reducible first | exact HB.out | apply below_alloc | apply pw_below_drewN | apply below_drew1) | exact HB.out)⟩⟩
             ·
              replace c52 := Bool.eq_false_iff.mpr c52
              subst c52
              have H1 : (if (t2015 != t2014) = true then (none) else ((spans_Has.f k3 t1984 (rd x14_2 x78_3)).bind fun t2018 => (if (t2018 != false) = true then (none) else ((spans_Has.f k3 t1987 (rd x14_2 x78_3)).bind fun t2019 => (if (t2019 != false) = true then (none) else (epactlaw02_SpansTicks.l2 k3 t1975 t1978 t1981 t1984 t1987 x14_2 (x14_2.length : Int) (wrap64 (x78_3 + 1)))))))) = some r := by rw [if_neg (show ¬ (false = true) by decide)] at H; exact H
              clear H
              have H := H1
              clear H1
              by_cases c63 : (t2015 != t2014) = true
              ·
               rw [if_pos c63] at H
               exact absurd H (by simp)
              ·
               rw [if_neg c63] at H
               have c63b0 : (t2015 != t2014) = false := by simpa using c63
               (try (have c63b1 : decide (t2015 = t2014) = true := by simpa using c63))
               (try (have c63b2 : (t2015 == t2014) = true := by simpa using c63))
               clear c63
               replace H := Option.bind_eq_some_iff.mp H
               obtain ⟨t2018, A640, H⟩ := H
               replace H : (if (t2018 != false) = true then (none) else ((spans_Has.f k3 t1987 (rd x14_2 x78_3)).bind fun t2019 => (if (t2019 != false) = true then (none) else (epactlaw02_SpansTicks.l2 k3 t1975 t1978 t1981 t1984 t1987 x14_2 (x14_2.length : Int) (wrap64 (x78_3 + 1)))))) = some r := H
               have A64 := Aside0.mk A640
               clear A640
               by_cases c65 : (t2018 != false) = true
               ·
                rw [if_pos c65] at H
                exact absurd H (by simp)
               ·
                rw [if_neg c65] at H
                have c65b0 : (t2018 != false) = false := by simpa using c65
                (try (have c65b1 : decide (t2018 = false) = true := by simpa using c65))
                (try (have c65b2 : (t2018 == false) = true := by simpa using c65))
                clear c65
                replace H := Option.bind_eq_some_iff.mp H
                obtain ⟨t2019, A660, H⟩ := H
                replace H : (if (t2019 != false) = true then (none) else (epactlaw02_SpansTicks.l2 k3 t1975 t1978 t1981 t1984 t1987 x14_2 (x14_2.length : Int) (wrap64 (x78_3 + 1)))) = some r := H
                have A66 := Aside0.mk A660
                clear A660
                by_cases c67 : (t2019 != false) = true
                ·
                 rw [if_pos c67] at H
                 exact absurd H (by simp)
                ·
                 rw [if_neg c67] at H
                 have c67b0 : (t2019 != false) = false := by simpa using c67
                 (try (have c67b1 : decide (t2019 = false) = true := by simpa using c67))
                 (try (have c67b2 : (t2019 == false) = true := by simpa using c67))
                 clear c67
                 have H' := Aside0.mk H
                 clear H
                 have p2012 : 0 ≤ (x78_3 : Int) := of_decide_eq_true (by first | (with_reducible assumption) | assumption)
                 have q2012 : x78_3 < (x14_2.length : Int) := of_decide_eq_true (by first | (with_reducible assumption) | assumption)
                 obtain ⟨ad2012, e2012, hx2012_0⟩ := Kd.at_int (Kd.R_reads' HO_76.out).2.2 x78_3 p2012 q2012
                 cases e2012
                 replace p2012 := eq_true p2012
                 replace q2012 := eq_true q2012
                 go_wp2_with (first | ((with_reducible refine gate_callee (f := 24) rfl ?_); refine goesL_ (some 84) rfl rfl Try.func24 (by kernel_rfl) rfl #[.slice Ao11 t1975.length co11, .int .i64 (rd x14_2 x78_3)] rfl (by (try simp only [List.map_toArray, List.map_cons, List.map_nil]); first | done | rfl | (simp only [List.length_drop, List.length_take]; rfl)) ?_; (with_reducible refine (spans_Has.calls k3 _ _ t1975 (rd x14_2 x78_3) false _ ?side1 ?side2 A49.out).mono ?_); (case side1 => repeat (first | exact (Kd.R_reads' HO_7.out).2.2 | (with_reducible refine Kd.C_alloc ?_ _) | (with_reducible refine Kd.C_drewN ?_ _) | (with_reducible refine Kd.C_drew ?_))); (case side2 => exact (Kd.R_reads' HO_7.out).2.1); clear A49; rintro e w68 ⟨rfl, hb⟩; refine ⟨_, rfl, ?_⟩; have n0_ := Aside0.mk (Kd.R_below (by (with_reducible repeat (first | apply Kd.R_alloc | apply Kd.R_drewN | apply Kd.R_drew)); exact HO_7.out) hb); have n1_ := Aside0.mk (Kd.R_below (by (with_reducible repeat (first | apply Kd.R_alloc | apply Kd.R_drewN | apply Kd.R_drew)); exact HO_8.out) hb); have n2_ := Aside0.mk (Kd.R_below (by (with_reducible repeat (first | apply Kd.R_alloc | apply Kd.R_drewN | apply Kd.R_drew)); exact HO_9.out) hb); have n3_ := Aside0.mk (Kd.R_below (by (with_reducible repeat (first | apply Kd.R_alloc | apply Kd.R_drewN | apply Kd.R_drew)); exact HO_10.out) hb); have n4_ := Aside0.mk (Kd.R_below (by (with_reducible repeat (first | apply Kd.R_alloc | apply Kd.R_drewN | apply Kd.R_drew)); exact HO_11.out) hb); have n5_ := Aside0.mk (Kd.R_below (by (with_reducible repeat (first | apply Kd.R_alloc | apply Kd.R_drewN | apply Kd.R_drew)); exact HO_76.out) hb); have n6_ := Aside0.mk (below_step (by repeat (first | (with_reducible first | exact HB.out | apply below_alloc | apply pw_below_drewN | apply below_drew1) | exact HB.out)) hb); clear HO_7; clear HO_8; clear HO_9; clear HO_10; clear HO_11; clear HO_76; clear HB; have HO_7 := n0_; have HO_8 := n1_; have HO_9 := n2_; have HO_10 := n3_; have HO_11 := n4_; have HO_76 := n5_; have HB := n6_; clear n0_ n1_ n2_ n3_ n4_ n5_ n6_; (try clear hb); (try clear hb2); (try clear hk); (try clear hi)) | ((with_reducible refine gate_callee (f := 24) rfl ?_); refine goesL_ (some 87) rfl rfl Try.func24 (by kernel_rfl) rfl #[.slice Ao12 t1978.length co12, .int .i64 (rd x14_2 x78_3)] rfl (by (try simp only [List.map_toArray, List.map_cons, List.map_nil]); first | done | rfl | (simp only [List.length_drop, List.length_take]; rfl)) ?_; (with_reducible refine (spans_Has.calls k3 _ _ t1978 (rd x14_2 x78_3) t2014 _ ?side1 ?side2 A50.out).mono ?_); (case side1 => repeat (first | exact (Kd.R_reads' HO_8.out).2.2 | (with_reducible refine Kd.C_alloc ?_ _) | (with_reducible refine Kd.C_drewN ?_ _) | (with_reducible refine Kd.C_drew ?_))); (case side2 => exact (Kd.R_reads' HO_8.out).2.1); clear A50; rintro e w69 ⟨rfl, hb⟩; refine ⟨_, rfl, ?_⟩; have n0_ := Aside0.mk (Kd.R_below (by (with_reducible repeat (first | apply Kd.R_alloc | apply Kd.R_drewN | apply Kd.R_drew)); exact HO_7.out) hb); have n1_ := Aside0.mk (Kd.R_below (by (with_reducible repeat (first | apply Kd.R_alloc | apply Kd.R_drewN | apply Kd.R_drew)); exact HO_8.out) hb); have n2_ := Aside0.mk (Kd.R_below (by (with_reducible repeat (first | apply Kd.R_alloc | apply Kd.R_drewN | apply Kd.R_drew)); exact HO_9.out) hb); have n3_ := Aside0.mk (Kd.R_below (by (with_reducible repeat (first | apply Kd.R_alloc | apply Kd.R_drewN | apply Kd.R_drew)); exact HO_10.out) hb); have n4_ := Aside0.mk (Kd.R_below (by (with_reducible repeat (first | apply Kd.R_alloc | apply Kd.R_drewN | apply Kd.R_drew)); exact HO_11.out) hb); have n5_ := Aside0.mk (Kd.R_below (by (with_reducible repeat (first | apply Kd.R_alloc | apply Kd.R_drewN | apply Kd.R_drew)); exact HO_76.out) hb); have n6_ := Aside0.mk (below_step (by repeat (first | (with_reducible first | exact HB.out | apply below_alloc | apply pw_below_drewN | apply below_drew1) | exact HB.out)) hb); clear HO_7; clear HO_8; clear HO_9; clear HO_10; clear HO_11; clear HO_76; clear HB; have HO_7 := n0_; have HO_8 := n1_; have HO_9 := n2_; have HO_10 := n3_; have HO_11 := n4_; have HO_76 := n5_; have HB := n6_; clear n0_ n1_ n2_ n3_ n4_ n5_ n6_; (try clear hb); (try clear hb2); (try clear hk); (try clear hi)) | ((with_reducible refine gate_callee (f := 24) rfl ?_); refine goesL_ (some 90) rfl rfl Try.func24 (by kernel_rfl) rfl #[.slice Ao16 t1981.length co16, .int .i64 (rd x14_2 x78_3)] rfl (by (try simp only [List.map_toArray, List.map_cons, List.map_nil]); first | done | rfl | (simp only [List.length_drop, List.length_take]; rfl)) ?_; (with_reducible refine (spans_Has.calls k3 _ _ t1981 (rd x14_2 x78_3) t2015 _ ?side1 ?side2 A51.out).mono ?_); (case side1 => repeat (first | exact (Kd.R_reads' HO_9.out).2.2 | (with_reducible refine Kd.C_alloc ?_ _) | (with_reducible refine Kd.C_drewN ?_ _) | (with_reducible refine Kd.C_drew ?_))); (case side2 => exact (Kd.R_reads' HO_9.out).2.1); clear A51; rintro e w70 ⟨rfl, hb⟩; refine ⟨_, rfl, ?_⟩; have n0_ := Aside0.mk (Kd.R_below (by (with_reducible repeat (first | apply Kd.R_alloc | apply Kd.R_drewN | apply Kd.R_drew)); exact HO_7.out) hb); have n1_ := Aside0.mk (Kd.R_below (by (with_reducible repeat (first | apply Kd.R_alloc | apply Kd.R_drewN | apply Kd.R_drew)); exact HO_8.out) hb); have n2_ := Aside0.mk (Kd.R_below (by (with_reducible repeat (first | apply Kd.R_alloc | apply Kd.R_drewN | apply Kd.R_drew)); exact HO_9.out) hb); have n3_ := Aside0.mk (Kd.R_below (by (with_reducible repeat (first | apply Kd.R_alloc | apply Kd.R_drewN | apply Kd.R_drew)); exact HO_10.out) hb); have n4_ := Aside0.mk (Kd.R_below (by (with_reducible repeat (first | apply Kd.R_alloc | apply Kd.R_drewN | apply Kd.R_drew)); exact HO_11.out) hb); have n5_ := Aside0.mk (Kd.R_below (by (with_reducible repeat (first | apply Kd.R_alloc | apply Kd.R_drewN | apply Kd.R_drew)); exact HO_76.out) hb); have n6_ := Aside0.mk (below_step (by repeat (first | (with_reducible first | exact HB.out | apply below_alloc | apply pw_below_drewN | apply below_drew1) | exact HB.out)) hb); clear HO_7; clear HO_8; clear HO_9; clear HO_10; clear HO_11; clear HO_76; clear HB; have HO_7 := n0_; have HO_8 := n1_; have HO_9 := n2_; have HO_10 := n3_; have HO_11 := n4_; have HO_76 := n5_; have HB := n6_; clear n0_ n1_ n2_ n3_ n4_ n5_ n6_; (try clear hb); (try clear hb2); (try clear hk); (try clear hi)) | (go_at_call 24; (with_reducible refine (spans_Has.calls k3 _ _ t1984 (rd x14_2 x78_3) t2018 _ ?side1 ?side2 A64.out).mono ?_); (case side1 => repeat (first | exact (Kd.R_reads' HO_10.out).2.2 | (with_reducible refine Kd.C_alloc ?_ _) | (with_reducible refine Kd.C_drewN ?_ _) | (with_reducible refine Kd.C_drew ?_))); (case side2 => exact (Kd.R_reads' HO_10.out).2.1); clear A64; rintro e w71 ⟨rfl, hb⟩; have n0_ := Aside0.mk (Kd.R_below (by (with_reducible repeat (first | apply Kd.R_alloc | apply Kd.R_drewN | apply Kd.R_drew)); exact HO_7.out) hb); have n1_ := Aside0.mk (Kd.R_below (by (with_reducible repeat (first | apply Kd.R_alloc | apply Kd.R_drewN | apply Kd.R_drew)); exact HO_8.out) hb); have n2_ := Aside0.mk (Kd.R_below (by (with_reducible repeat (first | apply Kd.R_alloc | apply Kd.R_drewN | apply Kd.R_drew)); exact HO_9.out) hb); have n3_ := Aside0.mk (Kd.R_below (by (with_reducible repeat (first | apply Kd.R_alloc | apply Kd.R_drewN | apply Kd.R_drew)); exact HO_10.out) hb); have n4_ := Aside0.mk (Kd.R_below (by (with_reducible repeat (first | apply Kd.R_alloc | apply Kd.R_drewN | apply Kd.R_drew)); exact HO_11.out) hb); have n5_ := Aside0.mk (Kd.R_below (by (with_reducible repeat (first | apply Kd.R_alloc | apply Kd.R_drewN | apply Kd.R_drew)); exact HO_76.out) hb); have n6_ := Aside0.mk (below_step (by repeat (first | (with_reducible first | exact HB.out | apply below_alloc | apply pw_below_drewN | apply below_drew1) | exact HB.out)) hb); clear HO_7; clear HO_8; clear HO_9; clear HO_10; clear HO_11; clear HO_76; clear HB; have HO_7 := n0_; have HO_8 := n1_; have HO_9 := n2_; have HO_10 := n3_; have HO_11 := n4_; have HO_76 := n5_; have HB := n6_; clear n0_ n1_ n2_ n3_ n4_ n5_ n6_; (try clear hb); (try clear hb2); (try clear hk); (try clear hi)) | (go_at_call 24; (with_reducible refine (spans_Has.calls k3 _ _ t1987 (rd x14_2 x78_3) t2019 _ ?side1 ?side2 A66.out).mono ?_); (case side1 => repeat (first | exact (Kd.R_reads' HO_11.out).2.2 | (with_reducible refine Kd.C_alloc ?_ _) | (with_reducible refine Kd.C_drewN ?_ _) | (with_reducible refine Kd.C_drew ?_))); (case side2 => exact (Kd.R_reads' HO_11.out).2.1); clear A66; rintro e w72 ⟨rfl, hb⟩; have n0_ := Aside0.mk (Kd.R_below (by (with_reducible repeat (first | apply Kd.R_alloc | apply Kd.R_drewN | apply Kd.R_drew)); exact HO_7.out) hb); have n1_ := Aside0.mk (Kd.R_below (by (with_reducible repeat (first | apply Kd.R_alloc | apply Kd.R_drewN | apply Kd.R_drew)); exact HO_8.out) hb); have n2_ := Aside0.mk (Kd.R_below (by (with_reducible repeat (first | apply Kd.R_alloc | apply Kd.R_drewN | apply Kd.R_drew)); exact HO_9.out) hb); have n3_ := Aside0.mk (Kd.R_below (by (with_reducible repeat (first | apply Kd.R_alloc | apply Kd.R_drewN | apply Kd.R_drew)); exact HO_10.out) hb); have n4_ := Aside0.mk (Kd.R_below (by (with_reducible repeat (first | apply Kd.R_alloc | apply Kd.R_drewN | apply Kd.R_drew)); exact HO_11.out) hb); have n5_ := Aside0.mk (Kd.R_below (by (with_reducible repeat (first | apply Kd.R_alloc | apply Kd.R_drewN | apply Kd.R_drew)); exact HO_76.out) hb); have n6_ := Aside0.mk (below_step (by repeat (first | (with_reducible first | exact HB.out | apply below_alloc | apply pw_below_drewN | apply below_drew1) | exact HB.out)) hb); clear HO_7; clear HO_8; clear HO_9; clear HO_10; clear HO_11; clear HO_76; clear HB; have HO_7 := n0_; have HO_8 := n1_; have HO_9 := n2_; have HO_10 := n3_; have HO_11 := n4_; have HO_76 := n5_; have HB := n6_; clear n0_ n1_ n2_ n3_ n4_ n5_ n6_; (try clear hb); (try clear hb2); (try clear hk); (try clear hi)))
                 go_roundg k3
                 case measure => have := HK1.out; have := HK2.out; have := HK3.out; omega
                 case rel => exact ⟨(wrap64 (x78_3 + 1)), (by first | rfl | (simp; done) | (simp [*]; done)), H', ⟨by have := HK1.out; have := HK2.out; have := HK3.out; omega⟩, ⟨by (with_reducible repeat (first | apply Kd.R_alloc | apply Kd.R_drewN | apply Kd.R_drew)); exact HO_7.out⟩, ⟨by (with_reducible repeat (first | apply Kd.R_alloc | apply Kd.R_drewN | apply Kd.R_drew)); exact HO_8.out⟩, ⟨by (with_reducible repeat (first | apply Kd.R_alloc | apply Kd.R_drewN | apply Kd.R_drew)); exact HO_9.out⟩, ⟨by (with_reducible repeat (first | apply Kd.R_alloc | apply Kd.R_drewN | apply Kd.R_drew)); exact HO_10.out⟩, ⟨by (with_reducible repeat (first | apply Kd.R_alloc | apply Kd.R_drewN | apply Kd.R_drew)); exact HO_11.out⟩, ⟨by (with_reducible repeat (first | apply Kd.R_alloc | apply Kd.R_drewN | apply Kd.R_drew)); exact HO_76.out⟩, ⟨by repeat (first | (with_reducible first | exact HB.out | apply below_alloc | apply pw_below_drewN | apply below_drew1) | exact HB.out)⟩⟩
            ·
             rw [if_neg c48] at H
             exact absurd H (by simp)
           ·
            rw [if_neg c47] at H
            exact absurd H (by simp)
          ·
           rw [if_neg c46] at H
           have c46b0 : decide (x78_3 < (x14_2.length : Int)) = false := decide_eq_false c46
           clear c46
           replace H := Option.bind_eq_some_iff.mp H
           obtain ⟨t2020, A730, H⟩ := H
           replace H : (if t2020.length + t1984.length < 8796093022208 then ((spans_Make.f k3 (t2020 ++ t1984)).bind fun bt2026 => (if bt2026.2 = 0 then ((spans_Same.f k3 bt2026.1 t1975).bind fun t2030 => (if t2030 = true then ((epactlaw02_awake.f k3).bind fun t2031 => (some t2031)) else (none))) else (none))) else (none)) = some r := H
           have A73 := Aside0.mk A730
           clear A730
           by_cases c74 : t2020.length + t1984.length < 8796093022208
           ·
            rw [if_pos c74] at H
            have LMc74 := Aside0.mk c74
            clear c74
            obtain ⟨y2023, hy2023⟩ : ∃ y_ : List (S23), y_ = (t2020 ++ t1984) := ⟨_, rfl⟩
            replace H : ((spans_Make.f k3 y2023).bind fun bt2026 => (if bt2026.2 = 0 then ((spans_Same.f k3 bt2026.1 t1975).bind fun t2030 => (if t2030 = true then ((epactlaw02_awake.f k3).bind fun t2031 => (some t2031)) else (none))) else (none))) = some r := by first | (rw [hy2023]; with_reducible exact H) | (have H2_ := (Option.bind_some _ _).symm.trans H; rw [hy2023]; with_reducible exact H2_) | (have H2_ := (Option.bind_some _ _).symm.trans H; with_reducible exact H2_) | with_reducible exact H | (rw [hy2023]; exact H) | exact H
            have Ny2023 := Aside0.mk hy2023
            clear hy2023
            replace H := Option.bind_eq_some_iff.mp H
            obtain ⟨⟨t2026, t2027⟩, A750, H⟩ := H
            replace H : (if t2027 = 0 then ((spans_Same.f k3 t2026 t1975).bind fun t2030 => (if t2030 = true then ((epactlaw02_awake.f k3).bind fun t2031 => (some t2031)) else (none))) else (none)) = some r := H
            have A75 := Aside0.mk A750
            clear A750
            by_cases c76 : t2027 = 0
            ·
             rw [if_pos c76] at H
             have c76b0 : (t2027 == 0) = true := beq_iff_eq.mpr c76
             have c76b1 : (t2027 != 0) = false := bne_eq_false_iff_eq.mpr c76
             clear c76
             replace H := Option.bind_eq_some_iff.mp H
             obtain ⟨t2030, A770, H⟩ := H
             replace H : (if t2030 = true then ((epactlaw02_awake.f k3).bind fun t2031 => (some t2031)) else (none)) = some r := H
             have A77 := Aside0.mk A770
             clear A770
             by_cases c78 : t2030 = true
             ·
              subst c78
              have H1 : ((epactlaw02_awake.f k3).bind fun t2031 => (some t2031)) = some r := by rw [if_pos rfl] at H; exact H
              clear H
              have H := H1
              clear H1
              replace H := Option.bind_eq_some_iff.mp H
              obtain ⟨t2031, A790, H⟩ := H
              replace H : (some t2031) = some r := H
              have A79 := Aside0.mk A790
              clear A790
              obtain rfl := Option.some.inj H
              go_wp2_with (first | ((with_reducible refine gate_callee (f := 27) rfl ?_); refine goesL_ (some 120) rfl rfl Try.func27 (by kernel_rfl) rfl #[.slice Ao18 t1987.length co18] rfl (by (try simp only [List.map_toArray, List.map_cons, List.map_nil]); first | done | rfl | (simp only [List.length_drop, List.length_take]; rfl)) ?_; (with_reducible refine (epactlow_Anew.calls _ _ t1987 t2020 _ ?side1 ?side2 A73.out).mono ?_); (case side1 => repeat (first | exact (Kd.R_reads' HO_11.out).2.2 | (with_reducible refine Kd.C_alloc ?_ _) | (with_reducible refine Kd.C_drewN ?_ _) | (with_reducible refine Kd.C_drew ?_))); (case side2 => exact (Kd.R_reads' HO_11.out).2.1); clear A73; rintro e w80 ⟨v2021, rfl, ho0, hb⟩; refine ⟨_, rfl, ?_⟩; have n0_ := Aside0.mk (Kd.R_elder' (by (with_reducible repeat (first | apply Kd.R_alloc | apply Kd.R_drewN | apply Kd.R_drew)); exact HO_7.out) (Kd.R_base ho0) hb); have n1_ := Aside0.mk (Kd.R_elder' (by (with_reducible repeat (first | apply Kd.R_alloc | apply Kd.R_drewN | apply Kd.R_drew)); exact HO_8.out) (Kd.R_base ho0) hb); have n2_ := Aside0.mk (Kd.R_elder' (by (with_reducible repeat (first | apply Kd.R_alloc | apply Kd.R_drewN | apply Kd.R_drew)); exact HO_9.out) (Kd.R_base ho0) hb); have n3_ := Aside0.mk (Kd.R_elder' (by (with_reducible repeat (first | apply Kd.R_alloc | apply Kd.R_drewN | apply Kd.R_drew)); exact HO_10.out) (Kd.R_base ho0) hb); have n4_ := Aside0.mk (Kd.R_elder' (by (with_reducible repeat (first | apply Kd.R_alloc | apply Kd.R_drewN | apply Kd.R_drew)); exact HO_11.out) (Kd.R_base ho0) hb); have n5_ := Aside0.mk (Kd.R_below (by (with_reducible repeat (first | apply Kd.R_alloc | apply Kd.R_drewN | apply Kd.R_drew)); exact HO_76.out) hb); have n6_ := Aside0.mk (Kd.R_lower (Kd.R_new' (Kd.R_new' (Kd.R_new' (Kd.R_new' (Kd.R_new' ho0 (Kd.R_lt (by (with_reducible repeat (first | apply Kd.R_alloc | apply Kd.R_drewN | apply Kd.R_drew)); exact HO_7.out))) (Kd.R_lt (by (with_reducible repeat (first | apply Kd.R_alloc | apply Kd.R_drewN | apply Kd.R_drew)); exact HO_8.out))) (Kd.R_lt (by (with_reducible repeat (first | apply Kd.R_alloc | apply Kd.R_drewN | apply Kd.R_drew)); exact HO_9.out))) (Kd.R_lt (by (with_reducible repeat (first | apply Kd.R_alloc | apply Kd.R_drewN | apply Kd.R_drew)); exact HO_10.out))) (Kd.R_lt (by (with_reducible repeat (first | apply Kd.R_alloc | apply Kd.R_drewN | apply Kd.R_drew)); exact HO_11.out))) (below_size (by repeat (first | (with_reducible first | exact HB.out | apply below_alloc | apply pw_below_drewN | apply below_drew1) | exact HB.out)))); have n7_ := Aside0.mk (below_step (by repeat (first | (with_reducible first | exact HB.out | apply below_alloc | apply pw_below_drewN | apply below_drew1) | exact HB.out)) hb); clear HO_7; clear HO_8; clear HO_9; clear HO_10; clear HO_11; clear HO_76; clear HB; have HO_7 := n0_; have HO_8 := n1_; have HO_9 := n2_; have HO_10 := n3_; have HO_11 := n4_; have HO_76 := n5_; have HO2022 := n6_; have HB := n7_; clear n0_ n1_ n2_ n3_ n4_ n5_ n6_ n7_; (try clear hb); (try clear hb2); (try clear hk); (try clear hi); (try clear ho0)) | ((with_reducible refine gate_builtin (b := .append) (xs := #[.tmp 120, .tmp 121]) rfl ?_); at_builtin; refine Kd.R_append_rows k23 (w0 := w) w.heap.size rfl (.tmp 120) (.tmp 121) 24 23 (.agg #[(.int .i64 0), (.int .i64 0)]) 16 rfl Try.underlying24 info23 rfl (by decide) (by omega) v2021 t2020 t1984 _ _ _ (fun k_ => some k_ ≠ (.slice Ao11 t1975.length co11 : Value).ownBlock ∧ some k_ ≠ (.slice Ao12 t1978.length co12 : Value).ownBlock ∧ some k_ ≠ (.slice Ao16 t1981.length co16 : Value).ownBlock ∧ some k_ ≠ (.slice Ao17 t1984.length co17 : Value).ownBlock ∧ some k_ ≠ (.slice Ao18 t1987.length co18 : Value).ownBlock) (fun _ => False) rfl rfl ?aO ?aR (fun _ _ h => h) (fun _ h => h.elim) ?aF ?aB ?aS ?aL ?_; (case aR => repeat (first | exact (Kd.R_reads' HO_10.out).2.2 | (with_reducible refine Kd.C_alloc ?_ _) | (with_reducible refine Kd.C_drewN ?_ _) | (with_reducible refine Kd.C_drew ?_))); (case aB => exact (by repeat (first | (with_reducible first | exact HB.out | apply below_alloc | apply pw_below_drewN | apply below_drew1) | exact HB.out))); (case aF => exact (fun k_ hk => ⟨Kd.fresh' (Kd.R_lt (by (with_reducible repeat (first | apply Kd.R_alloc | apply Kd.R_drewN | apply Kd.R_drew)); exact HO_7.out)) k_ hk, Kd.fresh' (Kd.R_lt (by (with_reducible repeat (first | apply Kd.R_alloc | apply Kd.R_drewN | apply Kd.R_drew)); exact HO_8.out)) k_ hk, Kd.fresh' (Kd.R_lt (by (with_reducible repeat (first | apply Kd.R_alloc | apply Kd.R_drewN | apply Kd.R_drew)); exact HO_9.out)) k_ hk, Kd.fresh' (Kd.R_lt (by (with_reducible repeat (first | apply Kd.R_alloc | apply Kd.R_drewN | apply Kd.R_drew)); exact HO_10.out)) k_ hk, Kd.fresh' (Kd.R_lt (by (with_reducible repeat (first | apply Kd.R_alloc | apply Kd.R_drewN | apply Kd.R_drew)); exact HO_11.out)) k_ hk⟩)); (case aO => exact (by (with_reducible repeat (first | apply Kd.R_alloc | apply Kd.R_drewN | apply Kd.R_drew)); exact Kd.R_mono HO2022.out (fun _ hk => ⟨hk.1.1.1.1.2, ⟨hk.1.1.1.2, ⟨hk.1.1.2, ⟨hk.1.2, hk.2⟩⟩⟩⟩))); (case aS => exact (below_size (by repeat (first | (with_reducible first | exact HB.out | apply below_alloc | apply pw_below_drewN | apply below_drew1) | exact HB.out)))); (case aL => have := LMc74.out; omega); intro v2024 w81 ho hb hg hat; rw [← Ny2023.out] at ho; have n0_ := Aside0.mk (Kd.R_after (ok := (fun _ => True)) (by (with_reducible repeat (first | apply Kd.R_alloc | apply Kd.R_drewN | apply Kd.R_drew)); exact HO_7.out) hg hat); have n1_ := Aside0.mk (Kd.R_after (ok := (fun _ => True)) (by (with_reducible repeat (first | apply Kd.R_alloc | apply Kd.R_drewN | apply Kd.R_drew)); exact HO_8.out) hg hat); have n2_ := Aside0.mk (Kd.R_after (ok := (fun _ => True)) (by (with_reducible repeat (first | apply Kd.R_alloc | apply Kd.R_drewN | apply Kd.R_drew)); exact HO_9.out) hg hat); have n3_ := Aside0.mk (Kd.R_after (ok := (fun _ => True)) (by (with_reducible repeat (first | apply Kd.R_alloc | apply Kd.R_drewN | apply Kd.R_drew)); exact HO_10.out) hg hat); have n4_ := Aside0.mk (Kd.R_after (ok := (fun _ => True)) (by (with_reducible repeat (first | apply Kd.R_alloc | apply Kd.R_drewN | apply Kd.R_drew)); exact HO_11.out) hg hat); have n5_ := Aside0.mk (Kd.R_over' (by (with_reducible repeat (first | apply Kd.R_alloc | apply Kd.R_drewN | apply Kd.R_drew)); exact HO_76.out) (Kd.R_typed (by (with_reducible repeat (first | apply Kd.R_alloc | apply Kd.R_drewN | apply Kd.R_drew)); exact HO2022.out)) (by decide) hg); have n6_ := Aside0.mk (hb); have n7_ := Aside0.mk (ho); clear HO_7; clear HO_8; clear HO_9; clear HO_10; clear HO_11; clear HO_76; clear HB; clear HO2022; have HO_7 := n0_; have HO_8 := n1_; have HO_9 := n2_; have HO_10 := n3_; have HO_11 := n4_; have HO_76 := n5_; have HB := n6_; have HO2025 := n7_; clear n0_ n1_ n2_ n3_ n4_ n5_ n6_ n7_; clear ho hb hg hat; obtain ⟨Ao82, co82, eo82⟩ := Kd.R_slice HO2025.out; subst eo82) | ((with_reducible refine gate_callee (f := 28) rfl ?_); refine goesL_ (some 123) rfl rfl Try.func28 (by kernel_rfl) rfl #[.slice Ao82 y2023.length co82] rfl (by (try simp only [List.map_toArray, List.map_cons, List.map_nil]); first | done | rfl | (simp only [List.length_drop, List.length_take]; rfl)) ?_; (with_reducible refine (spans_Make.calls k3 _ _ y2023 t2026 t2027 _ ?side1 ?side2 A75.out).mono ?_); (case side1 => repeat (first | exact (Kd.R_reads' HO2025.out).2.2 | (with_reducible refine Kd.C_alloc ?_ _) | (with_reducible refine Kd.C_drewN ?_ _) | (with_reducible refine Kd.C_drew ?_))); (case side2 => exact (Kd.R_reads' HO2025.out).2.1); clear A75; rintro e w83 ⟨v2028, rfl, ho0, hb⟩; refine ⟨_, rfl, ?_⟩; have n0_ := Aside0.mk (Kd.R_elder' (by (with_reducible repeat (first | apply Kd.R_alloc | apply Kd.R_drewN | apply Kd.R_drew)); exact HO_7.out) (Kd.R_base ho0) hb); have n1_ := Aside0.mk (Kd.R_elder' (by (with_reducible repeat (first | apply Kd.R_alloc | apply Kd.R_drewN | apply Kd.R_drew)); exact HO_8.out) (Kd.R_base ho0) hb); have n2_ := Aside0.mk (Kd.R_elder' (by (with_reducible repeat (first | apply Kd.R_alloc | apply Kd.R_drewN | apply Kd.R_drew)); exact HO_9.out) (Kd.R_base ho0) hb); have n3_ := Aside0.mk (Kd.R_elder' (by (with_reducible repeat (first | apply Kd.R_alloc | apply Kd.R_drewN | apply Kd.R_drew)); exact HO_10.out) (Kd.R_base ho0) hb); have n4_ := Aside0.mk (Kd.R_elder' (by (with_reducible repeat (first | apply Kd.R_alloc | apply Kd.R_drewN | apply Kd.R_drew)); exact HO_11.out) (Kd.R_base ho0) hb); have n5_ := Aside0.mk (Kd.R_below (by (with_reducible repeat (first | apply Kd.R_alloc | apply Kd.R_drewN | apply Kd.R_drew)); exact HO_76.out) hb); have n6_ := Aside0.mk (Kd.R_elder' (by (with_reducible repeat (first | apply Kd.R_alloc | apply Kd.R_drewN | apply Kd.R_drew)); exact HO2025.out) (Kd.R_base ho0) hb); have n7_ := Aside0.mk (Kd.R_lower (Kd.R_new' (Kd.R_new' (Kd.R_new' (Kd.R_new' (Kd.R_new' (Kd.R_new' ho0 (Kd.R_lt (by (with_reducible repeat (first | apply Kd.R_alloc | apply Kd.R_drewN | apply Kd.R_drew)); exact HO_7.out))) (Kd.R_lt (by (with_reducible repeat (first | apply Kd.R_alloc | apply Kd.R_drewN | apply Kd.R_drew)); exact HO_8.out))) (Kd.R_lt (by (with_reducible repeat (first | apply Kd.R_alloc | apply Kd.R_drewN | apply Kd.R_drew)); exact HO_9.out))) (Kd.R_lt (by (with_reducible repeat (first | apply Kd.R_alloc | apply Kd.R_drewN | apply Kd.R_drew)); exact HO_10.out))) (Kd.R_lt (by (with_reducible repeat (first | apply Kd.R_alloc | apply Kd.R_drewN | apply Kd.R_drew)); exact HO_11.out))) (Kd.R_lt (by (with_reducible repeat (first | apply Kd.R_alloc | apply Kd.R_drewN | apply Kd.R_drew)); exact HO2025.out))) (below_size (by repeat (first | (with_reducible first | exact HB.out | apply below_alloc | apply pw_below_drewN | apply below_drew1) | exact HB.out)))); have n8_ := Aside0.mk (below_step (by repeat (first | (with_reducible first | exact HB.out | apply below_alloc | apply pw_below_drewN | apply below_drew1) | exact HB.out)) hb); clear HO_7; clear HO_8; clear HO_9; clear HO_10; clear HO_11; clear HO_76; clear HO2025; clear HB; have HO_7 := n0_; have HO_8 := n1_; have HO_9 := n2_; have HO_10 := n3_; have HO_11 := n4_; have HO_76 := n5_; have HO2025 := n6_; have HO2029 := n7_; have HB := n8_; clear n0_ n1_ n2_ n3_ n4_ n5_ n6_ n7_ n8_; (try clear hb); (try clear hb2); (try clear hk); (try clear hi); (try clear ho0); obtain ⟨Ao84, co84, eo84⟩ := Kd.R_slice HO2029.out; subst eo84) | (go_at_call 34; (with_reducible refine (spans_Same.calls k3 _ _ t2026 _ _ t1975 true _ ?side1 ?side2 ?side3 ?side4 A77.out).mono ?_); (case side1 => repeat (first | exact (Kd.R_reads' HO2029.out).2.2 | (with_reducible refine Kd.C_alloc ?_ _) | (with_reducible refine Kd.C_drewN ?_ _) | (with_reducible refine Kd.C_drew ?_))); (case side2 => exact (Kd.R_reads' HO2029.out).2.1); (case side3 => repeat (first | exact (Kd.R_reads' HO_7.out).2.2 | (with_reducible refine Kd.C_alloc ?_ _) | (with_reducible refine Kd.C_drewN ?_ _) | (with_reducible refine Kd.C_drew ?_))); (case side4 => exact (Kd.R_reads' HO_7.out).2.1); clear A77; rintro e w' ⟨rfl, ⟨nd, rfl⟩⟩) | (go_at_call 26; (with_reducible refine (epactlaw02_awake.calls k3  t2031 _ A79.out).mono ?_); clear A79; rintro e w85 ⟨rfl, hb⟩; have n0_ := Aside0.mk (Kd.R_below (by (with_reducible repeat (first | apply Kd.R_alloc | apply Kd.R_drewN | apply Kd.R_drew)); exact HO_7.out) hb); have n1_ := Aside0.mk (Kd.R_below (by (with_reducible repeat (first | apply Kd.R_alloc | apply Kd.R_drewN | apply Kd.R_drew)); exact HO_8.out) hb); have n2_ := Aside0.mk (Kd.R_below (by (with_reducible repeat (first | apply Kd.R_alloc | apply Kd.R_drewN | apply Kd.R_drew)); exact HO_9.out) hb); have n3_ := Aside0.mk (Kd.R_below (by (with_reducible repeat (first | apply Kd.R_alloc | apply Kd.R_drewN | apply Kd.R_drew)); exact HO_10.out) hb); have n4_ := Aside0.mk (Kd.R_below (by (with_reducible repeat (first | apply Kd.R_alloc | apply Kd.R_drewN | apply Kd.R_drew)); exact HO_11.out) hb); have n5_ := Aside0.mk (Kd.R_below (by (with_reducible repeat (first | apply Kd.R_alloc | apply Kd.R_drewN | apply Kd.R_drew)); exact HO_76.out) hb); have n6_ := Aside0.mk (Kd.R_below (by (with_reducible repeat (first | apply Kd.R_alloc | apply Kd.R_drewN | apply Kd.R_drew)); exact HO2025.out) hb); have n7_ := Aside0.mk (Kd.R_below (by (with_reducible repeat (first | apply Kd.R_alloc | apply Kd.R_drewN | apply Kd.R_drew)); exact HO2029.out) hb); have n8_ := Aside0.mk (below_step (by repeat (first | (with_reducible first | exact HB.out | apply below_alloc | apply pw_below_drewN | apply below_drew1) | exact HB.out)) hb); clear HO_7; clear HO_8; clear HO_9; clear HO_10; clear HO_11; clear HO_76; clear HO2025; clear HO2029; clear HB; have HO_7 := n0_; have HO_8 := n1_; have HO_9 := n2_; have HO_10 := n3_; have HO_11 := n4_; have HO_76 := n5_; have HO2025 := n6_; have HO2029 := n7_; have HB := n8_; clear n0_ n1_ n2_ n3_ n4_ n5_ n6_ n7_ n8_; (try clear hb); (try clear hb2); (try clear hk); (try clear hi)))
              go_ret
              exact ⟨by first | rfl | (simp [errW_none, errW_some] <;> rfl) | (simp [*, errW_none, errW_some] <;> rfl), by repeat (first | (with_reducible first | exact HB.out | apply below_alloc | apply pw_below_drewN | apply below_drew1) | exact HB.out)⟩
             ·
              replace c78 := Bool.eq_false_iff.mpr c78
              subst c78
              have H1 : (none) = some r := by rw [if_neg (show ¬ (false = true) by decide)] at H; exact H
              clear H
              have H := H1
              clear H1
              exact absurd H (by simp)
            ·
             rw [if_neg c76] at H
             exact absurd H (by simp)
           ·
            rw [if_neg c74] at H
            exact absurd H (by simp)
    ·
     rw [if_neg c29] at H
     exact absurd H (by simp)

end Go.Proofs.Ytmbmalkpmanaaaa.P

namespace Go.Proofs.Ytmbmalkpmanaaaa.P
set_option linter.unusedVariables false
set_option linter.unusedSimpArgs false
open Go.RowKit

def SL (lo hi : Int) : List Sp → Prop
  | [] => True
  | s :: r => lo ≤ s.f0 ∧ s.f0 ≤ s.f1 ∧ s.f1 ≤ hi ∧ SL (s.f1 + 2) hi r
def hasL (l : List Sp) (x : Int) : Bool := l.any fun s => decide (s.f0 ≤ x) && decide (x ≤ s.f1)

theorem hasL_nil (x : Int) : hasL [] x = false := rfl
theorem hasL_cons (s : Sp) (r : List Sp) (x : Int) : hasL (s :: r) x = ((decide (s.f0 ≤ x) && decide (x ≤ s.f1)) || hasL r x) := rfl
theorem hasL_append (l m : List Sp) (x : Int) : hasL (l ++ m) x = (hasL l x || hasL m x) := by simp [hasL]
theorem hasL_true {l : List Sp} {x : Int} : hasL l x = true ↔ ∃ s ∈ l, s.f0 ≤ x ∧ x ≤ s.f1 := by simp [hasL]
theorem SL.mono {lo lo' hi : Int} (h : lo' ≤ lo) : ∀ {l : List Sp}, SL lo hi l → SL lo' hi l
  | [], _ => trivial
  | _ :: _, hs => ⟨by have := hs.1; omega, hs.2⟩
theorem SL.low {lo hi : Int} {l : List Sp} (hs : SL lo hi l) {x : Int} (hx : x < lo) : hasL l x = false := by
  induction l generalizing lo with
  | nil => rfl
  | cons s r ih =>
    obtain ⟨h1, h2, h3, h4⟩ := hs
    rw [hasL_cons, ih h4 (by omega)]
    have : ¬ s.f0 ≤ x := by omega
    simp [this]
theorem SL.high {lo hi : Int} {l : List Sp} (hs : SL lo hi l) {x : Int} (hx : hi < x) : hasL l x = false := by
  induction l generalizing lo with
  | nil => rfl
  | cons s r ih =>
    obtain ⟨h1, h2, h3, h4⟩ := hs
    rw [hasL_cons, ih h4]
    have : ¬ x ≤ s.f1 := by omega
    simp [this]
theorem SL.ticks {lo hi : Int} {l : List Sp} (hs : SL lo hi l) {s : Sp} (h : s ∈ l) : lo ≤ s.f0 ∧ s.f0 ≤ s.f1 ∧ s.f1 ≤ hi := by
  induction l generalizing lo with
  | nil => simp at h
  | cons t r ih =>
    obtain ⟨h1, h2, h3, h4⟩ := hs
    rcases List.mem_cons.1 h with rfl | h
    · exact ⟨h1, h2, h3⟩
    · obtain ⟨a, b, c⟩ := ih h4 h
      exact ⟨by omega, b, c⟩

theorem SL.uniq {hi hi' : Int} : ∀ {l m : List Sp} {lo lo' : Int}, SL lo hi l → SL lo' hi' m → (∀ x, hasL l x = hasL m x) → l = m
  | [], [], _, _, _, _, _ => rfl
  | [], t :: r, _, _, _, hm, h => by
    have := h t.f0
    rw [hasL_cons] at this
    have h2 := hm.2.1
    simp [hasL_nil, h2] at this
  | s :: r, [], _, _, hl, _, h => by
    have := h s.f0
    rw [hasL_cons] at this
    have h2 := hl.2.1
    simp [hasL_nil, h2] at this
  | s :: r, t :: q, lo, lo', hl, hm, h => by
    obtain ⟨a1, a2, a3, a4⟩ := hl
    obtain ⟨b1, b2, b3, b4⟩ := hm
    have key : ∀ {s t : Sp} {r q : List Sp} {hi hi' : Int}, s.f0 ≤ s.f1 → t.f0 ≤ t.f1 → SL (s.f1 + 2) hi r → SL (t.f1 + 2) hi' q → (∀ x, hasL (s :: r) x = hasL (t :: q) x) → t.f0 ≤ s.f0 := by
      intro s t r q hi hi' a2 b2 a4 b4 h
      by_cases hlt : t.f0 ≤ s.f0
      · exact hlt
      · have hx := h s.f0
        rw [hasL_cons, hasL_cons, b4.low (by omega)] at hx
        have : ¬ t.f0 ≤ s.f0 := hlt
        simp [this, a2] at hx
    have e0 : s.f0 = t.f0 := by
      have h1 := key a2 b2 a4 b4 h
      have h2 := key b2 a2 b4 a4 (fun x => (h x).symm)
      omega
    have key2 : ∀ {s t : Sp} {r q : List Sp} {hi hi' : Int}, s.f0 = t.f0 → s.f0 ≤ s.f1 → t.f0 ≤ t.f1 → SL (s.f1 + 2) hi r → SL (t.f1 + 2) hi' q → (∀ x, hasL (s :: r) x = hasL (t :: q) x) → t.f1 ≤ s.f1 := by
      intro s t r q hi hi' e0 a2 b2 a4 b4 h
      by_cases hlt : t.f1 ≤ s.f1
      · exact hlt
      · have hx := h (s.f1 + 1)
        rw [hasL_cons, hasL_cons, a4.low (by omega)] at hx
        have c1 : ¬ s.f1 + 1 ≤ s.f1 := by omega
        have c2 : t.f0 ≤ s.f1 + 1 := by omega
        have c3 : s.f1 + 1 ≤ t.f1 := by omega
        simp [c2, c3] at hx
        omega
    have e1 : s.f1 = t.f1 := by
      have h1 := key2 e0 a2 b2 a4 b4 h
      have h2 := key2 e0.symm b2 a2 b4 a4 (fun x => (h x).symm)
      omega
    have est : s = t := by cases s; cases t; simp only at e0 e1; rw [e0, e1]
    subst est
    have : r = q := SL.uniq a4 b4 (fun x => by
      have hx := h x
      rw [hasL_cons, hasL_cons] at hx
      by_cases hc : x < s.f1 + 2
      · rw [a4.low hc, b4.low hc]
      · have : ¬ x ≤ s.f1 := by omega
        simpa [this] using hx)
    rw [this]

def Inv (hi : Int) (a : List Sp) (i : Bool) (p : Int) : Prop :=
  match a, i with
  | [], i => i = false
  | s :: r, true => s.f0 ≤ p ∧ p ≤ s.f1 ∧ s.f1 ≤ hi ∧ SL (s.f1 + 2) hi r
  | s :: r, false => SL (p + 1) hi (s :: r)
theorem wrap_ok {n : Int} (h1 : -9223372036854775808 ≤ n) (h2 : n ≤ 9223372036854775807) : wrap64 n = n := by unfold wrap64; omega
theorem Inv.nxt {hi p : Int} {a : List Sp} {i : Bool} (h : Inv hi a i p) (hp : -4611686018427387904 ≤ p) (hh : hi ≤ 4611686018427387904) (hn : a ≠ []) : p < nxtL a i ∧ nxtL a i ≤ hi + 1 := by
  match a, i, hn with
  | s :: r, true, _ =>
    obtain ⟨h1, h2, h3, h4⟩ := h
    have hw : wrap64 (s.f1 + 1) = s.f1 + 1 := wrap_ok (by omega) (by omega)
    simp only [nxtL, hw]
    omega
  | s :: r, false, _ =>
    obtain ⟨h1, h2, h3, h4⟩ := h
    simp only [nxtL]
    omega
theorem Inv.step {hi p t : Int} {a : List Sp} {i : Bool} (h : Inv hi a i p) (hp : -4611686018427387904 ≤ p) (hh : hi ≤ 4611686018427387904) (hpt : p < t) (ht : a ≠ [] → t ≤ nxtL a i) :
    Inv hi (pastL a i t).1 (pastL a i t).2 t ∧ (∀ x, t ≤ x → hasL (pastL a i t).1 x = hasL a x) ∧ (∀ x, p ≤ x → x < t → hasL a x = i) := by
  match a, i with
  | [], i =>
    have : i = false := h
    subst this
    exact ⟨rfl, fun _ _ => rfl, fun _ _ _ => rfl⟩
  | s :: r, true =>
    obtain ⟨h1, h2, h3, h4⟩ := h
    have hw : wrap64 (s.f1 + 1) = s.f1 + 1 := wrap_ok (by omega) (by omega)
    have ht' := ht (by simp)
    simp only [nxtL, hw] at ht'
    have hin : ∀ x, p ≤ x → x < t → hasL (s :: r) x = true := fun x a b => by
      have c1 : s.f0 ≤ x := by omega
      have c2 : x ≤ s.f1 := by omega
      simp [hasL_cons, c1, c2]
    simp only [pastL, hw]
    by_cases e : s.f1 + 1 = t
    · rw [if_pos e]
      refine ⟨?_, fun x hx => ?_, hin⟩
      · cases r with
        | nil => rfl
        | cons u r => exact SL.mono (by omega) h4
      · have : ¬ x ≤ s.f1 := by omega
        simp [hasL_cons, this]
    · rw [if_neg e]
      exact ⟨⟨by omega, by omega, h3, h4⟩, fun _ _ => rfl, hin⟩
  | s :: r, false =>
    obtain ⟨h1, h2, h3, h4⟩ := h
    have ht' := ht (by simp)
    simp only [nxtL] at ht'
    have hout : ∀ x, p ≤ x → x < t → hasL (s :: r) x = false := fun x a b => by
      have c1 : ¬ s.f0 ≤ x := by omega
      rw [hasL_cons, h4.low (by omega)]
      simp [c1]
    simp only [pastL]
    by_cases e : s.f0 = t
    · rw [if_pos e]
      exact ⟨⟨by omega, by omega, h3, h4⟩, fun _ _ => rfl, hout⟩
    · rw [if_neg e]
      exact ⟨⟨by omega, h2, h3, h4⟩, fun _ _ => rfl, hout⟩

theorem fold_out (yes : Bool → Bool → Bool) (xs : List Bd) : ∀ (i : Bool) (f : Int) (o : List Sp), (xs.foldl (kstep yes) ⟨i, f, o⟩).out = o ++ (xs.foldl (kstep yes) ⟨i, f, []⟩).out := by
  induction xs with
  | nil => intro i f o; simp
  | cons x xs ih =>
    intro i f o
    simp only [List.foldl_cons, kstep]
    split
    · exact ih _ _ _
    · split
      · rw [ih _ _ (o ++ _), ih _ _ ([] ++ _)]; simp
      · exact ih _ _ _

theorem sweep (yes : Bool → Bool → Bool) (hy : yes false false = false) (hi lo0 : Int) (hlo : -4611686018427387904 ≤ lo0) (hh : hi ≤ 4611686018427387904) (n : Nat) : ∀ (a : List Sp) (ia : Bool) (b : List Sp) (ib : Bool) (p from_ : Int),
    msr a ia + msr b ib ≤ n → Inv hi a ia p → Inv hi b ib p → lo0 ≤ p + 1 → -4611686018427387904 ≤ p → (yes ia ib = true → lo0 ≤ from_ ∧ from_ ≤ p) →
    SL (if yes ia ib then from_ else p + 1) hi ((bords a ia b ib).foldl (kstep yes) ⟨yes ia ib, from_, []⟩).out ∧
    ∀ x, hasL ((bords a ia b ib).foldl (kstep yes) ⟨yes ia ib, from_, []⟩).out x = if x < p then (yes ia ib && decide (from_ ≤ x)) else yes (hasL a x) (hasL b x) := by
  induction n with
  | zero =>
    intro a ia b ib p from_ hm ha hb hp hp2 hf
    have e : a = [] ∧ b = [] := by
      by_cases e : a = [] ∧ b = []
      · exact e
      · have := step_lt a ia b ib e; omega
    obtain ⟨rfl, rfl⟩ := e
    have h1 : ia = false := ha
    have h2 : ib = false := hb
    subst h1 h2
    rw [bords_nil, hy]
    refine ⟨trivial, fun x => ?_⟩
    simp [hasL_nil, hy]
  | succ n ih =>
    intro a ia b ib p from_ hm ha hb hp hp2 hf
    by_cases e : a = [] ∧ b = []
    · obtain ⟨rfl, rfl⟩ := e
      have h1 : ia = false := ha
      have h2 : ib = false := hb
      subst h1 h2
      rw [bords_nil, hy]
      refine ⟨trivial, fun x => ?_⟩
      simp [hasL_nil, hy]
    · have hlt := step_lt a ia b ib e
      rw [bords_cons a ia b ib e]
      have ht : p < atL a ia b ib ∧ atL a ia b ib ≤ hi + 1 ∧ (a ≠ [] → atL a ia b ib ≤ nxtL a ia) ∧ (b ≠ [] → atL a ia b ib ≤ nxtL b ib) := by
        unfold atL
        by_cases h1 : a = []
        · have h2 : b ≠ [] := fun h => e ⟨h1, h⟩
          rw [if_pos h1]
          have := hb.nxt hp2 hh h2
          exact ⟨this.1, this.2, fun h => absurd h1 h, fun _ => Int.le_refl _⟩
        · rw [if_neg h1]
          have q1 := ha.nxt hp2 hh h1
          by_cases h2 : b = []
          · rw [if_pos h2]
            exact ⟨q1.1, q1.2, fun _ => Int.le_refl _, fun h => absurd h2 h⟩
          · rw [if_neg h2]
            have q2 := hb.nxt hp2 hh h2
            exact ⟨by omega, by omega, fun _ => by omega, fun _ => by omega⟩
      obtain ⟨t, hte⟩ : ∃ t, atL a ia b ib = t := ⟨_, rfl⟩
      rw [hte] at ht hlt ⊢
      obtain ⟨ht1, ht2, ht3, ht4⟩ := ht
      obtain ⟨ia2, ha2, ha3⟩ := ha.step hp2 hh ht1 ht3
      obtain ⟨ib2, hb2, hb3⟩ := hb.step hp2 hh ht1 ht4
      obtain ⟨a1, ia1, hpa⟩ : ∃ a1 ia1, pastL a ia t = (a1, ia1) := ⟨_, _, rfl⟩
      obtain ⟨b1, ib1, hpb⟩ : ∃ b1 ib1, pastL b ib t = (b1, ib1) := ⟨_, _, rfl⟩
      rw [hpa] at hlt ia2 ha2 ⊢
      rw [hpb] at hlt ib2 hb2 ⊢
      dsimp only at hlt ia2 ha2 ib2 hb2 ⊢
      have hw : wrap64 (t - 1) = t - 1 := wrap_ok (by omega) (by omega)
      have hval : ∀ x, p ≤ x → x < t → yes (hasL a x) (hasL b x) = yes ia ib := fun x h1 h2 => by rw [ha3 x h1 h2, hb3 x h1 h2]
      have hval2 : ∀ x, t ≤ x → yes (hasL a1 x) (hasL b1 x) = yes (hasL a x) (hasL b x) := fun x h1 => by rw [ha2 x h1, hb2 x h1]
      simp only [List.foldl_cons]
      cases hin : yes ia ib with
      | false =>
        cases hnow : yes ia1 ib1 with
        | true =>
          have hk : kstep yes ⟨false, from_, []⟩ ⟨t, ia1, ib1⟩ = ⟨yes ia1 ib1, t, []⟩ := by simp [kstep, hnow]
          rw [hk]
          obtain ⟨s1, s2⟩ := ih a1 ia1 b1 ib1 t t (by omega) ia2 ib2 (by omega) (by omega) (fun _ => ⟨by omega, Int.le_refl _⟩)
          rw [hnow] at s1 s2 ⊢
          refine ⟨by simpa using SL.mono (by simp; omega) s1, fun x => ?_⟩
          rw [s2 x]
          by_cases c1 : x < p
          · have c2 : x < t := by omega
            have c3 : ¬ t ≤ x := by omega
            simp [c1, c2, c3]
          · by_cases c2 : x < t
            · have c3 : ¬ t ≤ x := by omega
              rw [if_neg c1, hval x (by omega) c2, hin]
              simp [c2, c3]
            · rw [if_neg c1, if_neg c2, hval2 x (by omega)]
        | false =>
          have hk : kstep yes ⟨false, from_, []⟩ ⟨t, ia1, ib1⟩ = ⟨yes ia1 ib1, from_, []⟩ := by simp [kstep, hnow]
          rw [hk]
          obtain ⟨s1, s2⟩ := ih a1 ia1 b1 ib1 t from_ (by omega) ia2 ib2 (by omega) (by omega) (fun h => by rw [hnow] at h; cases h)
          rw [hnow] at s1 s2 ⊢
          refine ⟨by simpa using SL.mono (by simp; omega) s1, fun x => ?_⟩
          rw [s2 x]
          by_cases c1 : x < p
          · have c2 : x < t := by omega
            simp [c1, c2]
          · by_cases c2 : x < t
            · rw [if_neg c1, hval x (by omega) c2, hin]
              simp [c2]
            · rw [if_neg c1, if_neg c2, hval2 x (by omega)]
      | true =>
        obtain ⟨hf1, hf2⟩ := hf hin
        cases hnow : yes ia1 ib1 with
        | true =>
          have hk : kstep yes ⟨true, from_, []⟩ ⟨t, ia1, ib1⟩ = ⟨yes ia1 ib1, from_, []⟩ := by simp [kstep, hnow]
          rw [hk]
          obtain ⟨s1, s2⟩ := ih a1 ia1 b1 ib1 t from_ (by omega) ia2 ib2 (by omega) (by omega) (fun _ => ⟨hf1, by omega⟩)
          rw [hnow] at s1 s2 ⊢
          refine ⟨by simpa using s1, fun x => ?_⟩
          rw [s2 x]
          by_cases c1 : x < p
          · have c2 : x < t := by omega
            simp [c1, c2]
          · by_cases c2 : x < t
            · have c3 : from_ ≤ x := by omega
              rw [if_neg c1, hval x (by omega) c2, hin]
              simp [c2, c3]
            · rw [if_neg c1, if_neg c2, hval2 x (by omega)]
        | false =>
          have hk : kstep yes ⟨true, from_, []⟩ ⟨t, ia1, ib1⟩ = ⟨yes ia1 ib1, from_, [⟨from_, t - 1⟩]⟩ := by simp [kstep, hnow, hw]
          rw [hk, fold_out]
          obtain ⟨s1, s2⟩ := ih a1 ia1 b1 ib1 t from_ (by omega) ia2 ib2 (by omega) (by omega) (fun h => by rw [hnow] at h; cases h)
          rw [hnow] at s1 s2 ⊢
          refine ⟨⟨by simp, by show from_ ≤ t - 1; omega, by show t - 1 ≤ hi; omega, ?_⟩, fun x => ?_⟩
          · have : (t - 1 : Int) + 2 = t + 1 := by omega
            show SL (t - 1 + 2) hi _
            rw [this]
            simpa using s1
          · have hcons : hasL ([⟨from_, t - 1⟩] ++ (List.foldl (kstep yes) ⟨false, from_, []⟩ (bords a1 ia1 b1 ib1)).out) x = ((decide (from_ ≤ x) && decide (x ≤ t - 1)) || hasL (List.foldl (kstep yes) ⟨false, from_, []⟩ (bords a1 ia1 b1 ib1)).out x) := rfl
            rw [hcons, s2 x]
            by_cases c1 : x < p
            · have c2 : x < t := by omega
              have c3 : x ≤ t - 1 := by omega
              simp [c1, c2, c3]
            · by_cases c2 : x < t
              · have c3 : from_ ≤ x := by omega
                have c4 : x ≤ t - 1 := by omega
                rw [if_neg c1, hval x (by omega) c2, hin]
                simp [c2, c3, c4]
              · have c4 : ¬ x ≤ t - 1 := by omega
                rw [if_neg c1, if_neg c2, hval2 x (by omega)]
                simp [c4]

theorem keptL_spec (yes : Bool → Bool → Bool) (hy : yes false false = false) {lo hi : Int} (hlo : -4611686018427387903 ≤ lo) (hh : hi ≤ 4611686018427387904) {a b : List Sp} (ha : SL lo hi a) (hb : SL lo hi b) :
    SL lo hi (keptL yes a b) ∧ ∀ x, hasL (keptL yes a b) x = yes (hasL a x) (hasL b x) := by
  have inv : ∀ {a : List Sp}, SL lo hi a → Inv hi a false (lo - 1) := by
    intro a h
    cases a with
    | nil => rfl
    | cons s r => exact SL.mono (by omega) h
  obtain ⟨h1, h2⟩ := sweep yes hy hi lo (by omega) hh _ a false b false (lo - 1) 0 (Nat.le_refl _) (inv ha) (inv hb) (by omega) (by omega) (fun h => by rw [hy] at h; cases h)
  rw [hy] at h1 h2
  refine ⟨by simpa [keptL, kfold] using SL.mono (by simp) h1, fun x => ?_⟩
  have := h2 x
  unfold keptL kfold
  rw [this]
  by_cases c : x < lo - 1
  · rw [if_pos c, ha.low (by omega), hb.low (by omega), hy]; simp
  · rw [if_neg c]
end Go.Proofs.Ytmbmalkpmanaaaa.P

namespace Go.Proofs.Ytmbmalkpmanaaaa.P
set_option linter.unusedVariables false
set_option linter.unusedSimpArgs false
open Go.RowKit

theorem SL_snoc {lo hi : Int} {o : List Sp} {z : Sp} : SL lo hi (o ++ [z]) ↔ SL lo hi o ∧ (∀ s ∈ o, s.f1 + 2 ≤ z.f0) ∧ lo ≤ z.f0 ∧ z.f0 ≤ z.f1 ∧ z.f1 ≤ hi := by
  induction o generalizing lo with
  | nil => simp [SL]
  | cons t o ih =>
    simp only [List.cons_append, SL, ih, List.mem_cons]
    constructor
    · rintro ⟨h1, h2, h3, h4, h5, h6, h7, h8⟩
      exact ⟨⟨h1, h2, h3, h4⟩, fun s hs => by rcases hs with rfl | hs; exact h6; exact h5 s hs, by omega, h7, h8⟩
    · rintro ⟨⟨h1, h2, h3, h4⟩, h5, h6, h7, h8⟩
      exact ⟨h1, h2, h3, h4, fun s hs => h5 s (.inr hs), h5 t (.inl rfl), h7, h8⟩

def glue (out : List Sp) (s : Sp) : List Sp :=
  match out.reverse with
  | [] => [s]
  | z :: o => if s.f0 ≤ z.f1 + 1 then o.reverse ++ [⟨z.f0, max z.f1 s.f1⟩] else out ++ [s]
theorem glue_nil (s : Sp) : glue [] s = [s] := rfl
theorem glue_snoc (o : List Sp) (z s : Sp) : glue (o ++ [z]) s = if s.f0 ≤ z.f1 + 1 then o ++ [⟨z.f0, max z.f1 s.f1⟩] else o ++ [z] ++ [s] := by simp [glue]
theorem glue_spec {lo hi : Int} {out : List Sp} {s : Sp} (hs : SL lo hi out) (hb : ∀ z ∈ out, z.f0 ≤ s.f0) (h0 : lo ≤ s.f0) (h1 : s.f0 ≤ s.f1) (h2 : s.f1 ≤ hi) :
    SL lo hi (glue out s) ∧ (∀ z ∈ glue out s, z.f0 ≤ s.f0) ∧ ∀ t, hasL (glue out s) t = (hasL out t || (decide (s.f0 ≤ t) && decide (t ≤ s.f1))) := by
  rcases List.eq_nil_or_concat out with rfl | ⟨o, z, rfl⟩
  · rw [glue_nil]
    exact ⟨⟨h0, h1, h2, trivial⟩, fun z h => by simp at h; subst h; exact Int.le_refl _, fun t => by simp [hasL]⟩
  · rw [List.concat_eq_append] at *
    obtain ⟨a1, a2, a3, a4, a5⟩ := SL_snoc.1 hs
    have hz := hb z (by simp)
    rw [glue_snoc]
    by_cases e : s.f0 ≤ z.f1 + 1
    · rw [if_pos e]
      refine ⟨SL_snoc.2 ⟨a1, a2, a3, by show z.f0 ≤ max z.f1 s.f1; omega, by show max z.f1 s.f1 ≤ hi; omega⟩, fun u h => ?_, fun t => ?_⟩
      · simp at h
        rcases h with h | rfl
        · exact hb u (by simp [h])
        · exact hz
      · rw [hasL_append, hasL_append]
        simp only [hasL_cons, hasL_nil, Bool.or_false]
        rw [Bool.or_assoc]
        congr 1
        rw [Bool.eq_iff_iff]
        simp only [Bool.and_eq_true, Bool.or_eq_true, decide_eq_true_eq]
        omega
    · rw [if_neg e]
      refine ⟨SL_snoc.2 ⟨hs, fun u h => ?_, h0, h1, h2⟩, fun u h => ?_, fun t => ?_⟩
      · simp at h
        rcases h with h | rfl
        · have := a2 u h; omega
        · omega
      · simp at h
        rcases h with h | rfl | rfl
        · exact hb u (by simp [h])
        · exact hz
        · exact Int.le_refl _
      · rw [hasL_append]; simp [hasL_cons, hasL_nil]
theorem glueAll_spec {lo hi : Int} : ∀ (l out : List Sp), SL lo hi out → (∀ s ∈ l, lo ≤ s.f0 ∧ s.f0 ≤ s.f1 ∧ s.f1 ≤ hi) → (∀ z ∈ out, ∀ s ∈ l, z.f0 ≤ s.f0) → l.Pairwise (fun x y => x.f0 ≤ y.f0) →
    SL lo hi (l.foldl glue out) ∧ ∀ t, hasL (l.foldl glue out) t = (hasL out t || hasL l t) := by
  intro l
  induction l with
  | nil => intro out hs _ _ _; exact ⟨hs, fun t => by simp [hasL_nil]⟩
  | cons s r ih =>
    intro out hs hl hb hp
    obtain ⟨p1, p2⟩ := List.pairwise_cons.1 hp
    obtain ⟨b0, b1, b2⟩ := hl s (by simp)
    obtain ⟨g1, g2, g3⟩ := glue_spec hs (fun z hz => hb z hz s (by simp)) b0 b1 b2
    obtain ⟨i1, i2⟩ := ih (glue out s) g1 (fun u hu => hl u (by simp [hu])) (fun z hz u hu => Int.le_trans (g2 z hz) (p1 u hu)) p2
    refine ⟨i1, fun t => ?_⟩
    simp only [List.foldl_cons]
    rw [i2, g3, hasL_cons, Bool.or_assoc]
theorem glue_len (out : List Sp) (s : Sp) : (glue out s).length ≤ out.length + 1 := by
  rcases List.eq_nil_or_concat out with rfl | ⟨o, z, rfl⟩
  · simp [glue_nil]
  · rw [List.concat_eq_append, glue_snoc]; split <;> simp
theorem hasL_perm {l m : List Sp} (h : l.Perm m) (x : Int) : hasL l x = hasL m x := by
  rw [Bool.eq_iff_iff, hasL_true, hasL_true]
  exact ⟨fun ⟨s, h1, h2⟩ => ⟨s, h.mem_iff.1 h1, h2⟩, fun ⟨s, h1, h2⟩ => ⟨s, h.mem_iff.2 h1, h2⟩⟩
end Go.Proofs.Ytmbmalkpmanaaaa.P

namespace Go.Proofs.Ytmbmalkpmanaaaa.P
set_option linter.unusedVariables false
set_option linter.unusedSimpArgs false
open Go.RowKit Go.ChangeShapes Go.WideShapes Go.Deep Go.Proofs.YtmbmalkpmanaaaaW.PrintWords

def fits (n : Int) : Prop := (Lit.int .i64 n).wf = true
def spFits (s : Sp) : Prop := fits s.f0 ∧ fits s.f1

theorem open_spans {H : Type} {enc : TypeId × Value → H} {w : World} {base : Nat} {held : Bool} {a : Option Addr} {len cap : Nat} {d : DataW H} {p : List MemPlace}
    (h : DataW.Trod enc Try.prog w base (fun _ => true) held 24 (.slice a len cap) d p) :
    ∃ l : List Sp, len = l.length ∧ l.length ≤ cap ∧ Kd.C k23 w a l.length l ∧ (∀ s ∈ l, spFits s) ∧ l.length ≤ 9223372036854775807 := by
  obtain ⟨fuel, hf⟩ := h
  rcases open_slice_pairs Try.underlying24 Try.underlying23 (by kernel_rfl) rfl rfl (by kernel_rfl) (by kernel_rfl) hf with ⟨hc, _⟩ | ⟨ad, len', cap', m, n, V0, V1, D0, D1, P0, P1, hc, hb, hl, hm, hmm, hx, hi⟩
  · simp [Value.cells] at hc
    obtain ⟨rfl, rfl, rfl⟩ := hc
    exact ⟨[], rfl, Nat.le_refl _, ⟨rfl, by simp, fun h => absurd h (by simp)⟩, by simp, by simp⟩
  · simp [Value.cells] at hc
    obtain ⟨rfl, rfl, rfl⟩ := hc
    have hlm : len ≤ m := by rw [hmm]; simpa using hl
    have hk : ∀ i, i < len → ∃ s : Sp, w.cell? (ad.add (i * 2)) = some (.int .i64 s.f0) ∧ w.cell? (ad.add (i * 2 + 1)) = some (.int .i64 s.f1) ∧ spFits s := by
      intro i hi'
      obtain ⟨c0, c1, t0, t1⟩ := hi i (by omega)
      obtain ⟨x, e0, _, w0⟩ := DataW.trod_int Try.underlying3 t0
      obtain ⟨y, e1, _, w1⟩ := DataW.trod_int Try.underlying3 t1
      simp only [List.cons.injEq, and_true] at e0 e1
      exact ⟨⟨x, y⟩, by rw [c0, e0], by rw [c1, e1], w0, w1⟩
    have hmax : len ≤ 9223372036854775807 := by unfold maxLen at hm; omega
    suffices key : ∀ k, k ≤ len → ∃ l : List Sp, l.length = k ∧ (∀ j s, l[j]? = some s → w.cell? (ad.add (j * 2)) = some (.int .i64 s.f0) ∧ w.cell? (ad.add (j * 2 + 1)) = some (.int .i64 s.f1)) ∧ ∀ s ∈ l, spFits s by
      obtain ⟨l, rfl, hl2, hfit⟩ := key len (Nat.le_refl _)
      refine ⟨l, rfl, hl, ⟨rfl, hmax, fun _ => ⟨ad, rfl, fun j s hj => ⟨[.int .i64 s.f0, .int .i64 s.f1], rfl, k23_mk w s, fun i u hu => ?_⟩⟩⟩, hfit, hmax⟩
      have := hl2 j s hj
      match i, hu with
      | 0, hu => simp at hu; subst hu; exact this.1
      | 1, hu => simp at hu; subst hu; exact this.2
    intro k
    induction k with
    | zero => exact fun _ => ⟨[], rfl, fun j s h => by simp at h, by simp⟩
    | succ k ih =>
      intro hk'
      obtain ⟨l, hl1, hl2, hl3⟩ := ih (by omega)
      obtain ⟨s, h0, h1, h2⟩ := hk k (by omega)
      refine ⟨l ++ [s], by simp [hl1], fun j t hj => ?_, fun t ht => ?_⟩
      · by_cases hjk : j < l.length
        · rw [List.getElem?_append_left hjk] at hj; exact hl2 j t hj
        · rw [List.getElem?_append_right (by omega)] at hj
          have : j - l.length = 0 := by
            by_cases e : j - l.length = 0
            · exact e
            · rw [List.getElem?_eq_none (by simp; omega)] at hj; cases hj
          rw [this] at hj
          simp at hj
          subst hj
          have : j = k := by omega
          subst this
          exact ⟨h0, h1⟩
      · simp at ht
        rcases ht with ht | rfl
        · exact hl3 t ht
        · exact h2
end Go.Proofs.Ytmbmalkpmanaaaa.P

namespace Go.Proofs.Ytmbmalkpmanaaaa.P
open Go.RowKit Go.Proofs.YtmbmalkpmanaaaaW.PrintWords Go.Proofs.YtmbmalkpmanaaaaW.PrintLast Go.Proofs.YtmbmalkpmanaaaaW.PrintMore
attribute [local go_sem] max2_int min2_int max_two min_two max_three min_three max_four min_four   -- for this text's walks alone
set_option linter.unusedVariables false
set_option linter.unusedSimpArgs false

def epactref02_Has.l0 : Nat → List (S23) → Int → Int → Option (Bool)
 | 0, _, _, _ => none
 | k + 1, x0, x1, x5 => if x5 < (x0.length : Int) then (if 0 ≤ x5 then (if ((rd_T23 x0 x5).f0) ≤ x1 then (if x1 ≤ ((rd_T23 x0 x5).f1) then (some true) else (epactref02_Has.l0 k x0 x1 (wrap64 (x5 + 1)))) else (epactref02_Has.l0 k x0 x1 (wrap64 (x5 + 1)))) else (none)) else (some false)
def epactref02_Has.f (k : Nat) (l0 : List (S23)) (a1 : Int) : Option (Bool) := epactref02_Has.l0 k l0 a1 0
theorem epactref02_Has.mono_l : ∀ k, (∀ y0 y1 y2, LeO (epactref02_Has.l0 k y0 y1 y2) (epactref02_Has.l0 (k + 1) y0 y1 y2))
 | 0 => fun _ _ _ r h => by simp [epactref02_Has.l0] at h
 | k + 1 => by
  have ih0 := epactref02_Has.mono_l k
  ·
   intro y0 y1 y2
   unfold epactref02_Has.l0
   repeat' first
   | (with_reducible exact ih0 _ _ _)
   | (with_reducible exact LeO.refl _)
   | (with_reducible exact LeO.none _)
   | (with_reducible refine LeO.ite ?_ ?_)
   | (with_reducible refine LeO.bind ?_ (fun _ => ?_))
   | exact ih0 _ _ _
   | exact LeO.none _
   | refine LeO.ite ?_ ?_
   | refine LeO.bind ?_ (fun _ => ?_)
theorem epactref02_Has.mono : ∀ a0 a1 k, LeO (epactref02_Has.f k a0 a1) (epactref02_Has.f (k + 1) a0 a1) := by
 intro a0 a1 k
 have ih0 := epactref02_Has.mono_l k
 unfold epactref02_Has.f
 repeat' first
   | (with_reducible exact ih0 _ _ _)
   | (with_reducible exact LeO.refl _)
   | (with_reducible exact LeO.none _)
   | (with_reducible refine LeO.ite ?_ ?_)
   | (with_reducible refine LeO.bind ?_ (fun _ => ?_))
   | exact ih0 _ _ _
   | exact LeO.none _
   | refine LeO.ite ?_ ?_
   | refine LeO.bind ?_ (fun _ => ?_)
set_option maxHeartbeats 8000000 in
set_option maxRecDepth 100000 in
theorem epactref02_Has.calls (k : Nat) (A0 : Option Addr) (c0 : Nat) (l0 : List (S23)) (a1 : Int) (r : Bool) (w : World) (hr0 : Kd.C k23 w A0 l0.length l0) (hc0 : l0.length ≤ c0) (h : epactref02_Has.f k l0 a1 = some r) :
  Calls Try.prog 46 #[.slice A0 l0.length c0, .int .i64 a1] w fun e w' => e = .returned (.bool r) ∧ Drawn0 w w' := by
 have HR0 := Aside0.mk hr0
 have HC0 := Aside0.mk hc0
 clear hr0 hc0
 have H : (epactref02_Has.l0 k l0 a1 0) = some r := h
 clear h
 have H' := Aside0.mk H
 clear H
 go_enter Try.func46, Try.ntmps46
 go_wp2
 go_loopg [5] k (fun kq v5 w' => ∃ (x5_1 : Int), v5 = .int .i64 x5_1 ∧ Aside0 (epactref02_Has.l0 kq l0 a1 x5_1 = some r) ∧ Aside0 (kq ≤ k) ∧ Drawn0 w w')
 case atStart => exact ⟨(0), (by first | rfl | (simp; done) | (simp [*]; done)), H', ⟨Nat.le_refl _⟩, by repeat (first | exact Drawn0.refl _ | apply Drawn0.step)⟩
 case round =>
  clear H'
  try clear p2
  obtain ⟨x5_1, rfl, HA, HK1, ⟨m1, rfl⟩⟩ := hrel
  cases gk with
  | zero => exact absurd HA.out (by simp [epactref02_Has.l0])
  | succ k1 =>
   have H := HA.out
   clear HA
   simp only [epactref02_Has.l0] at H
   by_cases c3 : x5_1 < (l0.length : Int)
   ·
    rw [if_pos c3] at H
    have c3b0 : decide (x5_1 < (l0.length : Int)) = true := decide_eq_true c3
    clear c3
    by_cases c4 : 0 ≤ x5_1
    ·
     rw [if_pos c4] at H
     have c4b0 : decide (0 ≤ x5_1) = true := decide_eq_true c4
     clear c4
     by_cases c5 : ((rd_T23 l0 x5_1).f0) ≤ a1
     ·
      rw [if_pos c5] at H
      have c5b0 : decide (((rd_T23 l0 x5_1).f0) ≤ a1) = true := decide_eq_true c5
      clear c5
      by_cases c6 : a1 ≤ ((rd_T23 l0 x5_1).f1)
      ·
       rw [if_pos c6] at H
       have c6b0 : decide (a1 ≤ ((rd_T23 l0 x5_1).f1)) = true := decide_eq_true c6
       clear c6
       obtain rfl := Option.some.inj H
       have p250 : 0 ≤ (x5_1 : Int) := of_decide_eq_true (by first | (with_reducible assumption) | assumption)
       have q250 : x5_1 < (l0.length : Int) := of_decide_eq_true (by first | (with_reducible assumption) | assumption)
       obtain ⟨ad250, e250, hx250_0, hx250_1⟩ := at_T23 HR0.out x5_1 p250 q250
       cases e250
       replace p250 := eq_true p250
       replace q250 := eq_true q250
       have p251 : 0 ≤ (x5_1 : Int) := of_decide_eq_true (by first | (with_reducible assumption) | assumption)
       have q251 : x5_1 < (l0.length : Int) := of_decide_eq_true (by first | (with_reducible assumption) | assumption)
       obtain ⟨ad251, e251, hx251_0, hx251_1⟩ := at_T23 HR0.out x5_1 p251 q251
       obtain rfl : ad250 = ad251 := (by injection e251)
       replace p251 := eq_true p251
       replace q251 := eq_true q251
       go_wp2
       go_ret
       exact ⟨by first | rfl | (simp; done) | (simp [*]; done), by repeat (first | exact Drawn0.refl _ | apply Drawn0.step)⟩
      ·
       rw [if_neg c6] at H
       have c6b0 : decide (a1 ≤ ((rd_T23 l0 x5_1).f1)) = false := decide_eq_false c6
       clear c6
       have H' := Aside0.mk H
       clear H
       have p250 : 0 ≤ (x5_1 : Int) := of_decide_eq_true (by first | (with_reducible assumption) | assumption)
       have q250 : x5_1 < (l0.length : Int) := of_decide_eq_true (by first | (with_reducible assumption) | assumption)
       obtain ⟨ad250, e250, hx250_0, hx250_1⟩ := at_T23 HR0.out x5_1 p250 q250
       cases e250
       replace p250 := eq_true p250
       replace q250 := eq_true q250
       have p251 : 0 ≤ (x5_1 : Int) := of_decide_eq_true (by first | (with_reducible assumption) | assumption)
       have q251 : x5_1 < (l0.length : Int) := of_decide_eq_true (by first | (with_reducible assumption) | assumption)
       obtain ⟨ad251, e251, hx251_0, hx251_1⟩ := at_T23 HR0.out x5_1 p251 q251
       obtain rfl : ad250 = ad251 := (by injection e251)
       replace p251 := eq_true p251
       replace q251 := eq_true q251
       go_wp2
       go_roundg k1
       case measure => have := HK1.out; omega
       case rel => exact ⟨(wrap64 (x5_1 + 1)), (by first | rfl | (simp; done) | (simp [*]; done)), H', ⟨by have := HK1.out; omega⟩, by repeat (first | exact Drawn0.refl _ | apply Drawn0.step)⟩
     ·
      rw [if_neg c5] at H
      have c5b0 : decide (((rd_T23 l0 x5_1).f0) ≤ a1) = false := decide_eq_false c5
      clear c5
      have H' := Aside0.mk H
      clear H
      have p250 : 0 ≤ (x5_1 : Int) := of_decide_eq_true (by first | (with_reducible assumption) | assumption)
      have q250 : x5_1 < (l0.length : Int) := of_decide_eq_true (by first | (with_reducible assumption) | assumption)
      obtain ⟨ad250, e250, hx250_0, hx250_1⟩ := at_T23 HR0.out x5_1 p250 q250
      cases e250
      replace p250 := eq_true p250
      replace q250 := eq_true q250
      go_wp2
      go_roundg k1
      case measure => have := HK1.out; omega
      case rel => exact ⟨(wrap64 (x5_1 + 1)), (by first | rfl | (simp; done) | (simp [*]; done)), H', ⟨by have := HK1.out; omega⟩, by repeat (first | exact Drawn0.refl _ | apply Drawn0.step)⟩
    ·
     rw [if_neg c4] at H
     exact absurd H (by simp)
   ·
    rw [if_neg c3] at H
    have c3b0 : decide (x5_1 < (l0.length : Int)) = false := decide_eq_false c3
    clear c3
    obtain rfl := Option.some.inj H
    go_wp2
    go_ret
    exact ⟨by first | rfl | (simp; done) | (simp [*]; done), by repeat (first | exact Drawn0.refl _ | apply Drawn0.step)⟩

end Go.Proofs.Ytmbmalkpmanaaaa.P

namespace Go.Proofs.Ytmbmalkpmanaaaa.P
open Go.RowKit Go.Proofs.YtmbmalkpmanaaaaW.PrintWords Go.Proofs.YtmbmalkpmanaaaaW.PrintLast Go.Proofs.YtmbmalkpmanaaaaW.PrintMore
attribute [local go_sem] max2_int min2_int max_two min_two max_three min_three max_four min_four   -- for this text's walks alone
set_option linter.unusedVariables false
set_option linter.unusedSimpArgs false

mutual
def epactref02_Right.l0 : Nat → List (S23) → Int → Option (Bool)
 | 0, _, _ => none
 | k + 1, x0, x3 => if x3 < (x0.length : Int) then (if 0 ≤ x3 then (if ((rd_T23 x0 x3).f0) > ((rd_T23 x0 x3).f1) then (epactref02_Right.j1 k x0 x3 true) else (if ((rd_T23 x0 x3).f0) < (-1099511627776) then (epactref02_Right.j1 k x0 x3 true) else (epactref02_Right.j1 k x0 x3 (decide (((rd_T23 x0 x3).f1) > 1099511627776))))) else (none)) else (some true)
def epactref02_Right.j1 : Nat → List (S23) → Int → Bool → Option (Bool)
 | 0, _, _, _ => none
 | k + 1, x0, x3, x36 => if x36 = true then (some false) else (if x3 > 0 then (if 0 ≤ x3 then (if x3 < (x0.length : Int) then (if 0 ≤ (wrap64 (x3 - 1)) then (if (wrap64 (x3 - 1)) < (x0.length : Int) then (if ((rd_T23 x0 x3).f0) ≤ ((rd_T23 x0 (wrap64 (x3 - 1))).f1) then (some false) else (if x3 ≤ (x0.length : Int) then ((epactref02_Has.f k (x0.take (x3 : Int).toNat) (wrap64 (((rd_T23 x0 x3).f0) - 1))).bind fun t339 => (if t339 = true then (some false) else (epactref02_Right.l0 k x0 (wrap64 (x3 + 1))))) else (none))) else (none)) else (none)) else (none)) else (none)) else (epactref02_Right.l0 k x0 (wrap64 (x3 + 1))))
end
def epactref02_Right.f (k : Nat) (l0 : List (S23)) : Option (Bool) := epactref02_Right.l0 k l0 0
theorem epactref02_Right.mono_l : ∀ k, (∀ y0 y1, LeO (epactref02_Right.l0 k y0 y1) (epactref02_Right.l0 (k + 1) y0 y1)) ∧ (∀ y0 y1 y2, LeO (epactref02_Right.j1 k y0 y1 y2) (epactref02_Right.j1 (k + 1) y0 y1 y2))
 | 0 => ⟨fun _ _ r h => by simp [epactref02_Right.l0] at h, fun _ _ _ r h => by simp [epactref02_Right.j1] at h⟩
 | k + 1 => by
  obtain ⟨ih0, ih1⟩ := epactref02_Right.mono_l k
  refine ⟨?_, ?_⟩
  ·
   intro y0 y1
   unfold epactref02_Right.l0
   repeat' first
   | (with_reducible exact ih0 _ _)
   | (with_reducible exact ih1 _ _ _)
   | (with_reducible exact epactref02_Has.mono _ _ _)
   | (with_reducible exact LeO.refl _)
   | (with_reducible exact LeO.none _)
   | (with_reducible refine LeO.ite ?_ ?_)
   | (with_reducible refine LeO.bind ?_ (fun _ => ?_))
   | exact ih0 _ _
   | exact ih1 _ _ _
   | exact epactref02_Has.mono _ _ _
   | exact LeO.none _
   | refine LeO.ite ?_ ?_
   | refine LeO.bind ?_ (fun _ => ?_)
  ·
   intro y0 y1 y2
   unfold epactref02_Right.j1
   repeat' first
   | (with_reducible exact ih0 _ _)
   | (with_reducible exact ih1 _ _ _)
   | (with_reducible exact epactref02_Has.mono _ _ _)
   | (with_reducible exact LeO.refl _)
   | (with_reducible exact LeO.none _)
   | (with_reducible refine LeO.ite ?_ ?_)
   | (with_reducible refine LeO.bind ?_ (fun _ => ?_))
   | exact ih0 _ _
   | exact ih1 _ _ _
   | exact epactref02_Has.mono _ _ _
   | exact LeO.none _
   | refine LeO.ite ?_ ?_
   | refine LeO.bind ?_ (fun _ => ?_)
theorem epactref02_Right.mono : ∀ a0 k, LeO (epactref02_Right.f k a0) (epactref02_Right.f (k + 1) a0) := by
 intro a0 k
 obtain ⟨ih0, ih1⟩ := epactref02_Right.mono_l k
 unfold epactref02_Right.f
 repeat' first
   | (with_reducible exact ih0 _ _)
   | (with_reducible exact ih1 _ _ _)
   | (with_reducible exact epactref02_Has.mono _ _ _)
   | (with_reducible exact LeO.refl _)
   | (with_reducible exact LeO.none _)
   | (with_reducible refine LeO.ite ?_ ?_)
   | (with_reducible refine LeO.bind ?_ (fun _ => ?_))
   | exact ih0 _ _
   | exact ih1 _ _ _
   | exact epactref02_Has.mono _ _ _
   | exact LeO.none _
   | refine LeO.ite ?_ ?_
   | refine LeO.bind ?_ (fun _ => ?_)
set_option maxHeartbeats 8000000 in
set_option maxRecDepth 100000 in
theorem epactref02_Right.calls (k : Nat) (A0 : Option Addr) (c0 : Nat) (l0 : List (S23)) (r : Bool) (w : World) (hr0 : Kd.C k23 w A0 l0.length l0) (hc0 : l0.length ≤ c0) (h : epactref02_Right.f k l0 = some r) :
  Calls Try.prog 32 #[.slice A0 l0.length c0] w fun e w' => e = .returned (.bool r) ∧ Drawn0 w w' := by
 have HR0 := Aside0.mk hr0
 have HC0 := Aside0.mk hc0
 clear hr0 hc0
 have H : (epactref02_Right.l0 k l0 0) = some r := h
 clear h
 have H' := Aside0.mk H
 clear H
 go_enter Try.func32, Try.ntmps32
 go_wp2
 repeat (go_quiet (fail); try go_wp2)
 go_loopg [3] k (fun kq v3 w' => ∃ (x3_1 : Int), v3 = .int .i64 x3_1 ∧ Aside0 (epactref02_Right.l0 kq l0 x3_1 = some r) ∧ Aside0 (kq ≤ k) ∧ Drawn0 w w')
 case atStart => exact ⟨(0), (by first | rfl | (simp; done) | (simp [*]; done)), H', ⟨Nat.le_refl _⟩, by repeat (first | exact Drawn0.refl _ | apply Drawn0.step)⟩
 case round =>
  clear H'
  obtain ⟨x3_1, rfl, HA, HK1, ⟨m1, rfl⟩⟩ := hrel
  cases gk with
  | zero => exact absurd HA.out (by simp [epactref02_Right.l0])
  | succ k1 =>
   have H := HA.out
   clear HA
   simp only [epactref02_Right.l0] at H
   by_cases c2 : x3_1 < (l0.length : Int)
   ·
    rw [if_pos c2] at H
    have c2b0 : decide (x3_1 < (l0.length : Int)) = true := decide_eq_true c2
    clear c2
    have HC3 := Aside0.mk H
    clear H
    go_upto_region 4 with (fail)
    repeat (go_quiet (fail); go_upto_region 4 with (fail))
    go_cut [36] (fun v36 wc => ∃ (kq : Nat) (x36_2 : Bool), v36 = .bool x36_2 ∧ Aside0 (epactref02_Right.j1 kq l0 x3_1 x36_2 = some r) ∧ Aside0 (kq ≤ k1) ∧ Drawn0 w wc)
    case first =>
     have H := HC3.out
     clear HC3
     by_cases c4 : 0 ≤ x3_1
     ·
      rw [if_pos c4] at H
      have c4b0 : decide (0 ≤ x3_1) = true := decide_eq_true c4
      clear c4
      (first | rw [c4b0] | (simp only [i64_w, i32_w]; rw [c4b0]) | skip)
      by_cases c5 : ((rd_T23 l0 x3_1).f0) > ((rd_T23 l0 x3_1).f1)
      ·
       rw [if_pos c5] at H
       have c5b0 : decide (((rd_T23 l0 x3_1).f1) < ((rd_T23 l0 x3_1).f0)) = true := decide_eq_true c5
       clear c5
       have H' := Aside0.mk H
       clear H
       have p328 : 0 ≤ (x3_1 : Int) := of_decide_eq_true (by first | (with_reducible assumption) | assumption)
       have q328 : x3_1 < (l0.length : Int) := of_decide_eq_true (by first | (with_reducible assumption) | assumption)
       obtain ⟨ad328, e328, hx328_0, hx328_1⟩ := at_T23 HR0.out x3_1 p328 q328
       cases e328
       replace p328 := eq_true p328
       replace q328 := eq_true q328
       have p329 : 0 ≤ (x3_1 : Int) := of_decide_eq_true (by first | (with_reducible assumption) | assumption)
       have q329 : x3_1 < (l0.length : Int) := of_decide_eq_true (by first | (with_reducible assumption) | assumption)
       obtain ⟨ad329, e329, hx329_0, hx329_1⟩ := at_T23 HR0.out x3_1 p329 q329
       obtain rfl : ad328 = ad329 := (by injection e329)
       replace p329 := eq_true p329
       replace q329 := eq_true q329
       go_wp2
       repeat (go_quiet (fail); try go_wp2)
       go_meet
       case rel => exact ⟨_, (true), (by first | rfl | (simp; done) | (simp [*]; done)), H', ⟨by have := HK1.out; first | omega | exact Nat.le_refl _⟩, by repeat (first | exact Drawn0.refl _ | apply Drawn0.step)⟩
      ·
       rw [if_neg c5] at H
       have c5b0 : decide (((rd_T23 l0 x3_1).f1) < ((rd_T23 l0 x3_1).f0)) = false := decide_eq_false c5
       clear c5
       by_cases c6 : ((rd_T23 l0 x3_1).f0) < (-1099511627776)
       ·
        rw [if_pos c6] at H
        have c6b0 : decide (((rd_T23 l0 x3_1).f0) < (-1099511627776)) = true := decide_eq_true c6
        clear c6
        have H' := Aside0.mk H
        clear H
        have p328 : 0 ≤ (x3_1 : Int) := of_decide_eq_true (by first | (with_reducible assumption) | assumption)
        have q328 : x3_1 < (l0.length : Int) := of_decide_eq_true (by first | (with_reducible assumption) | assumption)
        obtain ⟨ad328, e328, hx328_0, hx328_1⟩ := at_T23 HR0.out x3_1 p328 q328
        cases e328
        replace p328 := eq_true p328
        replace q328 := eq_true q328
        have p329 : 0 ≤ (x3_1 : Int) := of_decide_eq_true (by first | (with_reducible assumption) | assumption)
        have q329 : x3_1 < (l0.length : Int) := of_decide_eq_true (by first | (with_reducible assumption) | assumption)
        obtain ⟨ad329, e329, hx329_0, hx329_1⟩ := at_T23 HR0.out x3_1 p329 q329
        obtain rfl : ad328 = ad329 := (by injection e329)
        replace p329 := eq_true p329
        replace q329 := eq_true q329
        have p330 : 0 ≤ (x3_1 : Int) := of_decide_eq_true (by first | (with_reducible assumption) | assumption)
        have q330 : x3_1 < (l0.length : Int) := of_decide_eq_true (by first | (with_reducible assumption) | assumption)
        obtain ⟨ad330, e330, hx330_0, hx330_1⟩ := at_T23 HR0.out x3_1 p330 q330
        obtain rfl : ad328 = ad330 := (by injection e330)
        replace p330 := eq_true p330
        replace q330 := eq_true q330
        go_wp2
        repeat (go_quiet (fail); try go_wp2)
        go_meet
        case rel => exact ⟨_, (true), (by first | rfl | (simp; done) | (simp [*]; done)), H', ⟨by have := HK1.out; first | omega | exact Nat.le_refl _⟩, by repeat (first | exact Drawn0.refl _ | apply Drawn0.step)⟩
       ·
        rw [if_neg c6] at H
        have c6b0 : decide (((rd_T23 l0 x3_1).f0) < (-1099511627776)) = false := decide_eq_false c6
        clear c6
        have H' := Aside0.mk H
        clear H
        have p328 : 0 ≤ (x3_1 : Int) := of_decide_eq_true (by first | (with_reducible assumption) | assumption)
        have q328 : x3_1 < (l0.length : Int) := of_decide_eq_true (by first | (with_reducible assumption) | assumption)
        obtain ⟨ad328, e328, hx328_0, hx328_1⟩ := at_T23 HR0.out x3_1 p328 q328
        cases e328
        replace p328 := eq_true p328
        replace q328 := eq_true q328
        have p329 : 0 ≤ (x3_1 : Int) := of_decide_eq_true (by first | (with_reducible assumption) | assumption)
        have q329 : x3_1 < (l0.length : Int) := of_decide_eq_true (by first | (with_reducible assumption) | assumption)
        obtain ⟨ad329, e329, hx329_0, hx329_1⟩ := at_T23 HR0.out x3_1 p329 q329
        obtain rfl : ad328 = ad329 := (by injection e329)
        replace p329 := eq_true p329
        replace q329 := eq_true q329
        have p330 : 0 ≤ (x3_1 : Int) := of_decide_eq_true (by first | (with_reducible assumption) | assumption)
        have q330 : x3_1 < (l0.length : Int) := of_decide_eq_true (by first | (with_reducible assumption) | assumption)
        obtain ⟨ad330, e330, hx330_0, hx330_1⟩ := at_T23 HR0.out x3_1 p330 q330
        obtain rfl : ad328 = ad330 := (by injection e330)
        replace p330 := eq_true p330
        replace q330 := eq_true q330
        have p331 : 0 ≤ (x3_1 : Int) := of_decide_eq_true (by first | (with_reducible assumption) | assumption)
        have q331 : x3_1 < (l0.length : Int) := of_decide_eq_true (by first | (with_reducible assumption) | assumption)
        obtain ⟨ad331, e331, hx331_0, hx331_1⟩ := at_T23 HR0.out x3_1 p331 q331
        obtain rfl : ad328 = ad331 := (by injection e331)
        replace p331 := eq_true p331
        replace q331 := eq_true q331
        go_wp2
        repeat (go_quiet (fail); try go_wp2)
        go_meet
        case rel => exact ⟨_, (decide (((rd_T23 l0 x3_1).f1) > 1099511627776)), (by first | rfl | (simp; done) | (simp [*]; done)), H', ⟨by have := HK1.out; first | omega | exact Nat.le_refl _⟩, by repeat (first | exact Drawn0.refl _ | apply Drawn0.step)⟩
     ·
      rw [if_neg c4] at H
      exact absurd H (by simp)
    case rest =>
     clear HC3
     try clear c2
     try clear c2b0
     try clear p2
     try clear c3
     try clear p3
     try clear q3
     try clear hx3
     try clear c4
     try clear c4b0
     try clear c5
     try clear c5b0
     try clear c6
     try clear c6b0
     try clear hx328_0
     try clear hx328_1
     try clear hx329_0
     try clear hx329_1
     try clear hx330_0
     try clear hx330_1
     try clear hx331_0
     try clear hx331_1
     try clear p328
     try clear p329
     try clear p330
     try clear p331
     try clear q328
     try clear q329
     try clear q330
     try clear q331
     obtain ⟨kq, x36_2, rfl, HA, HJ2, ⟨mc2, rfl⟩⟩ := hcut
     cases kq with
     | zero => exact absurd HA.out (by simp [epactref02_Right.j1])
     | succ kj2 =>
      have H := HA.out
      clear HA
      simp only [epactref02_Right.j1] at H
      by_cases c7 : x36_2 = true
      ·
       subst c7
       have H1 : (some false) = some r := by rw [if_pos rfl] at H; exact H
       clear H
       have H := H1
       clear H1
       obtain rfl := Option.some.inj H
       go_wp2
       repeat (go_quiet (fail); try go_wp2)
       go_ret
       exact ⟨by first | rfl | (simp; done) | (simp [*]; done), by repeat (first | exact Drawn0.refl _ | apply Drawn0.step)⟩
      ·
       replace c7 := Bool.eq_false_iff.mpr c7
       subst c7
       have H1 : (if x3_1 > 0 then (if 0 ≤ x3_1 then (if x3_1 < (l0.length : Int) then (if 0 ≤ (wrap64 (x3_1 - 1)) then (if (wrap64 (x3_1 - 1)) < (l0.length : Int) then (if ((rd_T23 l0 x3_1).f0) ≤ ((rd_T23 l0 (wrap64 (x3_1 - 1))).f1) then (some false) else (if x3_1 ≤ (l0.length : Int) then ((epactref02_Has.f kj2 (l0.take (x3_1 : Int).toNat) (wrap64 (((rd_T23 l0 x3_1).f0) - 1))).bind fun t339 => (if t339 = true then (some false) else (epactref02_Right.l0 kj2 l0 (wrap64 (x3_1 + 1))))) else (none))) else (none)) else (none)) else (none)) else (none)) else (epactref02_Right.l0 kj2 l0 (wrap64 (x3_1 + 1)))) = some r := by rw [if_neg (show ¬ (false = true) by decide)] at H; exact H
       clear H
       have H := H1
       clear H1
       by_cases c8 : x3_1 > 0
       ·
        rw [if_pos c8] at H
        have c8b0 : decide (0 < x3_1) = true := decide_eq_true c8
        clear c8
        by_cases c9 : 0 ≤ x3_1
        ·
         rw [if_pos c9] at H
         have c9b0 : decide (0 ≤ x3_1) = true := decide_eq_true c9
         clear c9
         by_cases c10 : x3_1 < (l0.length : Int)
         ·
          rw [if_pos c10] at H
          have c10b0 : decide (x3_1 < (l0.length : Int)) = true := decide_eq_true c10
          clear c10
          obtain ⟨ji11, hji11⟩ : ∃ j_ : Int, (wrap64 (x3_1 - 1)) = j_ := ⟨_, rfl⟩
          replace H : (if 0 ≤ (ji11) then (if (ji11) < (l0.length : Int) then (if ((rd_T23 l0 x3_1).f0) ≤ ((rd_T23 l0 (ji11)).f1) then (some false) else (if x3_1 ≤ (l0.length : Int) then ((epactref02_Has.f kj2 (l0.take (x3_1 : Int).toNat) (wrap64 (((rd_T23 l0 x3_1).f0) - 1))).bind fun t339 => (if t339 = true then (some false) else (epactref02_Right.l0 kj2 l0 (wrap64 (x3_1 + 1))))) else (none))) else (none)) else (none)) = some r := by first | (rw [hji11] at H; exact H) | (simp only [hji11] at H ⊢; exact H)
          have hji11w : (IntKind.i64.wrap (x3_1 - 1)) = ji11 := (i64_w _).trans hji11
          by_cases c12 : 0 ≤ (ji11)
          ·
           rw [if_pos c12] at H
           have c12b0 : decide (0 ≤ (ji11)) = true := decide_eq_true c12
           clear c12
           by_cases c13 : (ji11) < (l0.length : Int)
           ·
            rw [if_pos c13] at H
            have c13b0 : decide ((ji11) < (l0.length : Int)) = true := decide_eq_true c13
            clear c13
            by_cases c14 : ((rd_T23 l0 x3_1).f0) ≤ ((rd_T23 l0 (ji11)).f1)
            ·
             rw [if_pos c14] at H
             have c14b0 : decide (((rd_T23 l0 x3_1).f0) ≤ ((rd_T23 l0 (ji11)).f1)) = true := decide_eq_true c14
             clear c14
             obtain rfl := Option.some.inj H
             have p332 : 0 ≤ (x3_1 : Int) := of_decide_eq_true (by first | (with_reducible assumption) | assumption)
             have q332 : x3_1 < (l0.length : Int) := of_decide_eq_true (by first | (with_reducible assumption) | assumption)
             obtain ⟨ad332, e332, hx332_0, hx332_1⟩ := at_T23 HR0.out x3_1 p332 q332
             cases e332
             replace p332 := eq_true p332
             replace q332 := eq_true q332
             have p333 : 0 ≤ ((ji11) : Int) := of_decide_eq_true (by first | (with_reducible assumption) | assumption)
             have q333 : (ji11) < (l0.length : Int) := of_decide_eq_true (by first | (with_reducible assumption) | assumption)
             obtain ⟨ad333, e333, hx333_0, hx333_1⟩ := at_T23 HR0.out (ji11) p333 q333
             obtain rfl : ad332 = ad333 := (by injection e333)
             replace p333 := eq_true p333
             replace q333 := eq_true q333
             go_wp2
             repeat (go_quiet (fail); try go_wp2)
             go_ret
             exact ⟨by first | rfl | (simp; done) | (simp only [← hji11] <;> (first | rfl | simp)) | (simp [*]; done), by repeat (first | exact Drawn0.refl _ | apply Drawn0.step)⟩
            ·
             rw [if_neg c14] at H
             have c14b0 : decide (((rd_T23 l0 x3_1).f0) ≤ ((rd_T23 l0 (ji11)).f1)) = false := decide_eq_false c14
             clear c14
             have c15b0 := eq_true (of_decide_eq_true (by first | (with_reducible assumption) | assumption) : 0 ≤ x3_1)
             by_cases c16 : x3_1 ≤ (l0.length : Int)
             ·
              rw [if_pos c16] at H
              have c16b0 := eq_true c16
              have c16b1 : decide (x3_1 ≤ (l0.length : Int)) = true := decide_eq_true c16
              clear c16
              obtain ⟨y334, hy334⟩ : ∃ y_ : List (S23), y_ = (l0.take (x3_1 : Int).toNat) := ⟨_, rfl⟩
              replace H : ((epactref02_Has.f kj2 y334 (wrap64 (((rd_T23 l0 x3_1).f0) - 1))).bind fun t339 => (if t339 = true then (some false) else (epactref02_Right.l0 kj2 l0 (wrap64 (x3_1 + 1))))) = some r := by first | (rw [hy334]; with_reducible exact H) | (have H2_ := (Option.bind_some _ _).symm.trans H; rw [hy334]; with_reducible exact H2_) | (have H2_ := (Option.bind_some _ _).symm.trans H; with_reducible exact H2_) | with_reducible exact H | (rw [hy334]; exact H) | exact H
              have Ny334 := Aside0.mk hy334
              clear hy334
              replace H := Option.bind_eq_some_iff.mp H
              obtain ⟨t339, A170, H⟩ := H
              replace H : (if t339 = true then (some false) else (epactref02_Right.l0 kj2 l0 (wrap64 (x3_1 + 1)))) = some r := H
              have A17 := Aside0.mk A170
              clear A170
              by_cases c18 : t339 = true
              ·
               subst c18
               have H1 : (some false) = some r := by rw [if_pos rfl] at H; exact H
               clear H
               have H := H1
               clear H1
               obtain rfl := Option.some.inj H
               have p332 : 0 ≤ (x3_1 : Int) := of_decide_eq_true (by first | (with_reducible assumption) | assumption)
               have q332 : x3_1 < (l0.length : Int) := of_decide_eq_true (by first | (with_reducible assumption) | assumption)
               obtain ⟨ad332, e332, hx332_0, hx332_1⟩ := at_T23 HR0.out x3_1 p332 q332
               cases e332
               replace p332 := eq_true p332
               replace q332 := eq_true q332
               have p333 : 0 ≤ ((ji11) : Int) := of_decide_eq_true (by first | (with_reducible assumption) | assumption)
               have q333 : (ji11) < (l0.length : Int) := of_decide_eq_true (by first | (with_reducible assumption) | assumption)
               obtain ⟨ad333, e333, hx333_0, hx333_1⟩ := at_T23 HR0.out (ji11) p333 q333
               obtain rfl : ad332 = ad333 := (by injection e333)
               replace p333 := eq_true p333
               replace q333 := eq_true q333
               have q19 : (x3_1 : Int) ≤ ((l0.length : Int) : Int) := of_decide_eq_true (by first | (with_reducible assumption) | assumption)
               obtain ⟨i019, hi019, _, hsz19, _⟩ := info_parts info23
               have hroom19 : l0.length ≤ c0 := HC0.out
               have hC19 : Kd.C k23 _ (some ad332) l0.length l0 := HR0.out
               have hcut19 := cut_to (P := Try.prog) 24 23 .i64 Try.underlying24 hi019 (some ad332) l0.length c0 x3_1 (of_decide_eq_true (by first | (with_reducible assumption) | assumption)) q19 hroom19
               have hr19 := Kd.C_take (m := (x3_1 : Int).toNat) hC19 (by omega)
               have hy19 : y334.length = (x3_1 : Int).toNat := (by rw [Ny334.out, List.length_take]; omega)
               rw [← Ny334.out] at hr19
               rw [← hy19] at hcut19
               have HR337 := Aside0.mk hr19
               have HC337 := Aside0.mk (show y334.length ≤ c0 from by omega)
               clear hr19 hC19 hroom19 hi019 hsz19
               have KY19 := Aside0.mk hy19
               clear hy19
               replace q19 := eq_true q19
               have p338 : 0 ≤ (x3_1 : Int) := of_decide_eq_true (by first | (with_reducible assumption) | assumption)
               have q338 : x3_1 < (l0.length : Int) := of_decide_eq_true (by first | (with_reducible assumption) | assumption)
               obtain ⟨ad338, e338, hx338_0, hx338_1⟩ := at_T23 HR0.out x3_1 p338 q338
               obtain rfl : ad332 = ad338 := (by injection e338)
               replace p338 := eq_true p338
               replace q338 := eq_true q338
               go_wp2_with (first | (go_at_call 46; (with_reducible refine (epactref02_Has.calls kj2 _ _ y334 (wrap64 (((rd_T23 l0 x3_1).f0) - 1)) true _ ?side1 ?side2 A17.out).mono ?_); (case side1 => repeat (first | exact HR337.out | (with_reducible refine Kd.C_alloc ?_ _) | (with_reducible refine Kd.C_drewN ?_ _) | (with_reducible refine Kd.C_drew ?_))); (case side2 => exact HC337.out); rintro e w' ⟨rfl, ⟨nd, rfl⟩⟩; (try first | exact ⟨rfl, _, World.drewN_drewN _ _ _⟩ | exact ⟨rfl, _, Eq.trans (World.drewN_drewN _ _ _) (congrArg (World.drewN _) (Nat.add_assoc _ _ _))⟩)))
               repeat (go_quiet (first | (go_at_call 46; (with_reducible refine (epactref02_Has.calls kj2 _ _ y334 (wrap64 (((rd_T23 l0 x3_1).f0) - 1)) true _ ?side1 ?side2 A17.out).mono ?_); (case side1 => repeat (first | exact HR337.out | (with_reducible refine Kd.C_alloc ?_ _) | (with_reducible refine Kd.C_drewN ?_ _) | (with_reducible refine Kd.C_drew ?_))); (case side2 => exact HC337.out); rintro e w' ⟨rfl, ⟨nd, rfl⟩⟩; (try first | exact ⟨rfl, _, World.drewN_drewN _ _ _⟩ | exact ⟨rfl, _, Eq.trans (World.drewN_drewN _ _ _) (congrArg (World.drewN _) (Nat.add_assoc _ _ _))⟩))); try go_wp2_with (first | (go_at_call 46; (with_reducible refine (epactref02_Has.calls kj2 _ _ y334 (wrap64 (((rd_T23 l0 x3_1).f0) - 1)) true _ ?side1 ?side2 A17.out).mono ?_); (case side1 => repeat (first | exact HR337.out | (with_reducible refine Kd.C_alloc ?_ _) | (with_reducible refine Kd.C_drewN ?_ _) | (with_reducible refine Kd.C_drew ?_))); (case side2 => exact HC337.out); rintro e w' ⟨rfl, ⟨nd, rfl⟩⟩; (try first | exact ⟨rfl, _, World.drewN_drewN _ _ _⟩ | exact ⟨rfl, _, Eq.trans (World.drewN_drewN _ _ _) (congrArg (World.drewN _) (Nat.add_assoc _ _ _))⟩))))
               go_ret
               exact ⟨by first | rfl | (simp; done) | (simp only [← hji11] <;> (first | rfl | simp)) | (simp [*]; done), by repeat (first | exact Drawn0.refl _ | apply Drawn0.step)⟩
              ·
               replace c18 := Bool.eq_false_iff.mpr c18
               subst c18
               have H1 : (epactref02_Right.l0 kj2 l0 (wrap64 (x3_1 + 1))) = some r := by rw [if_neg (show ¬ (false = true) by decide)] at H; exact H
               clear H
               have H := H1
               clear H1
               have H' := Aside0.mk H
               clear H
               have p332 : 0 ≤ (x3_1 : Int) := of_decide_eq_true (by first | (with_reducible assumption) | assumption)
               have q332 : x3_1 < (l0.length : Int) := of_decide_eq_true (by first | (with_reducible assumption) | assumption)
               obtain ⟨ad332, e332, hx332_0, hx332_1⟩ := at_T23 HR0.out x3_1 p332 q332
               cases e332
               replace p332 := eq_true p332
               replace q332 := eq_true q332
               have p333 : 0 ≤ ((ji11) : Int) := of_decide_eq_true (by first | (with_reducible assumption) | assumption)
               have q333 : (ji11) < (l0.length : Int) := of_decide_eq_true (by first | (with_reducible assumption) | assumption)
               obtain ⟨ad333, e333, hx333_0, hx333_1⟩ := at_T23 HR0.out (ji11) p333 q333
               obtain rfl : ad332 = ad333 := (by injection e333)
               replace p333 := eq_true p333
               replace q333 := eq_true q333
               have q20 : (x3_1 : Int) ≤ ((l0.length : Int) : Int) := of_decide_eq_true (by first | (with_reducible assumption) | assumption)
               obtain ⟨i020, hi020, _, hsz20, _⟩ := info_parts info23
               have hroom20 : l0.length ≤ c0 := HC0.out
               have hC20 : Kd.C k23 _ (some ad332) l0.length l0 := HR0.out
               have hcut20 := cut_to (P := Try.prog) 24 23 .i64 Try.underlying24 hi020 (some ad332) l0.length c0 x3_1 (of_decide_eq_true (by first | (with_reducible assumption) | assumption)) q20 hroom20
               have hr20 := Kd.C_take (m := (x3_1 : Int).toNat) hC20 (by omega)
               have hy20 : y334.length = (x3_1 : Int).toNat := (by rw [Ny334.out, List.length_take]; omega)
               rw [← Ny334.out] at hr20
               rw [← hy20] at hcut20
               have HR337 := Aside0.mk hr20
               have HC337 := Aside0.mk (show y334.length ≤ c0 from by omega)
               clear hr20 hC20 hroom20 hi020 hsz20
               have KY20 := Aside0.mk hy20
               clear hy20
               replace q20 := eq_true q20
               have p338 : 0 ≤ (x3_1 : Int) := of_decide_eq_true (by first | (with_reducible assumption) | assumption)
               have q338 : x3_1 < (l0.length : Int) := of_decide_eq_true (by first | (with_reducible assumption) | assumption)
               obtain ⟨ad338, e338, hx338_0, hx338_1⟩ := at_T23 HR0.out x3_1 p338 q338
               obtain rfl : ad332 = ad338 := (by injection e338)
               replace p338 := eq_true p338
               replace q338 := eq_true q338
               go_wp2_with (first | (go_at_call 46; (with_reducible refine (epactref02_Has.calls kj2 _ _ y334 (wrap64 (((rd_T23 l0 x3_1).f0) - 1)) false _ ?side1 ?side2 A17.out).mono ?_); (case side1 => repeat (first | exact HR337.out | (with_reducible refine Kd.C_alloc ?_ _) | (with_reducible refine Kd.C_drewN ?_ _) | (with_reducible refine Kd.C_drew ?_))); (case side2 => exact HC337.out); rintro e w' ⟨rfl, ⟨nd, rfl⟩⟩; (try first | exact ⟨rfl, _, World.drewN_drewN _ _ _⟩ | exact ⟨rfl, _, Eq.trans (World.drewN_drewN _ _ _) (congrArg (World.drewN _) (Nat.add_assoc _ _ _))⟩)))
               repeat (go_quiet (first | (go_at_call 46; (with_reducible refine (epactref02_Has.calls kj2 _ _ y334 (wrap64 (((rd_T23 l0 x3_1).f0) - 1)) false _ ?side1 ?side2 A17.out).mono ?_); (case side1 => repeat (first | exact HR337.out | (with_reducible refine Kd.C_alloc ?_ _) | (with_reducible refine Kd.C_drewN ?_ _) | (with_reducible refine Kd.C_drew ?_))); (case side2 => exact HC337.out); rintro e w' ⟨rfl, ⟨nd, rfl⟩⟩; (try first | exact ⟨rfl, _, World.drewN_drewN _ _ _⟩ | exact ⟨rfl, _, Eq.trans (World.drewN_drewN _ _ _) (congrArg (World.drewN _) (Nat.add_assoc _ _ _))⟩))); try go_wp2_with (first | (go_at_call 46; (with_reducible refine (epactref02_Has.calls kj2 _ _ y334 (wrap64 (((rd_T23 l0 x3_1).f0) - 1)) false _ ?side1 ?side2 A17.out).mono ?_); (case side1 => repeat (first | exact HR337.out | (with_reducible refine Kd.C_alloc ?_ _) | (with_reducible refine Kd.C_drewN ?_ _) | (with_reducible refine Kd.C_drew ?_))); (case side2 => exact HC337.out); rintro e w' ⟨rfl, ⟨nd, rfl⟩⟩; (try first | exact ⟨rfl, _, World.drewN_drewN _ _ _⟩ | exact ⟨rfl, _, Eq.trans (World.drewN_drewN _ _ _) (congrArg (World.drewN _) (Nat.add_assoc _ _ _))⟩))))
               go_roundg kj2
               case measure => have := HK1.out; have := HJ2.out; omega
               case rel => exact ⟨(wrap64 (x3_1 + 1)), (by first | rfl | (simp; done) | (simp [*]; done)), H', ⟨by have := HK1.out; have := HJ2.out; omega⟩, by repeat (first | exact Drawn0.refl _ | apply Drawn0.step)⟩
             ·
              rw [if_neg c16] at H
              exact absurd H (by simp)
           ·
            rw [if_neg c13] at H
            exact absurd H (by simp)
          ·
           rw [if_neg c12] at H
           exact absurd H (by simp)
         ·
          rw [if_neg c10] at H
          exact absurd H (by simp)
        ·
         rw [if_neg c9] at H
         exact absurd H (by simp)
       ·
        rw [if_neg c8] at H
        have c8b0 : decide (0 < x3_1) = false := decide_eq_false c8
        clear c8
        have H' := Aside0.mk H
        clear H
        go_wp2
        repeat (go_quiet (fail); try go_wp2)
        go_roundg kj2
        case measure => have := HK1.out; have := HJ2.out; omega
        case rel => exact ⟨(wrap64 (x3_1 + 1)), (by first | rfl | (simp; done) | (simp [*]; done)), H', ⟨by have := HK1.out; have := HJ2.out; omega⟩, by repeat (first | exact Drawn0.refl _ | apply Drawn0.step)⟩
   ·
    rw [if_neg c2] at H
    have c2b0 : decide (x3_1 < (l0.length : Int)) = false := decide_eq_false c2
    clear c2
    obtain rfl := Option.some.inj H
    go_wp2
    repeat (go_quiet (fail); try go_wp2)
    go_ret
    exact ⟨by first | rfl | (simp; done) | (simp [*]; done), by repeat (first | exact Drawn0.refl _ | apply Drawn0.step)⟩

end Go.Proofs.Ytmbmalkpmanaaaa.P

namespace Go.Proofs.Ytmbmalkpmanaaaa.P
set_option linter.unusedVariables false
set_option linter.unusedSimpArgs false
open Go.RowKit Go.Proofs.YtmbmalkpmanaaaaW.PrintWords

theorem rd_mid (pre r : List Sp) (s : Sp) : rd_T23 (pre ++ s :: r) (pre.length : Int) = s := by simp [rd_T23]
theorem wrap_len {α : Type} (pre : List α) (s : α) (n : Nat) (h : pre.length + 1 ≤ n) (hn : n ≤ 9223372036854775807) : wrap64 ((pre.length : Int) + 1) = ((pre ++ [s]).length : Int) := by
  rw [wrap_ok (by omega) (by omega)]; simp
theorem wrap_pred {α : Type} (pre : List α) (s : α) (n : Nat) (h : pre.length + 1 ≤ n) (hn : n ≤ 9223372036854775807) : wrap64 (((pre ++ [s]).length : Int) - 1) = (pre.length : Int) := by
  rw [wrap_ok (by simp only [List.length_append, List.length_singleton]; omega) (by simp only [List.length_append, List.length_singleton]; omega)]; simp

def slB (lo : Int) : List Sp → Bool
  | [] => true
  | s :: r => decide (lo ≤ s.f0) && (decide (s.f0 ≤ s.f1) && (decide (s.f1 ≤ 1099511627776) && slB (s.f1 + 2) r))
theorem slB_iff {lo : Int} {l : List Sp} : slB lo l = true ↔ SL lo 1099511627776 l := by
  induction l generalizing lo with
  | nil => simp [slB, SL]
  | cons s r ih => simp [slB, SL, ih]

theorem tick_f (a : Int) : spans_tick.f a = some (decide (-1099511627776 ≤ a) && decide (a ≤ 1099511627776)) := by
  unfold spans_tick.f
  by_cases h : a ≥ -1099511627776
  · have h2 : -1099511627776 ≤ a := h
    rw [if_pos h]; simp [h2]
  · have h2 : ¬ -1099511627776 ≤ a := h
    rw [if_neg h]; simp [h2]

theorem right_ev (l : List Sp) (hl : l.length ≤ 9223372036854775807) : Ev (fun k => spans_Right.f k l) (slB (-1099511627776) l) := by
  have key : ∀ (rest pre : List Sp) (lo : Int), l = pre ++ rest → (pre = [] ∧ lo = -1099511627776 ∨ ∃ p q, pre = p ++ [q] ∧ lo = q.f1 + 2 ∧ -1099511627776 ≤ q.f1 ∧ q.f1 ≤ 1099511627776) →
      Ev (fun k => spans_Right.l0 k l l (l.length : Int) (pre.length : Int)) (slB lo rest) := by
    intro rest
    induction rest with
    | nil =>
      intro pre lo hp hlo
      refine Ev.step (f := fun _ => some true) (fun k => ?_) (Ev.now _)
      rw [spans_Right.l0, if_neg (by rw [hp]; simp)]
    | cons s r ih =>
      intro pre lo hp hlo
      have hlen : pre.length + 1 ≤ l.length := by rw [hp]; simp
      have hrd : rd_T23 l (pre.length : Int) = s := by rw [hp]; exact rd_mid _ _ _
      have h0 : ∀ k, spans_Right.l0 (k + 1) l l (l.length : Int) (pre.length : Int) = spans_Right.l0 (k + 1) l l (l.length : Int) (pre.length : Int) := fun _ => rfl
      have hlow : -1099511627776 ≤ lo := by rcases hlo with ⟨_, rfl⟩ | ⟨p, q, _, rfl, h, _⟩ <;> omega
      have c1 : (pre.length : Int) < (l.length : Int) := by omega
      have c2 : (0 : Int) ≤ (pre.length : Int) := by omega
      by_cases t0 : -1099511627776 ≤ s.f0 ∧ s.f0 ≤ 1099511627776
      · by_cases t1 : -1099511627776 ≤ s.f1 ∧ s.f1 ≤ 1099511627776
        · by_cases t2 : s.f0 > s.f1
          · refine Ev.step (f := fun _ => some (slB lo (s :: r))) (fun k => ?_) (Ev.now _)
            have hn : ¬ s.f0 ≤ s.f1 := by omega
            rw [spans_Right.l0, if_pos c1, if_pos c2, if_pos c1, hrd, tick_f, tick_f]
            simp [t0, t1, t2, slB, hn]
          · have hn : s.f0 ≤ s.f1 := by omega
            rcases hlo with ⟨rfl, rfl⟩ | ⟨p, q, rfl, rfl, hq1, hq2⟩
            · have hs : slB (-1099511627776) (s :: r) = slB (s.f1 + 2) r := by simp [slB, t0, t1, hn]
              rw [hs]
              refine Ev.step (fun k => ?_) (ih [s] (s.f1 + 2) hp (.inr ⟨[], s, rfl, rfl, t1.1, t1.2⟩))
              rw [spans_Right.l0, if_pos c1, if_pos c2, if_pos c1, hrd, tick_f, tick_f]
              have hw : wrap64 (([] : List Sp).length + 1 : Int) = (([s] : List Sp).length : Int) := by simpa using wrap_ok (n := 1) (by omega) (by omega)
              simp only [t0, t1, decide_true, Bool.and_self, Option.bind_some, if_true]
              rw [if_neg t2, if_neg (by simp), hw]
            · have hw := wrap_len (p ++ [q]) s l.length hlen hl
              have hwp := wrap_pred p q l.length (by simp at hlen; omega) hl
              have hrq : rd_T23 l (p.length : Int) = q := by rw [hp]; simp [rd_T23]
              have hw2 : wrap64 (q.f1 + 2) = q.f1 + 2 := wrap_ok (by omega) (by omega)
              have c3 : (p.length : Int) < (l.length : Int) := by simp at hlen; omega
              by_cases t3 : s.f0 < q.f1 + 2
              · refine Ev.step (f := fun _ => some (slB (q.f1 + 2) (s :: r))) (fun k => ?_) (Ev.now _)
                have hn3 : ¬ q.f1 + 2 ≤ s.f0 := by omega
                rw [spans_Right.l0, if_pos c1, if_pos c2, if_pos c1, hrd, tick_f, tick_f]
                simp only [t0, t1, decide_true, Bool.and_self, Option.bind_some, if_true]
                rw [if_neg t2, if_pos (by simp), hwp, if_pos (by omega), if_pos c3, hrq, hw2, if_pos t3]
                simp [slB, hn3]
              · have hn3 : q.f1 + 2 ≤ s.f0 := by omega
                have hs : slB (q.f1 + 2) (s :: r) = slB (s.f1 + 2) r := by simp [slB, t1, hn, hn3]
                rw [hs]
                refine Ev.step (fun k => ?_) (ih (p ++ [q] ++ [s]) (s.f1 + 2) (by rw [hp]; simp) (.inr ⟨p ++ [q], s, rfl, rfl, t1.1, t1.2⟩))
                rw [spans_Right.l0, if_pos c1, if_pos c2, if_pos c1, hrd, tick_f, tick_f]
                simp only [t0, t1, decide_true, Bool.and_self, Option.bind_some, if_true]
                rw [if_neg t2, if_pos (by simp), hwp, if_pos (by omega), if_pos c3, hrq, hw2, if_neg t3, hw]
        · refine Ev.step (f := fun _ => some (slB lo (s :: r))) (fun k => ?_) (Ev.now _)
          rw [spans_Right.l0, if_pos c1, if_pos c2, if_pos c1, hrd, tick_f, tick_f]
          have e1 : (decide (-1099511627776 ≤ s.f1) && decide (s.f1 ≤ 1099511627776)) = false := by
            rw [Bool.eq_false_iff]; intro h; simp at h; exact t1 h
          have e2 : slB lo (s :: r) = false := by
            rw [Bool.eq_false_iff]; intro h; rw [slB_iff] at h; obtain ⟨h1, h2, h3, _⟩ := h; exact t1 ⟨by omega, h3⟩
          rw [e1, e2]
          simp [t0]
      · refine Ev.step (f := fun _ => some (slB lo (s :: r))) (fun k => ?_) (Ev.now _)
        rw [spans_Right.l0, if_pos c1, if_pos c2, if_pos c1, hrd, tick_f]
        have e1 : (decide (-1099511627776 ≤ s.f0) && decide (s.f0 ≤ 1099511627776)) = false := by
          rw [Bool.eq_false_iff]; intro h; simp at h; exact t0 h
        have e2 : slB lo (s :: r) = false := by
          rw [Bool.eq_false_iff]; intro h; rw [slB_iff] at h; obtain ⟨h1, h2, h3, _⟩ := h; exact t0 ⟨by omega, by omega⟩
        rw [e1, e2]
        simp
  exact key l [] (-1099511627776) rfl (.inl ⟨rfl, rfl⟩)

def alikeB : List Sp → List Sp → Bool
  | [], [] => true
  | s :: r, t :: q => ((s.f0 == t.f0) && (s.f1 == t.f1)) && alikeB r q
  | _, _ => false
theorem alikeB_iff : ∀ {l m : List Sp}, alikeB l m = true ↔ l = m
  | [], [] => by simp [alikeB]
  | s :: r, t :: q => by
    simp only [alikeB, Bool.and_eq_true, beq_iff_eq, alikeB_iff (l := r) (m := q), List.cons.injEq]
    constructor
    · rintro ⟨⟨h1, h2⟩, h3⟩; exact ⟨by cases s; cases t; simp only at h1 h2; rw [h1, h2], h3⟩
    · rintro ⟨rfl, h3⟩; exact ⟨⟨rfl, rfl⟩, h3⟩
  | [], _ :: _ => by simp [alikeB]
  | _ :: _, [] => by simp [alikeB]
theorem alikeB_len : ∀ {l m : List Sp}, l.length ≠ m.length → alikeB l m = false
  | l, m, h => by rw [Bool.eq_false_iff]; intro e; exact h (by rw [alikeB_iff.1 e])

end Go.Proofs.Ytmbmalkpmanaaaa.P

namespace Go.Proofs.Ytmbmalkpmanaaaa.P
open Go.RowKit Go.Proofs.YtmbmalkpmanaaaaW.PrintWords Go.Proofs.YtmbmalkpmanaaaaW.PrintLast Go.Proofs.YtmbmalkpmanaaaaW.PrintMore
attribute [local go_sem] max2_int min2_int max_two min_two max_three min_three max_four min_four   -- for this text's walks alone
set_option linter.unusedVariables false
set_option linter.unusedSimpArgs false

def epactref02_in.f (a0 : Int) (a1 : Bool) (a2 : Bool) : Option (Bool) := if a0 = 1 then (if a1 = true then (some true) else (some a2)) else (if a0 = 2 then (if a1 = true then (some a2) else (some false)) else (if a1 = true then (some (!a2)) else (some false)))
set_option maxHeartbeats 8000000 in
set_option maxRecDepth 100000 in
theorem epactref02_in.calls (a0 : Int) (a1 : Bool) (a2 : Bool) (r : Bool) (w : World) (h : epactref02_in.f a0 a1 a2 = some r) :
  Calls Try.prog 78 #[.int .i64 a0, .bool a1, .bool a2] w fun e w' => e = .returned (.bool r) ∧ Drawn0 w w' := by
 have H : (if a0 = 1 then (if a1 = true then (some true) else (some a2)) else (if a0 = 2 then (if a1 = true then (some a2) else (some false)) else (if a1 = true then (some (!a2)) else (some false)))) = some r := h
 clear h
 by_cases c4 : a0 = 1
 ·
  rw [if_pos c4] at H
  have c4b0 : (a0 == 1) = true := beq_iff_eq.mpr c4
  have c4b1 : (a0 != 1) = false := bne_eq_false_iff_eq.mpr c4
  clear c4
  by_cases c5 : a1 = true
  ·
   subst c5
   have H1 : (some true) = some r := by rw [if_pos rfl] at H; exact H
   clear H
   have H := H1
   clear H1
   obtain rfl := Option.some.inj H
   go_enter Try.func78, Try.ntmps78
   go_wp2
   go_ret
   exact ⟨by first | rfl | (simp; done) | (simp [*]; done), by repeat (first | exact Drawn0.refl _ | apply Drawn0.step)⟩
  ·
   replace c5 := Bool.eq_false_iff.mpr c5
   subst c5
   have H1 : (some a2) = some r := by rw [if_neg (show ¬ (false = true) by decide)] at H; exact H
   clear H
   have H := H1
   clear H1
   obtain rfl := Option.some.inj H
   go_enter Try.func78, Try.ntmps78
   go_wp2
   go_ret
   exact ⟨by first | rfl | (simp; done) | (simp [*]; done), by repeat (first | exact Drawn0.refl _ | apply Drawn0.step)⟩
 ·
  rw [if_neg c4] at H
  have c4b0 : (a0 == 1) = false := beq_eq_false_iff_ne.mpr c4
  have c4b1 : (a0 != 1) = true := bne_iff_ne.mpr c4
  by_cases c6 : a0 = 2
  ·
   rw [if_pos c6] at H
   have c6b0 : (a0 == 2) = true := beq_iff_eq.mpr c6
   have c6b1 : (a0 != 2) = false := bne_eq_false_iff_eq.mpr c6
   clear c6
   by_cases c7 : a1 = true
   ·
    subst c7
    have H1 : (some a2) = some r := by rw [if_pos rfl] at H; exact H
    clear H
    have H := H1
    clear H1
    obtain rfl := Option.some.inj H
    go_enter Try.func78, Try.ntmps78
    go_wp2
    go_ret
    exact ⟨by first | rfl | (simp; done) | (simp [*]; done), by repeat (first | exact Drawn0.refl _ | apply Drawn0.step)⟩
   ·
    replace c7 := Bool.eq_false_iff.mpr c7
    subst c7
    have H1 : (some false) = some r := by rw [if_neg (show ¬ (false = true) by decide)] at H; exact H
    clear H
    have H := H1
    clear H1
    obtain rfl := Option.some.inj H
    go_enter Try.func78, Try.ntmps78
    go_wp2
    go_ret
    exact ⟨by first | rfl | (simp; done) | (simp [*]; done), by repeat (first | exact Drawn0.refl _ | apply Drawn0.step)⟩
  ·
   rw [if_neg c6] at H
   have c6b0 : (a0 == 2) = false := beq_eq_false_iff_ne.mpr c6
   have c6b1 : (a0 != 2) = true := bne_iff_ne.mpr c6
   by_cases c8 : a1 = true
   ·
    subst c8
    have H1 : (some (!a2)) = some r := by rw [if_pos rfl] at H; exact H
    clear H
    have H := H1
    clear H1
    obtain rfl := Option.some.inj H
    go_enter Try.func78, Try.ntmps78
    go_wp2
    go_ret
    exact ⟨by first | rfl | (simp; done) | (simp [*]; done), by repeat (first | exact Drawn0.refl _ | apply Drawn0.step)⟩
   ·
    replace c8 := Bool.eq_false_iff.mpr c8
    subst c8
    have H1 : (some false) = some r := by rw [if_neg (show ¬ (false = true) by decide)] at H; exact H
    clear H
    have H := H1
    clear H1
    obtain rfl := Option.some.inj H
    go_enter Try.func78, Try.ntmps78
    go_wp2
    go_ret
    exact ⟨by first | rfl | (simp; done) | (simp [*]; done), by repeat (first | exact Drawn0.refl _ | apply Drawn0.step)⟩

end Go.Proofs.Ytmbmalkpmanaaaa.P

namespace Go.Proofs.Ytmbmalkpmanaaaa.P
open Go.RowKit Go.Proofs.YtmbmalkpmanaaaaW.PrintWords Go.Proofs.YtmbmalkpmanaaaaW.PrintLast Go.Proofs.YtmbmalkpmanaaaaW.PrintMore
attribute [local go_sem] max2_int min2_int max_two min_two max_three min_three max_four min_four   -- for this text's walks alone
set_option linter.unusedVariables false
set_option linter.unusedSimpArgs false

def epactref02_insert.l0 : Nat → List Int → Int → List Int → Bool → Int → Option (List Int)
 | 0, _, _, _, _, _ => none
 | k + 1, x0, x1, x5, x6, x7 => if x7 < (x0.length : Int) then (if 0 ≤ x7 then (if (rd x0 x7) = x1 then (if x5.length < 17592186044416 then (epactref02_insert.l0 k x0 x1 (x5 ++ [rd x0 x7]) true (wrap64 (x7 + 1))) else (none)) else (if x6 = true then (if x5.length < 17592186044416 then (epactref02_insert.l0 k x0 x1 (x5 ++ [rd x0 x7]) x6 (wrap64 (x7 + 1))) else (none)) else (if (rd x0 x7) > x1 then (if x5.length < 17592186044416 then ((some (x5 ++ [x1] : List Int)).bind fun y265 => (if y265.length < 17592186044416 then (epactref02_insert.l0 k x0 x1 (y265 ++ [rd x0 x7]) true (wrap64 (x7 + 1))) else (none))) else (none)) else (if x5.length < 17592186044416 then (epactref02_insert.l0 k x0 x1 (x5 ++ [rd x0 x7]) x6 (wrap64 (x7 + 1))) else (none))))) else (none)) else (if x6 = true then (some x5) else (if x5.length < 17592186044416 then (some (x5 ++ [x1])) else (none)))
def epactref02_insert.f (k : Nat) (l0 : List Int) (a1 : Int) : Option (List Int) := epactref02_insert.l0 k l0 a1 ([] : List Int) false 0
theorem epactref02_insert.mono_l : ∀ k, (∀ y0 y1 y2 y3 y4, LeO (epactref02_insert.l0 k y0 y1 y2 y3 y4) (epactref02_insert.l0 (k + 1) y0 y1 y2 y3 y4))
 | 0 => fun _ _ _ _ _ r h => by simp [epactref02_insert.l0] at h
 | k + 1 => by
  have ih0 := epactref02_insert.mono_l k
  ·
   intro y0 y1 y2 y3 y4
   unfold epactref02_insert.l0
   repeat' first
   | (with_reducible exact ih0 _ _ _ _ _)
   | (with_reducible exact LeO.refl _)
   | (with_reducible exact LeO.none _)
   | (with_reducible refine LeO.ite ?_ ?_)
   | (with_reducible refine LeO.bind ?_ (fun _ => ?_))
   | exact ih0 _ _ _ _ _
   | exact LeO.none _
   | refine LeO.ite ?_ ?_
   | refine LeO.bind ?_ (fun _ => ?_)
theorem epactref02_insert.mono : ∀ a0 a1 k, LeO (epactref02_insert.f k a0 a1) (epactref02_insert.f (k + 1) a0 a1) := by
 intro a0 a1 k
 have ih0 := epactref02_insert.mono_l k
 unfold epactref02_insert.f
 repeat' first
   | (with_reducible exact ih0 _ _ _ _ _)
   | (with_reducible exact LeO.refl _)
   | (with_reducible exact LeO.none _)
   | (with_reducible refine LeO.ite ?_ ?_)
   | (with_reducible refine LeO.bind ?_ (fun _ => ?_))
   | exact ih0 _ _ _ _ _
   | exact LeO.none _
   | refine LeO.ite ?_ ?_
   | refine LeO.bind ?_ (fun _ => ?_)
set_option maxHeartbeats 8000000 in
set_option maxRecDepth 100000 in
theorem epactref02_insert.calls (k : Nat) (A0 : Option Addr) (c0 : Nat) (l0 : List Int) (a1 : Int) (r : List Int) (w : World) (hr0 : Kd.C (Kd.int .i64) w A0 l0.length l0) (hc0 : l0.length ≤ c0) (h : epactref02_insert.f k l0 a1 = some r) :
  Calls Try.prog 99 #[.slice A0 l0.length c0, .int .i64 a1] w fun e w' => ∃ v0_ : Value, e = .returned (v0_) ∧ Kd.R (Kd.int .i64) 3 w' w.heap.size (fun _ => True) v0_ r ∧ Below w.heap.size w w' := by
 have HR0 := Aside0.mk hr0
 have HC0 := Aside0.mk hc0
 clear hr0 hc0
 have HB := Aside0.mk (Below.refl w.heap.size w)
 have H : (epactref02_insert.l0 k l0 a1 ([] : List Int) false 0) = some r := h
 clear h
 have H' := Aside0.mk H
 clear H
 go_enter Try.func99, Try.ntmps99
 go_wp2
 go_loopg [5, 6, 7] k (fun kq v5 v6 v7 w' => ∃ (x5_1 : List Int) (x6_1 : Bool) (x7_1 : Int), v6 = .bool x6_1 ∧ v7 = .int .i64 x7_1 ∧ Aside0 (epactref02_insert.l0 kq l0 a1 x5_1 x6_1 x7_1 = some r) ∧ Aside0 (kq ≤ k) ∧ Aside0 (Kd.R (Kd.int .i64) 3 w' w.heap.size (fun _ => True) v5 x5_1) ∧ Aside0 (Below w.heap.size w w'))
 case atStart => exact ⟨(([] : List Int)), (false), (0), (by first | rfl | (simp; done) | (simp [*]; done)), (by first | rfl | (simp; done) | (simp [*]; done)), H', ⟨Nat.le_refl _⟩, ⟨by first | exact Kd.R_nil _ _ _ _ _ | exact Kd.N_nil _ _ _ _ _ | exact Kd.V_nil _ _ _ _ _ | exact Kd.Q_nil _ _ _ _ _ | exact Kd.S_nil _ _ _ _ _⟩, ⟨by repeat (first | (with_reducible first | exact HB.out | apply below_alloc | apply pw_below_drewN | apply below_drew1) | exact HB.out)⟩⟩
 case round =>
  clear H'
  try clear p2
  obtain ⟨x5_1, x6_1, x7_1, rfl, rfl, HA, HK1, HO_5, HB⟩ := hrel
  cases gk with
  | zero => exact absurd HA.out (by simp [epactref02_insert.l0])
  | succ k1 =>
   have H := HA.out
   clear HA
   simp only [epactref02_insert.l0] at H
   by_cases c3 : x7_1 < (l0.length : Int)
   ·
    rw [if_pos c3] at H
    have c3b0 : decide (x7_1 < (l0.length : Int)) = true := decide_eq_true c3
    clear c3
    by_cases c4 : 0 ≤ x7_1
    ·
     rw [if_pos c4] at H
     have c4b0 : decide (0 ≤ x7_1) = true := decide_eq_true c4
     clear c4
     by_cases c5 : (rd l0 x7_1) = a1
     ·
      rw [if_pos c5] at H
      have c5b0 : ((rd l0 x7_1) == a1) = true := beq_iff_eq.mpr c5
      have c5b1 : ((rd l0 x7_1) != a1) = false := bne_eq_false_iff_eq.mpr c5
      clear c5
      by_cases c6 : x5_1.length < 17592186044416
      ·
       rw [if_pos c6] at H
       have LMc6 := Aside0.mk c6
       clear c6
       obtain ⟨y257, hy257⟩ : ∃ y_ : List Int, y_ = (x5_1 ++ [rd l0 x7_1]) := ⟨_, rfl⟩
       replace H : (epactref02_insert.l0 k1 l0 a1 y257 true (wrap64 (x7_1 + 1))) = some r := by first | (rw [hy257]; with_reducible exact H) | (have H2_ := (Option.bind_some _ _).symm.trans H; rw [hy257]; with_reducible exact H2_) | (have H2_ := (Option.bind_some _ _).symm.trans H; with_reducible exact H2_) | with_reducible exact H | (rw [hy257]; exact H) | exact H
       have Ny257 := Aside0.mk hy257
       clear hy257
       have H' := Aside0.mk H
       clear H
       have p255 : 0 ≤ (x7_1 : Int) := of_decide_eq_true (by first | (with_reducible assumption) | assumption)
       have q255 : x7_1 < (l0.length : Int) := of_decide_eq_true (by first | (with_reducible assumption) | assumption)
       obtain ⟨ad255, e255, hx255_0⟩ := Kd.at_int HR0.out x7_1 p255 q255
       cases e255
       replace hx255_0 := (HB.out.cell (World.block_lt_of_cell? w _ hx255_0)).trans hx255_0
       replace p255 := eq_true p255
       replace q255 := eq_true q255
       have p256 : 0 ≤ (x7_1 : Int) := of_decide_eq_true (by first | (with_reducible assumption) | assumption)
       have q256 : x7_1 < (l0.length : Int) := of_decide_eq_true (by first | (with_reducible assumption) | assumption)
       obtain ⟨ad256, e256, hx256_0⟩ := Kd.at_int HR0.out x7_1 p256 q256
       obtain rfl : ad255 = ad256 := (by injection e256)
       replace hx256_0 := (HB.out.cell (World.block_lt_of_cell? w _ hx256_0)).trans hx256_0
       replace p256 := eq_true p256
       replace q256 := eq_true q256
       go_wp2_with (first | ((with_reducible refine gate_builtin (b := .append) (xs := #[.tmp 34, .tmp 39]) rfl ?_); at_builtin; refine Kd.R_append (Kd.int .i64) (w0 := w) w.heap.size rfl (.tmp 34) (.tmp 39) 29 3 (.int .i64 0) 8 rfl Try.underlying29 info3 rfl (by decide) (by omega) u5 x5_1 (rd l0 x7_1) [.int .i64 (rd l0 x7_1)] (fun _ => True) (fun _ => False) rfl rfl ?aP (fun _ hk => hk.elim) ?aF ?aO ?aB ?aS ?aL ?_; (case aP => exact rfl); (case aB => exact (by repeat (first | (with_reducible first | exact HB.out | apply below_alloc | apply pw_below_drewN | apply below_drew1) | exact HB.out))); (case aF => exact (fun _ _ => trivial)); (case aO => exact (by (with_reducible repeat (first | apply Kd.R_alloc | apply Kd.R_drewN | apply Kd.R_drew)); exact HO_5.out)); (case aS => exact (below_size (by repeat (first | (with_reducible first | exact HB.out | apply below_alloc | apply pw_below_drewN | apply below_drew1) | exact HB.out)))); (case aL => have := LMc6.out; omega); intro v258 w7 ho hb hg hat; rw [← Ny257.out] at ho; have n0_ := Aside0.mk (hb); have n1_ := Aside0.mk (ho); clear HB; clear HO_5; have HB := n0_; have HO259 := n1_; clear n0_ n1_; clear ho hb hg hat))
       go_roundg k1
       case measure => have := HK1.out; omega
       case rel => exact ⟨(y257), (true), (wrap64 (x7_1 + 1)), (by first | rfl | (simp; done) | (simp [*]; done)), (by first | rfl | (simp; done) | (simp [*]; done)), H', ⟨by have := HK1.out; omega⟩, ⟨by (with_reducible repeat (first | apply Kd.R_alloc | apply Kd.R_drewN | apply Kd.R_drew)); exact HO259.out⟩, ⟨by repeat (first | (with_reducible first | exact HB.out | apply below_alloc | apply pw_below_drewN | apply below_drew1) | exact HB.out)⟩⟩
      ·
       rw [if_neg c6] at H
       exact absurd H (by simp)
     ·
      rw [if_neg c5] at H
      have c5b0 : ((rd l0 x7_1) == a1) = false := beq_eq_false_iff_ne.mpr c5
      have c5b1 : ((rd l0 x7_1) != a1) = true := bne_iff_ne.mpr c5
      by_cases c8 : x6_1 = true
      ·
       subst c8
       have H1 : (if x5_1.length < 17592186044416 then (epactref02_insert.l0 k1 l0 a1 (x5_1 ++ [rd l0 x7_1]) true (wrap64 (x7_1 + 1))) else (none)) = some r := by rw [if_pos rfl] at H; exact H
       clear H
       have H := H1
       clear H1
       by_cases c9 : x5_1.length < 17592186044416
       ·
        rw [if_pos c9] at H
        have LMc9 := Aside0.mk c9
        clear c9
        obtain ⟨y261, hy261⟩ : ∃ y_ : List Int, y_ = (x5_1 ++ [rd l0 x7_1]) := ⟨_, rfl⟩
        replace H : (epactref02_insert.l0 k1 l0 a1 y261 true (wrap64 (x7_1 + 1))) = some r := by first | (rw [hy261]; with_reducible exact H) | (have H2_ := (Option.bind_some _ _).symm.trans H; rw [hy261]; with_reducible exact H2_) | (have H2_ := (Option.bind_some _ _).symm.trans H; with_reducible exact H2_) | with_reducible exact H | (rw [hy261]; exact H) | exact H
        have Ny261 := Aside0.mk hy261
        clear hy261
        have H' := Aside0.mk H
        clear H
        have p255 : 0 ≤ (x7_1 : Int) := of_decide_eq_true (by first | (with_reducible assumption) | assumption)
        have q255 : x7_1 < (l0.length : Int) := of_decide_eq_true (by first | (with_reducible assumption) | assumption)
        obtain ⟨ad255, e255, hx255_0⟩ := Kd.at_int HR0.out x7_1 p255 q255
        cases e255
        replace hx255_0 := (HB.out.cell (World.block_lt_of_cell? w _ hx255_0)).trans hx255_0
        replace p255 := eq_true p255
        replace q255 := eq_true q255
        have p260 : 0 ≤ (x7_1 : Int) := of_decide_eq_true (by first | (with_reducible assumption) | assumption)
        have q260 : x7_1 < (l0.length : Int) := of_decide_eq_true (by first | (with_reducible assumption) | assumption)
        obtain ⟨ad260, e260, hx260_0⟩ := Kd.at_int HR0.out x7_1 p260 q260
        obtain rfl : ad255 = ad260 := (by injection e260)
        replace hx260_0 := (HB.out.cell (World.block_lt_of_cell? w _ hx260_0)).trans hx260_0
        replace p260 := eq_true p260
        replace q260 := eq_true q260
        go_wp2_with (first | ((with_reducible refine gate_builtin (b := .append) (xs := #[.tmp 34, .tmp 39]) rfl ?_); at_builtin; refine Kd.R_append (Kd.int .i64) (w0 := w) w.heap.size rfl (.tmp 34) (.tmp 39) 29 3 (.int .i64 0) 8 rfl Try.underlying29 info3 rfl (by decide) (by omega) u5 x5_1 (rd l0 x7_1) [.int .i64 (rd l0 x7_1)] (fun _ => True) (fun _ => False) rfl rfl ?aP (fun _ hk => hk.elim) ?aF ?aO ?aB ?aS ?aL ?_; (case aP => exact rfl); (case aB => exact (by repeat (first | (with_reducible first | exact HB.out | apply below_alloc | apply pw_below_drewN | apply below_drew1) | exact HB.out))); (case aF => exact (fun _ _ => trivial)); (case aO => exact (by (with_reducible repeat (first | apply Kd.R_alloc | apply Kd.R_drewN | apply Kd.R_drew)); exact HO_5.out)); (case aS => exact (below_size (by repeat (first | (with_reducible first | exact HB.out | apply below_alloc | apply pw_below_drewN | apply below_drew1) | exact HB.out)))); (case aL => have := LMc9.out; omega); intro v262 w10 ho hb hg hat; rw [← Ny261.out] at ho; have n0_ := Aside0.mk (hb); have n1_ := Aside0.mk (ho); clear HB; clear HO_5; have HB := n0_; have HO263 := n1_; clear n0_ n1_; clear ho hb hg hat))
        go_roundg k1
        case measure => have := HK1.out; omega
        case rel => exact ⟨(y261), (true), (wrap64 (x7_1 + 1)), (by first | rfl | (simp; done) | (simp [*]; done)), (by first | rfl | (simp; done) | (simp [*]; done)), H', ⟨by have := HK1.out; omega⟩, ⟨by (with_reducible repeat (first | apply Kd.R_alloc | apply Kd.R_drewN | apply Kd.R_drew)); exact HO263.out⟩, ⟨by repeat (first | (with_reducible first | exact HB.out | apply below_alloc | apply pw_below_drewN | apply below_drew1) | exact HB.out)⟩⟩
       ·
        rw [if_neg c9] at H
        exact absurd H (by simp)
      ·
       replace c8 := Bool.eq_false_iff.mpr c8
       subst c8
       have H1 : (if (rd l0 x7_1) > a1 then (if x5_1.length < 17592186044416 then ((some (x5_1 ++ [a1] : List Int)).bind fun y265 => (if y265.length < 17592186044416 then (epactref02_insert.l0 k1 l0 a1 (y265 ++ [rd l0 x7_1]) true (wrap64 (x7_1 + 1))) else (none))) else (none)) else (if x5_1.length < 17592186044416 then (epactref02_insert.l0 k1 l0 a1 (x5_1 ++ [rd l0 x7_1]) false (wrap64 (x7_1 + 1))) else (none))) = some r := by rw [if_neg (show ¬ (false = true) by decide)] at H; exact H
       clear H
       have H := H1
       clear H1
       by_cases c11 : (rd l0 x7_1) > a1
       ·
        rw [if_pos c11] at H
        have c11b0 : decide (a1 < (rd l0 x7_1)) = true := decide_eq_true c11
        clear c11
        by_cases c12 : x5_1.length < 17592186044416
        ·
         rw [if_pos c12] at H
         have LMc12 := Aside0.mk c12
         clear c12
         obtain ⟨y265, hy265⟩ : ∃ y_ : List Int, y_ = (x5_1 ++ [a1]) := ⟨_, rfl⟩
         replace H : (if y265.length < 17592186044416 then (epactref02_insert.l0 k1 l0 a1 (y265 ++ [rd l0 x7_1]) true (wrap64 (x7_1 + 1))) else (none)) = some r := by first | (rw [hy265]; with_reducible exact H) | (have H2_ := (Option.bind_some _ _).symm.trans H; rw [hy265]; with_reducible exact H2_) | (have H2_ := (Option.bind_some _ _).symm.trans H; with_reducible exact H2_) | with_reducible exact H | (rw [hy265]; exact H) | exact H
         have Ny265 := Aside0.mk hy265
         clear hy265
         by_cases c13 : y265.length < 17592186044416
         ·
          rw [if_pos c13] at H
          have LMc13 := Aside0.mk c13
          clear c13
          obtain ⟨y269, hy269⟩ : ∃ y_ : List Int, y_ = (y265 ++ [rd l0 x7_1]) := ⟨_, rfl⟩
          replace H : (epactref02_insert.l0 k1 l0 a1 y269 true (wrap64 (x7_1 + 1))) = some r := by first | (rw [hy269]; with_reducible exact H) | (have H2_ := (Option.bind_some _ _).symm.trans H; rw [hy269]; with_reducible exact H2_) | (have H2_ := (Option.bind_some _ _).symm.trans H; with_reducible exact H2_) | with_reducible exact H | (rw [hy269]; exact H) | exact H
          have Ny269 := Aside0.mk hy269
          clear hy269
          have H' := Aside0.mk H
          clear H
          have p255 : 0 ≤ (x7_1 : Int) := of_decide_eq_true (by first | (with_reducible assumption) | assumption)
          have q255 : x7_1 < (l0.length : Int) := of_decide_eq_true (by first | (with_reducible assumption) | assumption)
          obtain ⟨ad255, e255, hx255_0⟩ := Kd.at_int HR0.out x7_1 p255 q255
          cases e255
          replace hx255_0 := (HB.out.cell (World.block_lt_of_cell? w _ hx255_0)).trans hx255_0
          replace p255 := eq_true p255
          replace q255 := eq_true q255
          have p264 : 0 ≤ (x7_1 : Int) := of_decide_eq_true (by first | (with_reducible assumption) | assumption)
          have q264 : x7_1 < (l0.length : Int) := of_decide_eq_true (by first | (with_reducible assumption) | assumption)
          obtain ⟨ad264, e264, hx264_0⟩ := Kd.at_int HR0.out x7_1 p264 q264
          obtain rfl : ad255 = ad264 := (by injection e264)
          replace hx264_0 := (HB.out.cell (World.block_lt_of_cell? w _ hx264_0)).trans hx264_0
          replace p264 := eq_true p264
          replace q264 := eq_true q264
          go_wp2_with (first | ((with_reducible refine gate_builtin (b := .append) (xs := #[.tmp 30, .tmp 32]) rfl ?_); at_builtin; refine Kd.R_append (Kd.int .i64) (w0 := w) w.heap.size rfl (.tmp 30) (.tmp 32) 29 3 (.int .i64 0) 8 rfl Try.underlying29 info3 rfl (by decide) (by omega) u5 x5_1 a1 [.int .i64 a1] (fun _ => True) (fun _ => False) rfl rfl ?aP (fun _ hk => hk.elim) ?aF ?aO ?aB ?aS ?aL ?_; (case aP => exact rfl); (case aB => exact (by repeat (first | (with_reducible first | exact HB.out | apply below_alloc | apply pw_below_drewN | apply below_drew1) | exact HB.out))); (case aF => exact (fun _ _ => trivial)); (case aO => exact (by (with_reducible repeat (first | apply Kd.R_alloc | apply Kd.R_drewN | apply Kd.R_drew)); exact HO_5.out)); (case aS => exact (below_size (by repeat (first | (with_reducible first | exact HB.out | apply below_alloc | apply pw_below_drewN | apply below_drew1) | exact HB.out)))); (case aL => have := LMc12.out; omega); intro v266 w14 ho hb hg hat; rw [← Ny265.out] at ho; have n0_ := Aside0.mk (hb); have n1_ := Aside0.mk (ho); clear HB; clear HO_5; have HB := n0_; have HO267 := n1_; clear n0_ n1_; clear ho hb hg hat; have p268 : 0 ≤ (x7_1 : Int) := of_decide_eq_true (by first | (with_reducible assumption) | assumption); have q268 : x7_1 < (l0.length : Int) := of_decide_eq_true (by first | (with_reducible assumption) | assumption); obtain ⟨ad268, e268, hx268_0⟩ := Kd.at_int HR0.out x7_1 p268 q268; obtain rfl : ad255 = ad268 := (by injection e268); replace hx268_0 := (HB.out.cell (World.block_lt_of_cell? w _ hx268_0)).trans hx268_0; replace p268 := eq_true p268; replace q268 := eq_true q268) | ((with_reducible refine gate_builtin (b := .append) (xs := #[.tmp 34, .tmp 39]) rfl ?_); at_builtin; refine Kd.R_append (Kd.int .i64) (w0 := w) w.heap.size rfl (.tmp 34) (.tmp 39) 29 3 (.int .i64 0) 8 rfl Try.underlying29 info3 rfl (by decide) (by omega) v266 y265 (rd l0 x7_1) [.int .i64 (rd l0 x7_1)] (fun _ => True) (fun _ => False) rfl rfl ?aP (fun _ hk => hk.elim) ?aF ?aO ?aB ?aS ?aL ?_; (case aP => exact rfl); (case aB => exact (by repeat (first | (with_reducible first | exact HB.out | apply below_alloc | apply pw_below_drewN | apply below_drew1) | exact HB.out))); (case aF => exact (fun _ _ => trivial)); (case aO => exact (by (with_reducible repeat (first | apply Kd.R_alloc | apply Kd.R_drewN | apply Kd.R_drew)); exact HO267.out)); (case aS => exact (below_size (by repeat (first | (with_reducible first | exact HB.out | apply below_alloc | apply pw_below_drewN | apply below_drew1) | exact HB.out)))); (case aL => have := LMc13.out; omega); intro v270 w15 ho hb hg hat; rw [← Ny269.out] at ho; have n0_ := Aside0.mk (hb); have n1_ := Aside0.mk (ho); clear HB; clear HO267; have HB := n0_; have HO271 := n1_; clear n0_ n1_; clear ho hb hg hat))
          go_roundg k1
          case measure => have := HK1.out; omega
          case rel => exact ⟨(y269), (true), (wrap64 (x7_1 + 1)), (by first | rfl | (simp; done) | (simp [*]; done)), (by first | rfl | (simp; done) | (simp [*]; done)), H', ⟨by have := HK1.out; omega⟩, ⟨by (with_reducible repeat (first | apply Kd.R_alloc | apply Kd.R_drewN | apply Kd.R_drew)); exact HO271.out⟩, ⟨by repeat (first | (with_reducible first | exact HB.out | apply below_alloc | apply pw_below_drewN | apply below_drew1) | exact HB.out)⟩⟩
         ·
          rw [if_neg c13] at H
          exact absurd H (by simp)
        ·
         rw [if_neg c12] at H
         exact absurd H (by simp)
       ·
        rw [if_neg c11] at H
        have c11b0 : decide (a1 < (rd l0 x7_1)) = false := decide_eq_false c11
        clear c11
        by_cases c16 : x5_1.length < 17592186044416
        ·
         rw [if_pos c16] at H
         have LMc16 := Aside0.mk c16
         clear c16
         obtain ⟨y273, hy273⟩ : ∃ y_ : List Int, y_ = (x5_1 ++ [rd l0 x7_1]) := ⟨_, rfl⟩
         replace H : (epactref02_insert.l0 k1 l0 a1 y273 false (wrap64 (x7_1 + 1))) = some r := by first | (rw [hy273]; with_reducible exact H) | (have H2_ := (Option.bind_some _ _).symm.trans H; rw [hy273]; with_reducible exact H2_) | (have H2_ := (Option.bind_some _ _).symm.trans H; with_reducible exact H2_) | with_reducible exact H | (rw [hy273]; exact H) | exact H
         have Ny273 := Aside0.mk hy273
         clear hy273
         have H' := Aside0.mk H
         clear H
         have p255 : 0 ≤ (x7_1 : Int) := of_decide_eq_true (by first | (with_reducible assumption) | assumption)
         have q255 : x7_1 < (l0.length : Int) := of_decide_eq_true (by first | (with_reducible assumption) | assumption)
         obtain ⟨ad255, e255, hx255_0⟩ := Kd.at_int HR0.out x7_1 p255 q255
         cases e255
         replace hx255_0 := (HB.out.cell (World.block_lt_of_cell? w _ hx255_0)).trans hx255_0
         replace p255 := eq_true p255
         replace q255 := eq_true q255
         have p264 : 0 ≤ (x7_1 : Int) := of_decide_eq_true (by first | (with_reducible assumption) | assumption)
         have q264 : x7_1 < (l0.length : Int) := of_decide_eq_true (by first | (with_reducible assumption) | assumption)
         obtain ⟨ad264, e264, hx264_0⟩ := Kd.at_int HR0.out x7_1 p264 q264
         obtain rfl : ad255 = ad264 := (by injection e264)
         replace hx264_0 := (HB.out.cell (World.block_lt_of_cell? w _ hx264_0)).trans hx264_0
         replace p264 := eq_true p264
         replace q264 := eq_true q264
         have p272 : 0 ≤ (x7_1 : Int) := of_decide_eq_true (by first | (with_reducible assumption) | assumption)
         have q272 : x7_1 < (l0.length : Int) := of_decide_eq_true (by first | (with_reducible assumption) | assumption)
         obtain ⟨ad272, e272, hx272_0⟩ := Kd.at_int HR0.out x7_1 p272 q272
         obtain rfl : ad255 = ad272 := (by injection e272)
         replace hx272_0 := (HB.out.cell (World.block_lt_of_cell? w _ hx272_0)).trans hx272_0
         replace p272 := eq_true p272
         replace q272 := eq_true q272
         go_wp2_with (first | ((with_reducible refine gate_builtin (b := .append) (xs := #[.tmp 34, .tmp 39]) rfl ?_); at_builtin; refine Kd.R_append (Kd.int .i64) (w0 := w) w.heap.size rfl (.tmp 34) (.tmp 39) 29 3 (.int .i64 0) 8 rfl Try.underlying29 info3 rfl (by decide) (by omega) u5 x5_1 (rd l0 x7_1) [.int .i64 (rd l0 x7_1)] (fun _ => True) (fun _ => False) rfl rfl ?aP (fun _ hk => hk.elim) ?aF ?aO ?aB ?aS ?aL ?_; (case aP => exact rfl); (case aB => exact (by repeat (first | (with_reducible first | exact HB.out | apply below_alloc | apply pw_below_drewN | apply below_drew1) | exact HB.out))); (case aF => exact (fun _ _ => trivial)); (case aO => exact (by (with_reducible repeat (first | apply Kd.R_alloc | apply Kd.R_drewN | apply Kd.R_drew)); exact HO_5.out)); (case aS => exact (below_size (by repeat (first | (with_reducible first | exact HB.out | apply below_alloc | apply pw_below_drewN | apply below_drew1) | exact HB.out)))); (case aL => have := LMc16.out; omega); intro v274 w17 ho hb hg hat; rw [← Ny273.out] at ho; have n0_ := Aside0.mk (hb); have n1_ := Aside0.mk (ho); clear HB; clear HO_5; have HB := n0_; have HO275 := n1_; clear n0_ n1_; clear ho hb hg hat))
         go_roundg k1
         case measure => have := HK1.out; omega
         case rel => exact ⟨(y273), (false), (wrap64 (x7_1 + 1)), (by first | rfl | (simp; done) | (simp [*]; done)), (by first | rfl | (simp; done) | (simp [*]; done)), H', ⟨by have := HK1.out; omega⟩, ⟨by (with_reducible repeat (first | apply Kd.R_alloc | apply Kd.R_drewN | apply Kd.R_drew)); exact HO275.out⟩, ⟨by repeat (first | (with_reducible first | exact HB.out | apply below_alloc | apply pw_below_drewN | apply below_drew1) | exact HB.out)⟩⟩
        ·
         rw [if_neg c16] at H
         exact absurd H (by simp)
    ·
     rw [if_neg c4] at H
     exact absurd H (by simp)
   ·
    rw [if_neg c3] at H
    have c3b0 : decide (x7_1 < (l0.length : Int)) = false := decide_eq_false c3
    clear c3
    by_cases c18 : x6_1 = true
    ·
     subst c18
     have H1 : (some x5_1) = some r := by rw [if_pos rfl] at H; exact H
     clear H
     have H := H1
     clear H1
     obtain rfl := Option.some.inj H
     go_wp2
     go_ret
     exact ⟨_, by first | rfl | (simp [errW_none, errW_some] <;> rfl) | (simp [*, errW_none, errW_some] <;> rfl), by (with_reducible repeat (first | apply Kd.R_alloc | apply Kd.R_drewN | apply Kd.R_drew)); exact HO_5.out, by repeat (first | (with_reducible first | exact HB.out | apply below_alloc | apply pw_below_drewN | apply below_drew1) | exact HB.out)⟩
    ·
     replace c18 := Bool.eq_false_iff.mpr c18
     subst c18
     have H1 : (if x5_1.length < 17592186044416 then (some (x5_1 ++ [a1])) else (none)) = some r := by rw [if_neg (show ¬ (false = true) by decide)] at H; exact H
     clear H
     have H := H1
     clear H1
     by_cases c19 : x5_1.length < 17592186044416
     ·
      rw [if_pos c19] at H
      have LMc19 := Aside0.mk c19
      clear c19
      obtain ⟨y252, hy252⟩ : ∃ y_ : List Int, y_ = (x5_1 ++ [a1]) := ⟨_, rfl⟩
      replace H : (some y252) = some r := by first | (rw [hy252]; with_reducible exact H) | (have H2_ := (Option.bind_some _ _).symm.trans H; rw [hy252]; with_reducible exact H2_) | (have H2_ := (Option.bind_some _ _).symm.trans H; with_reducible exact H2_) | with_reducible exact H | (rw [hy252]; exact H) | exact H
      have Ny252 := Aside0.mk hy252
      clear hy252
      obtain rfl := Option.some.inj H
      go_wp2_with (first | ((with_reducible refine gate_builtin (b := .append) (xs := #[.tmp 43, .tmp 45]) rfl ?_); at_builtin; refine Kd.R_append (Kd.int .i64) (w0 := w) w.heap.size rfl (.tmp 43) (.tmp 45) 29 3 (.int .i64 0) 8 rfl Try.underlying29 info3 rfl (by decide) (by omega) u5 x5_1 a1 [.int .i64 a1] (fun _ => True) (fun _ => False) rfl rfl ?aP (fun _ hk => hk.elim) ?aF ?aO ?aB ?aS ?aL ?_; (case aP => exact rfl); (case aB => exact (by repeat (first | (with_reducible first | exact HB.out | apply below_alloc | apply pw_below_drewN | apply below_drew1) | exact HB.out))); (case aF => exact (fun _ _ => trivial)); (case aO => exact (by (with_reducible repeat (first | apply Kd.R_alloc | apply Kd.R_drewN | apply Kd.R_drew)); exact HO_5.out)); (case aS => exact (below_size (by repeat (first | (with_reducible first | exact HB.out | apply below_alloc | apply pw_below_drewN | apply below_drew1) | exact HB.out)))); (case aL => have := LMc19.out; omega); intro v253 w20 ho hb hg hat; rw [← Ny252.out] at ho; have n0_ := Aside0.mk (hb); have n1_ := Aside0.mk (ho); clear HB; clear HO_5; have HB := n0_; have HO254 := n1_; clear n0_ n1_; clear ho hb hg hat))
      go_ret
      exact ⟨_, by first | rfl | (simp [errW_none, errW_some] <;> rfl) | (simp [*, errW_none, errW_some] <;> rfl), by (with_reducible repeat (first | apply Kd.R_alloc | apply Kd.R_drewN | apply Kd.R_drew)); exact HO254.out, by repeat (first | (with_reducible first | exact HB.out | apply below_alloc | apply pw_below_drewN | apply below_drew1) | exact HB.out)⟩
     ·
      rw [if_neg c19] at H
      exact absurd H (by simp)

end Go.Proofs.Ytmbmalkpmanaaaa.P

namespace Go.Proofs.Ytmbmalkpmanaaaa.P
open Go.RowKit Go.Proofs.YtmbmalkpmanaaaaW.PrintWords Go.Proofs.YtmbmalkpmanaaaaW.PrintLast Go.Proofs.YtmbmalkpmanaaaaW.PrintMore
attribute [local go_sem] max2_int min2_int max_two min_two max_three min_three max_four min_four   -- for this text's walks alone
set_option linter.unusedVariables false
set_option linter.unusedSimpArgs false

mutual
def epactref02_places.l0 : Nat → List (S23) → List (S23) → List Int → Int → Option (List Int)
 | 0, _, _, _, _ => none
 | k + 1, x0, x1, x5, x6 => if x6 < (x0.length : Int) then (if 0 ≤ x6 then ((epactref02_insert.f k x5 ((rd_T23 x0 x6).f0)).bind fun t277 => ((epactref02_insert.f k t277 (wrap64 (((rd_T23 x0 x6).f1) + 1))).bind fun t281 => (epactref02_places.l0 k x0 x1 t281 (wrap64 (x6 + 1))))) else (none)) else (epactref02_places.l1 k x1 x5 0)
def epactref02_places.l1 : Nat → List (S23) → List Int → Int → Option (List Int)
 | 0, _, _, _ => none
 | k + 1, x1, x5, x7 => if x7 < (x1.length : Int) then (if 0 ≤ x7 then ((epactref02_insert.f k x5 ((rd_T23 x1 x7).f0)).bind fun t285 => ((epactref02_insert.f k t285 (wrap64 (((rd_T23 x1 x7).f1) + 1))).bind fun t289 => (epactref02_places.l1 k x1 t289 (wrap64 (x7 + 1))))) else (none)) else (some x5)
end
def epactref02_places.f (k : Nat) (l0 : List (S23)) (l1 : List (S23)) : Option (List Int) := epactref02_places.l0 k l0 l1 ([] : List Int) 0
theorem epactref02_places.mono_l : ∀ k, (∀ y0 y1 y2 y3, LeO (epactref02_places.l0 k y0 y1 y2 y3) (epactref02_places.l0 (k + 1) y0 y1 y2 y3)) ∧ (∀ y0 y1 y2, LeO (epactref02_places.l1 k y0 y1 y2) (epactref02_places.l1 (k + 1) y0 y1 y2))
 | 0 => ⟨fun _ _ _ _ r h => by simp [epactref02_places.l0] at h, fun _ _ _ r h => by simp [epactref02_places.l1] at h⟩
 | k + 1 => by
  obtain ⟨ih0, ih1⟩ := epactref02_places.mono_l k
  refine ⟨?_, ?_⟩
  ·
   intro y0 y1 y2 y3
   unfold epactref02_places.l0
   repeat' first
   | (with_reducible exact ih0 _ _ _ _)
   | (with_reducible exact ih1 _ _ _)
   | (with_reducible exact epactref02_insert.mono _ _ _)
   | (with_reducible exact LeO.refl _)
   | (with_reducible exact LeO.none _)
   | (with_reducible refine LeO.ite ?_ ?_)
   | (with_reducible refine LeO.bind ?_ (fun _ => ?_))
   | exact ih0 _ _ _ _
   | exact ih1 _ _ _
   | exact epactref02_insert.mono _ _ _
   | exact LeO.none _
   | refine LeO.ite ?_ ?_
   | refine LeO.bind ?_ (fun _ => ?_)
  ·
   intro y0 y1 y2
   unfold epactref02_places.l1
   repeat' first
   | (with_reducible exact ih0 _ _ _ _)
   | (with_reducible exact ih1 _ _ _)
   | (with_reducible exact epactref02_insert.mono _ _ _)
   | (with_reducible exact LeO.refl _)
   | (with_reducible exact LeO.none _)
   | (with_reducible refine LeO.ite ?_ ?_)
   | (with_reducible refine LeO.bind ?_ (fun _ => ?_))
   | exact ih0 _ _ _ _
   | exact ih1 _ _ _
   | exact epactref02_insert.mono _ _ _
   | exact LeO.none _
   | refine LeO.ite ?_ ?_
   | refine LeO.bind ?_ (fun _ => ?_)
theorem epactref02_places.mono : ∀ a0 a1 k, LeO (epactref02_places.f k a0 a1) (epactref02_places.f (k + 1) a0 a1) := by
 intro a0 a1 k
 obtain ⟨ih0, ih1⟩ := epactref02_places.mono_l k
 unfold epactref02_places.f
 repeat' first
   | (with_reducible exact ih0 _ _ _ _)
   | (with_reducible exact ih1 _ _ _)
   | (with_reducible exact epactref02_insert.mono _ _ _)
   | (with_reducible exact LeO.refl _)
   | (with_reducible exact LeO.none _)
   | (with_reducible refine LeO.ite ?_ ?_)
   | (with_reducible refine LeO.bind ?_ (fun _ => ?_))
   | exact ih0 _ _ _ _
   | exact ih1 _ _ _
   | exact epactref02_insert.mono _ _ _
   | exact LeO.none _
   | refine LeO.ite ?_ ?_
   | refine LeO.bind ?_ (fun _ => ?_)
def epactref02_places.T5 : Bool × List (List Nat × List Nat) := (true, [([], []), ([], []), ([], []), ([1, 2], [1, 2]), ([3], [3]), ([4], [4]), ([0, 5], [0, 5]), ([], []), ([], []), ([7, 8], [7, 8]), ([9], [9]), ([10], [10]), ([11], [11]), ([6, 12, 6], [6, 12]), ([13, 13, 0, 1, 2, 3, 4, 5, 6, 7, 8, 9, 10, 11, 12, 13], [0, 13])])
def epactref02_places.B5 : List Nat := [0, 0, 0, 6, 14, 30, 63, 0, 0, 384, 896, 1920, 3968, 8191, 16383]
theorem epactref02_places.tab5 : rtab .any (opsOf Try.f77 5) = epactref02_places.T5 := by kernel_rfl
theorem epactref02_places.bits5 : waitsOk epactref02_places.T5.2 epactref02_places.B5 = true := by kernel_rfl
def epactref02_places.T9 : Bool × List (List Nat × List Nat) := (true, [([], []), ([], []), ([], []), ([1, 2], [1, 2]), ([3], [3]), ([4], [4]), ([0, 5], [0, 5]), ([], []), ([], []), ([7, 8], [7, 8]), ([9], [9]), ([10], [10]), ([11], [11]), ([6, 12, 6], [6, 12]), ([13, 13, 0, 1, 2, 3, 4, 5, 6, 7, 8, 9, 10, 11, 12, 13], [0, 13])])
def epactref02_places.B9 : List Nat := [0, 0, 0, 6, 14, 30, 63, 0, 0, 384, 896, 1920, 3968, 8191, 16383]
theorem epactref02_places.tab9 : rtab .any (opsOf Try.f77 9) = epactref02_places.T9 := by kernel_rfl
theorem epactref02_places.bits9 : waitsOk epactref02_places.T9.2 epactref02_places.B9 = true := by kernel_rfl
set_option maxHeartbeats 8000000 in
set_option maxRecDepth 100000 in
theorem epactref02_places.calls (k : Nat) (A0 : Option Addr) (c0 : Nat) (l0 : List (S23)) (A1 : Option Addr) (c1 : Nat) (l1 : List (S23)) (r : List Int) (w : World) (hr0 : Kd.C k23 w A0 l0.length l0) (hc0 : l0.length ≤ c0) (hr1 : Kd.C k23 w A1 l1.length l1) (hc1 : l1.length ≤ c1) (h : epactref02_places.f k l0 l1 = some r) :
  Calls Try.prog 77 #[.slice A0 l0.length c0, .slice A1 l1.length c1] w fun e w' => ∃ v0_ : Value, e = .returned (v0_) ∧ Kd.R (Kd.int .i64) 3 w' w.heap.size (fun _ => True) v0_ r ∧ Below w.heap.size w w' := by
 have HR0 := Aside0.mk hr0
 have HC0 := Aside0.mk hc0
 clear hr0 hc0
 have HR1 := Aside0.mk hr1
 have HC1 := Aside0.mk hc1
 clear hr1 hc1
 have HB := Aside0.mk (Below.refl w.heap.size w)
 have H : (epactref02_places.l0 k l0 l1 ([] : List Int) 0) = some r := h
 clear h
 have H' := Aside0.mk H
 clear H
 go_enter Try.func77, Try.ntmps77
 go_wp2
 go_loopg [5, 6] k (fun kq v5 v6 w' => ∃ (x5_1 : List Int) (x6_1 : Int), v6 = .int .i64 x6_1 ∧ Aside0 (epactref02_places.l0 kq l0 l1 x5_1 x6_1 = some r) ∧ Aside0 (kq ≤ k) ∧ Aside0 (Kd.R (Kd.int .i64) 3 w' w.heap.size (fun _ => True) v5 x5_1) ∧ Aside0 (Below w.heap.size w w'))
 case atStart => exact ⟨(([] : List Int)), (0), (by first | rfl | (simp; done) | (simp [*]; done)), H', ⟨Nat.le_refl _⟩, ⟨by first | exact Kd.R_nil _ _ _ _ _ | exact Kd.N_nil _ _ _ _ _ | exact Kd.V_nil _ _ _ _ _ | exact Kd.Q_nil _ _ _ _ _ | exact Kd.S_nil _ _ _ _ _⟩, ⟨by repeat (first | (with_reducible first | exact HB.out | apply below_alloc | apply pw_below_drewN | apply below_drew1) | exact HB.out)⟩⟩
 case round =>
  clear H'
  try clear c1
  try clear p2
  obtain ⟨x5_1, x6_1, rfl, HA, HK1, HO_5, HB⟩ := hrel
  cases gk with
  | zero => exact absurd HA.out (by simp [epactref02_places.l0])
  | succ k1 =>
   have H := HA.out
   clear HA
   simp only [epactref02_places.l0] at H
   by_cases c3 : x6_1 < (l0.length : Int)
   ·
    rw [if_pos c3] at H
    have c3b0 : decide (x6_1 < (l0.length : Int)) = true := decide_eq_true c3
    clear c3
    by_cases c4 : 0 ≤ x6_1
    ·
     rw [if_pos c4] at H
     have c4b0 : decide (0 ≤ x6_1) = true := decide_eq_true c4
     clear c4
     replace H := Option.bind_eq_some_iff.mp H
     obtain ⟨t277, A50, H⟩ := H
     replace H : ((epactref02_insert.f k1 t277 (wrap64 (((rd_T23 l0 x6_1).f1) + 1))).bind fun t281 => (epactref02_places.l0 k1 l0 l1 t281 (wrap64 (x6_1 + 1)))) = some r := H
     have A5 := Aside0.mk A50
     clear A50
     replace H := Option.bind_eq_some_iff.mp H
     obtain ⟨t281, A60, H⟩ := H
     replace H : (epactref02_places.l0 k1 l0 l1 t281 (wrap64 (x6_1 + 1))) = some r := H
     have A6 := Aside0.mk A60
     clear A60
     have H' := Aside0.mk H
     clear H
     try go_wp2
     have n0_ := Aside0.mk (Kd.R_drew HO_5.out)
     have n1_ := Aside0.mk (below_drew1 HB.out)
     clear HO_5
     clear HB
     have HO_5 := n0_
     have HB := n1_
     clear n0_ n1_
     have p276 : 0 ≤ (x6_1 : Int) := of_decide_eq_true (by first | (with_reducible assumption) | assumption)
     have q276 : x6_1 < (l0.length : Int) := of_decide_eq_true (by first | (with_reducible assumption) | assumption)
     obtain ⟨ad276, e276, hx276_0, hx276_1⟩ := at_T23 HR0.out x6_1 p276 q276
     have hw276_1 := hx276_1
     have hw276_0 := hx276_0
     cases e276
     replace hx276_0 := (HB.out.cell (World.block_lt_of_cell? w _ hx276_0)).trans hx276_0
     replace hx276_1 := (HB.out.cell (World.block_lt_of_cell? w _ hx276_1)).trans hx276_1
     replace p276 := eq_true p276
     replace q276 := eq_true q276
     have p280 : 0 ≤ (x6_1 : Int) := of_decide_eq_true (by first | (with_reducible assumption) | assumption)
     have q280 : x6_1 < (l0.length : Int) := of_decide_eq_true (by first | (with_reducible assumption) | assumption)
     obtain ⟨ad280, e280, hx280_0, hx280_1⟩ := at_T23 HR0.out x6_1 p280 q280
     have hw280_1 := hx280_1
     have hw280_0 := hx280_0
     obtain rfl : ad276 = ad280 := (by injection e280)
     replace hx280_0 := (HB.out.cell (World.block_lt_of_cell? w _ hx280_0)).trans hx280_0
     replace hx280_1 := (HB.out.cell (World.block_lt_of_cell? w _ hx280_1)).trans hx280_1
     replace p280 := eq_true p280
     replace q280 := eq_true q280
     obtain ⟨Ao8, co8, eo8⟩ := Kd.R_slice HO_5.out
     (first | subst eo8 | (injection eo8 with f1_ f2_ f3_; have f4_ := f1_.symm; have f5_ := f3_.symm; clear f1_ f2_ f3_; subst f4_; subst f5_))
     refine start_ (n := 15) (S := fun w' => w'.cell? (ad276.add ((x6_1).toNat * 2)) = some (.int .i64 ((rd_T23 l0 x6_1).f0)) ∧ w'.cell? ⟨(ad276.add ((x6_1).toNat * 2)).block, (ad276.add ((x6_1).toNat * 2)).off + 1, none⟩ = some (.int .i64 ((rd_T23 l0 x6_1).f1)) ∧ w'.cell? (ad276.add ((x6_1).toNat * 2)) = some (.int .i64 ((rd_T23 l0 x6_1).f0)) ∧ w'.cell? ⟨(ad276.add ((x6_1).toNat * 2)).block, (ad276.add ((x6_1).toNat * 2)).off + 1, none⟩ = some (.int .i64 ((rd_T23 l0 x6_1).f1))) (ds := []) #[false, false, false, false, false, false, false, false, false, false, false, false, false, false, false] (by kernel_rfl) rfl rfl ⟨((HB.out.cell (World.block_lt_of_cell? w _ hw276_0)).trans hw276_0), ((HB.out.cell (World.block_lt_of_cell? w _ hw276_1)).trans hw276_1), ((HB.out.cell (World.block_lt_of_cell? w _ hw280_0)).trans hw280_0), ((HB.out.cell (World.block_lt_of_cell? w _ hw280_1)).trans hw280_1)⟩ (fun hHeld => ?_); refine with_tabW epactref02_places.tab5 epactref02_places.bits5 (fun HT_ HW_ => ?_)
     generalize wr.drew = w7 at HO_5 HB hx276_0 hx276_1 hx280_0 hx280_1 hHeld ⊢
     refine pure_ (i := 0) (N := some 14) (v := ?_) (a' := ?_) #[true, false, false, false, false, false, false, false, false, false, false, false, false, false, false] rfl rfl (any_of HT_.out (by kernel_rfl)) (fun _ _ _ h => h) (Or.inl ⟨by rfl, ?_⟩) ?_ ?_
     rotate_left
     ·
      intro w'
      go_simp
      with_reducible rfl
     rotate_left
     ·
      simp only [Act.put, List.setIfInBounds_toArray, List.set_cons_zero, List.set_cons_succ, i64_w, i32_w]
      rfl
     refine pure_ (i := 1) (N := some 15) (v := ?_) (a' := ?_) #[true, true, false, false, false, false, false, false, false, false, false, false, false, false, false] rfl rfl (any_of HT_.out (by kernel_rfl)) (fun _ _ _ h => h) (Or.inl ⟨by rfl, ?_⟩) ?_ ?_
     rotate_left
     ·
      intro w'
      go_simp
      with_reducible rfl
     rotate_left
     ·
      simp only [Act.put, List.setIfInBounds_toArray, List.set_cons_zero, List.set_cons_succ, i64_w, i32_w]
      rfl
     refine pure_ (i := 2) (N := some 16) (v := ?_) (a' := ?_) #[true, true, true, false, false, false, false, false, false, false, false, false, false, false, false] rfl rfl (any_of HT_.out (by kernel_rfl)) (fun _ _ _ h => h) (Or.inl ⟨by rfl, ?_⟩) ?_ ?_
     rotate_left
     ·
      intro w'
      go_simp
      with_reducible rfl
     rotate_left
     ·
      simp only [Act.put, List.setIfInBounds_toArray, List.set_cons_zero, List.set_cons_succ, i64_w, i32_w]
      rfl
     refine pure_ (i := 3) (N := some 17) (v := ?_) (a' := ?_) #[true, true, true, true, false, false, false, false, false, false, false, false, false, false, false] rfl rfl (any_of HT_.out (by kernel_rfl)) (fun _ _ _ h => h) (Or.inl ⟨by rfl, ?_⟩) ?_ ?_
     rotate_left
     ·
      intro w'
      go_simp
      with_reducible rfl
     rotate_left
     ·
      simp only [Act.put, List.setIfInBounds_toArray, List.set_cons_zero, List.set_cons_succ, i64_w, i32_w]
      rfl
     refine pure_ (i := 4) (N := some 18) (v := ?_) (a' := ?_) #[true, true, true, true, true, false, false, false, false, false, false, false, false, false, false] rfl rfl (any_of HT_.out (by kernel_rfl)) (fun _ _ _ h => h) (Or.inl ⟨by rfl, ?_⟩) ?_ ?_
     rotate_left
     ·
      intro w'
      go_simp
      with_reducible rfl
     rotate_left
     ·
      simp only [Act.put, List.setIfInBounds_toArray, List.set_cons_zero, List.set_cons_succ, i64_w, i32_w]
      rfl
     refine pure_ (i := 7) (N := some 21) (v := ?_) (a' := ?_) #[true, true, true, true, true, false, false, true, false, false, false, false, false, false, false] rfl rfl (any_of HT_.out (by kernel_rfl)) (fun _ _ _ h => h) (Or.inl ⟨by rfl, ?_⟩) ?_ ?_
     rotate_left
     ·
      intro w'
      go_simp
      with_reducible rfl
     rotate_left
     ·
      simp only [Act.put, List.setIfInBounds_toArray, List.set_cons_zero, List.set_cons_succ, i64_w, i32_w]
      rfl
     refine pure_ (i := 8) (N := some 22) (v := ?_) (a' := ?_) #[true, true, true, true, true, false, false, true, true, false, false, false, false, false, false] rfl rfl (any_of HT_.out (by kernel_rfl)) (fun _ _ _ h => h) (Or.inl ⟨by rfl, ?_⟩) ?_ ?_
     rotate_left
     ·
      intro w'
      go_simp
      with_reducible rfl
     rotate_left
     ·
      simp only [Act.put, List.setIfInBounds_toArray, List.set_cons_zero, List.set_cons_succ, i64_w, i32_w]
      rfl
     refine pure_ (i := 9) (N := some 23) (v := ?_) (a' := ?_) #[true, true, true, true, true, false, false, true, true, true, false, false, false, false, false] rfl rfl (any_of HT_.out (by kernel_rfl)) (fun _ _ _ h => h) (Or.inl ⟨by rfl, ?_⟩) ?_ ?_
     rotate_left
     ·
      intro w'
      go_simp
      with_reducible rfl
     rotate_left
     ·
      simp only [Act.put, List.setIfInBounds_toArray, List.set_cons_zero, List.set_cons_succ, i64_w, i32_w]
      rfl
     refine pure_ (i := 10) (N := some 24) (v := ?_) (a' := ?_) #[true, true, true, true, true, false, false, true, true, true, true, false, false, false, false] rfl rfl (any_of HT_.out (by kernel_rfl)) (fun _ _ _ h => h) (Or.inl ⟨by rfl, ?_⟩) ?_ ?_
     rotate_left
     ·
      intro w'
      go_simp
      with_reducible rfl
     rotate_left
     ·
      simp only [Act.put, List.setIfInBounds_toArray, List.set_cons_zero, List.set_cons_succ, i64_w, i32_w]
      rfl
     refine take_ (i := 5) (N := some 19) (v := ?_) (a' := ?_) #[true, true, true, true, true, true, false, true, true, true, true, false, false, false, false] rfl rfl (take_ofW HT_.out HW_.out (by kernel_rfl)) (fun _ _ _ h => h) (Or.inl ⟨by rfl, ?_⟩) hHeld ?_ ?_
     rotate_left
     ·
      rintro w' ⟨s0, s1, s2, s3⟩
      go_simp
      with_reducible rfl
     rotate_left
     ·
      simp only [Act.put, List.setIfInBounds_toArray, List.set_cons_zero, List.set_cons_succ, i64_w, i32_w]
      rfl
     refine take_ (i := 11) (N := some 25) (v := ?_) (a' := ?_) #[true, true, true, true, true, true, false, true, true, true, true, true, false, false, false] rfl rfl (take_ofW HT_.out HW_.out (by kernel_rfl)) (fun _ _ _ h => h) (Or.inl ⟨by rfl, ?_⟩) hHeld ?_ ?_
     rotate_left
     ·
      rintro w' ⟨s0, s1, s2, s3⟩
      go_simp
      with_reducible rfl
     rotate_left
     ·
      simp only [Act.put, List.setIfInBounds_toArray, List.set_cons_zero, List.set_cons_succ, i64_w, i32_w]
      rfl
     refine pure_ (i := 12) (N := some 26) (v := ?_) (a' := ?_) #[true, true, true, true, true, true, false, true, true, true, true, true, true, false, false] rfl rfl (any_of HT_.out (by kernel_rfl)) (fun _ _ _ h => h) (Or.inl ⟨by rfl, ?_⟩) ?_ ?_
     rotate_left
     ·
      intro w'
      go_simp
      with_reducible rfl
     rotate_left
     ·
      simp only [Act.put, List.setIfInBounds_toArray, List.set_cons_zero, List.set_cons_succ, i64_w, i32_w]
      rfl
     refine one_ (i := 6) (N := some 20) #[true, true, true, true, true, true, true, true, true, true, true, true, true, false, false] rfl rfl (one_of HT_.out (by kernel_rfl)) (by decide) (fun K hK => ?_)
     refine goes_ Try.func99 (by kernel_rfl) rfl #[.slice Ao8 x5_1.length co8, .int .i64 ((rd_T23 l0 x6_1).f0)] (by rfl) rfl rfl (by (try simp only [List.map_toArray, List.map_cons, List.map_nil]); first | done | rfl | (simp only [List.length_drop, List.length_take]; rfl)) ?_
     with_reducible refine (epactref02_insert.calls k1 _ _ x5_1 ((rd_T23 l0 x6_1).f0) t277 _ ?side1 ?side2 A5.out).mono ?_
     (case side1 => repeat (first | exact (Kd.R_reads' HO_5.out).2.2 | (with_reducible refine Kd.C_alloc ?_ _) | (with_reducible refine Kd.C_drewN ?_ _) | (with_reducible refine Kd.C_drew ?_)))
     (case side2 => exact (Kd.R_reads' HO_5.out).2.1)
     rintro e w9 ⟨v278, rfl, ho0, hb⟩
     refine ⟨_, rfl, ?_⟩
     have n0_ := Aside0.mk (Kd.R_elder' (by (with_reducible repeat (first | apply Kd.R_alloc | apply Kd.R_drewN | apply Kd.R_drew)); exact HO_5.out) (Kd.R_base ho0) hb)
     have n1_ := Aside0.mk (Kd.R_lower (Kd.R_new' ho0 (Kd.R_lt (by (with_reducible repeat (first | apply Kd.R_alloc | apply Kd.R_drewN | apply Kd.R_drew)); exact HO_5.out))) (below_size (by repeat (first | (with_reducible first | exact HB.out | apply below_alloc | apply pw_below_drewN | apply below_drew1) | exact HB.out))))
     have n2_ := Aside0.mk (below_step (by repeat (first | (with_reducible first | exact HB.out | apply below_alloc | apply pw_below_drewN | apply below_drew1) | exact HB.out)) hb)
     clear HO_5
     clear HB
     have HO_5 := n0_
     have HO279 := n1_
     have HB := n2_
     clear n0_ n1_ n2_
     (try clear hb)
     (try clear hb2)
     (try clear hk)
     (try clear hi)
     (try clear ho0)
     obtain ⟨Ao10, co10, eo10⟩ := Kd.R_slice HO279.out
     (first | subst eo10 | (injection eo10 with f1_ f2_ f3_; have f4_ := f1_.symm; have f5_ := f3_.symm; clear f1_ f2_ f3_; subst f4_; subst f5_))
     refine hK.out _ _ ⟨((HB.out.cell (World.block_lt_of_cell? w _ hw276_0)).trans hw276_0), ((HB.out.cell (World.block_lt_of_cell? w _ hw276_1)).trans hw276_1), ((HB.out.cell (World.block_lt_of_cell? w _ hw280_0)).trans hw280_0), ((HB.out.cell (World.block_lt_of_cell? w _ hw280_1)).trans hw280_1)⟩ (fun hHeld => ?_)
     clear hK K
     refine norm_ (a' := ?_) ?_ ?_
     rotate_left
     ·
      show Act.put _ (some 20) _ = _
      simp only [Act.put, List.setIfInBounds_toArray, List.set_cons_zero, List.set_cons_succ, i64_w, i32_w]
      rfl
     refine one_ (i := 13) (N := some 27) #[true, true, true, true, true, true, true, true, true, true, true, true, true, true, false] rfl rfl (one_of HT_.out (by kernel_rfl)) (by decide) (fun K hK => ?_)
     refine goes_ Try.func99 (by kernel_rfl) rfl #[.slice Ao10 t277.length co10, .int .i64 (wrap64 (((rd_T23 l0 x6_1).f1) + 1))] (by rfl) rfl rfl (by (try simp only [List.map_toArray, List.map_cons, List.map_nil]); first | done | rfl | (simp only [List.length_drop, List.length_take]; rfl)) ?_
     with_reducible refine (epactref02_insert.calls k1 _ _ t277 (wrap64 (((rd_T23 l0 x6_1).f1) + 1)) t281 _ ?side1 ?side2 A6.out).mono ?_
     (case side1 => repeat (first | exact (Kd.R_reads' HO279.out).2.2 | (with_reducible refine Kd.C_alloc ?_ _) | (with_reducible refine Kd.C_drewN ?_ _) | (with_reducible refine Kd.C_drew ?_)))
     (case side2 => exact (Kd.R_reads' HO279.out).2.1)
     rintro e w11 ⟨v282, rfl, ho0, hb⟩
     refine ⟨_, rfl, ?_⟩
     have n0_ := Aside0.mk (Kd.R_elder' (by (with_reducible repeat (first | apply Kd.R_alloc | apply Kd.R_drewN | apply Kd.R_drew)); exact HO_5.out) (Kd.R_base ho0) hb)
     have n1_ := Aside0.mk (Kd.R_elder' (by (with_reducible repeat (first | apply Kd.R_alloc | apply Kd.R_drewN | apply Kd.R_drew)); exact HO279.out) (Kd.R_base ho0) hb)
     have n2_ := Aside0.mk (Kd.R_lower (Kd.R_new' (Kd.R_new' ho0 (Kd.R_lt (by (with_reducible repeat (first | apply Kd.R_alloc | apply Kd.R_drewN | apply Kd.R_drew)); exact HO_5.out))) (Kd.R_lt (by (with_reducible repeat (first | apply Kd.R_alloc | apply Kd.R_drewN | apply Kd.R_drew)); exact HO279.out))) (below_size (by repeat (first | (with_reducible first | exact HB.out | apply below_alloc | apply pw_below_drewN | apply below_drew1) | exact HB.out))))
     have n3_ := Aside0.mk (below_step (by repeat (first | (with_reducible first | exact HB.out | apply below_alloc | apply pw_below_drewN | apply below_drew1) | exact HB.out)) hb)
     clear HO_5
     clear HO279
     clear HB
     have HO_5 := n0_
     have HO279 := n1_
     have HO283 := n2_
     have HB := n3_
     clear n0_ n1_ n2_ n3_
     (try clear hb)
     (try clear hb2)
     (try clear hk)
     (try clear hi)
     (try clear ho0)
     refine hK.out _ _ ⟨((HB.out.cell (World.block_lt_of_cell? w _ hw276_0)).trans hw276_0), ((HB.out.cell (World.block_lt_of_cell? w _ hw276_1)).trans hw276_1), ((HB.out.cell (World.block_lt_of_cell? w _ hw280_0)).trans hw280_0), ((HB.out.cell (World.block_lt_of_cell? w _ hw280_1)).trans hw280_1)⟩ (fun hHeld => ?_)
     clear hK K
     refine norm_ (a' := ?_) ?_ ?_
     rotate_left
     ·
      show Act.put _ (some 27) _ = _
      simp only [Act.put, List.setIfInBounds_toArray, List.set_cons_zero, List.set_cons_succ, i64_w, i32_w]
      rfl
     refine pure_ (i := 14) (N := some 5) (v := ?_) (a' := ?_) #[true, true, true, true, true, true, true, true, true, true, true, true, true, true, true] rfl rfl (any_of HT_.out (by kernel_rfl)) (fun _ _ _ h => h) (Or.inl ⟨by rfl, ?_⟩) ?_ ?_
     rotate_left
     ·
      intro w'
      go_simp
      with_reducible rfl
     rotate_left
     ·
      simp only [Act.put, List.setIfInBounds_toArray, List.set_cons_zero, List.set_cons_succ, i64_w, i32_w]
      rfl
     refine done_ (done_of HT_.out (by kernel_rfl)) ?_
     try go_wp2
     go_roundg k1
     case measure => have := HK1.out; omega
     case rel => exact ⟨(t281), (wrap64 (x6_1 + 1)), (by first | rfl | (simp; done) | (simp [*]; done)), H', ⟨by have := HK1.out; omega⟩, ⟨by (with_reducible repeat (first | apply Kd.R_alloc | apply Kd.R_drewN | apply Kd.R_drew)); exact Kd.R_mono HO283.out (fun _ hk => trivial)⟩, ⟨by repeat (first | (with_reducible first | exact HB.out | apply below_alloc | apply pw_below_drewN | apply below_drew1) | exact HB.out)⟩⟩
    ·
     rw [if_neg c4] at H
     exact absurd H (by simp)
   ·
    rw [if_neg c3] at H
    have c3b0 : decide (x6_1 < (l0.length : Int)) = false := decide_eq_false c3
    clear c3
    have H' := Aside0.mk H
    clear H
    go_wp2
    go_loopg [5, 7] k1 (fun kq v5 v7 w' => ∃ (x5_2 : List Int) (x7_2 : Int), v7 = .int .i64 x7_2 ∧ Aside0 (epactref02_places.l1 kq l1 x5_2 x7_2 = some r) ∧ Aside0 (kq ≤ k1) ∧ Aside0 (Kd.R (Kd.int .i64) 3 w' w.heap.size (fun _ => True) v5 x5_2) ∧ Aside0 (Below w.heap.size w w'))
    case atStart => exact ⟨(x5_1), (0), (by first | rfl | (simp; done) | (simp [*]; done)), H', ⟨Nat.le_refl _⟩, ⟨by (with_reducible repeat (first | apply Kd.R_alloc | apply Kd.R_drewN | apply Kd.R_drew)); exact HO_5.out⟩, ⟨by repeat (first | (with_reducible first | exact HB.out | apply below_alloc | apply pw_below_drewN | apply below_drew1) | exact HB.out)⟩⟩
    case round =>
     clear H'
     try clear c1
     try clear p2
     try clear q2
     try clear hx2
     try clear c3
     try clear c3b0
     try clear c4
     try clear c4b0
     try clear p6
     try clear c7
     try clear c9
     try clear hx276_0
     try clear hx276_1
     try clear hx280_0
     try clear hx280_1
     try clear p2
     try clear p276
     try clear p280
     try clear q276
     try clear q280
     obtain ⟨x5_2, x7_2, rfl, HA, HK2, HO_5, HB⟩ := hrel
     cases gk with
     | zero => exact absurd HA.out (by simp [epactref02_places.l1])
     | succ k2 =>
      have H := HA.out
      clear HA
      simp only [epactref02_places.l1] at H
      by_cases c12 : x7_2 < (l1.length : Int)
      ·
       rw [if_pos c12] at H
       have c12b0 : decide (x7_2 < (l1.length : Int)) = true := decide_eq_true c12
       clear c12
       by_cases c13 : 0 ≤ x7_2
       ·
        rw [if_pos c13] at H
        have c13b0 : decide (0 ≤ x7_2) = true := decide_eq_true c13
        clear c13
        replace H := Option.bind_eq_some_iff.mp H
        obtain ⟨t285, A140, H⟩ := H
        replace H : ((epactref02_insert.f k2 t285 (wrap64 (((rd_T23 l1 x7_2).f1) + 1))).bind fun t289 => (epactref02_places.l1 k2 l1 t289 (wrap64 (x7_2 + 1)))) = some r := H
        have A14 := Aside0.mk A140
        clear A140
        replace H := Option.bind_eq_some_iff.mp H
        obtain ⟨t289, A150, H⟩ := H
        replace H : (epactref02_places.l1 k2 l1 t289 (wrap64 (x7_2 + 1))) = some r := H
        have A15 := Aside0.mk A150
        clear A150
        have H' := Aside0.mk H
        clear H
        try go_wp2
        have n0_ := Aside0.mk (Kd.R_drew HO_5.out)
        have n1_ := Aside0.mk (below_drew1 HB.out)
        clear HO_5
        clear HB
        have HO_5 := n0_
        have HB := n1_
        clear n0_ n1_
        have p284 : 0 ≤ (x7_2 : Int) := of_decide_eq_true (by first | (with_reducible assumption) | assumption)
        have q284 : x7_2 < (l1.length : Int) := of_decide_eq_true (by first | (with_reducible assumption) | assumption)
        obtain ⟨ad284, e284, hx284_0, hx284_1⟩ := at_T23 HR1.out x7_2 p284 q284
        have hw284_1 := hx284_1
        have hw284_0 := hx284_0
        cases e284
        replace hx284_0 := (HB.out.cell (World.block_lt_of_cell? w _ hx284_0)).trans hx284_0
        replace hx284_1 := (HB.out.cell (World.block_lt_of_cell? w _ hx284_1)).trans hx284_1
        replace p284 := eq_true p284
        replace q284 := eq_true q284
        have p288 : 0 ≤ (x7_2 : Int) := of_decide_eq_true (by first | (with_reducible assumption) | assumption)
        have q288 : x7_2 < (l1.length : Int) := of_decide_eq_true (by first | (with_reducible assumption) | assumption)
        obtain ⟨ad288, e288, hx288_0, hx288_1⟩ := at_T23 HR1.out x7_2 p288 q288
        have hw288_1 := hx288_1
        have hw288_0 := hx288_0
        obtain rfl : ad284 = ad288 := (by injection e288)
        replace hx288_0 := (HB.out.cell (World.block_lt_of_cell? w _ hx288_0)).trans hx288_0
        replace hx288_1 := (HB.out.cell (World.block_lt_of_cell? w _ hx288_1)).trans hx288_1
        replace p288 := eq_true p288
        replace q288 := eq_true q288
        obtain ⟨Ao17, co17, eo17⟩ := Kd.R_slice HO_5.out
        (first | subst eo17 | (injection eo17 with f1_ f2_ f3_; have f4_ := f1_.symm; have f5_ := f3_.symm; clear f1_ f2_ f3_; subst f4_; subst f5_))
        refine start_ (n := 15) (S := fun w' => w'.cell? (ad284.add ((x7_2).toNat * 2)) = some (.int .i64 ((rd_T23 l1 x7_2).f0)) ∧ w'.cell? ⟨(ad284.add ((x7_2).toNat * 2)).block, (ad284.add ((x7_2).toNat * 2)).off + 1, none⟩ = some (.int .i64 ((rd_T23 l1 x7_2).f1)) ∧ w'.cell? (ad284.add ((x7_2).toNat * 2)) = some (.int .i64 ((rd_T23 l1 x7_2).f0)) ∧ w'.cell? ⟨(ad284.add ((x7_2).toNat * 2)).block, (ad284.add ((x7_2).toNat * 2)).off + 1, none⟩ = some (.int .i64 ((rd_T23 l1 x7_2).f1))) (ds := []) #[false, false, false, false, false, false, false, false, false, false, false, false, false, false, false] (by kernel_rfl) rfl rfl ⟨((HB.out.cell (World.block_lt_of_cell? w _ hw284_0)).trans hw284_0), ((HB.out.cell (World.block_lt_of_cell? w _ hw284_1)).trans hw284_1), ((HB.out.cell (World.block_lt_of_cell? w _ hw288_0)).trans hw288_0), ((HB.out.cell (World.block_lt_of_cell? w _ hw288_1)).trans hw288_1)⟩ (fun hHeld => ?_); refine with_tabW epactref02_places.tab9 epactref02_places.bits9 (fun HT_ HW_ => ?_)
        generalize wr.drew = w16 at HO_5 HB hx284_0 hx284_1 hx288_0 hx288_1 hHeld ⊢
        refine pure_ (i := 0) (N := some 34) (v := ?_) (a' := ?_) #[true, false, false, false, false, false, false, false, false, false, false, false, false, false, false] rfl rfl (any_of HT_.out (by kernel_rfl)) (fun _ _ _ h => h) (Or.inl ⟨by rfl, ?_⟩) ?_ ?_
        rotate_left
        ·
         intro w'
         go_simp
         with_reducible rfl
        rotate_left
        ·
         simp only [Act.put, List.setIfInBounds_toArray, List.set_cons_zero, List.set_cons_succ, i64_w, i32_w]
         rfl
        refine pure_ (i := 1) (N := some 35) (v := ?_) (a' := ?_) #[true, true, false, false, false, false, false, false, false, false, false, false, false, false, false] rfl rfl (any_of HT_.out (by kernel_rfl)) (fun _ _ _ h => h) (Or.inl ⟨by rfl, ?_⟩) ?_ ?_
        rotate_left
        ·
         intro w'
         go_simp
         with_reducible rfl
        rotate_left
        ·
         simp only [Act.put, List.setIfInBounds_toArray, List.set_cons_zero, List.set_cons_succ, i64_w, i32_w]
         rfl
        refine pure_ (i := 2) (N := some 36) (v := ?_) (a' := ?_) #[true, true, true, false, false, false, false, false, false, false, false, false, false, false, false] rfl rfl (any_of HT_.out (by kernel_rfl)) (fun _ _ _ h => h) (Or.inl ⟨by rfl, ?_⟩) ?_ ?_
        rotate_left
        ·
         intro w'
         go_simp
         with_reducible rfl
        rotate_left
        ·
         simp only [Act.put, List.setIfInBounds_toArray, List.set_cons_zero, List.set_cons_succ, i64_w, i32_w]
         rfl
        refine pure_ (i := 3) (N := some 37) (v := ?_) (a' := ?_) #[true, true, true, true, false, false, false, false, false, false, false, false, false, false, false] rfl rfl (any_of HT_.out (by kernel_rfl)) (fun _ _ _ h => h) (Or.inl ⟨by rfl, ?_⟩) ?_ ?_
        rotate_left
        ·
         intro w'
         go_simp
         with_reducible rfl
        rotate_left
        ·
         simp only [Act.put, List.setIfInBounds_toArray, List.set_cons_zero, List.set_cons_succ, i64_w, i32_w]
         rfl
        refine pure_ (i := 4) (N := some 38) (v := ?_) (a' := ?_) #[true, true, true, true, true, false, false, false, false, false, false, false, false, false, false] rfl rfl (any_of HT_.out (by kernel_rfl)) (fun _ _ _ h => h) (Or.inl ⟨by rfl, ?_⟩) ?_ ?_
        rotate_left
        ·
         intro w'
         go_simp
         with_reducible rfl
        rotate_left
        ·
         simp only [Act.put, List.setIfInBounds_toArray, List.set_cons_zero, List.set_cons_succ, i64_w, i32_w]
         rfl
        refine pure_ (i := 7) (N := some 41) (v := ?_) (a' := ?_) #[true, true, true, true, true, false, false, true, false, false, false, false, false, false, false] rfl rfl (any_of HT_.out (by kernel_rfl)) (fun _ _ _ h => h) (Or.inl ⟨by rfl, ?_⟩) ?_ ?_
        rotate_left
        ·
         intro w'
         go_simp
         with_reducible rfl
        rotate_left
        ·
         simp only [Act.put, List.setIfInBounds_toArray, List.set_cons_zero, List.set_cons_succ, i64_w, i32_w]
         rfl
        refine pure_ (i := 8) (N := some 42) (v := ?_) (a' := ?_) #[true, true, true, true, true, false, false, true, true, false, false, false, false, false, false] rfl rfl (any_of HT_.out (by kernel_rfl)) (fun _ _ _ h => h) (Or.inl ⟨by rfl, ?_⟩) ?_ ?_
        rotate_left
        ·
         intro w'
         go_simp
         with_reducible rfl
        rotate_left
        ·
         simp only [Act.put, List.setIfInBounds_toArray, List.set_cons_zero, List.set_cons_succ, i64_w, i32_w]
         rfl
        refine pure_ (i := 9) (N := some 43) (v := ?_) (a' := ?_) #[true, true, true, true, true, false, false, true, true, true, false, false, false, false, false] rfl rfl (any_of HT_.out (by kernel_rfl)) (fun _ _ _ h => h) (Or.inl ⟨by rfl, ?_⟩) ?_ ?_
        rotate_left
        ·
         intro w'
         go_simp
         with_reducible rfl
        rotate_left
        ·
         simp only [Act.put, List.setIfInBounds_toArray, List.set_cons_zero, List.set_cons_succ, i64_w, i32_w]
         rfl
        refine pure_ (i := 10) (N := some 44) (v := ?_) (a' := ?_) #[true, true, true, true, true, false, false, true, true, true, true, false, false, false, false] rfl rfl (any_of HT_.out (by kernel_rfl)) (fun _ _ _ h => h) (Or.inl ⟨by rfl, ?_⟩) ?_ ?_
        rotate_left
        ·
         intro w'
         go_simp
         with_reducible rfl
        rotate_left
        ·
         simp only [Act.put, List.setIfInBounds_toArray, List.set_cons_zero, List.set_cons_succ, i64_w, i32_w]
         rfl
        refine take_ (i := 5) (N := some 39) (v := ?_) (a' := ?_) #[true, true, true, true, true, true, false, true, true, true, true, false, false, false, false] rfl rfl (take_ofW HT_.out HW_.out (by kernel_rfl)) (fun _ _ _ h => h) (Or.inl ⟨by rfl, ?_⟩) hHeld ?_ ?_
        rotate_left
        ·
         rintro w' ⟨s0, s1, s2, s3⟩
         go_simp
         with_reducible rfl
        rotate_left
        ·
         simp only [Act.put, List.setIfInBounds_toArray, List.set_cons_zero, List.set_cons_succ, i64_w, i32_w]
         rfl
        refine take_ (i := 11) (N := some 45) (v := ?_) (a' := ?_) #[true, true, true, true, true, true, false, true, true, true, true, true, false, false, false] rfl rfl (take_ofW HT_.out HW_.out (by kernel_rfl)) (fun _ _ _ h => h) (Or.inl ⟨by rfl, ?_⟩) hHeld ?_ ?_
        rotate_left
        ·
         rintro w' ⟨s0, s1, s2, s3⟩
         go_simp
         with_reducible rfl
        rotate_left
        ·
         simp only [Act.put, List.setIfInBounds_toArray, List.set_cons_zero, List.set_cons_succ, i64_w, i32_w]
         rfl
        refine pure_ (i := 12) (N := some 46) (v := ?_) (a' := ?_) #[true, true, true, true, true, true, false, true, true, true, true, true, true, false, false] rfl rfl (any_of HT_.out (by kernel_rfl)) (fun _ _ _ h => h) (Or.inl ⟨by rfl, ?_⟩) ?_ ?_
        rotate_left
        ·
         intro w'
         go_simp
         with_reducible rfl
        rotate_left
        ·
         simp only [Act.put, List.setIfInBounds_toArray, List.set_cons_zero, List.set_cons_succ, i64_w, i32_w]
         rfl
        refine one_ (i := 6) (N := some 40) #[true, true, true, true, true, true, true, true, true, true, true, true, true, false, false] rfl rfl (one_of HT_.out (by kernel_rfl)) (by decide) (fun K hK => ?_)
        refine goes_ Try.func99 (by kernel_rfl) rfl #[.slice Ao17 x5_2.length co17, .int .i64 ((rd_T23 l1 x7_2).f0)] (by rfl) rfl rfl (by (try simp only [List.map_toArray, List.map_cons, List.map_nil]); first | done | rfl | (simp only [List.length_drop, List.length_take]; rfl)) ?_
        with_reducible refine (epactref02_insert.calls k2 _ _ x5_2 ((rd_T23 l1 x7_2).f0) t285 _ ?side1 ?side2 A14.out).mono ?_
        (case side1 => repeat (first | exact (Kd.R_reads' HO_5.out).2.2 | (with_reducible refine Kd.C_alloc ?_ _) | (with_reducible refine Kd.C_drewN ?_ _) | (with_reducible refine Kd.C_drew ?_)))
        (case side2 => exact (Kd.R_reads' HO_5.out).2.1)
        rintro e w18 ⟨v286, rfl, ho0, hb⟩
        refine ⟨_, rfl, ?_⟩
        have n0_ := Aside0.mk (Kd.R_elder' (by (with_reducible repeat (first | apply Kd.R_alloc | apply Kd.R_drewN | apply Kd.R_drew)); exact HO_5.out) (Kd.R_base ho0) hb)
        have n1_ := Aside0.mk (Kd.R_lower (Kd.R_new' ho0 (Kd.R_lt (by (with_reducible repeat (first | apply Kd.R_alloc | apply Kd.R_drewN | apply Kd.R_drew)); exact HO_5.out))) (below_size (by repeat (first | (with_reducible first | exact HB.out | apply below_alloc | apply pw_below_drewN | apply below_drew1) | exact HB.out))))
        have n2_ := Aside0.mk (below_step (by repeat (first | (with_reducible first | exact HB.out | apply below_alloc | apply pw_below_drewN | apply below_drew1) | exact HB.out)) hb)
        clear HO_5
        clear HB
        have HO_5 := n0_
        have HO287 := n1_
        have HB := n2_
        clear n0_ n1_ n2_
        (try clear hb)
        (try clear hb2)
        (try clear hk)
        (try clear hi)
        (try clear ho0)
        obtain ⟨Ao19, co19, eo19⟩ := Kd.R_slice HO287.out
        (first | subst eo19 | (injection eo19 with f1_ f2_ f3_; have f4_ := f1_.symm; have f5_ := f3_.symm; clear f1_ f2_ f3_; subst f4_; subst f5_))
        refine hK.out _ _ ⟨((HB.out.cell (World.block_lt_of_cell? w _ hw284_0)).trans hw284_0), ((HB.out.cell (World.block_lt_of_cell? w _ hw284_1)).trans hw284_1), ((HB.out.cell (World.block_lt_of_cell? w _ hw288_0)).trans hw288_0), ((HB.out.cell (World.block_lt_of_cell? w _ hw288_1)).trans hw288_1)⟩ (fun hHeld => ?_)
        clear hK K
        refine norm_ (a' := ?_) ?_ ?_
        rotate_left
        ·
         show Act.put _ (some 40) _ = _
         simp only [Act.put, List.setIfInBounds_toArray, List.set_cons_zero, List.set_cons_succ, i64_w, i32_w]
         rfl
        refine one_ (i := 13) (N := some 47) #[true, true, true, true, true, true, true, true, true, true, true, true, true, true, false] rfl rfl (one_of HT_.out (by kernel_rfl)) (by decide) (fun K hK => ?_)
        refine goes_ Try.func99 (by kernel_rfl) rfl #[.slice Ao19 t285.length co19, .int .i64 (wrap64 (((rd_T23 l1 x7_2).f1) + 1))] (by rfl) rfl rfl (by (try simp only [List.map_toArray, List.map_cons, List.map_nil]); first | done | rfl | (simp only [List.length_drop, List.length_take]; rfl)) ?_
        with_reducible refine (epactref02_insert.calls k2 _ _ t285 (wrap64 (((rd_T23 l1 x7_2).f1) + 1)) t289 _ ?side1 ?side2 A15.out).mono ?_
        (case side1 => repeat (first | exact (Kd.R_reads' HO287.out).2.2 | (with_reducible refine Kd.C_alloc ?_ _) | (with_reducible refine Kd.C_drewN ?_ _) | (with_reducible refine Kd.C_drew ?_)))
        (case side2 => exact (Kd.R_reads' HO287.out).2.1)
        rintro e w20 ⟨v290, rfl, ho0, hb⟩
        refine ⟨_, rfl, ?_⟩
        have n0_ := Aside0.mk (Kd.R_elder' (by (with_reducible repeat (first | apply Kd.R_alloc | apply Kd.R_drewN | apply Kd.R_drew)); exact HO_5.out) (Kd.R_base ho0) hb)
        have n1_ := Aside0.mk (Kd.R_elder' (by (with_reducible repeat (first | apply Kd.R_alloc | apply Kd.R_drewN | apply Kd.R_drew)); exact HO287.out) (Kd.R_base ho0) hb)
        have n2_ := Aside0.mk (Kd.R_lower (Kd.R_new' (Kd.R_new' ho0 (Kd.R_lt (by (with_reducible repeat (first | apply Kd.R_alloc | apply Kd.R_drewN | apply Kd.R_drew)); exact HO_5.out))) (Kd.R_lt (by (with_reducible repeat (first | apply Kd.R_alloc | apply Kd.R_drewN | apply Kd.R_drew)); exact HO287.out))) (below_size (by repeat (first | (with_reducible first | exact HB.out | apply below_alloc | apply pw_below_drewN | apply below_drew1) | exact HB.out))))
        have n3_ := Aside0.mk (below_step (by repeat (first | (with_reducible first | exact HB.out | apply below_alloc | apply pw_below_drewN | apply below_drew1) | exact HB.out)) hb)
        clear HO_5
        clear HO287
        clear HB
        have HO_5 := n0_
        have HO287 := n1_
        have HO291 := n2_
        have HB := n3_
        clear n0_ n1_ n2_ n3_
        (try clear hb)
        (try clear hb2)
        (try clear hk)
        (try clear hi)
        (try clear ho0)
        refine hK.out _ _ ⟨((HB.out.cell (World.block_lt_of_cell? w _ hw284_0)).trans hw284_0), ((HB.out.cell (World.block_lt_of_cell? w _ hw284_1)).trans hw284_1), ((HB.out.cell (World.block_lt_of_cell? w _ hw288_0)).trans hw288_0), ((HB.out.cell (World.block_lt_of_cell? w _ hw288_1)).trans hw288_1)⟩ (fun hHeld => ?_)
        clear hK K
        refine norm_ (a' := ?_) ?_ ?_
        rotate_left
        ·
         show Act.put _ (some 47) _ = _
         simp only [Act.put, List.setIfInBounds_toArray, List.set_cons_zero, List.set_cons_succ, i64_w, i32_w]
         rfl
        refine pure_ (i := 14) (N := some 5) (v := ?_) (a' := ?_) #[true, true, true, true, true, true, true, true, true, true, true, true, true, true, true] rfl rfl (any_of HT_.out (by kernel_rfl)) (fun _ _ _ h => h) (Or.inl ⟨by rfl, ?_⟩) ?_ ?_
        rotate_left
        ·
         intro w'
         go_simp
         with_reducible rfl
        rotate_left
        ·
         simp only [Act.put, List.setIfInBounds_toArray, List.set_cons_zero, List.set_cons_succ, i64_w, i32_w]
         rfl
        refine done_ (done_of HT_.out (by kernel_rfl)) ?_
        try go_wp2
        go_roundg k2
        case measure => have := HK1.out; have := HK2.out; omega
        case rel => exact ⟨(t289), (wrap64 (x7_2 + 1)), (by first | rfl | (simp; done) | (simp [*]; done)), H', ⟨by have := HK1.out; have := HK2.out; omega⟩, ⟨by (with_reducible repeat (first | apply Kd.R_alloc | apply Kd.R_drewN | apply Kd.R_drew)); exact Kd.R_mono HO291.out (fun _ hk => trivial)⟩, ⟨by repeat (first | (with_reducible first | exact HB.out | apply below_alloc | apply pw_below_drewN | apply below_drew1) | exact HB.out)⟩⟩
       ·
        rw [if_neg c13] at H
        exact absurd H (by simp)
      ·
       rw [if_neg c12] at H
       have c12b0 : decide (x7_2 < (l1.length : Int)) = false := decide_eq_false c12
       clear c12
       obtain rfl := Option.some.inj H
       go_wp2
       go_ret
       exact ⟨_, by first | rfl | (simp [errW_none, errW_some] <;> rfl) | (simp [*, errW_none, errW_some] <;> rfl), by (with_reducible repeat (first | apply Kd.R_alloc | apply Kd.R_drewN | apply Kd.R_drew)); exact HO_5.out, by repeat (first | (with_reducible first | exact HB.out | apply below_alloc | apply pw_below_drewN | apply below_drew1) | exact HB.out)⟩

end Go.Proofs.Ytmbmalkpmanaaaa.P


/- Lemmas for the law SpansMake: what the functions that it reaches compute. No condition of its own. -/
import Derived.Test.YtmbmalkpmanaaaaYSpansMake2
import Derived.Test.YtmbmalkpmanaaaaYSpansMake4
import Derived.Test.YtmbmalkpmanaaaaYSpansMake7
import Derived.Test.YtmbmalkpmanaaaaYSpansMake5
import Derived.Test.YtmbmalkpmanaaaaYSpansMake6
-- Written by wip/mkprint.py of the proofs' repo (the kit's print, over contracts that were proved by hand). Not trusted: Lean checks it.
namespace Go.Proofs.Ytmbmalkpmanaaaa.P
open Go.RowKit Go.Proofs.YtmbmalkpmanaaaaW.PrintWords Go.Proofs.YtmbmalkpmanaaaaW.PrintLast Go.Proofs.YtmbmalkpmanaaaaW.PrintMore
attribute [local go_sem] max2_int min2_int max_two min_two max_three min_three max_four min_four   -- for this text's walks alone
set_option linter.unusedVariables false
set_option linter.unusedSimpArgs false

attribute [local go_sem high] eqA23
/-! ### api_Span: function 71 -/
def api_Span.l0 : Nat → List (S23) → List (S23) → Int → Int → Option (Bool)
  | 0, _, _, _, _ => none
  | k + 1, x0, x1, x12, x13 => if x13 < x12 then (if 0 ≤ x13 then (if x13 < (x0.length : Int) then (if x13 < (x1.length : Int) then (if (!(((rd_T23 x0 x13).f0) == ((rd_T23 x1 x13).f0)) || (!(((rd_T23 x0 x13).f1) == ((rd_T23 x1 x13).f1)))) = true then (some false) else (api_Span.l0 k x0 x1 x12 (wrap64 (x13 + 1)))) else (none)) else (none)) else (none)) else (some true)
def api_Span.f (k : Nat) (l0 : List (S23)) (l1 : List (S23)) : Option (Bool) := if (l0.length : Int) = (l1.length : Int) then (api_Span.l0 k l0 l1 (l0.length : Int) 0) else (some false)
theorem api_Span.mono_l : ∀ k, (∀ y0 y1 y2 y3, LeO (api_Span.l0 k y0 y1 y2 y3) (api_Span.l0 (k + 1) y0 y1 y2 y3))
  | 0 => fun _ _ _ _ r h => by simp [api_Span.l0] at h
  | k + 1 => by
    have ih0 := api_Span.mono_l k
    · intro y0 y1 y2 y3
      unfold api_Span.l0
      repeat' first
      | (with_reducible exact ih0 _ _ _ _)
      | (with_reducible exact LeO.refl _)
      | (with_reducible exact LeO.none _)
      | (with_reducible refine LeO.ite ?_ ?_)
      | (with_reducible refine LeO.bind ?_ (fun _ => ?_))
      | exact ih0 _ _ _ _
      | exact LeO.none _
      | refine LeO.ite ?_ ?_
      | refine LeO.bind ?_ (fun _ => ?_)
theorem api_Span.mono : ∀ a0 a1 k, LeO (api_Span.f k a0 a1) (api_Span.f (k + 1) a0 a1) := by
  intro a0 a1 k
  have ih0 := api_Span.mono_l k
  unfold api_Span.f
  repeat' first
      | (with_reducible exact ih0 _ _ _ _)
      | (with_reducible exact LeO.refl _)
      | (with_reducible exact LeO.none _)
      | (with_reducible refine LeO.ite ?_ ?_)
      | (with_reducible refine LeO.bind ?_ (fun _ => ?_))
      | exact ih0 _ _ _ _
      | exact LeO.none _
      | refine LeO.ite ?_ ?_
      | refine LeO.bind ?_ (fun _ => ?_)
set_option maxHeartbeats 8000000 in
set_option maxRecDepth 100000 in
theorem api_Span.calls (k : Nat) (A0 : Option Addr) (c0 : Nat) (l0 : List (S23)) (A1 : Option Addr) (c1 : Nat) (l1 : List (S23)) (r : Bool) (w : World) (hr0 : Kd.C k23 w A0 l0.length l0) (hc0 : l0.length ≤ c0) (hr1 : Kd.C k23 w A1 l1.length l1) (hc1 : l1.length ≤ c1) (h : api_Span.f k l0 l1 = some r) :
    Calls Try.prog 71 #[.slice A0 l0.length c0, .slice A1 l1.length c1] w fun e w' => e = .returned (.bool r) ∧ Drawn0 w w' := by
  have hu23 := Try.underlying23
  have HR0 := Aside0.mk hr0
  have HC0 := Aside0.mk hc0
  clear hr0 hc0
  have HR1 := Aside0.mk hr1
  have HC1 := Aside0.mk hc1
  clear hr1 hc1
  have H : (if (l0.length : Int) = (l1.length : Int) then (api_Span.l0 k l0 l1 (l0.length : Int) 0) else (some false)) = some r := h
  clear h
  by_cases c3 : (l0.length : Int) = (l1.length : Int)
  · rw [if_pos c3] at H
    have c3b0 : ((l0.length : Int) == (l1.length : Int)) = true := beq_iff_eq.mpr c3
    have c3b1 : ((l0.length : Int) != (l1.length : Int)) = false := bne_eq_false_iff_eq.mpr c3
    have c3b2 : (l0.length == l1.length) = true := by first | simpa using c3 | (simp at c3 ⊢; omega)
    clear c3
    have H' := Aside0.mk H
    clear H
    go_enter Try.func71, Try.ntmps71
    go_wp2
    repeat (go_quiet (fail); try go_wp2)
    go_loopg [13] k (fun kq v13 w' => ∃ (x13_1 : Int), v13 = .int .i64 x13_1 ∧ Aside0 (api_Span.l0 kq l0 l1 (l0.length : Int) x13_1 = some r) ∧ Aside0 (kq ≤ k) ∧ Drawn0 w w')
    case atStart => exact ⟨(0), (by first | rfl | (simp; done) | (simp [*]; done)), H', ⟨Nat.le_refl _⟩, by repeat (first | exact Drawn0.refl _ | apply Drawn0.step)⟩
    case round =>
      clear H'
      try clear c1
      try clear p2
      try clear c3
      try clear c3b0
      try clear c3b1
      try clear c3b2
      obtain ⟨x13_1, rfl, HA, HK1, ⟨m1, rfl⟩⟩ := hrel
      cases gk with
      | zero => exact absurd HA.out (by simp [api_Span.l0])
      | succ k1 =>
        have H := HA.out
        clear HA
        simp only [api_Span.l0] at H
        by_cases c4 : x13_1 < (l0.length : Int)
        · rw [if_pos c4] at H
          have c4b0 : decide (x13_1 < (l0.length : Int)) = true := decide_eq_true c4
          clear c4
          by_cases c5 : 0 ≤ x13_1
          · rw [if_pos c5] at H
            have c5b0 : decide (0 ≤ x13_1) = true := decide_eq_true c5
            clear c5
            by_cases c6 : x13_1 < (l0.length : Int)
            · rw [if_pos c6] at H
              have c6b0 : decide (x13_1 < (l0.length : Int)) = true := decide_eq_true c6
              clear c6
              by_cases c7 : x13_1 < (l1.length : Int)
              · rw [if_pos c7] at H
                have c7b0 : decide (x13_1 < (l1.length : Int)) = true := decide_eq_true c7
                clear c7
                by_cases c8 : (!(((rd_T23 l0 x13_1).f0) == ((rd_T23 l1 x13_1).f0)) || (!(((rd_T23 l0 x13_1).f1) == ((rd_T23 l1 x13_1).f1)))) = true
                · rw [if_pos c8] at H
                  have c8b0 : (!(((rd_T23 l0 x13_1).f0) == ((rd_T23 l1 x13_1).f0)) || (!(((rd_T23 l0 x13_1).f1) == ((rd_T23 l1 x13_1).f1)))) = true := c8
                  clear c8
                  obtain rfl := Option.some.inj H
                  have p381 : 0 ≤ (x13_1 : Int) := of_decide_eq_true (by first | (with_reducible assumption) | assumption)
                  have q381 : x13_1 < (l0.length : Int) := of_decide_eq_true (by first | (with_reducible assumption) | assumption)
                  obtain ⟨ad381, e381, hx381_0, hx381_1⟩ := at_T23 HR0.out x13_1 p381 q381
                  cases e381
                  replace p381 := eq_true p381
                  replace q381 := eq_true q381
                  have p382 : 0 ≤ (x13_1 : Int) := of_decide_eq_true (by first | (with_reducible assumption) | assumption)
                  have q382 : x13_1 < (l1.length : Int) := of_decide_eq_true (by first | (with_reducible assumption) | assumption)
                  obtain ⟨ad382, e382, hx382_0, hx382_1⟩ := at_T23 HR1.out x13_1 p382 q382
                  cases e382
                  replace p382 := eq_true p382
                  replace q382 := eq_true q382
                  go_wp2
                  repeat (go_quiet (fail); try go_wp2)
                  go_ret
                  exact ⟨by first | rfl | (simp; done) | (simp [*]; done), by repeat (first | exact Drawn0.refl _ | apply Drawn0.step)⟩
                · rw [if_neg c8] at H
                  have c8b0 : (!(((rd_T23 l0 x13_1).f0) == ((rd_T23 l1 x13_1).f0)) || (!(((rd_T23 l0 x13_1).f1) == ((rd_T23 l1 x13_1).f1)))) = false := by simpa using c8
                  clear c8
                  have H' := Aside0.mk H
                  clear H
                  have p381 : 0 ≤ (x13_1 : Int) := of_decide_eq_true (by first | (with_reducible assumption) | assumption)
                  have q381 : x13_1 < (l0.length : Int) := of_decide_eq_true (by first | (with_reducible assumption) | assumption)
                  obtain ⟨ad381, e381, hx381_0, hx381_1⟩ := at_T23 HR0.out x13_1 p381 q381
                  cases e381
                  replace p381 := eq_true p381
                  replace q381 := eq_true q381
                  have p382 : 0 ≤ (x13_1 : Int) := of_decide_eq_true (by first | (with_reducible assumption) | assumption)
                  have q382 : x13_1 < (l1.length : Int) := of_decide_eq_true (by first | (with_reducible assumption) | assumption)
                  obtain ⟨ad382, e382, hx382_0, hx382_1⟩ := at_T23 HR1.out x13_1 p382 q382
                  cases e382
                  replace p382 := eq_true p382
                  replace q382 := eq_true q382
                  go_wp2
                  repeat (go_quiet (fail); try go_wp2)
                  go_roundg k1
                  case measure => have := HK1.out; omega
                  case rel => exact ⟨(wrap64 (x13_1 + 1)), (by first | rfl | (simp; done) | (simp [*]; done)), H', ⟨by have := HK1.out; omega⟩, by repeat (first | exact Drawn0.refl _ | apply Drawn0.step)⟩
              · rw [if_neg c7] at H
                exact absurd H (by simp)
            · rw [if_neg c6] at H
              exact absurd H (by simp)
          · rw [if_neg c5] at H
            exact absurd H (by simp)
        · rw [if_neg c4] at H
          have c4b0 : decide (x13_1 < (l0.length : Int)) = false := decide_eq_false c4
          clear c4
          obtain rfl := Option.some.inj H
          go_wp2
          repeat (go_quiet (fail); try go_wp2)
          go_ret
          exact ⟨by first | rfl | (simp; done) | (simp [*]; done), by repeat (first | exact Drawn0.refl _ | apply Drawn0.step)⟩
  · rw [if_neg c3] at H
    have c3b0 : ((l0.length : Int) == (l1.length : Int)) = false := beq_eq_false_iff_ne.mpr c3
    have c3b1 : ((l0.length : Int) != (l1.length : Int)) = true := bne_iff_ne.mpr c3
    have c3b2 : (l0.length == l1.length) = false := by first | simpa using c3 | (simp at c3 ⊢; omega)
    obtain rfl := Option.some.inj H
    go_enter Try.func71, Try.ntmps71
    go_wp2
    repeat (go_quiet (fail); try go_wp2)
    go_ret
    exact ⟨by first | rfl | (simp; done) | (simp [*]; done), by repeat (first | exact Drawn0.refl _ | apply Drawn0.step)⟩

end Go.Proofs.Ytmbmalkpmanaaaa.P

-- Written by wip/mkprint.py of the proofs' repo (the kit's print, over contracts that were proved by hand). Not trusted: Lean checks it.
namespace Go.Proofs.Ytmbmalkpmanaaaa.P
open Go.RowKit Go.Proofs.YtmbmalkpmanaaaaW.PrintWords Go.Proofs.YtmbmalkpmanaaaaW.PrintLast Go.Proofs.YtmbmalkpmanaaaaW.PrintMore
attribute [local go_sem] max2_int min2_int max_two min_two max_three min_three max_four min_four   -- for this text's walks alone
set_option linter.unusedVariables false
set_option linter.unusedSimpArgs false

/-! ### spans_Same: function 34 -/
def spans_Same.f (k : Nat) (l0 : List (S23)) (l1 : List (S23)) : Option (Bool) := (api_Span.f k l0 l1).bind fun t383 => (some t383)
theorem spans_Same.mono : ∀ a0 a1 k, LeO (spans_Same.f k a0 a1) (spans_Same.f (k + 1) a0 a1) := by
  intro a0 a1 k
  unfold spans_Same.f
  repeat' first
      | (with_reducible exact api_Span.mono _ _ _)
      | (with_reducible exact LeO.refl _)
      | (with_reducible exact LeO.none _)
      | (with_reducible refine LeO.ite ?_ ?_)
      | (with_reducible refine LeO.bind ?_ (fun _ => ?_))
      | exact api_Span.mono _ _ _
      | exact LeO.none _
      | refine LeO.ite ?_ ?_
      | refine LeO.bind ?_ (fun _ => ?_)
set_option maxHeartbeats 8000000 in
set_option maxRecDepth 100000 in
theorem spans_Same.calls (k : Nat) (A0 : Option Addr) (c0 : Nat) (l0 : List (S23)) (A1 : Option Addr) (c1 : Nat) (l1 : List (S23)) (r : Bool) (w : World) (hr0 : Kd.C k23 w A0 l0.length l0) (hc0 : l0.length ≤ c0) (hr1 : Kd.C k23 w A1 l1.length l1) (hc1 : l1.length ≤ c1) (h : spans_Same.f k l0 l1 = some r) :
    Calls Try.prog 34 #[.slice A0 l0.length c0, .slice A1 l1.length c1] w fun e w' => e = .returned (.bool r) ∧ Drawn0 w w' := by
  have HR0 := Aside0.mk hr0
  have HC0 := Aside0.mk hc0
  clear hr0 hc0
  have HR1 := Aside0.mk hr1
  have HC1 := Aside0.mk hc1
  clear hr1 hc1
  have H : ((api_Span.f k l0 l1).bind fun t383 => (some t383)) = some r := h
  clear h
  replace H := Option.bind_eq_some_iff.mp H
  obtain ⟨t383, A30, H⟩ := H
  replace H : (some t383) = some r := H
  have A3 := Aside0.mk A30
  clear A30
  obtain rfl := Option.some.inj H
  go_enter Try.func34, Try.ntmps34
  go_wp2_with (first | ((with_reducible refine gate_callee (f := 71) rfl ?_); refine goesL_ (some 7) rfl rfl Try.func71 (by kernel_rfl) rfl #[.slice A0 l0.length c0, .slice A1 l1.length c1] rfl (by (try simp only [List.map_toArray, List.map_cons, List.map_nil]); first | done | rfl | (simp only [List.length_drop, List.length_take]; rfl)) ?_; (with_reducible refine (api_Span.calls k _ _ l0 _ _ l1 t383 _ ?side1 ?side2 ?side3 ?side4 A3.out).mono ?_); (case side1 => repeat (first | exact HR0.out | (with_reducible refine Kd.C_alloc ?_ _) | (with_reducible refine Kd.C_drewN ?_ _) | (with_reducible refine Kd.C_drew ?_))); (case side2 => exact HC0.out); (case side3 => repeat (first | exact HR1.out | (with_reducible refine Kd.C_alloc ?_ _) | (with_reducible refine Kd.C_drewN ?_ _) | (with_reducible refine Kd.C_drew ?_))); (case side4 => exact HC1.out); rintro e w' ⟨rfl, ⟨nd, rfl⟩⟩; refine ⟨_, rfl, ?_⟩))
  go_ret
  exact ⟨by first | rfl | (simp; done) | (simp [*]; done), by repeat (first | exact Drawn0.refl _ | apply Drawn0.step)⟩

end Go.Proofs.Ytmbmalkpmanaaaa.P

-- Written by wip/mkprint.py of the proofs' repo (the kit's print, over contracts that were proved by hand). Not trusted: Lean checks it.
namespace Go.Proofs.Ytmbmalkpmanaaaa.P
open Go.RowKit Go.Proofs.YtmbmalkpmanaaaaW.PrintWords Go.Proofs.YtmbmalkpmanaaaaW.PrintLast Go.Proofs.YtmbmalkpmanaaaaW.PrintMore
attribute [local go_sem] max2_int min2_int max_two min_two max_three min_three max_four min_four   -- for this text's walks alone
set_option linter.unusedVariables false
set_option linter.unusedSimpArgs false

/-! ### spans_Has_1: function 62 -/
def spans_Has_1.f (a0_0 : Int) (a0_1 : Int) (a1 : Int) : Option (Int) := if a0_1 < a1 then (some (-1)) else (if a0_0 > a1 then (some 1) else (some 0))
set_option maxHeartbeats 8000000 in
set_option maxRecDepth 100000 in
theorem spans_Has_1.calls (a0_0 : Int) (a0_1 : Int) (a1 : Int) (r : Int) (w : World) (h : spans_Has_1.f a0_0 a0_1 a1 = some r) :
    Calls Try.prog 62 #[.agg #[.int .i64 a0_0, .int .i64 a0_1], .int .i64 a1] w fun e w' => e = .returned (.int .i64 r) ∧ Below w.heap.size w w' := by
  have hu23 := Try.underlying23
  have HB := Aside0.mk (Below.refl w.heap.size w)
  have H : (if a0_1 < a1 then (some (-1)) else (if a0_0 > a1 then (some 1) else (some 0))) = some r := h
  clear h
  by_cases c3 : a0_1 < a1
  · rw [if_pos c3] at H
    have c3b0 : decide (a0_1 < a1) = true := decide_eq_true c3
    clear c3
    obtain rfl := Option.some.inj H
    go_enter Try.func62, Try.ntmps62
    go_wp2_with (first | ((with_reducible refine gate_dst (N := 2) rfl ?_); refine box_event ?hg (N := 2) ?hd (cs := #[.int .i64 a0_0, .int .i64 a0_1]) (t := 23) ?hr ?_; (case hd => rfl); (case hg => rfl); (case hr => first | (go_simp; done) | (go_simp; rfl)); intro gb1185 hg w4 hbox hb; have n0_ := Aside0.mk (below_step (by repeat (first | (with_reducible first | exact HB.out | apply below_alloc | apply pw_below_drewN | apply below_drew1) | exact HB.out)) hb); have n1_ := Aside0.mk (hbox); have n2_ := Aside0.mk ((by rw [hg]; exact (below_size (by repeat (first | (with_reducible first | exact HB.out | apply below_alloc | apply pw_below_drewN | apply below_drew1) | exact HB.out))) : w.heap.size ≤ gb1185)); have n3_ := Aside0.mk ((by rw [hg]; exact (below_size (by repeat (first | (with_reducible first | exact HB.out | apply below_alloc | apply pw_below_drewN | apply below_drew1) | exact HB.out))) : w.heap.size ≤ gb1185)); clear HB; have HB := n0_; have BK1185 := n1_; have GW1185 := n2_; have GE1185 := n3_; clear n0_ n1_ n2_ n3_; clear hb hbox hg; have hcz5_0 : w4.cell? ⟨gb1185, 0, none⟩ = some (.int .i64 a0_0) := (blk_cell BK1185.out 0).trans rfl; have hcz5_1 : w4.cell? ⟨gb1185, 1, none⟩ = some (.int .i64 a0_1) := (blk_cell BK1185.out 1).trans rfl; have hfz5_0 := blk_frozen BK1185.out 0; have hfz5_1 := blk_frozen BK1185.out 1))
    go_ret
    exact ⟨by first | rfl | (simp [errW_none, errW_some] <;> rfl) | (simp [*, errW_none, errW_some] <;> rfl), by repeat (first | (with_reducible first | exact HB.out | apply below_alloc | apply pw_below_drewN | apply below_drew1 | refine below_set ?_ GE1185.out) | exact HB.out)⟩
  · rw [if_neg c3] at H
    have c3b0 : decide (a0_1 < a1) = false := decide_eq_false c3
    clear c3
    by_cases c6 : a0_0 > a1
    · rw [if_pos c6] at H
      have c6b0 : decide (a1 < a0_0) = true := decide_eq_true c6
      clear c6
      obtain rfl := Option.some.inj H
      go_enter Try.func62, Try.ntmps62
      go_wp2_with (first | ((with_reducible refine gate_dst (N := 2) rfl ?_); refine box_event ?hg (N := 2) ?hd (cs := #[.int .i64 a0_0, .int .i64 a0_1]) (t := 23) ?hr ?_; (case hd => rfl); (case hg => rfl); (case hr => first | (go_simp; done) | (go_simp; rfl)); intro gb1185 hg w7 hbox hb; have n0_ := Aside0.mk (below_step (by repeat (first | (with_reducible first | exact HB.out | apply below_alloc | apply pw_below_drewN | apply below_drew1) | exact HB.out)) hb); have n1_ := Aside0.mk (hbox); have n2_ := Aside0.mk ((by rw [hg]; exact (below_size (by repeat (first | (with_reducible first | exact HB.out | apply below_alloc | apply pw_below_drewN | apply below_drew1) | exact HB.out))) : w.heap.size ≤ gb1185)); have n3_ := Aside0.mk ((by rw [hg]; exact (below_size (by repeat (first | (with_reducible first | exact HB.out | apply below_alloc | apply pw_below_drewN | apply below_drew1) | exact HB.out))) : w.heap.size ≤ gb1185)); clear HB; have HB := n0_; have BK1185 := n1_; have GW1185 := n2_; have GE1185 := n3_; clear n0_ n1_ n2_ n3_; clear hb hbox hg; have hcz8_0 : w7.cell? ⟨gb1185, 0, none⟩ = some (.int .i64 a0_0) := (blk_cell BK1185.out 0).trans rfl; have hcz8_1 : w7.cell? ⟨gb1185, 1, none⟩ = some (.int .i64 a0_1) := (blk_cell BK1185.out 1).trans rfl; have hfz8_0 := blk_frozen BK1185.out 0; have hfz8_1 := blk_frozen BK1185.out 1))
      go_ret
      exact ⟨by first | rfl | (simp [errW_none, errW_some] <;> rfl) | (simp [*, errW_none, errW_some] <;> rfl), by repeat (first | (with_reducible first | exact HB.out | apply below_alloc | apply pw_below_drewN | apply below_drew1 | refine below_set ?_ GE1185.out) | exact HB.out)⟩
    · rw [if_neg c6] at H
      have c6b0 : decide (a1 < a0_0) = false := decide_eq_false c6
      clear c6
      obtain rfl := Option.some.inj H
      go_enter Try.func62, Try.ntmps62
      go_wp2_with (first | ((with_reducible refine gate_dst (N := 2) rfl ?_); refine box_event ?hg (N := 2) ?hd (cs := #[.int .i64 a0_0, .int .i64 a0_1]) (t := 23) ?hr ?_; (case hd => rfl); (case hg => rfl); (case hr => first | (go_simp; done) | (go_simp; rfl)); intro gb1185 hg w9 hbox hb; have n0_ := Aside0.mk (below_step (by repeat (first | (with_reducible first | exact HB.out | apply below_alloc | apply pw_below_drewN | apply below_drew1) | exact HB.out)) hb); have n1_ := Aside0.mk (hbox); have n2_ := Aside0.mk ((by rw [hg]; exact (below_size (by repeat (first | (with_reducible first | exact HB.out | apply below_alloc | apply pw_below_drewN | apply below_drew1) | exact HB.out))) : w.heap.size ≤ gb1185)); have n3_ := Aside0.mk ((by rw [hg]; exact (below_size (by repeat (first | (with_reducible first | exact HB.out | apply below_alloc | apply pw_below_drewN | apply below_drew1) | exact HB.out))) : w.heap.size ≤ gb1185)); clear HB; have HB := n0_; have BK1185 := n1_; have GW1185 := n2_; have GE1185 := n3_; clear n0_ n1_ n2_ n3_; clear hb hbox hg; have hcz10_0 : w9.cell? ⟨gb1185, 0, none⟩ = some (.int .i64 a0_0) := (blk_cell BK1185.out 0).trans rfl; have hcz10_1 : w9.cell? ⟨gb1185, 1, none⟩ = some (.int .i64 a0_1) := (blk_cell BK1185.out 1).trans rfl; have hfz10_0 := blk_frozen BK1185.out 0; have hfz10_1 := blk_frozen BK1185.out 1))
      go_ret
      exact ⟨by first | rfl | (simp [errW_none, errW_some] <;> rfl) | (simp [*, errW_none, errW_some] <;> rfl), by repeat (first | (with_reducible first | exact HB.out | apply below_alloc | apply pw_below_drewN | apply below_drew1 | refine below_set ?_ GE1185.out) | exact HB.out)⟩

end Go.Proofs.Ytmbmalkpmanaaaa.P

-- Written by wip/mkprint.py of the proofs' repo (the kit's print, over contracts that were proved by hand). Not trusted: Lean checks it.
namespace Go.Proofs.Ytmbmalkpmanaaaa.P
open Go.RowKit Go.Proofs.YtmbmalkpmanaaaaW.PrintWords Go.Proofs.YtmbmalkpmanaaaaW.PrintLast Go.Proofs.YtmbmalkpmanaaaaW.PrintMore
attribute [local go_sem] max2_int min2_int max_two min_two max_three min_three max_four min_four   -- for this text's walks alone
set_option linter.unusedVariables false
set_option linter.unusedSimpArgs false

/-! ### api_Span_int: function 61 -/
def api_Span_int.l0 : Nat → List (S23) → Int → Int → Int → Int → Option (Int × Bool)
  | 0, _, _, _, _, _ => none
  | k + 1, x0, x1, x8, x9, x10 => if x9 < x10 then (if 0 ≤ (wrap64 ((IntKind.u64.wrap (wrap64 (x9 + x10))) / 2)) then (if (wrap64 ((IntKind.u64.wrap (wrap64 (x9 + x10))) / 2)) < (x0.length : Int) then ((spans_Has_1.f ((rd_T23 x0 (wrap64 ((IntKind.u64.wrap (wrap64 (x9 + x10))) / 2))).f0) ((rd_T23 x0 (wrap64 ((IntKind.u64.wrap (wrap64 (x9 + x10))) / 2))).f1) x1).bind fun t1187 => (if t1187 < 0 then (api_Span_int.l0 k x0 x1 x8 (wrap64 ((wrap64 ((IntKind.u64.wrap (wrap64 (x9 + x10))) / 2)) + 1)) x10) else (api_Span_int.l0 k x0 x1 x8 x9 (wrap64 ((IntKind.u64.wrap (wrap64 (x9 + x10))) / 2))))) else (none)) else (none)) else (if x9 < x8 then (if 0 ≤ x9 then (if x9 < (x0.length : Int) then ((spans_Has_1.f ((rd_T23 x0 x9).f0) ((rd_T23 x0 x9).f1) x1).bind fun t1189 => (some (x9, (t1189 == 0)))) else (none)) else (none)) else (some (x9, false)))
def api_Span_int.f (k : Nat) (l0 : List (S23)) (a1 : Int)  : Option (Int × Bool) := api_Span_int.l0 k l0 a1 (l0.length : Int) 0 (l0.length : Int)
theorem api_Span_int.mono_l : ∀ k, (∀ y0 y1 y2 y3 y4, LeO (api_Span_int.l0 k y0 y1 y2 y3 y4) (api_Span_int.l0 (k + 1) y0 y1 y2 y3 y4))
  | 0 => fun _ _ _ _ _ r h => by simp [api_Span_int.l0] at h
  | k + 1 => by
    have ih0 := api_Span_int.mono_l k
    · intro y0 y1 y2 y3 y4
      unfold api_Span_int.l0
      repeat' first
      | (with_reducible exact ih0 _ _ _ _ _)
      | (with_reducible exact LeO.refl _)
      | (with_reducible exact LeO.none _)
      | (with_reducible refine LeO.ite ?_ ?_)
      | (with_reducible refine LeO.bind ?_ (fun _ => ?_))
      | exact ih0 _ _ _ _ _
      | exact LeO.none _
      | refine LeO.ite ?_ ?_
      | refine LeO.bind ?_ (fun _ => ?_)
theorem api_Span_int.mono : ∀ a0 a1 k, LeO (api_Span_int.f k a0 a1) (api_Span_int.f (k + 1) a0 a1) := by
  intro a0 a1 k
  have ih0 := api_Span_int.mono_l k
  unfold api_Span_int.f
  repeat' first
      | (with_reducible exact ih0 _ _ _ _ _)
      | (with_reducible exact LeO.refl _)
      | (with_reducible exact LeO.none _)
      | (with_reducible refine LeO.ite ?_ ?_)
      | (with_reducible refine LeO.bind ?_ (fun _ => ?_))
      | exact ih0 _ _ _ _ _
      | exact LeO.none _
      | refine LeO.ite ?_ ?_
      | refine LeO.bind ?_ (fun _ => ?_)
set_option maxHeartbeats 8000000 in
set_option maxRecDepth 100000 in
theorem api_Span_int.calls (k : Nat) (A0 : Option Addr) (c0 : Nat) (l0 : List (S23)) (a1 : Int)  (r1 : Int) (r2 : Bool) (w : World) (hr0 : Kd.C k23 w A0 l0.length l0) (hc0 : l0.length ≤ c0) (h : api_Span_int.f k l0 a1 = some (r1, r2)) :
    Calls Try.prog 61 #[.slice A0 l0.length c0, .int .i64 a1, .func (.func 62) #[] #[]] w fun e w' => e = .returned (.tuple #[.int .i64 r1, .bool r2]) ∧ Below w.heap.size w w' := by
  have hu23 := Try.underlying23
  have HR0 := Aside0.mk hr0
  have HC0 := Aside0.mk hc0
  clear hr0 hc0
  have HB := Aside0.mk (Below.refl w.heap.size w)
  have H : (api_Span_int.l0 k l0 a1 (l0.length : Int) 0 (l0.length : Int)) = some (r1, r2) := h
  clear h
  have H' := Aside0.mk H
  clear H
  go_enter Try.func61, Try.ntmps61
  go_wp2
  go_loopg [9, 10] k (fun kq v9 v10 w' => ∃ (x9_1 : Int) (x10_1 : Int), v9 = .int .i64 x9_1 ∧ v10 = .int .i64 x10_1 ∧ Aside0 (api_Span_int.l0 kq l0 a1 (l0.length : Int) x9_1 x10_1 = some (r1, r2)) ∧ Aside0 (kq ≤ k) ∧ Aside0 (Below w.heap.size w w'))
  case atStart => exact ⟨(0), ((l0.length : Int)), (by first | rfl | (simp; done) | (simp [*]; done)), (by first | rfl | (simp; done) | (simp [*]; done)), H', ⟨Nat.le_refl _⟩, ⟨by repeat (first | (with_reducible first | exact HB.out | apply below_alloc | apply pw_below_drewN | apply below_drew1) | exact HB.out)⟩⟩
  case round =>
    clear H'
    try clear p2
    obtain ⟨x9_1, x10_1, rfl, rfl, HA, HK1, HB⟩ := hrel
    cases gk with
    | zero => exact absurd HA.out (by simp [api_Span_int.l0])
    | succ k1 =>
      have H := HA.out
      clear HA
      simp only [api_Span_int.l0] at H
      by_cases c4 : x9_1 < x10_1
      · rw [if_pos c4] at H
        have c4b0 : decide (x9_1 < x10_1) = true := decide_eq_true c4
        clear c4
        obtain ⟨ji5, hji5⟩ : ∃ j_ : Int, (wrap64 ((IntKind.u64.wrap (wrap64 (x9_1 + x10_1))) / 2)) = j_ := ⟨_, rfl⟩
        replace H : (if 0 ≤ (ji5) then (if (ji5) < (l0.length : Int) then ((spans_Has_1.f ((rd_T23 l0 (ji5)).f0) ((rd_T23 l0 (ji5)).f1) a1).bind fun t1187 => (if t1187 < 0 then (api_Span_int.l0 k1 l0 a1 (l0.length : Int) (wrap64 ((ji5) + 1)) x10_1) else (api_Span_int.l0 k1 l0 a1 (l0.length : Int) x9_1 ji5))) else (none)) else (none)) = some (r1, r2) := by first | (rw [hji5] at H; exact H) | (simp only [hji5] at H ⊢; exact H)
        have hji5w : (IntKind.i64.wrap ((IntKind.u64.wrap (wrap64 (x9_1 + x10_1))) / 2)) = ji5 := (i64_w _).trans hji5
        by_cases c6 : 0 ≤ (ji5)
        · rw [if_pos c6] at H
          have c6b0 : decide (0 ≤ (ji5)) = true := decide_eq_true c6
          clear c6
          by_cases c7 : (ji5) < (l0.length : Int)
          · rw [if_pos c7] at H
            have c7b0 : decide ((ji5) < (l0.length : Int)) = true := decide_eq_true c7
            clear c7
            replace H := Option.bind_eq_some_iff.mp H
            obtain ⟨t1187, A80, H⟩ := H
            replace H : (if t1187 < 0 then (api_Span_int.l0 k1 l0 a1 (l0.length : Int) (wrap64 ((ji5) + 1)) x10_1) else (api_Span_int.l0 k1 l0 a1 (l0.length : Int) x9_1 ji5)) = some (r1, r2) := H
            have A8 := Aside0.mk A80
            clear A80
            by_cases c9 : t1187 < 0
            · rw [if_pos c9] at H
              have c9b0 : decide (t1187 < 0) = true := decide_eq_true c9
              clear c9
              have H' := Aside0.mk H
              clear H
              have p1186 : 0 ≤ ((ji5) : Int) := of_decide_eq_true (by first | (with_reducible assumption) | assumption)
              have q1186 : (ji5) < (l0.length : Int) := of_decide_eq_true (by first | (with_reducible assumption) | assumption)
              obtain ⟨ad1186, e1186, hx1186_0, hx1186_1⟩ := at_T23 HR0.out (ji5) p1186 q1186
              cases e1186
              replace hx1186_0 := (HB.out.cell (World.block_lt_of_cell? w _ hx1186_0)).trans hx1186_0
              replace hx1186_1 := (HB.out.cell (World.block_lt_of_cell? w _ hx1186_1)).trans hx1186_1
              replace p1186 := eq_true p1186
              replace q1186 := eq_true q1186
              go_wp2_with (first | (go_at_call 62; (with_reducible refine (spans_Has_1.calls ((rd_T23 l0 (ji5)).f0) ((rd_T23 l0 (ji5)).f1) a1 t1187 _ A8.out).mono ?_); rintro e w10 ⟨rfl, hb⟩; have n0_ := Aside0.mk (below_step (by repeat (first | (with_reducible first | exact HB.out | apply below_alloc | apply pw_below_drewN | apply below_drew1) | exact HB.out)) hb); clear HB; have HB := n0_; clear n0_; (try clear hb); (try clear hb2); (try clear hk); (try clear hi)))
              go_roundg k1
              case measure => have := HK1.out; omega
              case rel => exact ⟨(wrap64 ((ji5) + 1)), (x10_1), (by first | rfl | (simp; done) | (simp only [← hji5] <;> (first | rfl | simp)) | (simp [*]; done)), (by first | rfl | (simp; done) | (simp [*]; done)), H', ⟨by have := HK1.out; omega⟩, ⟨by repeat (first | (with_reducible first | exact HB.out | apply below_alloc | apply pw_below_drewN | apply below_drew1) | exact HB.out)⟩⟩
            · rw [if_neg c9] at H
              have c9b0 : decide (t1187 < 0) = false := decide_eq_false c9
              clear c9
              have H' := Aside0.mk H
              clear H
              have p1186 : 0 ≤ ((ji5) : Int) := of_decide_eq_true (by first | (with_reducible assumption) | assumption)
              have q1186 : (ji5) < (l0.length : Int) := of_decide_eq_true (by first | (with_reducible assumption) | assumption)
              obtain ⟨ad1186, e1186, hx1186_0, hx1186_1⟩ := at_T23 HR0.out (ji5) p1186 q1186
              cases e1186
              replace hx1186_0 := (HB.out.cell (World.block_lt_of_cell? w _ hx1186_0)).trans hx1186_0
              replace hx1186_1 := (HB.out.cell (World.block_lt_of_cell? w _ hx1186_1)).trans hx1186_1
              replace p1186 := eq_true p1186
              replace q1186 := eq_true q1186
              go_wp2_with (first | (go_at_call 62; (with_reducible refine (spans_Has_1.calls ((rd_T23 l0 (ji5)).f0) ((rd_T23 l0 (ji5)).f1) a1 t1187 _ A8.out).mono ?_); rintro e w11 ⟨rfl, hb⟩; have n0_ := Aside0.mk (below_step (by repeat (first | (with_reducible first | exact HB.out | apply below_alloc | apply pw_below_drewN | apply below_drew1) | exact HB.out)) hb); clear HB; have HB := n0_; clear n0_; (try clear hb); (try clear hb2); (try clear hk); (try clear hi)))
              go_roundg k1
              case measure => have := HK1.out; omega
              case rel => exact ⟨(x9_1), (ji5), (by first | rfl | (simp; done) | (simp [*]; done)), (by first | rfl | (simp; done) | (simp only [← hji5] <;> (first | rfl | simp)) | (simp [*]; done)), H', ⟨by have := HK1.out; omega⟩, ⟨by repeat (first | (with_reducible first | exact HB.out | apply below_alloc | apply pw_below_drewN | apply below_drew1) | exact HB.out)⟩⟩
          · rw [if_neg c7] at H
            exact absurd H (by simp)
        · rw [if_neg c6] at H
          exact absurd H (by simp)
      · rw [if_neg c4] at H
        have c4b0 : decide (x9_1 < x10_1) = false := decide_eq_false c4
        clear c4
        by_cases c12 : x9_1 < (l0.length : Int)
        · rw [if_pos c12] at H
          have c12b0 : decide (x9_1 < (l0.length : Int)) = true := decide_eq_true c12
          clear c12
          by_cases c13 : 0 ≤ x9_1
          · rw [if_pos c13] at H
            have c13b0 : decide (0 ≤ x9_1) = true := decide_eq_true c13
            clear c13
            by_cases c14 : x9_1 < (l0.length : Int)
            · rw [if_pos c14] at H
              have c14b0 : decide (x9_1 < (l0.length : Int)) = true := decide_eq_true c14
              clear c14
              replace H := Option.bind_eq_some_iff.mp H
              obtain ⟨t1189, A150, H⟩ := H
              replace H : (some (x9_1, (t1189 == 0))) = some (r1, r2) := H
              have A15 := Aside0.mk A150
              clear A150
              simp only [Option.some.injEq, Prod.mk.injEq] at H
              obtain ⟨rfl, rfl⟩ := H
              have p1188 : 0 ≤ (x9_1 : Int) := of_decide_eq_true (by first | (with_reducible assumption) | assumption)
              have q1188 : x9_1 < (l0.length : Int) := of_decide_eq_true (by first | (with_reducible assumption) | assumption)
              obtain ⟨ad1188, e1188, hx1188_0, hx1188_1⟩ := at_T23 HR0.out x9_1 p1188 q1188
              cases e1188
              replace hx1188_0 := (HB.out.cell (World.block_lt_of_cell? w _ hx1188_0)).trans hx1188_0
              replace hx1188_1 := (HB.out.cell (World.block_lt_of_cell? w _ hx1188_1)).trans hx1188_1
              replace p1188 := eq_true p1188
              replace q1188 := eq_true q1188
              go_wp2_with (first | (go_at_call 62; (with_reducible refine (spans_Has_1.calls ((rd_T23 l0 x9_1).f0) ((rd_T23 l0 x9_1).f1) a1 t1189 _ A15.out).mono ?_); rintro e w16 ⟨rfl, hb⟩; have n0_ := Aside0.mk (below_step (by repeat (first | (with_reducible first | exact HB.out | apply below_alloc | apply pw_below_drewN | apply below_drew1) | exact HB.out)) hb); clear HB; have HB := n0_; clear n0_; (try clear hb); (try clear hb2); (try clear hk); (try clear hi)))
              go_ret2
              exact ⟨by first | rfl | (simp [errW_none, errW_some] <;> rfl) | (simp [*, errW_none, errW_some] <;> rfl), by repeat (first | (with_reducible first | exact HB.out | apply below_alloc | apply pw_below_drewN | apply below_drew1) | exact HB.out)⟩
            · rw [if_neg c14] at H
              exact absurd H (by simp)
          · rw [if_neg c13] at H
            exact absurd H (by simp)
        · rw [if_neg c12] at H
          have c12b0 : decide (x9_1 < (l0.length : Int)) = false := decide_eq_false c12
          clear c12
          simp only [Option.some.injEq, Prod.mk.injEq] at H
          obtain ⟨rfl, rfl⟩ := H
          go_wp2
          go_ret2
          exact ⟨by first | rfl | (simp [errW_none, errW_some] <;> rfl) | (simp [*, errW_none, errW_some] <;> rfl), by repeat (first | (with_reducible first | exact HB.out | apply below_alloc | apply pw_below_drewN | apply below_drew1) | exact HB.out)⟩

end Go.Proofs.Ytmbmalkpmanaaaa.P

-- Written by wip/mkprint.py of the proofs' repo (the kit's print, over contracts that were proved by hand). Not trusted: Lean checks it.
namespace Go.Proofs.Ytmbmalkpmanaaaa.P
open Go.RowKit Go.Proofs.YtmbmalkpmanaaaaW.PrintWords Go.Proofs.YtmbmalkpmanaaaaW.PrintLast Go.Proofs.YtmbmalkpmanaaaaW.PrintMore
attribute [local go_sem] max2_int min2_int max_two min_two max_three min_three max_four min_four   -- for this text's walks alone
set_option linter.unusedVariables false
set_option linter.unusedSimpArgs false

/-! ### spans_Has: function 24 -/
def spans_Has.f (k : Nat) (l0 : List (S23)) (a1 : Int) : Option (Bool) := (api_Span_int.f k l0 a1).bind fun bt1190 => (if bt1190.2 = true then (some (decide (bt1190.1 < (l0.length : Int)))) else (some false))
theorem spans_Has.mono : ∀ a0 a1 k, LeO (spans_Has.f k a0 a1) (spans_Has.f (k + 1) a0 a1) := by
  intro a0 a1 k
  unfold spans_Has.f
  repeat' first
      | (with_reducible exact api_Span_int.mono _ _ _)
      | (with_reducible exact LeO.refl _)
      | (with_reducible exact LeO.none _)
      | (with_reducible refine LeO.ite ?_ ?_)
      | (with_reducible refine LeO.bind ?_ (fun _ => ?_))
      | exact api_Span_int.mono _ _ _
      | exact LeO.none _
      | refine LeO.ite ?_ ?_
      | refine LeO.bind ?_ (fun _ => ?_)
set_option maxHeartbeats 8000000 in
set_option maxRecDepth 100000 in
theorem spans_Has.calls (k : Nat) (A0 : Option Addr) (c0 : Nat) (l0 : List (S23)) (a1 : Int) (r : Bool) (w : World) (hr0 : Kd.C k23 w A0 l0.length l0) (hc0 : l0.length ≤ c0) (h : spans_Has.f k l0 a1 = some r) :
    Calls Try.prog 24 #[.slice A0 l0.length c0, .int .i64 a1] w fun e w' => e = .returned (.bool r) ∧ Below w.heap.size w w' := by
  have HR0 := Aside0.mk hr0
  have HC0 := Aside0.mk hc0
  clear hr0 hc0
  have HB := Aside0.mk (Below.refl w.heap.size w)
  have H : ((api_Span_int.f k l0 a1).bind fun bt1190 => (if bt1190.2 = true then (some (decide (bt1190.1 < (l0.length : Int)))) else (some false))) = some r := h
  clear h
  replace H := Option.bind_eq_some_iff.mp H
  obtain ⟨⟨t1190, t1191⟩, A30, H⟩ := H
  replace H : (if t1191 = true then (some (decide (t1190 < (l0.length : Int)))) else (some false)) = some r := H
  have A3 := Aside0.mk A30
  clear A30
  by_cases c4 : t1191 = true
  · subst c4
    have H1 : (some (decide (t1190 < (l0.length : Int)))) = some r := by rw [if_pos rfl] at H; exact H
    clear H
    have H := H1
    clear H1
    obtain rfl := Option.some.inj H
    go_enter Try.func24, Try.ntmps24
    go_wp2_with (first | ((with_reducible refine gate_callee (f := 61) rfl ?_); refine goesL_ (some 10) rfl rfl Try.func61 (by kernel_rfl) rfl #[.slice A0 l0.length c0, .int .i64 a1, .func (.func 62) #[] #[]] rfl (by (try simp only [List.map_toArray, List.map_cons, List.map_nil]); first | done | rfl | (simp only [List.length_drop, List.length_take]; rfl)) ?_; (with_reducible refine (api_Span_int.calls k _ _ l0 a1 t1190 true _ ?side1 ?side2 A3.out).mono ?_); (case side1 => repeat (first | exact HR0.out | (with_reducible refine Kd.C_alloc ?_ _) | (with_reducible refine Kd.C_drewN ?_ _) | (with_reducible refine Kd.C_drew ?_))); (case side2 => exact HC0.out); rintro e w5 ⟨rfl, hb⟩; refine ⟨_, rfl, ?_⟩; have n0_ := Aside0.mk (below_step (by repeat (first | (with_reducible first | exact HB.out | apply below_alloc | apply pw_below_drewN | apply below_drew1) | exact HB.out)) hb); clear HB; have HB := n0_; clear n0_; (try clear hb); (try clear hb2); (try clear hk); (try clear hi)))
    go_ret
    exact ⟨by first | rfl | (simp [errW_none, errW_some] <;> rfl) | (simp [*, errW_none, errW_some] <;> rfl), by repeat (first | (with_reducible first | exact HB.out | apply below_alloc | apply pw_below_drewN | apply below_drew1) | exact HB.out)⟩
  · replace c4 := Bool.eq_false_iff.mpr c4
    subst c4
    have H1 : (some false) = some r := by rw [if_neg (show ¬ (false = true) by decide)] at H; exact H
    clear H
    have H := H1
    clear H1
    obtain rfl := Option.some.inj H
    go_enter Try.func24, Try.ntmps24
    go_wp2_with (first | ((with_reducible refine gate_callee (f := 61) rfl ?_); refine goesL_ (some 10) rfl rfl Try.func61 (by kernel_rfl) rfl #[.slice A0 l0.length c0, .int .i64 a1, .func (.func 62) #[] #[]] rfl (by (try simp only [List.map_toArray, List.map_cons, List.map_nil]); first | done | rfl | (simp only [List.length_drop, List.length_take]; rfl)) ?_; (with_reducible refine (api_Span_int.calls k _ _ l0 a1 t1190 false _ ?side1 ?side2 A3.out).mono ?_); (case side1 => repeat (first | exact HR0.out | (with_reducible refine Kd.C_alloc ?_ _) | (with_reducible refine Kd.C_drewN ?_ _) | (with_reducible refine Kd.C_drew ?_))); (case side2 => exact HC0.out); rintro e w6 ⟨rfl, hb⟩; refine ⟨_, rfl, ?_⟩; have n0_ := Aside0.mk (below_step (by repeat (first | (with_reducible first | exact HB.out | apply below_alloc | apply pw_below_drewN | apply below_drew1) | exact HB.out)) hb); clear HB; have HB := n0_; clear n0_; (try clear hb); (try clear hb2); (try clear hk); (try clear hi)))
    go_ret
    exact ⟨by first | rfl | (simp [errW_none, errW_some] <;> rfl) | (simp [*, errW_none, errW_some] <;> rfl), by repeat (first | (with_reducible first | exact HB.out | apply below_alloc | apply pw_below_drewN | apply below_drew1) | exact HB.out)⟩

end Go.Proofs.Ytmbmalkpmanaaaa.P

/- What the printed functions of package spans and of its reference come to, in plain words. No condition. -/
namespace Go.Proofs.Ytmbmalkpmanaaaa.P
set_option linter.unusedVariables false
set_option linter.unusedSimpArgs false
open Go.RowKit Go.Proofs.YtmbmalkpmanaaaaW.PrintWords

theorem rd_mid (pre r : List Sp) (s : Sp) : rd_T23 (pre ++ s :: r) (pre.length : Int) = s := by simp [rd_T23]
theorem wrap_len {α : Type} (pre : List α) (s : α) (n : Nat) (h : pre.length + 1 ≤ n) (hn : n ≤ 9223372036854775807) : wrap64 ((pre.length : Int) + 1) = ((pre ++ [s]).length : Int) := by
  rw [wrap_ok (by omega) (by omega)]; simp
theorem wrap_pred {α : Type} (pre : List α) (s : α) (n : Nat) (h : pre.length + 1 ≤ n) (hn : n ≤ 9223372036854775807) : wrap64 (((pre ++ [s]).length : Int) - 1) = (pre.length : Int) := by
  rw [wrap_ok (by simp only [List.length_append, List.length_singleton]; omega) (by simp only [List.length_append, List.length_singleton]; omega)]; simp

/-- Is a list a set of ticks, from lo on? -/
def slB (lo : Int) : List Sp → Bool
  | [] => true
  | s :: r => decide (lo ≤ s.f0) && (decide (s.f0 ≤ s.f1) && (decide (s.f1 ≤ 1099511627776) && slB (s.f1 + 2) r))
theorem slB_iff {lo : Int} {l : List Sp} : slB lo l = true ↔ SL lo 1099511627776 l := by
  induction l generalizing lo with
  | nil => simp [slB, SL]
  | cons s r ih => simp [slB, SL, ih]

theorem tick_f (a : Int) : spans_tick.f a = some (decide (-1099511627776 ≤ a) && decide (a ≤ 1099511627776)) := by
  unfold spans_tick.f
  by_cases h : a ≥ -1099511627776
  · have h2 : -1099511627776 ≤ a := h
    rw [if_pos h]; simp [h2]
  · have h2 : ¬ -1099511627776 ≤ a := h
    rw [if_neg h]; simp [h2]

theorem right_ev (l : List Sp) (hl : l.length ≤ 9223372036854775807) : Ev (fun k => spans_Right.f k l) (slB (-1099511627776) l) := by
  have key : ∀ (rest pre : List Sp) (lo : Int), l = pre ++ rest → (pre = [] ∧ lo = -1099511627776 ∨ ∃ p q, pre = p ++ [q] ∧ lo = q.f1 + 2 ∧ -1099511627776 ≤ q.f1 ∧ q.f1 ≤ 1099511627776) →
      Ev (fun k => spans_Right.l0 k l l (l.length : Int) (pre.length : Int)) (slB lo rest) := by
    intro rest
    induction rest with
    | nil =>
      intro pre lo hp hlo
      refine Ev.step (f := fun _ => some true) (fun k => ?_) (Ev.now _)
      rw [spans_Right.l0, if_neg (by rw [hp]; simp)]
    | cons s r ih =>
      intro pre lo hp hlo
      have hlen : pre.length + 1 ≤ l.length := by rw [hp]; simp
      have hrd : rd_T23 l (pre.length : Int) = s := by rw [hp]; exact rd_mid _ _ _
      have h0 : ∀ k, spans_Right.l0 (k + 1) l l (l.length : Int) (pre.length : Int) = spans_Right.l0 (k + 1) l l (l.length : Int) (pre.length : Int) := fun _ => rfl
      have hlow : -1099511627776 ≤ lo := by rcases hlo with ⟨_, rfl⟩ | ⟨p, q, _, rfl, h, _⟩ <;> omega
      have c1 : (pre.length : Int) < (l.length : Int) := by omega
      have c2 : (0 : Int) ≤ (pre.length : Int) := by omega
      by_cases t0 : -1099511627776 ≤ s.f0 ∧ s.f0 ≤ 1099511627776
      · by_cases t1 : -1099511627776 ≤ s.f1 ∧ s.f1 ≤ 1099511627776
        · by_cases t2 : s.f0 > s.f1
          · refine Ev.step (f := fun _ => some (slB lo (s :: r))) (fun k => ?_) (Ev.now _)
            have hn : ¬ s.f0 ≤ s.f1 := by omega
            rw [spans_Right.l0, if_pos c1, if_pos c2, if_pos c1, hrd, tick_f, tick_f]
            simp [t0, t1, t2, slB, hn]
          · have hn : s.f0 ≤ s.f1 := by omega
            rcases hlo with ⟨rfl, rfl⟩ | ⟨p, q, rfl, rfl, hq1, hq2⟩
            · have hs : slB (-1099511627776) (s :: r) = slB (s.f1 + 2) r := by simp [slB, t0, t1, hn]
              rw [hs]
              refine Ev.step (fun k => ?_) (ih [s] (s.f1 + 2) hp (.inr ⟨[], s, rfl, rfl, t1.1, t1.2⟩))
              rw [spans_Right.l0, if_pos c1, if_pos c2, if_pos c1, hrd, tick_f, tick_f]
              have hw : wrap64 (([] : List Sp).length + 1 : Int) = (([s] : List Sp).length : Int) := by simpa using wrap_ok (n := 1) (by omega) (by omega)
              simp only [t0, t1, decide_true, Bool.and_self, Option.bind_some, if_true]
              rw [if_neg t2, if_neg (by simp), hw]
            · have hw := wrap_len (p ++ [q]) s l.length hlen hl
              have hwp := wrap_pred p q l.length (by simp at hlen; omega) hl
              have hrq : rd_T23 l (p.length : Int) = q := by rw [hp]; simp [rd_T23]
              have hw2 : wrap64 (q.f1 + 2) = q.f1 + 2 := wrap_ok (by omega) (by omega)
              have c3 : (p.length : Int) < (l.length : Int) := by simp at hlen; omega
              by_cases t3 : s.f0 < q.f1 + 2
              · refine Ev.step (f := fun _ => some (slB (q.f1 + 2) (s :: r))) (fun k => ?_) (Ev.now _)
                have hn3 : ¬ q.f1 + 2 ≤ s.f0 := by omega
                rw [spans_Right.l0, if_pos c1, if_pos c2, if_pos c1, hrd, tick_f, tick_f]
                simp only [t0, t1, decide_true, Bool.and_self, Option.bind_some, if_true]
                rw [if_neg t2, if_pos (by simp), hwp, if_pos (by omega), if_pos c3, hrq, hw2, if_pos t3]
                simp [slB, hn3]
              · have hn3 : q.f1 + 2 ≤ s.f0 := by omega
                have hs : slB (q.f1 + 2) (s :: r) = slB (s.f1 + 2) r := by simp [slB, t1, hn, hn3]
                rw [hs]
                refine Ev.step (fun k => ?_) (ih (p ++ [q] ++ [s]) (s.f1 + 2) (by rw [hp]; simp) (.inr ⟨p ++ [q], s, rfl, rfl, t1.1, t1.2⟩))
                rw [spans_Right.l0, if_pos c1, if_pos c2, if_pos c1, hrd, tick_f, tick_f]
                simp only [t0, t1, decide_true, Bool.and_self, Option.bind_some, if_true]
                rw [if_neg t2, if_pos (by simp), hwp, if_pos (by omega), if_pos c3, hrq, hw2, if_neg t3, hw]
        · refine Ev.step (f := fun _ => some (slB lo (s :: r))) (fun k => ?_) (Ev.now _)
          rw [spans_Right.l0, if_pos c1, if_pos c2, if_pos c1, hrd, tick_f, tick_f]
          have e1 : (decide (-1099511627776 ≤ s.f1) && decide (s.f1 ≤ 1099511627776)) = false := by
            rw [Bool.eq_false_iff]; intro h; simp at h; exact t1 h
          have e2 : slB lo (s :: r) = false := by
            rw [Bool.eq_false_iff]; intro h; rw [slB_iff] at h; obtain ⟨h1, h2, h3, _⟩ := h; exact t1 ⟨by omega, h3⟩
          rw [e1, e2]
          simp [t0]
      · refine Ev.step (f := fun _ => some (slB lo (s :: r))) (fun k => ?_) (Ev.now _)
        rw [spans_Right.l0, if_pos c1, if_pos c2, if_pos c1, hrd, tick_f]
        have e1 : (decide (-1099511627776 ≤ s.f0) && decide (s.f0 ≤ 1099511627776)) = false := by
          rw [Bool.eq_false_iff]; intro h; simp at h; exact t0 h
        have e2 : slB lo (s :: r) = false := by
          rw [Bool.eq_false_iff]; intro h; rw [slB_iff] at h; obtain ⟨h1, h2, h3, _⟩ := h; exact t0 ⟨by omega, by omega⟩
        rw [e1, e2]
        simp
  exact key l [] (-1099511627776) rfl (.inl ⟨rfl, rfl⟩)

theorem refhas_ev (l : List Sp) (x : Int) (hl : l.length ≤ 9223372036854775807) : Ev (fun k => epactref02_Has.f k l x) (hasL l x) := by
  have key : ∀ (rest pre : List Sp), l = pre ++ rest → Ev (fun k => epactref02_Has.l0 k l x (pre.length : Int)) (hasL rest x) := by
    intro rest
    induction rest with
    | nil =>
      intro pre hp
      refine Ev.step (f := fun _ => some false) (fun k => ?_) (Ev.now _)
      rw [epactref02_Has.l0, if_neg (by rw [hp]; simp)]
    | cons s r ih =>
      intro pre hp
      have hlen : pre.length + 1 ≤ l.length := by rw [hp]; simp
      have hrd : rd_T23 l (pre.length : Int) = s := by rw [hp]; exact rd_mid _ _ _
      have hw := wrap_len pre s l.length hlen hl
      have c1 : (pre.length : Int) < (l.length : Int) := by omega
      have c2 : (0 : Int) ≤ (pre.length : Int) := by omega
      have hi := ih (pre ++ [s]) (by rw [hp]; simp)
      by_cases t0 : s.f0 ≤ x
      · by_cases t1 : x ≤ s.f1
        · refine Ev.step (f := fun _ => some (hasL (s :: r) x)) (fun k => ?_) (Ev.now _)
          rw [epactref02_Has.l0, if_pos c1, if_pos c2, hrd, if_pos t0, if_pos t1, hasL_cons]
          simp [t0, t1]
        · have : hasL (s :: r) x = hasL r x := by rw [hasL_cons]; simp [t1]
          rw [this]
          refine Ev.step (fun k => ?_) hi
          rw [epactref02_Has.l0, if_pos c1, if_pos c2, hrd, if_pos t0, if_neg t1, hw]
      · have : hasL (s :: r) x = hasL r x := by rw [hasL_cons]; simp [t0]
        rw [this]
        refine Ev.step (fun k => ?_) hi
        rw [epactref02_Has.l0, if_pos c1, if_pos c2, hrd, if_neg t0, hw]
  exact key l [] rfl

def alikeB : List Sp → List Sp → Bool
  | [], [] => true
  | s :: r, t :: q => ((s.f0 == t.f0) && (s.f1 == t.f1)) && alikeB r q
  | _, _ => false
theorem alikeB_iff : ∀ {l m : List Sp}, alikeB l m = true ↔ l = m
  | [], [] => by simp [alikeB]
  | s :: r, t :: q => by
    simp only [alikeB, Bool.and_eq_true, beq_iff_eq, alikeB_iff (l := r) (m := q), List.cons.injEq]
    constructor
    · rintro ⟨⟨h1, h2⟩, h3⟩; exact ⟨by cases s; cases t; simp only at h1 h2; rw [h1, h2], h3⟩
    · rintro ⟨rfl, h3⟩; exact ⟨⟨rfl, rfl⟩, h3⟩
  | [], _ :: _ => by simp [alikeB]
  | _ :: _, [] => by simp [alikeB]
theorem alikeB_len : ∀ {l m : List Sp}, l.length ≠ m.length → alikeB l m = false
  | l, m, h => by rw [Bool.eq_false_iff]; intro e; exact h (by rw [alikeB_iff.1 e])

theorem alike_ev (l m : List Sp) (hl : l.length ≤ 9223372036854775807) : Ev (fun k => epactlow_Alike.f k l m) (alikeB l m) := by
  by_cases hlm : l.length = m.length
  · have key : ∀ (r q p u : List Sp), l = p ++ r → m = u ++ q → p.length = u.length → Ev (fun k => epactlow_Alike.l0 k m l (l.length : Int) (p.length : Int)) (alikeB r q) := by
      intro r
      induction r with
      | nil =>
        intro q p u h1 h2 h3
        have hq : q = [] := by
          have : q.length = 0 := by have a := congrArg List.length h1; have b := congrArg List.length h2; simp at a b; omega
          exact List.eq_nil_of_length_eq_zero this
        subst hq
        refine Ev.step (f := fun _ => some true) (fun k => ?_) (Ev.now _)
        rw [epactlow_Alike.l0, if_neg (by rw [h1]; simp)]
      | cons s r ih =>
        intro q p u h1 h2 h3
        cases q with
        | nil => have a := congrArg List.length h1; have b := congrArg List.length h2; simp at a b; omega
        | cons t q =>
          have hlen : p.length + 1 ≤ l.length := by rw [h1]; simp
          have hrd : rd_T23 l (p.length : Int) = s := by rw [h1]; exact rd_mid _ _ _
          have hrm : rd_T23 m (p.length : Int) = t := by rw [h2, h3]; exact rd_mid _ _ _
          have hw := wrap_len p s l.length hlen hl
          have c1 : (p.length : Int) < (l.length : Int) := by omega
          have c2 : (0 : Int) ≤ (p.length : Int) := by omega
          have c3 : (p.length : Int) < (m.length : Int) := by omega
          by_cases e : s.f0 = t.f0 ∧ s.f1 = t.f1
          · have : alikeB (s :: r) (t :: q) = alikeB r q := by simp [alikeB, e]
            rw [this]
            refine Ev.step (fun k => ?_) (ih q (p ++ [s]) (u ++ [t]) (by rw [h1]; simp) (by rw [h2]; simp) (by simp [h3]))
            rw [epactlow_Alike.l0, if_pos c1, if_pos c2, if_pos c1, if_pos c3, hrd, hrm, if_neg (by simp [e]), hw]
          · refine Ev.step (f := fun _ => some (alikeB (s :: r) (t :: q))) (fun k => ?_) (Ev.now _)
            rw [epactlow_Alike.l0, if_pos c1, if_pos c2, if_pos c1, if_pos c3, hrd, hrm]
            have e2 : alikeB (s :: r) (t :: q) = false := by
              rw [Bool.eq_false_iff]; intro h; simp [alikeB] at h; exact e h.1
            rw [if_pos (by by_cases a : t.f0 = s.f0 <;> by_cases b : t.f1 = s.f1 <;> simp [a, b] <;> exact e ⟨a.symm, b.symm⟩), e2]
    refine Ev.congr (fun k => ?_) (key l m [] [] rfl rfl rfl)
    simp only [epactlow_Alike.f]
    rw [if_pos (by omega)]
    rfl
  · rw [alikeB_len hlm]
    refine Ev.congr (fun k => ?_) (Ev.now _)
    simp only [epactlow_Alike.f]
    rw [if_neg (by omega)]
end Go.Proofs.Ytmbmalkpmanaaaa.P

/- What the reference of package spans, and Make, come to. No condition. -/
namespace Go.Proofs.Ytmbmalkpmanaaaa.P
set_option linter.unusedVariables false
set_option linter.unusedSimpArgs false
open Go.RowKit Go.Proofs.YtmbmalkpmanaaaaW.PrintWords

theorem rdi_mid (pre r : List Int) (s : Int) : rd (pre ++ s :: r) (pre.length : Int) = s := by simp [rd]
theorem insert_ev (l : List Int) (x : Int) (hl : l.length ≤ 1000000000) : Ev (fun k => epactref02_insert.f k l x) (ins l x) := by
  have done : ∀ (rest pre out : List Int), l = pre ++ rest → out.length + rest.length ≤ 1000000001 → Ev (fun k => epactref02_insert.l0 k l x out true (pre.length : Int)) (out ++ rest) := by
    intro rest
    induction rest with
    | nil =>
      intro pre out hp hb
      rw [List.append_nil]
      refine Ev.step (f := fun _ => some out) (fun k => ?_) (Ev.now _)
      rw [epactref02_insert.l0, if_neg (by rw [hp]; simp), if_pos rfl]
    | cons y r ih =>
      intro pre out hp hb
      have hlen : pre.length + 1 ≤ l.length := by rw [hp]; simp
      have hrd : rd l (pre.length : Int) = y := by rw [hp]; exact rdi_mid _ _ _
      have hw := wrap_len pre y l.length hlen (by omega)
      have c1 : (pre.length : Int) < (l.length : Int) := by omega
      have c2 : (0 : Int) ≤ (pre.length : Int) := by omega
      have c3 : out.length < 17592186044416 := by simp at hb; omega
      have hi := ih (pre ++ [y]) (out ++ [y]) (by rw [hp]; simp) (by simp at hb ⊢; omega)
      rw [List.append_assoc, List.singleton_append] at hi
      refine Ev.step (fun k => ?_) hi
      rw [epactref02_insert.l0, if_pos c1, if_pos c2, hrd]
      by_cases e : y = x
      · rw [if_pos e, if_pos c3, hw]
      · rw [if_neg e, if_pos rfl, if_pos c3, hw]
  have key : ∀ (rest pre out : List Int), l = pre ++ rest → out.length + rest.length ≤ 1000000000 → Ev (fun k => epactref02_insert.l0 k l x out false (pre.length : Int)) (out ++ ins rest x) := by
    intro rest
    induction rest with
    | nil =>
      intro pre out hp hb
      refine Ev.step (f := fun _ => some (out ++ [x])) (fun k => ?_) (Ev.now _)
      have c3 : out.length < 17592186044416 := by simp at hb; omega
      rw [epactref02_insert.l0, if_neg (by rw [hp]; simp), if_neg (by simp), if_pos c3]
    | cons y r ih =>
      intro pre out hp hb
      have hlen : pre.length + 1 ≤ l.length := by rw [hp]; simp
      have hrd : rd l (pre.length : Int) = y := by rw [hp]; exact rdi_mid _ _ _
      have hw := wrap_len pre y l.length hlen (by omega)
      have c1 : (pre.length : Int) < (l.length : Int) := by omega
      have c2 : (0 : Int) ≤ (pre.length : Int) := by omega
      have c3 : out.length < 17592186044416 := by simp at hb; omega
      have hp2 : l = (pre ++ [y]) ++ r := by rw [hp]; simp
      simp only [ins]
      by_cases e : y = x
      · rw [if_pos e]
        have hi := done r (pre ++ [y]) (out ++ [y]) hp2 (by simp at hb ⊢; omega)
        rw [List.append_assoc, List.singleton_append] at hi
        refine Ev.step (fun k => ?_) hi
        rw [epactref02_insert.l0, if_pos c1, if_pos c2, hrd, if_pos e, if_pos c3, hw]
      · rw [if_neg e]
        by_cases e2 : y > x
        · rw [if_pos e2]
          have hi := done r (pre ++ [y]) (out ++ [x] ++ [y]) hp2 (by simp at hb ⊢; omega)
          have ea : out ++ [x] ++ [y] ++ r = out ++ x :: y :: r := by simp
          rw [ea] at hi
          refine Ev.step (fun k => ?_) hi
          have c4 : (out ++ [x]).length < 17592186044416 := by simp at hb ⊢; omega
          rw [epactref02_insert.l0, if_pos c1, if_pos c2, hrd, if_neg e, if_neg (by simp), if_pos e2, if_pos c3]
          simp only [Option.bind_some]
          rw [if_pos c4, hw]
        · rw [if_neg e2]
          have hi := ih (pre ++ [y]) (out ++ [y]) hp2 (by simp at hb ⊢; omega)
          rw [List.append_assoc, List.singleton_append] at hi
          refine Ev.step (fun k => ?_) hi
          rw [epactref02_insert.l0, if_pos c1, if_pos c2, hrd, if_neg e, if_neg (by simp), if_neg e2, if_pos c3, hw]
  exact key l [] [] rfl (by simpa using hl)

/-- Ends that a place behind may be told of. -/
def endsOk (l : List Sp) : Prop := ∀ s ∈ l, -4611686018427387904 ≤ s.f1 ∧ s.f1 ≤ 4611686018427387904
theorem places_ev (a b : List Sp) (ha : endsOk a) (hb : endsOk b) (hl : a.length + b.length ≤ 100000000) : Ev (fun k => epactref02_places.f k a b) (plc b (plc a [])) := by
  have kb : ∀ (rest pre : List Sp) (p : List Int), b = pre ++ rest → p.length + 2 * rest.length ≤ 900000000 → Ev (fun k => epactref02_places.l1 k b p (pre.length : Int)) (plc rest p) := by
    intro rest
    induction rest with
    | nil =>
      intro pre p hp hn
      refine Ev.step (f := fun _ => some p) (fun k => ?_) (Ev.now _)
      rw [epactref02_places.l1, if_neg (by rw [hp]; simp)]
    | cons s r ih =>
      intro pre p hp hn
      have hlen : pre.length + 1 ≤ b.length := by rw [hp]; simp
      have hrd : rd_T23 b (pre.length : Int) = s := by rw [hp]; exact rd_mid _ _ _
      have hw := wrap_len pre s b.length hlen (by omega)
      have c1 : (pre.length : Int) < (b.length : Int) := by omega
      have c2 : (0 : Int) ≤ (pre.length : Int) := by omega
      have hs := hb s (by rw [hp]; simp)
      have hw2 : wrap64 (s.f1 + 1) = s.f1 + 1 := wrap_ok (by omega) (by omega)
      have l1 := ins_len p s.f0
      have l2 := ins_len (ins p s.f0) (s.f1 + 1)
      simp only [List.length_cons] at hn
      refine Ev.step (f := fun k => (epactref02_insert.f k p s.f0).bind fun t => (epactref02_insert.f k t (s.f1 + 1)).bind fun u => epactref02_places.l1 k b u ((pre ++ [s]).length : Int)) (fun k => ?_) ?_
      · rw [epactref02_places.l1, if_pos c1, if_pos c2, hrd, hw2, hw]
      · refine Ev.bind (insert_ev p s.f0 (by omega)) (Ev.bind (insert_ev _ _ (by omega)) (ih (pre ++ [s]) _ (by rw [hp]; simp) (by omega)))
  have ka : ∀ (rest pre : List Sp) (p : List Int), a = pre ++ rest → p.length + 2 * rest.length + 2 * b.length ≤ 900000000 → Ev (fun k => epactref02_places.l0 k a b p (pre.length : Int)) (plc b (plc rest p)) := by
    intro rest
    induction rest with
    | nil =>
      intro pre p hp hn
      refine Ev.step (fun k => ?_) (kb b [] p rfl (by simp at hn ⊢; omega))
      rw [epactref02_places.l0, if_neg (by rw [hp]; simp)]
      rfl
    | cons s r ih =>
      intro pre p hp hn
      have hlen : pre.length + 1 ≤ a.length := by rw [hp]; simp
      have hrd : rd_T23 a (pre.length : Int) = s := by rw [hp]; exact rd_mid _ _ _
      have hw := wrap_len pre s a.length hlen (by omega)
      have c1 : (pre.length : Int) < (a.length : Int) := by omega
      have c2 : (0 : Int) ≤ (pre.length : Int) := by omega
      have hs := ha s (by rw [hp]; simp)
      have hw2 : wrap64 (s.f1 + 1) = s.f1 + 1 := wrap_ok (by omega) (by omega)
      have l1 := ins_len p s.f0
      have l2 := ins_len (ins p s.f0) (s.f1 + 1)
      simp only [List.length_cons] at hn
      refine Ev.step (f := fun k => (epactref02_insert.f k p s.f0).bind fun t => (epactref02_insert.f k t (s.f1 + 1)).bind fun u => epactref02_places.l0 k a b u ((pre ++ [s]).length : Int)) (fun k => ?_) ?_
      · rw [epactref02_places.l0, if_pos c1, if_pos c2, hrd, hw2, hw]
      · refine Ev.bind (insert_ev p s.f0 (by omega)) (Ev.bind (insert_ev _ _ (by omega)) (ih (pre ++ [s]) _ (by rw [hp]; simp) (by omega)))
  exact ka a [] [] rfl (by simp; omega)

def kindOf (kind : Int) (x y : Bool) : Bool := if kind = 1 then x || y else if kind = 2 then x && y else x && !y
theorem in_f (kind : Int) (x y : Bool) : epactref02_in.f kind x y = some (kindOf kind x y) := by
  unfold epactref02_in.f kindOf
  by_cases h1 : kind = 1
  · rw [if_pos h1, if_pos h1]; cases x <;> cases y <;> rfl
  · rw [if_neg h1, if_neg h1]
    by_cases h2 : kind = 2
    · rw [if_pos h2, if_pos h2]; cases x <;> cases y <;> rfl
    · rw [if_neg h2, if_neg h2]; cases x <;> cases y <;> rfl

theorem setgo_ev (kind : Int) (a b : List Sp) (ha : a.length ≤ 100000000) (hb : b.length ≤ 100000000) (p : List Int) (hp : p.length ≤ 900000000) (hr : ∀ z ∈ p, -4611686018427387904 ≤ z ∧ z ≤ 4611686018427387905) :
    ∀ (rest pre : List Int) (out : List Sp), p = pre ++ rest → out.length ≤ pre.length → Ev (fun k => epactref02_Set.l0 k kind a b p out (pre.length : Int)) (setGo (fun x => kindOf kind (hasL a x) (hasL b x)) out rest) := by
  intro rest
  induction rest with
  | nil =>
    intro pre out h hn
    refine Ev.step (f := fun _ => some out) (fun k => ?_) (Ev.now _)
    have hpl : pre.length = p.length := by rw [h]; simp
    have hw : wrap64 ((pre.length : Int) + 1) = (pre.length : Int) + 1 := wrap_ok (by omega) (by omega)
    rw [epactref02_Set.l0, hw, if_neg (by rw [h]; simp; omega)]
  | cons x r ih =>
    intro pre out h hn
    have hlen : pre.length + 1 ≤ p.length := by rw [h]; simp
    have hw := wrap_len pre x p.length hlen (by omega)
    cases r with
    | nil =>
      refine Ev.step (f := fun _ => some out) (fun k => ?_) (Ev.now _)
      rw [epactref02_Set.l0, hw, if_neg (by rw [h]; simp)]
    | cons y r =>
      have c0 : ((pre ++ [x]).length : Int) < (p.length : Int) := by rw [h]; simp; omega
      have c1 : (pre.length : Int) < (p.length : Int) := by omega
      have c2 : (0 : Int) ≤ (pre.length : Int) := by omega
      have c20 : (0 : Int) ≤ ((pre ++ [x]).length : Int) := by omega
      have hrx : rd p (pre.length : Int) = x := by rw [h]; exact rdi_mid _ _ _
      have hry : rd p ((pre ++ [x]).length : Int) = y := by rw [h, show pre ++ x :: y :: r = (pre ++ [x]) ++ y :: r by simp]; exact rdi_mid _ _ _
      have bx := hr x (by rw [h]; simp)
      have by_ := hr y (by rw [h]; simp)
      have wx : wrap64 (x - 1) = x - 1 := wrap_ok (by omega) (by omega)
      have wy : wrap64 (y - 1) = y - 1 := wrap_ok (by omega) (by omega)
      have h2 : p = (pre ++ [x]) ++ y :: r := by rw [h]; simp
      have c3 : out.length < 8796093022208 := by omega
      refine Ev.step (f := fun k => (epactref02_Has.f k a x).bind fun t => (epactref02_Has.f k b x).bind fun u => if kindOf kind t u = true then epactref02_Set.l0 k kind a b p (join out x y) ((pre ++ [x]).length : Int) else epactref02_Set.l0 k kind a b p out ((pre ++ [x]).length : Int)) (fun k => ?_) ?_
      · rw [epactref02_Set.l0, hw, if_pos c0, if_pos c2, if_pos c1, hrx]
        congr 1; funext t; congr 1; funext u
        rw [in_f]
        simp only [Option.bind_some]
        by_cases hk : kindOf kind t u = true
        · rw [if_pos hk, if_pos hk]
          rcases List.eq_nil_or_concat out with rfl | ⟨o, z, rfl⟩
          · rw [if_neg (by simp), if_pos c20, if_pos c3, hry, wy, join_nil]; rfl
          · rw [List.concat_eq_append] at *
            have hwp := wrap_pred o z (o.length + 1) (Nat.le_refl _) (by simp at c3; omega)
            have hz : rd_T23 (o ++ [z]) (o.length : Int) = z := rd_mid _ _ _
            rw [if_pos (by simp only [List.length_append, List.length_singleton]; omega), hwp, if_pos (by omega), if_pos (by simp only [List.length_append, List.length_singleton]; omega), hz, wx, join_snoc]
            by_cases e : z.f1 = x - 1
            · rw [if_pos e, if_pos e, if_pos c20, hry, wy]
              congr 1
              simp
            · rw [if_neg e, if_neg e, if_pos c20, if_pos c3, hry, wy]
        · rw [if_neg hk, if_neg hk]
      · refine Ev.bind (refhas_ev a x (by omega)) (Ev.bind (refhas_ev b x (by omega)) ?_)
        simp only [setGo]
        by_cases hk : kindOf kind (hasL a x) (hasL b x) = true
        · simp only [hk, if_true]
          refine ih (pre ++ [x]) (join out x y) h2 ?_
          have : (join out x y).length ≤ out.length + 1 := by
            rcases List.eq_nil_or_concat out with rfl | ⟨o, z, rfl⟩
            · simp [join_nil]
            · rw [List.concat_eq_append, join_snoc]; split <;> simp
          simp; omega
        · simp only [hk]
          exact ih (pre ++ [x]) out h2 (by simp; omega)

/-- What the reference says of two lists of spans, kind by kind. -/
theorem refset_ev (kind : Int) (lo hi : Int) (hlo : -4611686018427387904 ≤ lo) (hh : hi ≤ 4611686018427387904) (a b : List Sp) (ha : ∀ s ∈ a, lo ≤ s.f0 ∧ s.f0 ≤ s.f1 ∧ s.f1 ≤ hi) (hb : ∀ s ∈ b, lo ≤ s.f0 ∧ s.f0 ≤ s.f1 ∧ s.f1 ≤ hi) (hl : a.length + b.length ≤ 100000000) :
    ∃ r, Ev (fun k => epactref02_Set.f k kind a b) r ∧ SL lo hi r ∧ ∀ x, hasL r x = kindOf kind (hasL a x) (hasL b x) := by
  have hy : kindOf kind false false = false := by unfold kindOf; split <;> simp
  obtain ⟨h1, h2⟩ := setRef_spec (kindOf kind) hy ha hb
  refine ⟨_, ?_, h1, h2⟩
  have hpl := plc_len b (plc a [])
  have hpl2 := plc_len a []
  simp at hpl2
  have hr : ∀ z ∈ plc b (plc a []), -4611686018427387904 ≤ z ∧ z ≤ 4611686018427387905 := by
    intro z hz
    rw [plc_mem, plc_mem] at hz
    rcases hz with (hz | ⟨s, hs, h⟩) | ⟨s, hs, h⟩
    · simp at hz
    · have := ha s hs; rcases h with rfl | rfl <;> omega
    · have := hb s hs; rcases h with rfl | rfl <;> omega
  exact Ev.bind (places_ev a b (fun s hs => by have := ha s hs; omega) (fun s hs => by have := hb s hs; omega) hl) (setgo_ev kind a b (by omega) (by omega) _ (by omega) hr _ [] [] rfl (by simp))
end Go.Proofs.Ytmbmalkpmanaaaa.P

/- What Make comes to, and the reference's Make and Right. No condition. -/
namespace Go.Proofs.Ytmbmalkpmanaaaa.P
set_option linter.unusedVariables false
set_option linter.unusedSimpArgs false
open Go.RowKit Go.Proofs.YtmbmalkpmanaaaaW.PrintWords Go.Proofs.YtmbmalkpmanaaaaW.PrintMore

def badA (l : List Sp) : Bool := l.any fun s => decide (s.f0 > s.f1)
def tickB (a : Int) : Bool := decide (-1099511627776 ≤ a) && decide (a ≤ 1099511627776)
def badB (l : List Sp) : Bool := l.any fun s => !(tickB s.f0 && tickB s.f1)
/-- What is made of spans, and the error. -/
def makeS (l : List Sp) : List Sp × Int := if badA l then ([], 2) else if badB l then ([], 20) else ((sortSp l).foldl glue [], 0)
theorem good_of {l : List Sp} (h1 : badA l = false) (h2 : badB l = false) : ∀ s ∈ l, -1099511627776 ≤ s.f0 ∧ s.f0 ≤ s.f1 ∧ s.f1 ≤ 1099511627776 := by
  intro s hs
  have a := List.any_eq_false.1 h1 s hs
  have b := List.any_eq_false.1 h2 s hs
  simp [tickB] at a b
  omega
theorem mx_max (a b : Int) : mx a b = max a b := by unfold mx; split <;> omega

theorem glue_ev (S : List Sp) (n : Nat) (hS : S.length ≤ 100000000) (hb : ∀ s ∈ S, -4611686018427387904 ≤ s.f1 ∧ s.f1 ≤ 4611686018427387904) :
    ∀ (rest pre out : List Sp), S = pre ++ rest → out.length ≤ pre.length → (∀ s ∈ out, -4611686018427387904 ≤ s.f1 ∧ s.f1 ≤ 4611686018427387904) → Ev (fun k => spans_Make.l2 k out S (S.length : Int) (pre.length : Int)) (rest.foldl glue out, 0) := by
  intro rest
  induction rest with
  | nil =>
    intro pre out h hn ho
    refine Ev.step (f := fun _ => some (out, 0)) (fun k => ?_) (Ev.now _)
    rw [spans_Make.l2, if_neg (by rw [h]; simp)]
  | cons s r ih =>
    intro pre out h hn ho
    have hlen : pre.length + 1 ≤ S.length := by rw [h]; simp
    have hrd : rd_T23 S (pre.length : Int) = s := by rw [h]; exact rd_mid _ _ _
    have hw := wrap_len pre s S.length hlen (by omega)
    have c1 : (pre.length : Int) < (S.length : Int) := by omega
    have c2 : (0 : Int) ≤ (pre.length : Int) := by omega
    have c3 : out.length < 8796093022208 := by omega
    have h2 : S = (pre ++ [s]) ++ r := by rw [h]; simp
    have hs := hb s (by rw [h]; simp)
    have hg : ∀ t ∈ glue out s, -4611686018427387904 ≤ t.f1 ∧ t.f1 ≤ 4611686018427387904 := by
      intro t ht
      rcases List.eq_nil_or_concat out with rfl | ⟨o, z, rfl⟩
      · rw [glue_nil] at ht; simp at ht; subst ht; exact hs
      · rw [List.concat_eq_append] at *
        rw [glue_snoc] at ht
        have hz := ho z (by simp)
        split at ht
        · simp at ht
          rcases ht with ht | rfl
          · exact ho t (by simp [ht])
          · show _ ≤ max z.f1 s.f1 ∧ max z.f1 s.f1 ≤ _; omega
        · simp at ht
          rcases ht with ht | rfl | rfl
          · exact ho t (by simp [ht])
          · exact hz
          · exact hs
    refine Ev.step (fun k => ?_) (ih (pre ++ [s]) (glue out s) h2 (by have := glue_len out s; simp; omega) hg)
    rw [spans_Make.l2, if_pos c1, if_pos c2, if_pos c1, hrd]
    rcases List.eq_nil_or_concat out with rfl | ⟨o, z, rfl⟩
    · have hwm : wrap64 ((([] : List Sp).length : Int) - 1) = -1 := by simpa using wrap_ok (n := -1) (by omega) (by omega)
      rw [hwm, if_neg (by omega), if_pos c3, hw]
      rfl
    · rw [List.concat_eq_append] at *
      have hwp := wrap_pred o z (o.length + 1) (Nat.le_refl _) (by simp at c3; omega)
      have hz : rd_T23 (o ++ [z]) (o.length : Int) = z := rd_mid _ _ _
      have hzb := ho z (by simp)
      have hz1 : wrap64 (z.f1 + 1) = z.f1 + 1 := wrap_ok (by omega) (by omega)
      rw [hwp, if_pos (by omega), if_pos (by omega), if_pos (by simp only [List.length_append, List.length_singleton]; omega), hz, hz1, glue_snoc]
      by_cases e : s.f0 ≤ z.f1 + 1
      · rw [if_pos e, if_pos e, hw, mx_max]
        congr 1
        simp
      · rw [if_neg e, if_neg e, if_pos c3, hw]

theorem make_ev (l : List Sp) (hl : l.length ≤ 100000000) : Ev (fun k => spans_Make.f k l) (makeS l) := by
  have k1 : badA l = false → ∀ (rest pre : List Sp), l = pre ++ rest → badB pre = false → Ev (fun k => spans_Make.l1 k l l (l.length : Int) (pre.length : Int)) (makeS l) := by
    intro hA rest
    induction rest with
    | nil =>
      intro pre h hB
      have hlp : l = pre := by rw [h]; simp
      rw [← hlp] at hB
      have hms : makeS l = ((sortSp l).foldl glue [], 0) := by simp [makeS, hA, hB]
      rw [hms]
      have hgood := good_of hA hB
      have hg := glue_ev (sortSp l) l.length (by rw [sortSp_len]; exact hl) (fun s hs => by have := hgood s ((sortSp_perm l).mem_iff.1 hs); omega) (sortSp l) [] [] rfl (by simp) (by simp)
      rw [sortSp_len] at hg
      refine Ev.step (fun k => ?_) hg
      rw [spans_Make.l1, if_neg (by rw [h]; simp)]
      simp only [clone_sp.f, sort_sp.f]
      rw [if_pos (by unfold many; omega)]
      simp only [Option.bind_some]
      rw [if_pos (by unfold many; omega)]
      rfl
    | cons s r ih =>
      intro pre h hB
      have hlen : pre.length + 1 ≤ l.length := by rw [h]; simp
      have hrd : rd_T23 l (pre.length : Int) = s := by rw [h]; exact rd_mid _ _ _
      have hw := wrap_len pre s l.length hlen (by omega)
      have c1 : (pre.length : Int) < (l.length : Int) := by omega
      have c2 : (0 : Int) ≤ (pre.length : Int) := by omega
      have bad : (tickB s.f0 && tickB s.f1) = false → makeS l = ([], 20) := by
        intro hb
        have : badB l = true := by rw [h]; simp only [badB, List.any_append, List.any_cons, hb]; simp
        simp [makeS, hA, this]
      by_cases t0 : tickB s.f0 = true
      · by_cases t1 : tickB s.f1 = true
        · refine Ev.step (fun k => ?_) (ih (pre ++ [s]) (by rw [h]; simp) (by simp only [badB, List.any_append, List.any_cons, List.any_nil, t0, t1] at hB ⊢; simpa using hB))
          rw [spans_Make.l1, if_pos c1, if_pos c2, if_pos c1, hrd, tick_f, tick_f]
          unfold tickB at t0 t1
          simp only [t0, t1, Option.bind_some, if_true, hw]
        · have t1' : tickB s.f1 = false := by simpa using t1
          rw [bad (by simp [t1'])]
          refine Ev.step (f := fun _ => some ([], 20)) (fun k => ?_) (Ev.now _)
          rw [spans_Make.l1, if_pos c1, if_pos c2, if_pos c1, hrd, tick_f, tick_f]
          unfold tickB at t0 t1'
          simp [t0, t1']
      · have t0' : tickB s.f0 = false := by simpa using t0
        rw [bad (by simp [t0'])]
        refine Ev.step (f := fun _ => some ([], 20)) (fun k => ?_) (Ev.now _)
        rw [spans_Make.l1, if_pos c1, if_pos c2, if_pos c1, hrd, tick_f]
        unfold tickB at t0'
        simp [t0']
  have k0 : ∀ (rest pre : List Sp), l = pre ++ rest → badA pre = false → Ev (fun k => spans_Make.l0 k l l (l.length : Int) (pre.length : Int)) (makeS l) := by
    intro rest
    induction rest with
    | nil =>
      intro pre h hA
      have hlp : l = pre := by rw [h]; simp
      rw [← hlp] at hA
      refine Ev.step (fun k => ?_) (k1 hA l [] rfl rfl)
      rw [spans_Make.l0, if_neg (by rw [h]; simp)]
      rfl
    | cons s r ih =>
      intro pre h hA
      have hlen : pre.length + 1 ≤ l.length := by rw [h]; simp
      have hrd : rd_T23 l (pre.length : Int) = s := by rw [h]; exact rd_mid _ _ _
      have hw := wrap_len pre s l.length hlen (by omega)
      have c1 : (pre.length : Int) < (l.length : Int) := by omega
      have c2 : (0 : Int) ≤ (pre.length : Int) := by omega
      by_cases e : s.f0 > s.f1
      · have : badA l = true := by rw [h]; simp [badA]; exact .inr (.inl e)
        have hms : makeS l = ([], 2) := by simp [makeS, this]
        rw [hms]
        refine Ev.step (f := fun _ => some ([], 2)) (fun k => ?_) (Ev.now _)
        rw [spans_Make.l0, if_pos c1, if_pos c2, if_pos c1, hrd, if_pos e]
      · refine Ev.step (fun k => ?_) (ih (pre ++ [s]) (by rw [h]; simp) (by have e2 : s.f0 ≤ s.f1 := by omega
                                                                            simp only [badA, List.any_append, List.any_cons, List.any_nil] at hA ⊢; simp [hA, e2]))
        rw [spans_Make.l0, if_pos c1, if_pos c2, if_pos c1, hrd, if_neg e, hw]
  exact k0 l [] rfl rfl

/-- What is made is a set, with the ticks of the spans. -/
theorem makeS_spec (l : List Sp) : SL (-1099511627776) 1099511627776 (makeS l).1 ∧ ((makeS l).2 = 0 → ∀ x, hasL (makeS l).1 x = hasL l x) := by
  unfold makeS
  by_cases hA : badA l = true
  · rw [if_pos hA]; exact ⟨trivial, fun h => by simp at h⟩
  · rw [if_neg hA]
    have hA' : badA l = false := by simpa using hA
    by_cases hB : badB l = true
    · rw [if_pos hB]; exact ⟨trivial, fun h => by simp at h⟩
    · rw [if_neg hB]
      have hB' : badB l = false := by simpa using hB
      have hgood := good_of hA' hB'
      obtain ⟨h1, h2⟩ := glueAll_spec (lo := -1099511627776) (hi := 1099511627776) (sortSp l) [] trivial (fun s hs => hgood s ((sortSp_perm l).mem_iff.1 hs)) (by simp) (sortSp_sorted l)
      exact ⟨h1, fun _ x => by rw [h2, hasL_perm (sortSp_perm l)]; simp [hasL_nil]⟩

theorem refmake_ev (l : List Sp) (hl : l.length ≤ 100000000) : Ev (fun k => epactref02_Make.f k l) (makeS l) := by
  have k1 : badA l = false → ∀ (rest pre : List Sp), l = pre ++ rest → badB pre = false → Ev (fun k => epactref02_Make.l1 k l (pre.length : Int)) (makeS l) := by
    intro hA rest
    induction rest with
    | nil =>
      intro pre h hB
      have hlp : l = pre := by rw [h]; simp
      rw [← hlp] at hB
      have hgood := good_of hA hB
      obtain ⟨r, r1, r2, r3⟩ := refset_ev 1 (-1099511627776) 1099511627776 (by omega) (by omega) l [] hgood (by simp) (by simp; omega)
      obtain ⟨m1, m2⟩ := makeS_spec l
      have hms : (makeS l).2 = 0 := by simp [makeS, hA, hB]
      have hr : r = (makeS l).1 := SL.uniq r2 m1 (fun x => by rw [r3, m2 hms]; simp [kindOf, hasL_nil])
      have hpair : makeS l = (r, 0) := by rw [hr, ← hms]
      rw [hpair]
      refine Ev.step (f := fun k => (epactref02_Set.f k 1 l []).bind fun t => some (t, 0)) (fun k => ?_) (Ev.bind r1 (Ev.now _))
      rw [epactref02_Make.l1, if_neg (by rw [h]; simp)]
    | cons s r ih =>
      intro pre h hB
      have hlen : pre.length + 1 ≤ l.length := by rw [h]; simp
      have hrd : rd_T23 l (pre.length : Int) = s := by rw [h]; exact rd_mid _ _ _
      have hw := wrap_len pre s l.length hlen (by omega)
      have c1 : (pre.length : Int) < (l.length : Int) := by omega
      have c2 : (0 : Int) ≤ (pre.length : Int) := by omega
      have bad : (tickB s.f0 && tickB s.f1) = false → makeS l = ([], 20) := by
        intro hb
        have : badB l = true := by rw [h]; simp only [badB, List.any_append, List.any_cons, hb]; simp
        simp [makeS, hA, this]
      by_cases t : (tickB s.f0 && tickB s.f1) = true
      · refine Ev.step (fun k => ?_) (ih (pre ++ [s]) (by rw [h]; simp) (by simp only [badB, List.any_append, List.any_cons, List.any_nil, t] at hB ⊢; simpa using hB))
        simp [tickB] at t
        rw [epactref02_Make.l1, if_pos c1, if_pos c2, hrd, if_neg (by omega), if_neg (by omega), if_neg (by omega), if_neg (by omega), hw]
      · have t' : (tickB s.f0 && tickB s.f1) = false := by simpa using t
        rw [bad t']
        refine Ev.step (f := fun _ => some ([], 20)) (fun k => ?_) (Ev.now _)
        rw [epactref02_Make.l1, if_pos c1, if_pos c2, hrd]
        by_cases a1 : s.f0 < -1099511627776
        · rw [if_pos a1]
        · rw [if_neg a1]
          by_cases a2 : s.f1 > 1099511627776
          · rw [if_pos a2]
          · rw [if_neg a2]
            by_cases a3 : s.f0 > 1099511627776
            · rw [if_pos a3]
            · rw [if_neg a3]
              by_cases a4 : s.f1 < -1099511627776
              · rw [if_pos a4]
              · simp [tickB] at t; omega
  have k0 : ∀ (rest pre : List Sp), l = pre ++ rest → badA pre = false → Ev (fun k => epactref02_Make.l0 k l (pre.length : Int)) (makeS l) := by
    intro rest
    induction rest with
    | nil =>
      intro pre h hA
      have hlp : l = pre := by rw [h]; simp
      rw [← hlp] at hA
      refine Ev.step (fun k => ?_) (k1 hA l [] rfl rfl)
      rw [epactref02_Make.l0, if_neg (by rw [h]; simp)]
      rfl
    | cons s r ih =>
      intro pre h hA
      have hlen : pre.length + 1 ≤ l.length := by rw [h]; simp
      have hrd : rd_T23 l (pre.length : Int) = s := by rw [h]; exact rd_mid _ _ _
      have hw := wrap_len pre s l.length hlen (by omega)
      have c1 : (pre.length : Int) < (l.length : Int) := by omega
      have c2 : (0 : Int) ≤ (pre.length : Int) := by omega
      by_cases e : s.f0 > s.f1
      · have : badA l = true := by rw [h]; simp [badA]; exact .inr (.inl e)
        have hms : makeS l = ([], 2) := by simp [makeS, this]
        rw [hms]
        refine Ev.step (f := fun _ => some ([], 2)) (fun k => ?_) (Ev.now _)
        rw [epactref02_Make.l0, if_pos c1, if_pos c2, hrd, if_pos e]
      · refine Ev.step (fun k => ?_) (ih (pre ++ [s]) (by rw [h]; simp) (by have e2 : s.f0 ≤ s.f1 := by omega
                                                                            simp only [badA, List.any_append, List.any_cons, List.any_nil] at hA ⊢; simp [hA, e2]))
        rw [epactref02_Make.l0, if_pos c1, if_pos c2, hrd, if_neg e, hw]
  exact k0 l [] rfl rfl

theorem refright_ev (l : List Sp) (hl : l.length ≤ 9223372036854775807) : Ev (fun k => epactref02_Right.f k l) (slB (-1099511627776) l) := by
  have key : ∀ (rest pre : List Sp) (lo : Int), l = pre ++ rest → SL (-1099511627776) 1099511627776 pre → (pre = [] ∧ lo = -1099511627776 ∨ ∃ p q, pre = p ++ [q] ∧ lo = q.f1 + 2 ∧ -1099511627776 ≤ q.f1 ∧ q.f1 ≤ 1099511627776) →
      Ev (fun k => epactref02_Right.l0 k l (pre.length : Int)) (slB lo rest) := by
    intro rest
    induction rest with
    | nil =>
      intro pre lo hp hsl hlo
      refine Ev.step (f := fun _ => some true) (fun k => ?_) (Ev.now _)
      rw [epactref02_Right.l0, if_neg (by rw [hp]; simp)]
    | cons s r ih =>
      intro pre lo hp hsl hlo
      have hlen : pre.length + 1 ≤ l.length := by rw [hp]; simp
      have hrd : rd_T23 l (pre.length : Int) = s := by rw [hp]; exact rd_mid _ _ _
      have hlow : -1099511627776 ≤ lo := by rcases hlo with ⟨_, rfl⟩ | ⟨p, q, _, rfl, h, _⟩ <;> omega
      have c1 : (pre.length : Int) < (l.length : Int) := by omega
      have c2 : (0 : Int) ≤ (pre.length : Int) := by omega
      have bad : ¬ (-1099511627776 ≤ s.f0 ∧ s.f0 ≤ s.f1 ∧ s.f1 ≤ 1099511627776) → slB lo (s :: r) = false := fun h => by
        rw [Bool.eq_false_iff]; intro e; rw [slB_iff] at e; obtain ⟨h1, h2, h3, _⟩ := e; exact h ⟨by omega, h2, h3⟩
      have stop : ∀ b : Bool, b = true → slB lo (s :: r) = false → Ev (fun k => epactref02_Right.j1 k l (pre.length : Int) b) (slB lo (s :: r)) := fun b hb hs => by
        rw [hs]
        refine Ev.step (f := fun _ => some false) (fun k => ?_) (Ev.now _)
        rw [epactref02_Right.j1, if_pos hb]
      by_cases t0 : s.f0 > s.f1
      · refine Ev.step (fun k => ?_) (stop true rfl (bad (by omega)))
        rw [epactref02_Right.l0, if_pos c1, if_pos c2, hrd, if_pos t0]
      · by_cases t1 : s.f0 < -1099511627776
        · refine Ev.step (fun k => ?_) (stop true rfl (bad (by omega)))
          rw [epactref02_Right.l0, if_pos c1, if_pos c2, hrd, if_neg t0, if_pos t1]
        · by_cases t2 : s.f1 > 1099511627776
          · refine Ev.step (fun k => ?_) (stop true rfl (bad (by omega)))
            rw [epactref02_Right.l0, if_pos c1, if_pos c2, hrd, if_neg t0, if_neg t1]
            simp [t2]
          · have go : Ev (fun k => epactref02_Right.j1 k l (pre.length : Int) false) (slB lo (s :: r)) → Ev (fun k => epactref02_Right.l0 k l (pre.length : Int)) (slB lo (s :: r)) := fun h => by
              refine Ev.step (fun k => ?_) h
              have : decide (s.f1 > 1099511627776) = false := by simpa using t2
              rw [epactref02_Right.l0, if_pos c1, if_pos c2, hrd, if_neg t0, if_neg t1, this]
            refine go ?_
            have g0 : s.f0 ≤ s.f1 := by omega
            have g1 : s.f1 ≤ 1099511627776 := by omega
            rcases hlo with ⟨rfl, rfl⟩ | ⟨p, q, rfl, rfl, hq1, hq2⟩
            · have g2 : -1099511627776 ≤ s.f0 := by omega
              have hs : slB (-1099511627776) (s :: r) = slB (s.f1 + 2) r := by simp [slB, g0, g1, g2]
              rw [hs]
              refine Ev.step (fun k => ?_) (ih [s] (s.f1 + 2) hp ⟨g2, g0, g1, trivial⟩ (.inr ⟨[], s, rfl, rfl, by omega, g1⟩))
              have hw : wrap64 (([] : List Sp).length + 1 : Int) = (([s] : List Sp).length : Int) := by simpa using wrap_ok (n := 1) (by omega) (by omega)
              rw [epactref02_Right.j1, if_neg (by simp), if_neg (by simp), hw]
            · have hw := wrap_len (p ++ [q]) s l.length hlen hl
              have hwp := wrap_pred p q l.length (by simp at hlen; omega) hl
              have hrq : rd_T23 l (p.length : Int) = q := by rw [hp]; simp [rd_T23]
              have c3 : (p.length : Int) < (l.length : Int) := by simp at hlen; omega
              have c4 : ((p ++ [q]).length : Int) > 0 := by simp only [List.length_append, List.length_singleton]; omega
              obtain ⟨sp1, sp2, sp3, sp4, sp5⟩ := SL_snoc.1 hsl
              by_cases t3 : s.f0 ≤ q.f1
              · have hs : slB (q.f1 + 2) (s :: r) = false := by
                  have : ¬ q.f1 + 2 ≤ s.f0 := by omega
                  simp [slB, this]
                rw [hs]
                refine Ev.step (f := fun _ => some false) (fun k => ?_) (Ev.now _)
                rw [epactref02_Right.j1, if_neg (by simp), if_pos c4, if_pos c2, if_pos c1, hwp, if_pos (by omega), if_pos c3, hrd, hrq, if_pos t3]
              · have hw2 : wrap64 (s.f0 - 1) = s.f0 - 1 := wrap_ok (by omega) (by omega)
                have htk : l.take ((p ++ [q]).length : Int).toNat = p ++ [q] := by rw [hp, Int.toNat_natCast, List.take_left']; rfl
                have hhas : hasL (p ++ [q]) (s.f0 - 1) = decide (s.f0 < q.f1 + 2) := by
                  rw [hasL_append]
                  have hp0 : hasL p (s.f0 - 1) = false := by
                    rw [Bool.eq_false_iff]; intro e
                    obtain ⟨u, u1, u2, u3⟩ := hasL_true.1 e
                    have := sp2 u u1; omega
                  rw [hp0]
                  simp only [hasL_cons, hasL_nil, Bool.or_false, Bool.false_or]
                  by_cases e : s.f0 < q.f1 + 2
                  · have a : q.f0 ≤ s.f0 - 1 := by omega
                    have b : s.f0 - 1 ≤ q.f1 := by omega
                    simp [e, a, b]
                  · have b : ¬ s.f0 - 1 ≤ q.f1 := by omega
                    simp [e, b]
                have hev : Ev (fun k => (epactref02_Has.f k (p ++ [q]) (s.f0 - 1)).bind fun t => if t = true then some false else epactref02_Right.l0 k l ((p ++ [q] ++ [s]).length : Int)) (slB (q.f1 + 2) (s :: r)) := by
                  refine Ev.bind (refhas_ev _ _ (by simp at hlen ⊢; omega)) ?_
                  rw [hhas]
                  by_cases e : s.f0 < q.f1 + 2
                  · have hs : slB (q.f1 + 2) (s :: r) = false := by
                      have : ¬ q.f1 + 2 ≤ s.f0 := by omega
                      simp [slB, this]
                    rw [hs]
                    simp only [e, decide_true, if_true]
                    exact Ev.now _
                  · have e2 : q.f1 + 2 ≤ s.f0 := by omega
                    have hs : slB (q.f1 + 2) (s :: r) = slB (s.f1 + 2) r := by simp [slB, g0, g1, e2]
                    rw [hs]
                    simp only [e, decide_false, Bool.false_eq_true, if_false]
                    have hup : ∀ u ∈ p ++ [q], u.f1 + 2 ≤ s.f0 := by
                      intro u hu
                      rcases List.mem_append.1 hu with hu | hu
                      · have := sp2 u hu; omega
                      · simp at hu; subst hu; exact e2
                    exact ih (p ++ [q] ++ [s]) (s.f1 + 2) (by rw [hp]; simp) (SL_snoc.2 ⟨hsl, hup, by omega, g0, g1⟩) (.inr ⟨p ++ [q], s, rfl, rfl, by omega, g1⟩)
                refine Ev.step (fun k => ?_) hev
                rw [epactref02_Right.j1, if_neg (by simp), if_pos c4, if_pos c2, if_pos c1, hwp, if_pos (by omega), if_pos c3, hrd, hrq, if_neg t3, if_pos (by omega), htk, hw2, hw]
  exact key l [] (-1099511627776) rfl trivial (.inl ⟨rfl, rfl⟩)
end Go.Proofs.Ytmbmalkpmanaaaa.P

/- The chapter's examples hold. No condition. -/
namespace Go.Proofs.Ytmbmalkpmanaaaa.P
set_option linter.unusedVariables false
set_option linter.unusedSimpArgs false
open Go.RowKit Go.Proofs.YtmbmalkpmanaaaaW.PrintWords

theorem ex_make : makeS [⟨5, 7⟩, ⟨1, 2⟩, ⟨3, 3⟩] = ([⟨1, 3⟩, ⟨5, 7⟩], 0) := by
  obtain ⟨h1, h2⟩ := makeS_spec [⟨5, 7⟩, ⟨1, 2⟩, ⟨3, 3⟩]
  have e : (makeS [⟨5, 7⟩, ⟨1, 2⟩, ⟨3, 3⟩]).2 = 0 := by simp [makeS, badA, badB, tickB]
  have e1 : (makeS [⟨5, 7⟩, ⟨1, 2⟩, ⟨3, 3⟩]).1 = [⟨1, 3⟩, ⟨5, 7⟩] := SL.uniq h1 (show SL 1 7 _ by simp [SL]) (fun x => by
    rw [h2 e, Bool.eq_iff_iff]; simp [hasL]; omega)
  exact Prod.ext e1 e
theorem ex_bad : makeS [⟨3, 2⟩] = ([], 2) := by simp [makeS, badA]
theorem ex_union : spans_Union.f [⟨1, 3⟩] [⟨4, 5⟩] = some [⟨1, 5⟩] := by
  obtain ⟨h1, h2⟩ := keptL_spec (fun a b => a || b) rfl (lo := 0) (hi := 100) (by omega) (by omega) (a := [⟨1, 3⟩]) (b := [⟨4, 5⟩]) (by simp [SL]) (by simp [SL])
  have : keptL (fun a b => a || b) [⟨1, 3⟩] [⟨4, 5⟩] = [⟨1, 5⟩] := SL.uniq h1 (show SL 0 100 _ by simp [SL]) (fun x => by
    rw [h2, Bool.eq_iff_iff]; simp [hasL]; omega)
  unfold spans_Union.f; rw [if_pos (by simp [many]), this]
theorem ex_cut : spans_Cut.f [⟨1, 9⟩] [⟨0, 2⟩, ⟨8, 12⟩] = some [⟨1, 2⟩, ⟨8, 9⟩] := by
  obtain ⟨h1, h2⟩ := keptL_spec (fun a b => a && b) rfl (lo := 0) (hi := 100) (by omega) (by omega) (a := [⟨1, 9⟩]) (b := [⟨0, 2⟩, ⟨8, 12⟩]) (by simp [SL]) (by simp [SL])
  have : keptL (fun a b => a && b) [⟨1, 9⟩] [⟨0, 2⟩, ⟨8, 12⟩] = [⟨1, 2⟩, ⟨8, 9⟩] := SL.uniq h1 (show SL 0 100 _ by simp [SL]) (fun x => by
    rw [h2, Bool.eq_iff_iff]; simp [hasL]; omega)
  unfold spans_Cut.f; rw [if_pos (by simp [many]), this]
theorem ex_less : spans_Less.f [⟨1, 9⟩] [⟨0, 2⟩, ⟨8, 12⟩] = some [⟨3, 7⟩] := by
  obtain ⟨h1, h2⟩ := keptL_spec (fun a b => a && !b) rfl (lo := 0) (hi := 100) (by omega) (by omega) (a := [⟨1, 9⟩]) (b := [⟨0, 2⟩, ⟨8, 12⟩]) (by simp [SL]) (by simp [SL])
  have : keptL (fun a b => a && !b) [⟨1, 9⟩] [⟨0, 2⟩, ⟨8, 12⟩] = [⟨3, 7⟩] := SL.uniq h1 (show SL 0 100 _ by simp [SL]) (fun x => by
    rw [h2, Bool.eq_iff_iff]; simp [hasL]; omega)
  unfold spans_Less.f; rw [if_pos (by simp [many]), this]
theorem of_at {l : List Int} {r : List Sp} (h : epactlaw02_of.f 20 l = some r) : Ev (fun k => epactlaw02_of.f k l) r := Ev.of (epactlaw02_of.mono l) h
theorem is_at {l : List Sp} {m : List Int} {r : Bool} (h : epactlaw02_is.f 20 l m = some r) : Ev (fun k => epactlaw02_is.f k l m) r := Ev.of (epactlaw02_is.mono l m) h
theorem Ev.yes {α : Type} {c : Prop} [Decidable c] {g f : Nat → Option α} {r : α} (h : c) (k : Ev g r) : Ev (fun n => if c then g n else f n) r := Ev.congr (fun n => if_pos h) k
theorem Ev.no {α : Type} {c : Prop} [Decidable c] {g f : Nat → Option α} {r : α} (h : ¬ c) (k : Ev f r) : Ev (fun n => if c then g n else f n) r := Ev.congr (fun n => if_neg h) k
theorem Ev.val {α : Type} {g : Option α} {r : α} (h : g = some r) : Ev (fun _ => g) r := ⟨0, fun _ _ => h⟩

/-- A set has few spans. -/
theorem SL.len2 {hi : Int} : ∀ {l : List Sp} {lo : Int}, lo ≤ hi + 2 → SL lo hi l → 2 * (l.length : Int) ≤ hi + 2 - lo
  | [], lo, h, _ => by simp; omega
  | s :: r, lo, h, hs => by
    obtain ⟨h1, h2, h3, h4⟩ := hs
    have := SL.len2 (by omega) h4
    simp only [List.length_cons]; omega
theorem SL.len_le {l : List Sp} (h : SL (-1099511627776) 1099511627776 l) : l.length ≤ 2199023255552 := by have := SL.len2 (by omega) h; omega

theorem awake2_ev : Ev (fun k => epactlaw02_awake.f k) true := by
  unfold epactlaw02_awake.f
  refine Ev.bind (of_at (r := [⟨5, 7⟩, ⟨1, 2⟩, ⟨3, 3⟩]) (by with_unfolding_all rfl)) ?_
  refine Ev.bind (a := ([⟨1, 3⟩, ⟨5, 7⟩], 0)) (by have := make_ev [⟨5, 7⟩, ⟨1, 2⟩, ⟨3, 3⟩] (by simp); rwa [ex_make] at this) ?_
  refine Ev.bind (of_at (r := [⟨3, 2⟩]) (by with_unfolding_all rfl)) ?_
  refine Ev.bind (a := ([], 2)) (by have := make_ev [⟨3, 2⟩] (by simp); rwa [ex_bad] at this) ?_
  refine Ev.bind (of_at (r := [⟨1, 9⟩]) (by with_unfolding_all rfl)) ?_
  refine Ev.bind (of_at (r := [⟨0, 2⟩, ⟨8, 12⟩]) (by with_unfolding_all rfl)) ?_
  refine Ev.bind (of_at (r := [⟨1, 2⟩, ⟨5, 7⟩]) (by with_unfolding_all rfl)) ?_
  refine Ev.bind (a := (1, 7, true)) (Ev.val (by with_unfolding_all rfl)) ?_
  refine Ev.bind (of_at (r := [⟨5, 7⟩]) (by with_unfolding_all rfl)) ?_
  refine Ev.bind (a := ([⟨0, 2⟩], 0)) (Ev.of (spans_Move.mono _ _) (k := 20) (by with_unfolding_all rfl)) ?_
  refine Ev.yes rfl (Ev.yes rfl (Ev.yes rfl (Ev.yes rfl ?_)))
  refine Ev.bind (is_at (r := true) (by with_unfolding_all rfl)) (Ev.yes rfl ?_)
  refine Ev.bind (of_at (r := [⟨1, 3⟩]) (by with_unfolding_all rfl)) ?_
  refine Ev.bind (of_at (r := [⟨4, 5⟩]) (by with_unfolding_all rfl)) ?_
  refine Ev.bind (Ev.val ex_union) ?_
  refine Ev.bind (is_at (r := true) (by with_unfolding_all rfl)) (Ev.yes rfl ?_)
  refine Ev.bind (Ev.val ex_cut) ?_
  refine Ev.bind (is_at (r := true) (by with_unfolding_all rfl)) (Ev.yes rfl ?_)
  refine Ev.bind (Ev.val ex_less) ?_
  refine Ev.bind (is_at (r := true) (by with_unfolding_all rfl)) (Ev.yes rfl ?_)
  refine Ev.yes rfl ?_
  refine Ev.bind (of_at (r := [⟨1, 2⟩, ⟨5, 7⟩]) (by with_unfolding_all rfl)) ?_
  refine Ev.bind (a := 5) (Ev.of (spans_Count.mono _) (k := 20) (by with_unfolding_all rfl)) (Ev.yes rfl ?_)
  exact Ev.bind (is_at (r := true) (by with_unfolding_all rfl)) (Ev.now _)
end Go.Proofs.Ytmbmalkpmanaaaa.P


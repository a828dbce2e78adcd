/- Lemmas for the law SpansAhead: what the functions that it reaches compute. No condition of its own. -/
import Derived.Test.YtmbmalkpmanaaaaYSpansAhead2
import Derived.Test.YtmbmalkpmanaaaaYSpansAhead5
import Derived.Test.YtmbmalkpmanaaaaYSpansAhead4
import Derived.Deep.SlicePairs
import Derived.ChangeArms
import Derived.ProofKit
-- Written by wip/mkprint.py of the proofs' repo (the kit's print, over contracts that were proved by hand). Not trusted: Lean checks it.
namespace Go.Proofs.Ytmbmalkpmanaaaa.P
open Go.RowKit Go.Proofs.YtmbmalkpmanaaaaW.PrintWords Go.Proofs.YtmbmalkpmanaaaaW.PrintLast Go.Proofs.YtmbmalkpmanaaaaW.PrintMore
attribute [local go_sem] max2_int min2_int max_two min_two max_three min_three max_four min_four   -- for this text's walks alone
set_option linter.unusedVariables false
set_option linter.unusedSimpArgs false

/-! ### api_Span_int: function 61 -/
def api_Span_int.l0 : Nat → List (S23) → Int → Int → Int → Int → Option (Int × Bool)
  | 0, _, _, _, _, _ => none
  | k + 1, x0, x1, x8, x9, x10 => if x9 < x10 then (if 0 ≤ (wrap64 ((IntKind.u64.wrap (wrap64 (x9 + x10))) / 2)) then (if (wrap64 ((IntKind.u64.wrap (wrap64 (x9 + x10))) / 2)) < (x0.length : Int) then ((spans_Has_1.f ((rd_T23 x0 (wrap64 ((IntKind.u64.wrap (wrap64 (x9 + x10))) / 2))).f0) ((rd_T23 x0 (wrap64 ((IntKind.u64.wrap (wrap64 (x9 + x10))) / 2))).f1) x1).bind fun t1187 => (if t1187 < 0 then (api_Span_int.l0 k x0 x1 x8 (wrap64 ((wrap64 ((IntKind.u64.wrap (wrap64 (x9 + x10))) / 2)) + 1)) x10) else (api_Span_int.l0 k x0 x1 x8 x9 (wrap64 ((IntKind.u64.wrap (wrap64 (x9 + x10))) / 2))))) else (none)) else (none)) else (if x9 < x8 then (if 0 ≤ x9 then (if x9 < (x0.length : Int) then ((spans_Has_1.f ((rd_T23 x0 x9).f0) ((rd_T23 x0 x9).f1) x1).bind fun t1189 => (some (x9, (t1189 == 0)))) else (none)) else (none)) else (some (x9, false)))
def api_Span_int.f (k : Nat) (l0 : List (S23)) (a1 : Int)  : Option (Int × Bool) := api_Span_int.l0 k l0 a1 (l0.length : Int) 0 (l0.length : Int)
theorem api_Span_int.mono_l : ∀ k, (∀ y0 y1 y2 y3 y4, LeO (api_Span_int.l0 k y0 y1 y2 y3 y4) (api_Span_int.l0 (k + 1) y0 y1 y2 y3 y4))
  | 0 => fun _ _ _ _ _ r h => by simp [api_Span_int.l0] at h
  | k + 1 => by
    have ih0 := api_Span_int.mono_l k
    · intro y0 y1 y2 y3 y4
      unfold api_Span_int.l0
      repeat' first
      | (with_reducible exact ih0 _ _ _ _ _)
      | (with_reducible exact LeO.refl _)
      | (with_reducible exact LeO.none _)
      | (with_reducible refine LeO.ite ?_ ?_)
      | (with_reducible refine LeO.bind ?_ (fun _ => ?_))
      | exact ih0 _ _ _ _ _
      | exact LeO.none _
      | refine LeO.ite ?_ ?_
      | refine LeO.bind ?_ (fun _ => ?_)
theorem api_Span_int.mono : ∀ a0 a1 k, LeO (api_Span_int.f k a0 a1) (api_Span_int.f (k + 1) a0 a1) := by
  intro a0 a1 k
  have ih0 := api_Span_int.mono_l k
  unfold api_Span_int.f
  repeat' first
      | (with_reducible exact ih0 _ _ _ _ _)
      | (with_reducible exact LeO.refl _)
      | (with_reducible exact LeO.none _)
      | (with_reducible refine LeO.ite ?_ ?_)
      | (with_reducible refine LeO.bind ?_ (fun _ => ?_))
      | exact ih0 _ _ _ _ _
      | exact LeO.none _
      | refine LeO.ite ?_ ?_
      | refine LeO.bind ?_ (fun _ => ?_)
set_option maxHeartbeats 8000000 in
set_option maxRecDepth 100000 in
theorem api_Span_int.calls (k : Nat) (A0 : Option Addr) (c0 : Nat) (l0 : List (S23)) (a1 : Int)  (r1 : Int) (r2 : Bool) (w : World) (hr0 : Kd.C k23 w A0 l0.length l0) (hc0 : l0.length ≤ c0) (h : api_Span_int.f k l0 a1 = some (r1, r2)) :
    Calls Try.prog 61 #[.slice A0 l0.length c0, .int .i64 a1, .func (.func 62) #[] #[]] w fun e w' => e = .returned (.tuple #[.int .i64 r1, .bool r2]) ∧ Below w.heap.size w w' := by
  have hu23 := Try.underlying23
  have HR0 := Aside0.mk hr0
  have HC0 := Aside0.mk hc0
  clear hr0 hc0
  have HB := Aside0.mk (Below.refl w.heap.size w)
  have H : (api_Span_int.l0 k l0 a1 (l0.length : Int) 0 (l0.length : Int)) = some (r1, r2) := h
  clear h
  have H' := Aside0.mk H
  clear H
  go_enter Try.func61, Try.ntmps61
  go_wp2
  go_loopg [9, 10] k (fun kq v9 v10 w' => ∃ (x9_1 : Int) (x10_1 : Int), v9 = .int .i64 x9_1 ∧ v10 = .int .i64 x10_1 ∧ Aside0 (api_Span_int.l0 kq l0 a1 (l0.length : Int) x9_1 x10_1 = some (r1, r2)) ∧ Aside0 (kq ≤ k) ∧ Aside0 (Below w.heap.size w w'))
  case atStart => exact ⟨(0), ((l0.length : Int)), (by first | rfl | (simp; done) | (simp [*]; done)), (by first | rfl | (simp; done) | (simp [*]; done)), H', ⟨Nat.le_refl _⟩, ⟨by repeat (first | (with_reducible first | exact HB.out | apply below_alloc | apply pw_below_drewN | apply below_drew1) | exact HB.out)⟩⟩
  case round =>
    clear H'
    try clear p2
    obtain ⟨x9_1, x10_1, rfl, rfl, HA, HK1, HB⟩ := hrel
    cases gk with
    | zero => exact absurd HA.out (by simp [api_Span_int.l0])
    | succ k1 =>
      have H := HA.out
      clear HA
      simp only [api_Span_int.l0] at H
      by_cases c4 : x9_1 < x10_1
      · rw [if_pos c4] at H
        have c4b0 : decide (x9_1 < x10_1) = true := decide_eq_true c4
        clear c4
        obtain ⟨ji5, hji5⟩ : ∃ j_ : Int, (wrap64 ((IntKind.u64.wrap (wrap64 (x9_1 + x10_1))) / 2)) = j_ := ⟨_, rfl⟩
        replace H : (if 0 ≤ (ji5) then (if (ji5) < (l0.length : Int) then ((spans_Has_1.f ((rd_T23 l0 (ji5)).f0) ((rd_T23 l0 (ji5)).f1) a1).bind fun t1187 => (if t1187 < 0 then (api_Span_int.l0 k1 l0 a1 (l0.length : Int) (wrap64 ((ji5) + 1)) x10_1) else (api_Span_int.l0 k1 l0 a1 (l0.length : Int) x9_1 ji5))) else (none)) else (none)) = some (r1, r2) := by first | (rw [hji5] at H; exact H) | (simp only [hji5] at H ⊢; exact H)
        have hji5w : (IntKind.i64.wrap ((IntKind.u64.wrap (wrap64 (x9_1 + x10_1))) / 2)) = ji5 := (i64_w _).trans hji5
        by_cases c6 : 0 ≤ (ji5)
        · rw [if_pos c6] at H
          have c6b0 : decide (0 ≤ (ji5)) = true := decide_eq_true c6
          clear c6
          by_cases c7 : (ji5) < (l0.length : Int)
          · rw [if_pos c7] at H
            have c7b0 : decide ((ji5) < (l0.length : Int)) = true := decide_eq_true c7
            clear c7
            replace H := Option.bind_eq_some_iff.mp H
            obtain ⟨t1187, A80, H⟩ := H
            replace H : (if t1187 < 0 then (api_Span_int.l0 k1 l0 a1 (l0.length : Int) (wrap64 ((ji5) + 1)) x10_1) else (api_Span_int.l0 k1 l0 a1 (l0.length : Int) x9_1 ji5)) = some (r1, r2) := H
            have A8 := Aside0.mk A80
            clear A80
            by_cases c9 : t1187 < 0
            · rw [if_pos c9] at H
              have c9b0 : decide (t1187 < 0) = true := decide_eq_true c9
              clear c9
              have H' := Aside0.mk H
              clear H
              have p1186 : 0 ≤ ((ji5) : Int) := of_decide_eq_true (by first | (with_reducible assumption) | assumption)
              have q1186 : (ji5) < (l0.length : Int) := of_decide_eq_true (by first | (with_reducible assumption) | assumption)
              obtain ⟨ad1186, e1186, hx1186_0, hx1186_1⟩ := at_T23 HR0.out (ji5) p1186 q1186
              cases e1186
              replace hx1186_0 := (HB.out.cell (World.block_lt_of_cell? w _ hx1186_0)).trans hx1186_0
              replace hx1186_1 := (HB.out.cell (World.block_lt_of_cell? w _ hx1186_1)).trans hx1186_1
              replace p1186 := eq_true p1186
              replace q1186 := eq_true q1186
              go_wp2_with (first | (go_at_call 62; (with_reducible refine (spans_Has_1.calls ((rd_T23 l0 (ji5)).f0) ((rd_T23 l0 (ji5)).f1) a1 t1187 _ A8.out).mono ?_); rintro e w10 ⟨rfl, hb⟩; have n0_ := Aside0.mk (below_step (by repeat (first | (with_reducible first | exact HB.out | apply below_alloc | apply pw_below_drewN | apply below_drew1) | exact HB.out)) hb); clear HB; have HB := n0_; clear n0_; (try clear hb); (try clear hb2); (try clear hk); (try clear hi)))
              go_roundg k1
              case measure => have := HK1.out; omega
              case rel => exact ⟨(wrap64 ((ji5) + 1)), (x10_1), (by first | rfl | (simp; done) | (simp only [← hji5] <;> (first | rfl | simp)) | (simp [*]; done)), (by first | rfl | (simp; done) | (simp [*]; done)), H', ⟨by have := HK1.out; omega⟩, ⟨by repeat (first | (with_reducible first | exact HB.out | apply below_alloc | apply pw_below_drewN | apply below_drew1) | exact HB.out)⟩⟩
            · rw [if_neg c9] at H
              have c9b0 : decide (t1187 < 0) = false := decide_eq_false c9
              clear c9
              have H' := Aside0.mk H
              clear H
              have p1186 : 0 ≤ ((ji5) : Int) := of_decide_eq_true (by first | (with_reducible assumption) | assumption)
              have q1186 : (ji5) < (l0.length : Int) := of_decide_eq_true (by first | (with_reducible assumption) | assumption)
              obtain ⟨ad1186, e1186, hx1186_0, hx1186_1⟩ := at_T23 HR0.out (ji5) p1186 q1186
              cases e1186
              replace hx1186_0 := (HB.out.cell (World.block_lt_of_cell? w _ hx1186_0)).trans hx1186_0
              replace hx1186_1 := (HB.out.cell (World.block_lt_of_cell? w _ hx1186_1)).trans hx1186_1
              replace p1186 := eq_true p1186
              replace q1186 := eq_true q1186
              go_wp2_with (first | (go_at_call 62; (with_reducible refine (spans_Has_1.calls ((rd_T23 l0 (ji5)).f0) ((rd_T23 l0 (ji5)).f1) a1 t1187 _ A8.out).mono ?_); rintro e w11 ⟨rfl, hb⟩; have n0_ := Aside0.mk (below_step (by repeat (first | (with_reducible first | exact HB.out | apply below_alloc | apply pw_below_drewN | apply below_drew1) | exact HB.out)) hb); clear HB; have HB := n0_; clear n0_; (try clear hb); (try clear hb2); (try clear hk); (try clear hi)))
              go_roundg k1
              case measure => have := HK1.out; omega
              case rel => exact ⟨(x9_1), (ji5), (by first | rfl | (simp; done) | (simp [*]; done)), (by first | rfl | (simp; done) | (simp only [← hji5] <;> (first | rfl | simp)) | (simp [*]; done)), H', ⟨by have := HK1.out; omega⟩, ⟨by repeat (first | (with_reducible first | exact HB.out | apply below_alloc | apply pw_below_drewN | apply below_drew1) | exact HB.out)⟩⟩
          · rw [if_neg c7] at H
            exact absurd H (by simp)
        · rw [if_neg c6] at H
          exact absurd H (by simp)
      · rw [if_neg c4] at H
        have c4b0 : decide (x9_1 < x10_1) = false := decide_eq_false c4
        clear c4
        by_cases c12 : x9_1 < (l0.length : Int)
        · rw [if_pos c12] at H
          have c12b0 : decide (x9_1 < (l0.length : Int)) = true := decide_eq_true c12
          clear c12
          by_cases c13 : 0 ≤ x9_1
          · rw [if_pos c13] at H
            have c13b0 : decide (0 ≤ x9_1) = true := decide_eq_true c13
            clear c13
            by_cases c14 : x9_1 < (l0.length : Int)
            · rw [if_pos c14] at H
              have c14b0 : decide (x9_1 < (l0.length : Int)) = true := decide_eq_true c14
              clear c14
              replace H := Option.bind_eq_some_iff.mp H
              obtain ⟨t1189, A150, H⟩ := H
              replace H : (some (x9_1, (t1189 == 0))) = some (r1, r2) := H
              have A15 := Aside0.mk A150
              clear A150
              simp only [Option.some.injEq, Prod.mk.injEq] at H
              obtain ⟨rfl, rfl⟩ := H
              have p1188 : 0 ≤ (x9_1 : Int) := of_decide_eq_true (by first | (with_reducible assumption) | assumption)
              have q1188 : x9_1 < (l0.length : Int) := of_decide_eq_true (by first | (with_reducible assumption) | assumption)
              obtain ⟨ad1188, e1188, hx1188_0, hx1188_1⟩ := at_T23 HR0.out x9_1 p1188 q1188
              cases e1188
              replace hx1188_0 := (HB.out.cell (World.block_lt_of_cell? w _ hx1188_0)).trans hx1188_0
              replace hx1188_1 := (HB.out.cell (World.block_lt_of_cell? w _ hx1188_1)).trans hx1188_1
              replace p1188 := eq_true p1188
              replace q1188 := eq_true q1188
              go_wp2_with (first | (go_at_call 62; (with_reducible refine (spans_Has_1.calls ((rd_T23 l0 x9_1).f0) ((rd_T23 l0 x9_1).f1) a1 t1189 _ A15.out).mono ?_); rintro e w16 ⟨rfl, hb⟩; have n0_ := Aside0.mk (below_step (by repeat (first | (with_reducible first | exact HB.out | apply below_alloc | apply pw_below_drewN | apply below_drew1) | exact HB.out)) hb); clear HB; have HB := n0_; clear n0_; (try clear hb); (try clear hb2); (try clear hk); (try clear hi)))
              go_ret2
              exact ⟨by first | rfl | (simp [errW_none, errW_some] <;> rfl) | (simp [*, errW_none, errW_some] <;> rfl), by repeat (first | (with_reducible first | exact HB.out | apply below_alloc | apply pw_below_drewN | apply below_drew1) | exact HB.out)⟩
            · rw [if_neg c14] at H
              exact absurd H (by simp)
          · rw [if_neg c13] at H
            exact absurd H (by simp)
        · rw [if_neg c12] at H
          have c12b0 : decide (x9_1 < (l0.length : Int)) = false := decide_eq_false c12
          clear c12
          simp only [Option.some.injEq, Prod.mk.injEq] at H
          obtain ⟨rfl, rfl⟩ := H
          go_wp2
          go_ret2
          exact ⟨by first | rfl | (simp [errW_none, errW_some] <;> rfl) | (simp [*, errW_none, errW_some] <;> rfl), by repeat (first | (with_reducible first | exact HB.out | apply below_alloc | apply pw_below_drewN | apply below_drew1) | exact HB.out)⟩

end Go.Proofs.Ytmbmalkpmanaaaa.P

-- Written by wip/mkprint.py of the proofs' repo (the kit's print, over contracts that were proved by hand). Not trusted: Lean checks it.
namespace Go.Proofs.Ytmbmalkpmanaaaa.P
open Go.RowKit Go.Proofs.YtmbmalkpmanaaaaW.PrintWords Go.Proofs.YtmbmalkpmanaaaaW.PrintLast Go.Proofs.YtmbmalkpmanaaaaW.PrintMore
attribute [local go_sem] max2_int min2_int max_two min_two max_three min_three max_four min_four   -- for this text's walks alone
set_option linter.unusedVariables false
set_option linter.unusedSimpArgs false

/-! ### spans_Has: function 24 -/
def spans_Has.f (k : Nat) (l0 : List (S23)) (a1 : Int) : Option (Bool) := (api_Span_int.f k l0 a1).bind fun bt1190 => (if bt1190.2 = true then (some (decide (bt1190.1 < (l0.length : Int)))) else (some false))
theorem spans_Has.mono : ∀ a0 a1 k, LeO (spans_Has.f k a0 a1) (spans_Has.f (k + 1) a0 a1) := by
  intro a0 a1 k
  unfold spans_Has.f
  repeat' first
      | (with_reducible exact api_Span_int.mono _ _ _)
      | (with_reducible exact LeO.refl _)
      | (with_reducible exact LeO.none _)
      | (with_reducible refine LeO.ite ?_ ?_)
      | (with_reducible refine LeO.bind ?_ (fun _ => ?_))
      | exact api_Span_int.mono _ _ _
      | exact LeO.none _
      | refine LeO.ite ?_ ?_
      | refine LeO.bind ?_ (fun _ => ?_)
set_option maxHeartbeats 8000000 in
set_option maxRecDepth 100000 in
theorem spans_Has.calls (k : Nat) (A0 : Option Addr) (c0 : Nat) (l0 : List (S23)) (a1 : Int) (r : Bool) (w : World) (hr0 : Kd.C k23 w A0 l0.length l0) (hc0 : l0.length ≤ c0) (h : spans_Has.f k l0 a1 = some r) :
    Calls Try.prog 24 #[.slice A0 l0.length c0, .int .i64 a1] w fun e w' => e = .returned (.bool r) ∧ Below w.heap.size w w' := by
  have HR0 := Aside0.mk hr0
  have HC0 := Aside0.mk hc0
  clear hr0 hc0
  have HB := Aside0.mk (Below.refl w.heap.size w)
  have H : ((api_Span_int.f k l0 a1).bind fun bt1190 => (if bt1190.2 = true then (some (decide (bt1190.1 < (l0.length : Int)))) else (some false))) = some r := h
  clear h
  replace H := Option.bind_eq_some_iff.mp H
  obtain ⟨⟨t1190, t1191⟩, A30, H⟩ := H
  replace H : (if t1191 = true then (some (decide (t1190 < (l0.length : Int)))) else (some false)) = some r := H
  have A3 := Aside0.mk A30
  clear A30
  by_cases c4 : t1191 = true
  · subst c4
    have H1 : (some (decide (t1190 < (l0.length : Int)))) = some r := by rw [if_pos rfl] at H; exact H
    clear H
    have H := H1
    clear H1
    obtain rfl := Option.some.inj H
    go_enter Try.func24, Try.ntmps24
    go_wp2_with (first | ((with_reducible refine gate_callee (f := 61) rfl ?_); refine goesL_ (some 10) rfl rfl Try.func61 (by kernel_rfl) rfl #[.slice A0 l0.length c0, .int .i64 a1, .func (.func 62) #[] #[]] rfl (by (try simp only [List.map_toArray, List.map_cons, List.map_nil]); first | done | rfl | (simp only [List.length_drop, List.length_take]; rfl)) ?_; (with_reducible refine (api_Span_int.calls k _ _ l0 a1 t1190 true _ ?side1 ?side2 A3.out).mono ?_); (case side1 => repeat (first | exact HR0.out | (with_reducible refine Kd.C_alloc ?_ _) | (with_reducible refine Kd.C_drewN ?_ _) | (with_reducible refine Kd.C_drew ?_))); (case side2 => exact HC0.out); rintro e w5 ⟨rfl, hb⟩; refine ⟨_, rfl, ?_⟩; have n0_ := Aside0.mk (below_step (by repeat (first | (with_reducible first | exact HB.out | apply below_alloc | apply pw_below_drewN | apply below_drew1) | exact HB.out)) hb); clear HB; have HB := n0_; clear n0_; (try clear hb); (try clear hb2); (try clear hk); (try clear hi)))
    go_ret
    exact ⟨by first | rfl | (simp [errW_none, errW_some] <;> rfl) | (simp [*, errW_none, errW_some] <;> rfl), by repeat (first | (with_reducible first | exact HB.out | apply below_alloc | apply pw_below_drewN | apply below_drew1) | exact HB.out)⟩
  · replace c4 := Bool.eq_false_iff.mpr c4
    subst c4
    have H1 : (some false) = some r := by rw [if_neg (show ¬ (false = true) by decide)] at H; exact H
    clear H
    have H := H1
    clear H1
    obtain rfl := Option.some.inj H
    go_enter Try.func24, Try.ntmps24
    go_wp2_with (first | ((with_reducible refine gate_callee (f := 61) rfl ?_); refine goesL_ (some 10) rfl rfl Try.func61 (by kernel_rfl) rfl #[.slice A0 l0.length c0, .int .i64 a1, .func (.func 62) #[] #[]] rfl (by (try simp only [List.map_toArray, List.map_cons, List.map_nil]); first | done | rfl | (simp only [List.length_drop, List.length_take]; rfl)) ?_; (with_reducible refine (api_Span_int.calls k _ _ l0 a1 t1190 false _ ?side1 ?side2 A3.out).mono ?_); (case side1 => repeat (first | exact HR0.out | (with_reducible refine Kd.C_alloc ?_ _) | (with_reducible refine Kd.C_drewN ?_ _) | (with_reducible refine Kd.C_drew ?_))); (case side2 => exact HC0.out); rintro e w6 ⟨rfl, hb⟩; refine ⟨_, rfl, ?_⟩; have n0_ := Aside0.mk (below_step (by repeat (first | (with_reducible first | exact HB.out | apply below_alloc | apply pw_below_drewN | apply below_drew1) | exact HB.out)) hb); clear HB; have HB := n0_; clear n0_; (try clear hb); (try clear hb2); (try clear hk); (try clear hi)))
    go_ret
    exact ⟨by first | rfl | (simp [errW_none, errW_some] <;> rfl) | (simp [*, errW_none, errW_some] <;> rfl), by repeat (first | (with_reducible first | exact HB.out | apply below_alloc | apply pw_below_drewN | apply below_drew1) | exact HB.out)⟩

end Go.Proofs.Ytmbmalkpmanaaaa.P

-- Written by wip/mkprint.py of the proofs' repo (the kit's print, over contracts that were proved by hand). Not trusted: Lean checks it.
namespace Go.Proofs.Ytmbmalkpmanaaaa.P
open Go.RowKit Go.Proofs.YtmbmalkpmanaaaaW.PrintWords Go.Proofs.YtmbmalkpmanaaaaW.PrintLast Go.Proofs.YtmbmalkpmanaaaaW.PrintMore
attribute [local go_sem] max2_int min2_int max_two min_two max_three min_three max_four min_four   -- for this text's walks alone
set_option linter.unusedVariables false
set_option linter.unusedSimpArgs false

/-! ### spans_Meet: function 38 -/
def spans_Meet.f (l0 : List (S23)) (l1 : List (S23)) : Option (Bool) := (spans_Cut.f l0 l1).bind fun t384 => (some (decide ((t384.length : Int) > 0)))
set_option maxHeartbeats 8000000 in
set_option maxRecDepth 100000 in
theorem spans_Meet.calls (A0 : Option Addr) (c0 : Nat) (l0 : List (S23)) (A1 : Option Addr) (c1 : Nat) (l1 : List (S23)) (r : Bool) (w : World) (hr0 : Kd.C k23 w A0 l0.length l0) (hc0 : l0.length ≤ c0) (hr1 : Kd.C k23 w A1 l1.length l1) (hc1 : l1.length ≤ c1) (h : spans_Meet.f l0 l1 = some r) :
    Calls Try.prog 38 #[.slice A0 l0.length c0, .slice A1 l1.length c1] w fun e w' => e = .returned (.bool r) ∧ Below w.heap.size w w' := by
  have HR0 := Aside0.mk hr0
  have HC0 := Aside0.mk hc0
  clear hr0 hc0
  have HR1 := Aside0.mk hr1
  have HC1 := Aside0.mk hc1
  clear hr1 hc1
  have HB := Aside0.mk (Below.refl w.heap.size w)
  have H : ((spans_Cut.f l0 l1).bind fun t384 => (some (decide ((t384.length : Int) > 0)))) = some r := h
  clear h
  replace H := Option.bind_eq_some_iff.mp H
  obtain ⟨t384, A30, H⟩ := H
  replace H : (some (decide ((t384.length : Int) > 0))) = some r := H
  have A3 := Aside0.mk A30
  clear A30
  obtain rfl := Option.some.inj H
  go_enter Try.func38, Try.ntmps38
  go_wp2_with (first | ((with_reducible refine gate_callee (f := 36) rfl ?_); refine goesL_ (some 7) rfl rfl Try.func36 (by kernel_rfl) rfl #[.slice A0 l0.length c0, .slice A1 l1.length c1] rfl (by (try simp only [List.map_toArray, List.map_cons, List.map_nil]); first | done | rfl | (simp only [List.length_drop, List.length_take]; rfl)) ?_; (with_reducible refine (spans_Cut.calls _ _ l0 _ _ l1 t384 _ ?side1 ?side2 ?side3 ?side4 A3.out).mono ?_); (case side1 => repeat (first | exact HR0.out | (with_reducible refine Kd.C_alloc ?_ _) | (with_reducible refine Kd.C_drewN ?_ _) | (with_reducible refine Kd.C_drew ?_))); (case side2 => exact HC0.out); (case side3 => repeat (first | exact HR1.out | (with_reducible refine Kd.C_alloc ?_ _) | (with_reducible refine Kd.C_drewN ?_ _) | (with_reducible refine Kd.C_drew ?_))); (case side4 => exact HC1.out); rintro e w4 ⟨v385, rfl, ho0, hb⟩; refine ⟨_, rfl, ?_⟩; have n0_ := Aside0.mk (Kd.R_lower ho0 (below_size (by repeat (first | (with_reducible first | exact HB.out | apply below_alloc | apply pw_below_drewN | apply below_drew1) | exact HB.out)))); have n1_ := Aside0.mk (below_step (by repeat (first | (with_reducible first | exact HB.out | apply below_alloc | apply pw_below_drewN | apply below_drew1) | exact HB.out)) hb); clear HB; have HO386 := n0_; have HB := n1_; clear n0_ n1_; (try clear hb); (try clear hb2); (try clear hk); (try clear hi); (try clear ho0); obtain ⟨Ao5, co5, eo5⟩ := Kd.R_slice HO386.out; subst eo5))
  go_ret
  exact ⟨by first | rfl | (simp [errW_none, errW_some] <;> rfl) | (simp [*, errW_none, errW_some] <;> rfl), by repeat (first | (with_reducible first | exact HB.out | apply below_alloc | apply pw_below_drewN | apply below_drew1) | exact HB.out)⟩

end Go.Proofs.Ytmbmalkpmanaaaa.P

-- Written by wip/mkprint.py of the proofs' repo (the kit's print, over contracts that were proved by hand). Not trusted: Lean checks it.
namespace Go.Proofs.Ytmbmalkpmanaaaa.P
open Go.RowKit Go.Proofs.YtmbmalkpmanaaaaW.PrintWords Go.Proofs.YtmbmalkpmanaaaaW.PrintLast Go.Proofs.YtmbmalkpmanaaaaW.PrintMore
attribute [local go_sem] max2_int min2_int max_two min_two max_three min_three max_four min_four   -- for this text's walks alone
set_option linter.unusedVariables false
set_option linter.unusedSimpArgs false

/-! ### epactlaw02_SpansAhead: function 10 -/
mutual
def epactlaw02_SpansAhead.j0 : Nat → List (S23) → List (S23) → List (S23) → Bool → Bool → Int → Int → Option (Bool)
  | 0, _, _, _, _, _, _, _ => none
  | k + 1, x7, x8, x9, x11, x14, x1205000, x1205001 => (spans_Ahead.f x7 x8).bind fun t1519 => (if (t1519 != x14) = true then (none) else (if x14 = true then ((spans_Meet.f x7 x8).bind fun t1520 => (if t1520 = true then (none) else (if (x8.length : Int) > 0 then ((spans_Ahead.f x7 x8).bind fun t1521 => (if t1521 = true then ((spans_Ahead.f x8 x9).bind fun t1522 => (if t1522 = true then ((spans_Ahead.f x7 x9).bind fun t1523 => (epactlaw02_SpansAhead.j1 k x7 x8 x11 (!t1523) x1205000 x1205001)) else (epactlaw02_SpansAhead.j1 k x7 x8 x11 false x1205000 x1205001))) else (epactlaw02_SpansAhead.j1 k x7 x8 x11 false x1205000 x1205001))) else (epactlaw02_SpansAhead.j1 k x7 x8 x11 false x1205000 x1205001)))) else (if (x8.length : Int) > 0 then ((spans_Ahead.f x7 x8).bind fun t1524 => (if t1524 = true then ((spans_Ahead.f x8 x9).bind fun t1525 => (if t1525 = true then ((spans_Ahead.f x7 x9).bind fun t1526 => (epactlaw02_SpansAhead.j1 k x7 x8 x11 (!t1526) x1205000 x1205001)) else (epactlaw02_SpansAhead.j1 k x7 x8 x11 false x1205000 x1205001))) else (epactlaw02_SpansAhead.j1 k x7 x8 x11 false x1205000 x1205001))) else (epactlaw02_SpansAhead.j1 k x7 x8 x11 false x1205000 x1205001))))
def epactlaw02_SpansAhead.j1 : Nat → List (S23) → List (S23) → Bool → Bool → Int → Int → Option (Bool)
  | 0, _, _, _, _, _, _ => none
  | k + 1, x7, x8, x11, x77, x1205000, x1205001 => if x77 = true then (none) else (if x11 = true then ((spans_Has.f k x7 x1205000).bind fun t1625 => (if t1625 = true then ((spans_Has.f k x7 x1205001).bind fun t1626 => (if t1626 = true then ((spans_Has.f k x7 (wrap64 (x1205000 - 1))).bind fun t1627 => (if t1627 = true then (none) else ((spans_Has.f k x7 (wrap64 (x1205001 + 1))).bind fun t1628 => (epactlaw02_SpansAhead.j2 k x7 x8 t1628)))) else (none))) else (none))) else (epactlaw02_SpansAhead.j2 k x7 x8 false))
def epactlaw02_SpansAhead.j2 : Nat → List (S23) → List (S23) → Bool → Option (Bool)
  | 0, _, _, _ => none
  | k + 1, x7, x8, x106 => if x106 = true then (none) else ((spans_Ahead.f ([] : List (S23)) x8).bind fun t1634 => (if t1634 = true then ((spans_Ahead.f x7 ([] : List (S23))).bind fun t1635 => (if t1635 = true then (if (x7.length : Int) = 0 then ((epactlaw02_awake.f k).bind fun t1636 => (some t1636)) else ((spans_Ahead.f x7 x7).bind fun t1637 => (if t1637 = true then (none) else ((epactlaw02_awake.f k).bind fun t1638 => (some t1638))))) else (none))) else (none)))
end
def epactlaw02_SpansAhead.f (k : Nat) (l0 : List (S23)) (l1 : List (S23)) (l2 : List (S23)) : Option (Bool) := (epactlaw02_made.f k l0).bind fun t1192 => ((epactlaw02_made.f k l1).bind fun t1195 => ((epactlaw02_made.f k l2).bind fun t1198 => ((spans_Hull.f t1192).bind fun bt1201 => ((spans_Hull.f t1195).bind fun bt1205 => (if bt1201.2.2 = true then (if bt1205.2.2 = true then (epactlaw02_SpansAhead.j0 k t1192 t1195 t1198 bt1201.2.2 (decide (bt1201.2.1 < bt1205.1)) bt1201.1 bt1201.2.1) else (epactlaw02_SpansAhead.j0 k t1192 t1195 t1198 bt1201.2.2 true bt1201.1 bt1201.2.1)) else (epactlaw02_SpansAhead.j0 k t1192 t1195 t1198 bt1201.2.2 true bt1201.1 bt1201.2.1))))))
theorem epactlaw02_SpansAhead.mono_l : ∀ k, (∀ y0 y1 y2 y3 y4 y5 y6, LeO (epactlaw02_SpansAhead.j0 k y0 y1 y2 y3 y4 y5 y6) (epactlaw02_SpansAhead.j0 (k + 1) y0 y1 y2 y3 y4 y5 y6)) ∧ (∀ y0 y1 y2 y3 y4 y5, LeO (epactlaw02_SpansAhead.j1 k y0 y1 y2 y3 y4 y5) (epactlaw02_SpansAhead.j1 (k + 1) y0 y1 y2 y3 y4 y5)) ∧ (∀ y0 y1 y2, LeO (epactlaw02_SpansAhead.j2 k y0 y1 y2) (epactlaw02_SpansAhead.j2 (k + 1) y0 y1 y2))
  | 0 => ⟨fun _ _ _ _ _ _ _ r h => by simp [epactlaw02_SpansAhead.j0] at h, fun _ _ _ _ _ _ r h => by simp [epactlaw02_SpansAhead.j1] at h, fun _ _ _ r h => by simp [epactlaw02_SpansAhead.j2] at h⟩
  | k + 1 => by
    obtain ⟨ih0, ih1, ih2⟩ := epactlaw02_SpansAhead.mono_l k
    refine ⟨?_, ?_, ?_⟩
    · intro y0 y1 y2 y3 y4 y5 y6
      unfold epactlaw02_SpansAhead.j0
      repeat' first
      | (with_reducible exact ih0 _ _ _ _ _ _ _)
      | (with_reducible exact ih1 _ _ _ _ _ _)
      | (with_reducible exact ih2 _ _ _)
      | (with_reducible exact epactlaw02_awake.mono _)
      | (with_reducible exact epactlaw02_made.mono _ _)
      | (with_reducible exact spans_Has.mono _ _ _)
      | (with_reducible exact LeO.refl _)
      | (with_reducible exact LeO.none _)
      | (with_reducible refine LeO.ite ?_ ?_)
      | (with_reducible refine LeO.bind ?_ (fun _ => ?_))
      | exact ih0 _ _ _ _ _ _ _
      | exact ih1 _ _ _ _ _ _
      | exact ih2 _ _ _
      | exact epactlaw02_awake.mono _
      | exact epactlaw02_made.mono _ _
      | exact spans_Has.mono _ _ _
      | exact LeO.none _
      | refine LeO.ite ?_ ?_
      | refine LeO.bind ?_ (fun _ => ?_)
    · intro y0 y1 y2 y3 y4 y5
      unfold epactlaw02_SpansAhead.j1
      repeat' first
      | (with_reducible exact ih0 _ _ _ _ _ _ _)
      | (with_reducible exact ih1 _ _ _ _ _ _)
      | (with_reducible exact ih2 _ _ _)
      | (with_reducible exact epactlaw02_awake.mono _)
      | (with_reducible exact epactlaw02_made.mono _ _)
      | (with_reducible exact spans_Has.mono _ _ _)
      | (with_reducible exact LeO.refl _)
      | (with_reducible exact LeO.none _)
      | (with_reducible refine LeO.ite ?_ ?_)
      | (with_reducible refine LeO.bind ?_ (fun _ => ?_))
      | exact ih0 _ _ _ _ _ _ _
      | exact ih1 _ _ _ _ _ _
      | exact ih2 _ _ _
      | exact epactlaw02_awake.mono _
      | exact epactlaw02_made.mono _ _
      | exact spans_Has.mono _ _ _
      | exact LeO.none _
      | refine LeO.ite ?_ ?_
      | refine LeO.bind ?_ (fun _ => ?_)
    · intro y0 y1 y2
      unfold epactlaw02_SpansAhead.j2
      repeat' first
      | (with_reducible exact ih0 _ _ _ _ _ _ _)
      | (with_reducible exact ih1 _ _ _ _ _ _)
      | (with_reducible exact ih2 _ _ _)
      | (with_reducible exact epactlaw02_awake.mono _)
      | (with_reducible exact epactlaw02_made.mono _ _)
      | (with_reducible exact spans_Has.mono _ _ _)
      | (with_reducible exact LeO.refl _)
      | (with_reducible exact LeO.none _)
      | (with_reducible refine LeO.ite ?_ ?_)
      | (with_reducible refine LeO.bind ?_ (fun _ => ?_))
      | exact ih0 _ _ _ _ _ _ _
      | exact ih1 _ _ _ _ _ _
      | exact ih2 _ _ _
      | exact epactlaw02_awake.mono _
      | exact epactlaw02_made.mono _ _
      | exact spans_Has.mono _ _ _
      | exact LeO.none _
      | refine LeO.ite ?_ ?_
      | refine LeO.bind ?_ (fun _ => ?_)
theorem epactlaw02_SpansAhead.mono : ∀ a0 a1 a2 k, LeO (epactlaw02_SpansAhead.f k a0 a1 a2) (epactlaw02_SpansAhead.f (k + 1) a0 a1 a2) := by
  intro a0 a1 a2 k
  obtain ⟨ih0, ih1, ih2⟩ := epactlaw02_SpansAhead.mono_l k
  unfold epactlaw02_SpansAhead.f
  repeat' first
      | (with_reducible exact ih0 _ _ _ _ _ _ _)
      | (with_reducible exact ih1 _ _ _ _ _ _)
      | (with_reducible exact ih2 _ _ _)
      | (with_reducible exact epactlaw02_awake.mono _)
      | (with_reducible exact epactlaw02_made.mono _ _)
      | (with_reducible exact spans_Has.mono _ _ _)
      | (with_reducible exact LeO.refl _)
      | (with_reducible exact LeO.none _)
      | (with_reducible refine LeO.ite ?_ ?_)
      | (with_reducible refine LeO.bind ?_ (fun _ => ?_))
      | exact ih0 _ _ _ _ _ _ _
      | exact ih1 _ _ _ _ _ _
      | exact ih2 _ _ _
      | exact epactlaw02_awake.mono _
      | exact epactlaw02_made.mono _ _
      | exact spans_Has.mono _ _ _
      | exact LeO.none _
      | refine LeO.ite ?_ ?_
      | refine LeO.bind ?_ (fun _ => ?_)
set_option maxHeartbeats 8000000 in
set_option maxRecDepth 100000 in
theorem epactlaw02_SpansAhead.calls (k : Nat) (A0 : Option Addr) (c0 : Nat) (l0 : List (S23)) (A1 : Option Addr) (c1 : Nat) (l1 : List (S23)) (A2 : Option Addr) (c2 : Nat) (l2 : List (S23)) (r : Bool) (w : World) (hr0 : Kd.C k23 w A0 l0.length l0) (hc0 : l0.length ≤ c0) (hr1 : Kd.C k23 w A1 l1.length l1) (hc1 : l1.length ≤ c1) (hr2 : Kd.C k23 w A2 l2.length l2) (hc2 : l2.length ≤ c2) (h : epactlaw02_SpansAhead.f k l0 l1 l2 = some r) :
    Calls Try.prog 10 #[.slice A0 l0.length c0, .slice A1 l1.length c1, .slice A2 l2.length c2] w fun e w' => e = .returned (.bool r) ∧ Below w.heap.size w w' := by
  have hu23 := Try.underlying23
  have HR0 := Aside0.mk hr0
  have HC0 := Aside0.mk hc0
  clear hr0 hc0
  have HR1 := Aside0.mk hr1
  have HC1 := Aside0.mk hc1
  clear hr1 hc1
  have HR2 := Aside0.mk hr2
  have HC2 := Aside0.mk hc2
  clear hr2 hc2
  have HB := Aside0.mk (Below.refl w.heap.size w)
  have H : ((epactlaw02_made.f k l0).bind fun t1192 => ((epactlaw02_made.f k l1).bind fun t1195 => ((epactlaw02_made.f k l2).bind fun t1198 => ((spans_Hull.f t1192).bind fun bt1201 => ((spans_Hull.f t1195).bind fun bt1205 => (if bt1201.2.2 = true then (if bt1205.2.2 = true then (epactlaw02_SpansAhead.j0 k t1192 t1195 t1198 bt1201.2.2 (decide (bt1201.2.1 < bt1205.1)) bt1201.1 bt1201.2.1) else (epactlaw02_SpansAhead.j0 k t1192 t1195 t1198 bt1201.2.2 true bt1201.1 bt1201.2.1)) else (epactlaw02_SpansAhead.j0 k t1192 t1195 t1198 bt1201.2.2 true bt1201.1 bt1201.2.1))))))) = some r := h
  clear h
  replace H := Option.bind_eq_some_iff.mp H
  obtain ⟨t1192, A40, H⟩ := H
  replace H : ((epactlaw02_made.f k l1).bind fun t1195 => ((epactlaw02_made.f k l2).bind fun t1198 => ((spans_Hull.f t1192).bind fun bt1201 => ((spans_Hull.f t1195).bind fun bt1205 => (if bt1201.2.2 = true then (if bt1205.2.2 = true then (epactlaw02_SpansAhead.j0 k t1192 t1195 t1198 bt1201.2.2 (decide (bt1201.2.1 < bt1205.1)) bt1201.1 bt1201.2.1) else (epactlaw02_SpansAhead.j0 k t1192 t1195 t1198 bt1201.2.2 true bt1201.1 bt1201.2.1)) else (epactlaw02_SpansAhead.j0 k t1192 t1195 t1198 bt1201.2.2 true bt1201.1 bt1201.2.1)))))) = some r := H
  have A4 := Aside0.mk A40
  clear A40
  replace H := Option.bind_eq_some_iff.mp H
  obtain ⟨t1195, A50, H⟩ := H
  replace H : ((epactlaw02_made.f k l2).bind fun t1198 => ((spans_Hull.f t1192).bind fun bt1201 => ((spans_Hull.f t1195).bind fun bt1205 => (if bt1201.2.2 = true then (if bt1205.2.2 = true then (epactlaw02_SpansAhead.j0 k t1192 t1195 t1198 bt1201.2.2 (decide (bt1201.2.1 < bt1205.1)) bt1201.1 bt1201.2.1) else (epactlaw02_SpansAhead.j0 k t1192 t1195 t1198 bt1201.2.2 true bt1201.1 bt1201.2.1)) else (epactlaw02_SpansAhead.j0 k t1192 t1195 t1198 bt1201.2.2 true bt1201.1 bt1201.2.1))))) = some r := H
  have A5 := Aside0.mk A50
  clear A50
  replace H := Option.bind_eq_some_iff.mp H
  obtain ⟨t1198, A60, H⟩ := H
  replace H : ((spans_Hull.f t1192).bind fun bt1201 => ((spans_Hull.f t1195).bind fun bt1205 => (if bt1201.2.2 = true then (if bt1205.2.2 = true then (epactlaw02_SpansAhead.j0 k t1192 t1195 t1198 bt1201.2.2 (decide (bt1201.2.1 < bt1205.1)) bt1201.1 bt1201.2.1) else (epactlaw02_SpansAhead.j0 k t1192 t1195 t1198 bt1201.2.2 true bt1201.1 bt1201.2.1)) else (epactlaw02_SpansAhead.j0 k t1192 t1195 t1198 bt1201.2.2 true bt1201.1 bt1201.2.1)))) = some r := H
  have A6 := Aside0.mk A60
  clear A60
  replace H := Option.bind_eq_some_iff.mp H
  obtain ⟨⟨t1201, t1202, t1203⟩, A70, H⟩ := H
  replace H : ((spans_Hull.f t1195).bind fun bt1205 => (if t1203 = true then (if bt1205.2.2 = true then (epactlaw02_SpansAhead.j0 k t1192 t1195 t1198 t1203 (decide (t1202 < bt1205.1)) t1201 t1202) else (epactlaw02_SpansAhead.j0 k t1192 t1195 t1198 t1203 true t1201 t1202)) else (epactlaw02_SpansAhead.j0 k t1192 t1195 t1198 t1203 true t1201 t1202))) = some r := H
  have A7 := Aside0.mk A70
  clear A70
  replace H := Option.bind_eq_some_iff.mp H
  obtain ⟨⟨t1205, t1206, t1207⟩, A80, H⟩ := H
  replace H : (if t1203 = true then (if t1207 = true then (epactlaw02_SpansAhead.j0 k t1192 t1195 t1198 t1203 (decide (t1202 < t1205)) t1201 t1202) else (epactlaw02_SpansAhead.j0 k t1192 t1195 t1198 t1203 true t1201 t1202)) else (epactlaw02_SpansAhead.j0 k t1192 t1195 t1198 t1203 true t1201 t1202)) = some r := H
  have A8 := Aside0.mk A80
  clear A80
  have HC9 := Aside0.mk H
  clear H
  go_enter Try.func10, Try.ntmps10
  go_upto_region 4 with (first | ((with_reducible refine gate_callee (f := 33) rfl ?_); refine goesL_ (some 16) rfl rfl Try.func33 (by kernel_rfl) rfl #[.slice A0 l0.length c0] rfl (by (try simp only [List.map_toArray, List.map_cons, List.map_nil]); first | done | rfl | (simp only [List.length_drop, List.length_take]; rfl)) ?_; (with_reducible refine (epactlaw02_made.calls k _ _ l0 t1192 _ ?side1 ?side2 A4.out).mono ?_); (case side1 => repeat (first | exact HR0.out | (with_reducible refine Kd.C_alloc ?_ _) | (with_reducible refine Kd.C_drewN ?_ _) | (with_reducible refine Kd.C_drew ?_))); (case side2 => exact HC0.out); clear A4; rintro e w10 ⟨v1193, rfl, ho0, hb⟩; refine ⟨_, rfl, ?_⟩; have n0_ := Aside0.mk (Kd.R_lower ho0 (below_size (by repeat (first | (with_reducible first | exact HB.out | apply below_alloc | apply pw_below_drewN | apply below_drew1) | exact HB.out)))); have n1_ := Aside0.mk (below_step (by repeat (first | (with_reducible first | exact HB.out | apply below_alloc | apply pw_below_drewN | apply below_drew1) | exact HB.out)) hb); clear HB; have HO1194 := n0_; have HB := n1_; clear n0_ n1_; (try clear hb); (try clear hb2); (try clear hk); (try clear hi); (try clear ho0)) | ((with_reducible refine gate_callee (f := 33) rfl ?_); refine goesL_ (some 18) rfl rfl Try.func33 (by kernel_rfl) rfl #[.slice A1 l1.length c1] rfl (by (try simp only [List.map_toArray, List.map_cons, List.map_nil]); first | done | rfl | (simp only [List.length_drop, List.length_take]; rfl)) ?_; (with_reducible refine (epactlaw02_made.calls k _ _ l1 t1195 _ ?side1 ?side2 A5.out).mono ?_); (case side1 => repeat (first | exact (Kd.C_below HR1.out HB.out) | (with_reducible refine Kd.C_alloc ?_ _) | (with_reducible refine Kd.C_drewN ?_ _) | (with_reducible refine Kd.C_drew ?_))); (case side2 => exact HC1.out); clear A5; rintro e w11 ⟨v1196, rfl, ho0, hb⟩; refine ⟨_, rfl, ?_⟩; have n0_ := Aside0.mk (Kd.R_elder' (by (with_reducible repeat (first | apply Kd.R_alloc | apply Kd.R_drewN | apply Kd.R_drew)); exact HO1194.out) (Kd.R_base ho0) hb); have n1_ := Aside0.mk (Kd.R_lower (Kd.R_new' ho0 (Kd.R_lt (by (with_reducible repeat (first | apply Kd.R_alloc | apply Kd.R_drewN | apply Kd.R_drew)); exact HO1194.out))) (below_size (by repeat (first | (with_reducible first | exact HB.out | apply below_alloc | apply pw_below_drewN | apply below_drew1) | exact HB.out)))); have n2_ := Aside0.mk (below_step (by repeat (first | (with_reducible first | exact HB.out | apply below_alloc | apply pw_below_drewN | apply below_drew1) | exact HB.out)) hb); clear HO1194; clear HB; have HO1194 := n0_; have HO1197 := n1_; have HB := n2_; clear n0_ n1_ n2_; (try clear hb); (try clear hb2); (try clear hk); (try clear hi); (try clear ho0)) | ((with_reducible refine gate_callee (f := 33) rfl ?_); refine goesL_ (some 20) rfl rfl Try.func33 (by kernel_rfl) rfl #[.slice A2 l2.length c2] rfl (by (try simp only [List.map_toArray, List.map_cons, List.map_nil]); first | done | rfl | (simp only [List.length_drop, List.length_take]; rfl)) ?_; (with_reducible refine (epactlaw02_made.calls k _ _ l2 t1198 _ ?side1 ?side2 A6.out).mono ?_); (case side1 => repeat (first | exact (Kd.C_below HR2.out HB.out) | (with_reducible refine Kd.C_alloc ?_ _) | (with_reducible refine Kd.C_drewN ?_ _) | (with_reducible refine Kd.C_drew ?_))); (case side2 => exact HC2.out); clear A6; rintro e w12 ⟨v1199, rfl, ho0, hb⟩; refine ⟨_, rfl, ?_⟩; have n0_ := Aside0.mk (Kd.R_elder' (by (with_reducible repeat (first | apply Kd.R_alloc | apply Kd.R_drewN | apply Kd.R_drew)); exact HO1194.out) (Kd.R_base ho0) hb); have n1_ := Aside0.mk (Kd.R_elder' (by (with_reducible repeat (first | apply Kd.R_alloc | apply Kd.R_drewN | apply Kd.R_drew)); exact HO1197.out) (Kd.R_base ho0) hb); have n2_ := Aside0.mk (Kd.R_lower (Kd.R_new' (Kd.R_new' ho0 (Kd.R_lt (by (with_reducible repeat (first | apply Kd.R_alloc | apply Kd.R_drewN | apply Kd.R_drew)); exact HO1194.out))) (Kd.R_lt (by (with_reducible repeat (first | apply Kd.R_alloc | apply Kd.R_drewN | apply Kd.R_drew)); exact HO1197.out))) (below_size (by repeat (first | (with_reducible first | exact HB.out | apply below_alloc | apply pw_below_drewN | apply below_drew1) | exact HB.out)))); have n3_ := Aside0.mk (below_step (by repeat (first | (with_reducible first | exact HB.out | apply below_alloc | apply pw_below_drewN | apply below_drew1) | exact HB.out)) hb); clear HO1194; clear HO1197; clear HB; have HO1194 := n0_; have HO1197 := n1_; have HO1200 := n2_; have HB := n3_; clear n0_ n1_ n2_ n3_; (try clear hb); (try clear hb2); (try clear hk); (try clear hi); (try clear ho0); obtain ⟨Ao13, co13, eo13⟩ := Kd.R_slice HO1194.out; subst eo13) | ((with_reducible refine gate_callee (f := 43) rfl ?_); refine goesL_ (some 23) rfl rfl Try.func43 (by kernel_rfl) rfl #[.slice Ao13 t1192.length co13] rfl (by (try simp only [List.map_toArray, List.map_cons, List.map_nil]); first | done | rfl | (simp only [List.length_drop, List.length_take]; rfl)) ?_; (with_reducible refine (spans_Hull.calls _ _ t1192 t1201 t1202 t1203 _ ?side1 ?side2 A7.out).mono ?_); (case side1 => repeat (first | exact (Kd.R_reads' HO1194.out).2.2 | (with_reducible refine Kd.C_alloc ?_ _) | (with_reducible refine Kd.C_drewN ?_ _) | (with_reducible refine Kd.C_drew ?_))); (case side2 => exact (Kd.R_reads' HO1194.out).2.1); clear A7; rintro e w14 ⟨rfl, hb⟩; refine ⟨_, rfl, ?_⟩; have n0_ := Aside0.mk (Kd.R_below (by (with_reducible repeat (first | apply Kd.R_alloc | apply Kd.R_drewN | apply Kd.R_drew)); exact HO1194.out) hb); have n1_ := Aside0.mk (Kd.R_below (by (with_reducible repeat (first | apply Kd.R_alloc | apply Kd.R_drewN | apply Kd.R_drew)); exact HO1197.out) hb); have n2_ := Aside0.mk (Kd.R_below (by (with_reducible repeat (first | apply Kd.R_alloc | apply Kd.R_drewN | apply Kd.R_drew)); exact HO1200.out) hb); have n3_ := Aside0.mk (below_step (by repeat (first | (with_reducible first | exact HB.out | apply below_alloc | apply pw_below_drewN | apply below_drew1) | exact HB.out)) hb); clear HO1194; clear HO1197; clear HO1200; clear HB; have HO1194 := n0_; have HO1197 := n1_; have HO1200 := n2_; have HB := n3_; clear n0_ n1_ n2_ n3_; (try clear hb); (try clear hb2); (try clear hk); (try clear hi)) | ((with_reducible refine gate_dst (N := 10) rfl ?_); (try (refine gate_guard (by rfl) ?_; dsimp only)); refine box_event ?hg (N := 10) ?hd (cs := #[.int .i64 0, .int .i64 0]) (t := 23) ?hr ?_; (case hd => rfl); (case hg => rfl); (case hr => first | (go_simp; done) | (go_simp; rfl)); intro gb1204 hg w15 hbox hb; have n0_ := Aside0.mk (Kd.R_below (Kd.R_elderB (by (with_reducible repeat (first | apply Kd.R_alloc | apply Kd.R_drewN | apply Kd.R_drew)); exact HO1194.out) gb1204 (Nat.le_of_eq hg.symm)) hb); have n1_ := Aside0.mk (Kd.R_below (Kd.R_elderB (by (with_reducible repeat (first | apply Kd.R_alloc | apply Kd.R_drewN | apply Kd.R_drew)); exact HO1197.out) gb1204 (Nat.le_of_eq hg.symm)) hb); have n2_ := Aside0.mk (Kd.R_below (Kd.R_elderB (by (with_reducible repeat (first | apply Kd.R_alloc | apply Kd.R_drewN | apply Kd.R_drew)); exact HO1200.out) gb1204 (Nat.le_of_eq hg.symm)) hb); have n3_ := Aside0.mk (below_step (by repeat (first | (with_reducible first | exact HB.out | apply below_alloc | apply pw_below_drewN | apply below_drew1) | exact HB.out)) hb); have n4_ := Aside0.mk (hbox); have n5_ := Aside0.mk ((by rw [hg]; exact (below_size (by repeat (first | (with_reducible first | exact HB.out | apply below_alloc | apply pw_below_drewN | apply below_drew1) | exact HB.out))) : w.heap.size ≤ gb1204)); have n6_ := Aside0.mk ((by rw [hg]; exact (below_size (by repeat (first | (with_reducible first | exact HB.out | apply below_alloc | apply pw_below_drewN | apply below_drew1) | exact HB.out))) : w.heap.size ≤ gb1204)); clear HO1194; clear HO1197; clear HO1200; clear HB; have HO1194 := n0_; have HO1197 := n1_; have HO1200 := n2_; have HB := n3_; have BK1204 := n4_; have GW1204 := n5_; have GE1204 := n6_; clear n0_ n1_ n2_ n3_ n4_ n5_ n6_; clear hb hbox hg; have hcz16_0 : w15.cell? ⟨gb1204, 0, none⟩ = some (.int .i64 0) := (blk_cell BK1204.out 0).trans rfl; have hcz16_1 : w15.cell? ⟨gb1204, 1, none⟩ = some (.int .i64 0) := (blk_cell BK1204.out 1).trans rfl; have hfz16_0 := blk_frozen BK1204.out 0; have hfz16_1 := blk_frozen BK1204.out 1; obtain ⟨Ao17, co17, eo17⟩ := Kd.R_slice HO1197.out; subst eo17) | ((with_reducible refine gate_callee (f := 43) rfl ?_); refine goesL_ (some 28) rfl rfl Try.func43 (by kernel_rfl) rfl #[.slice Ao17 t1195.length co17] rfl (by (try simp only [List.map_toArray, List.map_cons, List.map_nil]); first | done | rfl | (simp only [List.length_drop, List.length_take]; rfl)) ?_; (with_reducible refine (spans_Hull.calls _ _ t1195 t1205 t1206 t1207 _ ?side1 ?side2 A8.out).mono ?_); (case side1 => refine (Kd.R_reads' (e := 23) (base := w.heap.size) (ok := fun k_ => (((True ∧ some k_ ≠ (.slice Ao13 t1192.length co13 : Value).ownBlock) ∧ some k_ ≠ (v1199 : Value).ownBlock) ∧ k_ ≠ gb1204)) (n := t1195.length) (c := co17) ?_).2.2; exact (by (with_reducible repeat (first | apply Kd.R_alloc | apply Kd.R_drewN | apply Kd.R_drew)); exact (Kd.R_mono (Kd.R_far (p := ⟨gb1204, 1, none⟩) (Kd.R_far (p := ⟨gb1204, 0, none⟩) (Kd.R_mono HO1197.out (fun k_ hk => (⟨hk, hk.2⟩ : _ ∧ k_ ≠ gb1204))) (fun _ hk => hk.2) (.int .i64 t1201)) (fun _ hk => hk.2) (.int .i64 t1202)) (fun _ h_ => h_.1)))); (case side2 => exact (Kd.R_reads' HO1197.out).2.1); clear A8; rintro e w18 ⟨rfl, hb⟩; refine ⟨_, rfl, ?_⟩; have n0_ := Aside0.mk (Kd.R_below (by (with_reducible repeat (first | apply Kd.R_alloc | apply Kd.R_drewN | apply Kd.R_drew)); exact (Kd.R_mono (Kd.R_far (p := ⟨gb1204, 1, none⟩) (Kd.R_far (p := ⟨gb1204, 0, none⟩) (Kd.R_mono HO1194.out (fun k_ hk => (⟨hk, hk.2⟩ : _ ∧ k_ ≠ gb1204))) (fun _ hk => hk.2) (.int .i64 t1201)) (fun _ hk => hk.2) (.int .i64 t1202)) (fun _ h_ => h_.1))) hb); have n1_ := Aside0.mk (Kd.R_below (by (with_reducible repeat (first | apply Kd.R_alloc | apply Kd.R_drewN | apply Kd.R_drew)); exact (Kd.R_mono (Kd.R_far (p := ⟨gb1204, 1, none⟩) (Kd.R_far (p := ⟨gb1204, 0, none⟩) (Kd.R_mono HO1197.out (fun k_ hk => (⟨hk, hk.2⟩ : _ ∧ k_ ≠ gb1204))) (fun _ hk => hk.2) (.int .i64 t1201)) (fun _ hk => hk.2) (.int .i64 t1202)) (fun _ h_ => h_.1))) hb); have n2_ := Aside0.mk (Kd.R_below (by (with_reducible repeat (first | apply Kd.R_alloc | apply Kd.R_drewN | apply Kd.R_drew)); exact (Kd.R_mono (Kd.R_far (p := ⟨gb1204, 1, none⟩) (Kd.R_far (p := ⟨gb1204, 0, none⟩) (Kd.R_mono HO1200.out (fun k_ hk => (⟨hk, hk.2⟩ : _ ∧ k_ ≠ gb1204))) (fun _ hk => hk.2) (.int .i64 t1201)) (fun _ hk => hk.2) (.int .i64 t1202)) (fun _ h_ => h_.1))) hb); have n3_ := Aside0.mk (blk_below (g := gb1204) (o := .cells #[.int .i64 t1201, .int .i64 t1202] 23 (0, 0)) (by (with_reducible repeat (first | refine blk_drewN ?_ _ | refine blk_drew ?_ | refine blk_alloc ?_ _)); refine blk_put (cs := #[.int .i64 t1201, .int .i64 0]) ?_ 1 _ rfl; (with_reducible repeat (first | refine blk_drewN ?_ _ | refine blk_drew ?_ | refine blk_alloc ?_ _)); refine blk_put (cs := #[.int .i64 0, .int .i64 0]) ?_ 0 _ rfl; (with_reducible repeat (first | refine blk_drewN ?_ _ | refine blk_drew ?_ | refine blk_alloc ?_ _)); exact BK1204.out) hb); have n4_ := Aside0.mk (below_step (by repeat (first | (with_reducible first | exact HB.out | apply below_alloc | apply pw_below_drewN | apply below_drew1 | refine below_set ?_ GE1204.out) | exact HB.out)) hb); clear HO1194; clear HO1197; clear HO1200; clear BK1204; clear HB; have HO1194 := n0_; have HO1197 := n1_; have HO1200 := n2_; have BK1204 := n3_; have HB := n4_; clear n0_ n1_ n2_ n3_ n4_; (try clear hb); (try clear hb2); (try clear hk); (try clear hi)) | ((with_reducible refine gate_dst (N := 12) rfl ?_); (try (refine gate_guard (by rfl) ?_; dsimp only)); refine box_event ?hg (N := 12) ?hd (cs := #[.int .i64 0, .int .i64 0]) (t := 23) ?hr ?_; (case hd => rfl); (case hg => rfl); (case hr => first | (go_simp; done) | (go_simp; rfl)); intro gb1208 hg w19 hbox hb; have n0_ := Aside0.mk (Kd.R_below (Kd.R_elderB (by (with_reducible repeat (first | apply Kd.R_alloc | apply Kd.R_drewN | apply Kd.R_drew)); exact HO1194.out) gb1208 (Nat.le_of_eq hg.symm)) hb); have n1_ := Aside0.mk (Kd.R_below (Kd.R_elderB (by (with_reducible repeat (first | apply Kd.R_alloc | apply Kd.R_drewN | apply Kd.R_drew)); exact HO1197.out) gb1208 (Nat.le_of_eq hg.symm)) hb); have n2_ := Aside0.mk (Kd.R_below (Kd.R_elderB (by (with_reducible repeat (first | apply Kd.R_alloc | apply Kd.R_drewN | apply Kd.R_drew)); exact HO1200.out) gb1208 (Nat.le_of_eq hg.symm)) hb); have n3_ := Aside0.mk (blk_below (g := gb1204) (o := .cells #[.int .i64 t1201, .int .i64 t1202] 23 (0, 0)) (by (with_reducible repeat (first | refine blk_drewN ?_ _ | refine blk_drew ?_ | refine blk_alloc ?_ _)); exact BK1204.out) hb); have n4_ := Aside0.mk (below_step (by repeat (first | (with_reducible first | exact HB.out | apply below_alloc | apply pw_below_drewN | apply below_drew1 | refine below_set ?_ GE1204.out) | exact HB.out)) hb); have n5_ := Aside0.mk (hbox); have n6_ := Aside0.mk ((by rw [hg]; exact (below_size (by repeat (first | (with_reducible first | exact HB.out | apply below_alloc | apply pw_below_drewN | apply below_drew1 | refine below_set ?_ GE1204.out) | exact HB.out))) : w.heap.size ≤ gb1208)); have n7_ := Aside0.mk ((by rw [hg]; exact (below_size (by repeat (first | (with_reducible first | exact HB.out | apply below_alloc | apply pw_below_drewN | apply below_drew1 | refine below_set ?_ GE1204.out) | exact HB.out))) : w.heap.size ≤ gb1208)); have n8_ := Aside0.mk ((by rw [hg]; exact Nat.ne_of_lt (blk_lt (g := gb1204) (o := .cells #[.int .i64 t1201, .int .i64 t1202] 23 (0, 0)) (by (with_reducible repeat (first | refine blk_drewN ?_ _ | refine blk_drew ?_ | refine blk_alloc ?_ _)); exact BK1204.out)) : gb1204 ≠ gb1208)); have n9_ := Aside0.mk ((by rw [hg]; exact Nat.ne_of_gt (blk_lt (g := gb1204) (o := .cells #[.int .i64 t1201, .int .i64 t1202] 23 (0, 0)) (by (with_reducible repeat (first | refine blk_drewN ?_ _ | refine blk_drew ?_ | refine blk_alloc ?_ _)); exact BK1204.out)) : gb1208 ≠ gb1204)); clear HO1194; clear HO1197; clear HO1200; clear BK1204; clear HB; have HO1194 := n0_; have HO1197 := n1_; have HO1200 := n2_; have BK1204 := n3_; have HB := n4_; have BK1208 := n5_; have GW1208 := n6_; have GE1208 := n7_; have NB1204_1208 := n8_; have NB1208_1204 := n9_; clear n0_ n1_ n2_ n3_ n4_ n5_ n6_ n7_ n8_ n9_; clear hb hbox hg; have hnb20 := NB1208_1204.out; have hnc20 := NB1204_1208.out; have hcz21_0 : w19.cell? ⟨gb1208, 0, none⟩ = some (.int .i64 0) := (blk_cell BK1208.out 0).trans rfl; have hcz21_1 : w19.cell? ⟨gb1208, 1, none⟩ = some (.int .i64 0) := (blk_cell BK1208.out 1).trans rfl; have hfz21_0 := blk_frozen BK1208.out 0; have hfz21_1 := blk_frozen BK1208.out 1))
  (try simp only [Act.put, List.setIfInBounds_toArray, List.set_cons_zero, List.set_cons_succ])
  go_cut [14] (fun v14 wc => ∃ (kq : Nat) (x14_8 : Bool), v14 = .bool x14_8 ∧ Aside0 (epactlaw02_SpansAhead.j0 kq t1192 t1195 t1198 t1203 x14_8 t1201 t1202 = some r) ∧ Aside0 (kq ≤ k) ∧ Aside0 (Kd.R k23 23 wc w.heap.size (fun k_ => some k_ ≠ ((.slice Ao17 t1195.length co17) : Value).ownBlock ∧ some k_ ≠ (v1199 : Value).ownBlock ∧ k_ ≠ gb1204 ∧ k_ ≠ gb1208) (.slice Ao13 t1192.length co13) t1192) ∧ Aside0 (Kd.R k23 23 wc w.heap.size (fun k_ => some k_ ≠ ((.slice Ao13 t1192.length co13) : Value).ownBlock ∧ some k_ ≠ (v1199 : Value).ownBlock ∧ k_ ≠ gb1204 ∧ k_ ≠ gb1208) (.slice Ao17 t1195.length co17) t1195) ∧ Aside0 (Kd.R k23 23 wc w.heap.size (fun k_ => some k_ ≠ ((.slice Ao13 t1192.length co13) : Value).ownBlock ∧ some k_ ≠ ((.slice Ao17 t1195.length co17) : Value).ownBlock ∧ k_ ≠ gb1204 ∧ k_ ≠ gb1208) v1199 t1198) ∧ Aside0 (wc.heap[gb1204]? = some (.cells #[.int .i64 t1201, .int .i64 t1202] 23 (0, 0))) ∧ Aside0 (wc.heap[gb1208]? = some (.cells #[.int .i64 t1205, .int .i64 t1206] 23 (0, 0))) ∧ Aside0 (Below w.heap.size w wc))
  case first =>
    have H := HC9.out
    clear HC9
    by_cases c22 : t1203 = true
    · subst c22
      have H1 : (if t1207 = true then (epactlaw02_SpansAhead.j0 k t1192 t1195 t1198 true (decide (t1202 < t1205)) t1201 t1202) else (epactlaw02_SpansAhead.j0 k t1192 t1195 t1198 true true t1201 t1202)) = some r := by rw [if_pos rfl] at H; exact H
      clear H
      have H := H1
      clear H1
      by_cases c23 : t1207 = true
      · subst c23
        have H1 : (epactlaw02_SpansAhead.j0 k t1192 t1195 t1198 true (decide (t1202 < t1205)) t1201 t1202) = some r := by rw [if_pos rfl] at H; exact H
        clear H
        have H := H1
        clear H1
        have H' := Aside0.mk H
        clear H
        have hnb24 := NB1204_1208.out
        have hnc24 := NB1208_1204.out
        have hcz25_0 : w19.cell? ⟨gb1204, 0, none⟩ = some (.int .i64 t1201) := (blk_cell BK1204.out 0).trans rfl
        have hcz25_1 : w19.cell? ⟨gb1204, 1, none⟩ = some (.int .i64 t1202) := (blk_cell BK1204.out 1).trans rfl
        have hfz25_0 := blk_frozen BK1204.out 0
        have hfz25_1 := blk_frozen BK1204.out 1
        have hcz26_0 : w19.cell? ⟨gb1208, 0, none⟩ = some (.int .i64 0) := (blk_cell BK1208.out 0).trans rfl
        have hcz26_1 : w19.cell? ⟨gb1208, 1, none⟩ = some (.int .i64 0) := (blk_cell BK1208.out 1).trans rfl
        have hfz26_0 := blk_frozen BK1208.out 0
        have hfz26_1 := blk_frozen BK1208.out 1
        go_wp2
        go_meet
        case rel => exact ⟨_, (decide (t1202 < t1205)), (by first | rfl | (simp; done) | (simp [*]; done)), H', ⟨by first | omega | exact Nat.le_refl _⟩, ⟨by (with_reducible repeat (first | apply Kd.R_alloc | apply Kd.R_drewN | apply Kd.R_drew)); exact Kd.R_mono (Kd.R_far (p := ⟨gb1208, 1, none⟩) (Kd.R_far (p := ⟨gb1208, 0, none⟩) (Kd.R_mono HO1194.out (fun k_ hk => (⟨hk, hk.2⟩ : _ ∧ k_ ≠ gb1208))) (fun _ hk => hk.2) (.int .i64 t1205)) (fun _ hk => hk.2) (.int .i64 t1206)) (fun _ hk => ⟨hk.1.1.1.1.2, ⟨hk.1.1.1.2, ⟨hk.1.1.2, hk.1.2⟩⟩⟩)⟩, ⟨by (with_reducible repeat (first | apply Kd.R_alloc | apply Kd.R_drewN | apply Kd.R_drew)); exact Kd.R_mono (Kd.R_far (p := ⟨gb1208, 1, none⟩) (Kd.R_far (p := ⟨gb1208, 0, none⟩) (Kd.R_mono HO1197.out (fun k_ hk => (⟨hk, hk.2⟩ : _ ∧ k_ ≠ gb1208))) (fun _ hk => hk.2) (.int .i64 t1205)) (fun _ hk => hk.2) (.int .i64 t1206)) (fun _ hk => ⟨hk.1.1.1.1.2, ⟨hk.1.1.1.2, ⟨hk.1.1.2, hk.1.2⟩⟩⟩)⟩, ⟨by (with_reducible repeat (first | apply Kd.R_alloc | apply Kd.R_drewN | apply Kd.R_drew)); exact Kd.R_mono (Kd.R_far (p := ⟨gb1208, 1, none⟩) (Kd.R_far (p := ⟨gb1208, 0, none⟩) (Kd.R_mono HO1200.out (fun k_ hk => (⟨hk, hk.2⟩ : _ ∧ k_ ≠ gb1208))) (fun _ hk => hk.2) (.int .i64 t1205)) (fun _ hk => hk.2) (.int .i64 t1206)) (fun _ hk => ⟨hk.1.1.1.1.2, ⟨hk.1.1.1.2, ⟨hk.1.1.2, hk.1.2⟩⟩⟩)⟩, ⟨by (with_reducible repeat (first | refine blk_drewN ?_ _ | refine blk_drew ?_ | refine blk_alloc ?_ _)); refine blk_far ?_ NB1204_1208.out _; (with_reducible repeat (first | refine blk_drewN ?_ _ | refine blk_drew ?_ | refine blk_alloc ?_ _)); refine blk_far ?_ NB1204_1208.out _; (with_reducible repeat (first | refine blk_drewN ?_ _ | refine blk_drew ?_ | refine blk_alloc ?_ _)); exact BK1204.out⟩, ⟨by (with_reducible repeat (first | refine blk_drewN ?_ _ | refine blk_drew ?_ | refine blk_alloc ?_ _)); refine blk_put (cs := #[.int .i64 t1205, .int .i64 0]) ?_ 1 _ rfl; (with_reducible repeat (first | refine blk_drewN ?_ _ | refine blk_drew ?_ | refine blk_alloc ?_ _)); refine blk_put (cs := #[.int .i64 0, .int .i64 0]) ?_ 0 _ rfl; (with_reducible repeat (first | refine blk_drewN ?_ _ | refine blk_drew ?_ | refine blk_alloc ?_ _)); exact BK1208.out⟩, ⟨by repeat (first | (with_reducible first | exact HB.out | apply below_alloc | apply pw_below_drewN | apply below_drew1 | refine below_set ?_ GE1204.out | refine below_set ?_ GE1208.out) | exact HB.out)⟩⟩
      · replace c23 := Bool.eq_false_iff.mpr c23
        subst c23
        have H1 : (epactlaw02_SpansAhead.j0 k t1192 t1195 t1198 true true t1201 t1202) = some r := by rw [if_neg (show ¬ (false = true) by decide)] at H; exact H
        clear H
        have H := H1
        clear H1
        have H' := Aside0.mk H
        clear H
        go_wp2
        go_meet
        case rel => exact ⟨_, (true), (by first | rfl | (simp; done) | (simp [*]; done)), H', ⟨by first | omega | exact Nat.le_refl _⟩, ⟨by (with_reducible repeat (first | apply Kd.R_alloc | apply Kd.R_drewN | apply Kd.R_drew)); exact Kd.R_mono (Kd.R_far (p := ⟨gb1208, 1, none⟩) (Kd.R_far (p := ⟨gb1208, 0, none⟩) (Kd.R_mono HO1194.out (fun k_ hk => (⟨hk, hk.2⟩ : _ ∧ k_ ≠ gb1208))) (fun _ hk => hk.2) (.int .i64 t1205)) (fun _ hk => hk.2) (.int .i64 t1206)) (fun _ hk => ⟨hk.1.1.1.1.2, ⟨hk.1.1.1.2, ⟨hk.1.1.2, hk.1.2⟩⟩⟩)⟩, ⟨by (with_reducible repeat (first | apply Kd.R_alloc | apply Kd.R_drewN | apply Kd.R_drew)); exact Kd.R_mono (Kd.R_far (p := ⟨gb1208, 1, none⟩) (Kd.R_far (p := ⟨gb1208, 0, none⟩) (Kd.R_mono HO1197.out (fun k_ hk => (⟨hk, hk.2⟩ : _ ∧ k_ ≠ gb1208))) (fun _ hk => hk.2) (.int .i64 t1205)) (fun _ hk => hk.2) (.int .i64 t1206)) (fun _ hk => ⟨hk.1.1.1.1.2, ⟨hk.1.1.1.2, ⟨hk.1.1.2, hk.1.2⟩⟩⟩)⟩, ⟨by (with_reducible repeat (first | apply Kd.R_alloc | apply Kd.R_drewN | apply Kd.R_drew)); exact Kd.R_mono (Kd.R_far (p := ⟨gb1208, 1, none⟩) (Kd.R_far (p := ⟨gb1208, 0, none⟩) (Kd.R_mono HO1200.out (fun k_ hk => (⟨hk, hk.2⟩ : _ ∧ k_ ≠ gb1208))) (fun _ hk => hk.2) (.int .i64 t1205)) (fun _ hk => hk.2) (.int .i64 t1206)) (fun _ hk => ⟨hk.1.1.1.1.2, ⟨hk.1.1.1.2, ⟨hk.1.1.2, hk.1.2⟩⟩⟩)⟩, ⟨by (with_reducible repeat (first | refine blk_drewN ?_ _ | refine blk_drew ?_ | refine blk_alloc ?_ _)); refine blk_far ?_ NB1204_1208.out _; (with_reducible repeat (first | refine blk_drewN ?_ _ | refine blk_drew ?_ | refine blk_alloc ?_ _)); refine blk_far ?_ NB1204_1208.out _; (with_reducible repeat (first | refine blk_drewN ?_ _ | refine blk_drew ?_ | refine blk_alloc ?_ _)); exact BK1204.out⟩, ⟨by (with_reducible repeat (first | refine blk_drewN ?_ _ | refine blk_drew ?_ | refine blk_alloc ?_ _)); refine blk_put (cs := #[.int .i64 t1205, .int .i64 0]) ?_ 1 _ rfl; (with_reducible repeat (first | refine blk_drewN ?_ _ | refine blk_drew ?_ | refine blk_alloc ?_ _)); refine blk_put (cs := #[.int .i64 0, .int .i64 0]) ?_ 0 _ rfl; (with_reducible repeat (first | refine blk_drewN ?_ _ | refine blk_drew ?_ | refine blk_alloc ?_ _)); exact BK1208.out⟩, ⟨by repeat (first | (with_reducible first | exact HB.out | apply below_alloc | apply pw_below_drewN | apply below_drew1 | refine below_set ?_ GE1204.out | refine below_set ?_ GE1208.out) | exact HB.out)⟩⟩
    · replace c22 := Bool.eq_false_iff.mpr c22
      subst c22
      have H1 : (epactlaw02_SpansAhead.j0 k t1192 t1195 t1198 false true t1201 t1202) = some r := by rw [if_neg (show ¬ (false = true) by decide)] at H; exact H
      clear H
      have H := H1
      clear H1
      have H' := Aside0.mk H
      clear H
      go_wp2
      go_meet
      case rel => exact ⟨_, (true), (by first | rfl | (simp; done) | (simp [*]; done)), H', ⟨by first | omega | exact Nat.le_refl _⟩, ⟨by (with_reducible repeat (first | apply Kd.R_alloc | apply Kd.R_drewN | apply Kd.R_drew)); exact Kd.R_mono (Kd.R_far (p := ⟨gb1208, 1, none⟩) (Kd.R_far (p := ⟨gb1208, 0, none⟩) (Kd.R_mono HO1194.out (fun k_ hk => (⟨hk, hk.2⟩ : _ ∧ k_ ≠ gb1208))) (fun _ hk => hk.2) (.int .i64 t1205)) (fun _ hk => hk.2) (.int .i64 t1206)) (fun _ hk => ⟨hk.1.1.1.1.2, ⟨hk.1.1.1.2, ⟨hk.1.1.2, hk.1.2⟩⟩⟩)⟩, ⟨by (with_reducible repeat (first | apply Kd.R_alloc | apply Kd.R_drewN | apply Kd.R_drew)); exact Kd.R_mono (Kd.R_far (p := ⟨gb1208, 1, none⟩) (Kd.R_far (p := ⟨gb1208, 0, none⟩) (Kd.R_mono HO1197.out (fun k_ hk => (⟨hk, hk.2⟩ : _ ∧ k_ ≠ gb1208))) (fun _ hk => hk.2) (.int .i64 t1205)) (fun _ hk => hk.2) (.int .i64 t1206)) (fun _ hk => ⟨hk.1.1.1.1.2, ⟨hk.1.1.1.2, ⟨hk.1.1.2, hk.1.2⟩⟩⟩)⟩, ⟨by (with_reducible repeat (first | apply Kd.R_alloc | apply Kd.R_drewN | apply Kd.R_drew)); exact Kd.R_mono (Kd.R_far (p := ⟨gb1208, 1, none⟩) (Kd.R_far (p := ⟨gb1208, 0, none⟩) (Kd.R_mono HO1200.out (fun k_ hk => (⟨hk, hk.2⟩ : _ ∧ k_ ≠ gb1208))) (fun _ hk => hk.2) (.int .i64 t1205)) (fun _ hk => hk.2) (.int .i64 t1206)) (fun _ hk => ⟨hk.1.1.1.1.2, ⟨hk.1.1.1.2, ⟨hk.1.1.2, hk.1.2⟩⟩⟩)⟩, ⟨by (with_reducible repeat (first | refine blk_drewN ?_ _ | refine blk_drew ?_ | refine blk_alloc ?_ _)); refine blk_far ?_ NB1204_1208.out _; (with_reducible repeat (first | refine blk_drewN ?_ _ | refine blk_drew ?_ | refine blk_alloc ?_ _)); refine blk_far ?_ NB1204_1208.out _; (with_reducible repeat (first | refine blk_drewN ?_ _ | refine blk_drew ?_ | refine blk_alloc ?_ _)); exact BK1204.out⟩, ⟨by (with_reducible repeat (first | refine blk_drewN ?_ _ | refine blk_drew ?_ | refine blk_alloc ?_ _)); refine blk_put (cs := #[.int .i64 t1205, .int .i64 0]) ?_ 1 _ rfl; (with_reducible repeat (first | refine blk_drewN ?_ _ | refine blk_drew ?_ | refine blk_alloc ?_ _)); refine blk_put (cs := #[.int .i64 0, .int .i64 0]) ?_ 0 _ rfl; (with_reducible repeat (first | refine blk_drewN ?_ _ | refine blk_drew ?_ | refine blk_alloc ?_ _)); exact BK1208.out⟩, ⟨by repeat (first | (with_reducible first | exact HB.out | apply below_alloc | apply pw_below_drewN | apply below_drew1 | refine below_set ?_ GE1204.out | refine below_set ?_ GE1208.out) | exact HB.out)⟩⟩
  case rest =>
    clear HC9
    try clear c1
    try clear c2
    try clear p2
    try clear c3
    try clear c4
    try clear c10
    try clear c20
    try clear c22
    try clear c23
    try clear c24
    try clear hcz16_0
    try clear hcz16_1
    try clear hcz21_0
    try clear hcz21_1
    try clear hcz25_0
    try clear hcz25_1
    try clear hcz26_0
    try clear hcz26_1
    try clear hfz16_0
    try clear hfz16_1
    try clear hfz21_0
    try clear hfz21_1
    try clear hfz25_0
    try clear hfz25_1
    try clear hfz26_0
    try clear hfz26_1
    obtain ⟨kq, x14_8, rfl, HA, HJ8, HO_7, HO_8, HO_9, BK1204, BK1208, HB⟩ := hcut
    cases kq with
    | zero => exact absurd HA.out (by simp [epactlaw02_SpansAhead.j0])
    | succ kj8 =>
      have H := HA.out
      clear HA
      simp only [epactlaw02_SpansAhead.j0] at H
      have HC27 := Aside0.mk H
      clear H
      go_upto_region 5 with (fail)
      go_cut [77] (fun v77 wc => ∃ (kq : Nat) (x77_26 : Bool), v77 = .bool x77_26 ∧ Aside0 (epactlaw02_SpansAhead.j1 kq t1192 t1195 t1203 x77_26 t1201 t1202 = some r) ∧ Aside0 (kq ≤ kj8) ∧ Aside0 (Kd.R k23 23 wc w.heap.size (fun k_ => some k_ ≠ ((.slice Ao17 t1195.length co17) : Value).ownBlock ∧ k_ ≠ gb1204 ∧ k_ ≠ gb1208) (.slice Ao13 t1192.length co13) t1192) ∧ Aside0 (Kd.R k23 23 wc w.heap.size (fun k_ => some k_ ≠ ((.slice Ao13 t1192.length co13) : Value).ownBlock ∧ k_ ≠ gb1204 ∧ k_ ≠ gb1208) (.slice Ao17 t1195.length co17) t1195) ∧ Aside0 (wc.heap[gb1204]? = some (.cells #[.int .i64 t1201, .int .i64 t1202] 23 (0, 0))) ∧ Aside0 (wc.heap[gb1208]? = some (.cells #[.int .i64 t1205, .int .i64 t1206] 23 (0, 0))) ∧ Aside0 (Below w.heap.size w wc))
      case first =>
        have H := HC27.out
        clear HC27
        replace H := Option.bind_eq_some_iff.mp H
        obtain ⟨t1519, A280, H⟩ := H
        replace H : (if (t1519 != x14_8) = true then (none) else (if x14_8 = true then ((spans_Meet.f t1192 t1195).bind fun t1520 => (if t1520 = true then (none) else (if (t1195.length : Int) > 0 then ((spans_Ahead.f t1192 t1195).bind fun t1521 => (if t1521 = true then ((spans_Ahead.f t1195 t1198).bind fun t1522 => (if t1522 = true then ((spans_Ahead.f t1192 t1198).bind fun t1523 => (epactlaw02_SpansAhead.j1 kj8 t1192 t1195 t1203 (!t1523) t1201 t1202)) else (epactlaw02_SpansAhead.j1 kj8 t1192 t1195 t1203 false t1201 t1202))) else (epactlaw02_SpansAhead.j1 kj8 t1192 t1195 t1203 false t1201 t1202))) else (epactlaw02_SpansAhead.j1 kj8 t1192 t1195 t1203 false t1201 t1202)))) else (if (t1195.length : Int) > 0 then ((spans_Ahead.f t1192 t1195).bind fun t1524 => (if t1524 = true then ((spans_Ahead.f t1195 t1198).bind fun t1525 => (if t1525 = true then ((spans_Ahead.f t1192 t1198).bind fun t1526 => (epactlaw02_SpansAhead.j1 kj8 t1192 t1195 t1203 (!t1526) t1201 t1202)) else (epactlaw02_SpansAhead.j1 kj8 t1192 t1195 t1203 false t1201 t1202))) else (epactlaw02_SpansAhead.j1 kj8 t1192 t1195 t1203 false t1201 t1202))) else (epactlaw02_SpansAhead.j1 kj8 t1192 t1195 t1203 false t1201 t1202)))) = some r := H
        have A28 := Aside0.mk A280
        clear A280
        by_cases c29 : (t1519 != x14_8) = true
        · rw [if_pos c29] at H
          exact absurd H (by simp)
        · rw [if_neg c29] at H
          have c29b0 : (t1519 != x14_8) = false := by simpa using c29
          (try (have c29b1 : decide (t1519 = x14_8) = true := by simpa using c29))
          (try (have c29b2 : (t1519 == x14_8) = true := by simpa using c29))
          clear c29
          (first | rw [c29b0] | (simp only [i64_w, i32_w]; rw [c29b0]) | skip)
          by_cases c30 : x14_8 = true
          · subst c30
            have H1 : ((spans_Meet.f t1192 t1195).bind fun t1520 => (if t1520 = true then (none) else (if (t1195.length : Int) > 0 then ((spans_Ahead.f t1192 t1195).bind fun t1521 => (if t1521 = true then ((spans_Ahead.f t1195 t1198).bind fun t1522 => (if t1522 = true then ((spans_Ahead.f t1192 t1198).bind fun t1523 => (epactlaw02_SpansAhead.j1 kj8 t1192 t1195 t1203 (!t1523) t1201 t1202)) else (epactlaw02_SpansAhead.j1 kj8 t1192 t1195 t1203 false t1201 t1202))) else (epactlaw02_SpansAhead.j1 kj8 t1192 t1195 t1203 false t1201 t1202))) else (epactlaw02_SpansAhead.j1 kj8 t1192 t1195 t1203 false t1201 t1202)))) = some r := by rw [if_pos rfl] at H; exact H
            clear H
            have H := H1
            clear H1
            replace H := Option.bind_eq_some_iff.mp H
            obtain ⟨t1520, A310, H⟩ := H
            replace H : (if t1520 = true then (none) else (if (t1195.length : Int) > 0 then ((spans_Ahead.f t1192 t1195).bind fun t1521 => (if t1521 = true then ((spans_Ahead.f t1195 t1198).bind fun t1522 => (if t1522 = true then ((spans_Ahead.f t1192 t1198).bind fun t1523 => (epactlaw02_SpansAhead.j1 kj8 t1192 t1195 t1203 (!t1523) t1201 t1202)) else (epactlaw02_SpansAhead.j1 kj8 t1192 t1195 t1203 false t1201 t1202))) else (epactlaw02_SpansAhead.j1 kj8 t1192 t1195 t1203 false t1201 t1202))) else (epactlaw02_SpansAhead.j1 kj8 t1192 t1195 t1203 false t1201 t1202))) = some r := H
            have A31 := Aside0.mk A310
            clear A310
            by_cases c32 : t1520 = true
            · subst c32
              have H1 : (none) = some r := by rw [if_pos rfl] at H; exact H
              clear H
              have H := H1
              clear H1
              exact absurd H (by simp)
            · replace c32 := Bool.eq_false_iff.mpr c32
              subst c32
              have H1 : (if (t1195.length : Int) > 0 then ((spans_Ahead.f t1192 t1195).bind fun t1521 => (if t1521 = true then ((spans_Ahead.f t1195 t1198).bind fun t1522 => (if t1522 = true then ((spans_Ahead.f t1192 t1198).bind fun t1523 => (epactlaw02_SpansAhead.j1 kj8 t1192 t1195 t1203 (!t1523) t1201 t1202)) else (epactlaw02_SpansAhead.j1 kj8 t1192 t1195 t1203 false t1201 t1202))) else (epactlaw02_SpansAhead.j1 kj8 t1192 t1195 t1203 false t1201 t1202))) else (epactlaw02_SpansAhead.j1 kj8 t1192 t1195 t1203 false t1201 t1202)) = some r := by rw [if_neg (show ¬ (false = true) by decide)] at H; exact H
              clear H
              have H := H1
              clear H1
              by_cases c33 : (t1195.length : Int) > 0
              · rw [if_pos c33] at H
                have c33b0 : decide (0 < (t1195.length : Int)) = true := decide_eq_true c33
                have c33b1 : decide (0 < t1195.length) = true := decide_eq_true (by omega)
                clear c33
                replace H := Option.bind_eq_some_iff.mp H
                obtain ⟨t1521, A340, H⟩ := H
                replace H : (if t1521 = true then ((spans_Ahead.f t1195 t1198).bind fun t1522 => (if t1522 = true then ((spans_Ahead.f t1192 t1198).bind fun t1523 => (epactlaw02_SpansAhead.j1 kj8 t1192 t1195 t1203 (!t1523) t1201 t1202)) else (epactlaw02_SpansAhead.j1 kj8 t1192 t1195 t1203 false t1201 t1202))) else (epactlaw02_SpansAhead.j1 kj8 t1192 t1195 t1203 false t1201 t1202)) = some r := H
                have A34 := Aside0.mk A340
                clear A340
                by_cases c35 : t1521 = true
                · subst c35
                  have H1 : ((spans_Ahead.f t1195 t1198).bind fun t1522 => (if t1522 = true then ((spans_Ahead.f t1192 t1198).bind fun t1523 => (epactlaw02_SpansAhead.j1 kj8 t1192 t1195 t1203 (!t1523) t1201 t1202)) else (epactlaw02_SpansAhead.j1 kj8 t1192 t1195 t1203 false t1201 t1202))) = some r := by rw [if_pos rfl] at H; exact H
                  clear H
                  have H := H1
                  clear H1
                  replace H := Option.bind_eq_some_iff.mp H
                  obtain ⟨t1522, A360, H⟩ := H
                  replace H : (if t1522 = true then ((spans_Ahead.f t1192 t1198).bind fun t1523 => (epactlaw02_SpansAhead.j1 kj8 t1192 t1195 t1203 (!t1523) t1201 t1202)) else (epactlaw02_SpansAhead.j1 kj8 t1192 t1195 t1203 false t1201 t1202)) = some r := H
                  have A36 := Aside0.mk A360
                  clear A360
                  by_cases c37 : t1522 = true
                  · subst c37
                    have H1 : ((spans_Ahead.f t1192 t1198).bind fun t1523 => (epactlaw02_SpansAhead.j1 kj8 t1192 t1195 t1203 (!t1523) t1201 t1202)) = some r := by rw [if_pos rfl] at H; exact H
                    clear H
                    have H := H1
                    clear H1
                    replace H := Option.bind_eq_some_iff.mp H
                    obtain ⟨t1523, A380, H⟩ := H
                    replace H : (epactlaw02_SpansAhead.j1 kj8 t1192 t1195 t1203 (!t1523) t1201 t1202) = some r := H
                    have A38 := Aside0.mk A380
                    clear A380
                    have H' := Aside0.mk H
                    clear H
                    go_wp2_with (first | ((with_reducible refine gate_callee (f := 42) rfl ?_); refine goesL_ (some 46) rfl rfl Try.func42 (by kernel_rfl) rfl #[.slice Ao13 t1192.length co13, .slice Ao17 t1195.length co17] rfl (by (try simp only [List.map_toArray, List.map_cons, List.map_nil]); first | done | rfl | (simp only [List.length_drop, List.length_take]; rfl)) ?_; (with_reducible refine (spans_Ahead.calls _ _ t1192 _ _ t1195 t1519 _ ?side1 ?side2 ?side3 ?side4 A28.out).mono ?_); (case side1 => repeat (first | exact (Kd.R_reads' HO_7.out).2.2 | (with_reducible refine Kd.C_alloc ?_ _) | (with_reducible refine Kd.C_drewN ?_ _) | (with_reducible refine Kd.C_drew ?_))); (case side2 => exact (Kd.R_reads' HO_7.out).2.1); (case side3 => repeat (first | exact (Kd.R_reads' HO_8.out).2.2 | (with_reducible refine Kd.C_alloc ?_ _) | (with_reducible refine Kd.C_drewN ?_ _) | (with_reducible refine Kd.C_drew ?_))); (case side4 => exact (Kd.R_reads' HO_8.out).2.1); clear A28; rintro e w' ⟨rfl, ⟨nd, rfl⟩⟩; refine ⟨_, rfl, ?_⟩) | (go_at_call 38; (with_reducible refine (spans_Meet.calls _ _ t1192 _ _ t1195 false _ ?side1 ?side2 ?side3 ?side4 A31.out).mono ?_); (case side1 => repeat (first | exact (Kd.R_reads' HO_7.out).2.2 | (with_reducible refine Kd.C_alloc ?_ _) | (with_reducible refine Kd.C_drewN ?_ _) | (with_reducible refine Kd.C_drew ?_))); (case side2 => exact (Kd.R_reads' HO_7.out).2.1); (case side3 => repeat (first | exact (Kd.R_reads' HO_8.out).2.2 | (with_reducible refine Kd.C_alloc ?_ _) | (with_reducible refine Kd.C_drewN ?_ _) | (with_reducible refine Kd.C_drew ?_))); (case side4 => exact (Kd.R_reads' HO_8.out).2.1); clear A31; rintro e w39 ⟨rfl, hb⟩; have n0_ := Aside0.mk (Kd.R_below (by (with_reducible repeat (first | apply Kd.R_alloc | apply Kd.R_drewN | apply Kd.R_drew)); exact HO_7.out) hb); have n1_ := Aside0.mk (Kd.R_below (by (with_reducible repeat (first | apply Kd.R_alloc | apply Kd.R_drewN | apply Kd.R_drew)); exact HO_8.out) hb); have n2_ := Aside0.mk (Kd.R_below (by (with_reducible repeat (first | apply Kd.R_alloc | apply Kd.R_drewN | apply Kd.R_drew)); exact HO_9.out) hb); have n3_ := Aside0.mk (blk_below (g := gb1204) (o := .cells #[.int .i64 t1201, .int .i64 t1202] 23 (0, 0)) (by (with_reducible repeat (first | refine blk_drewN ?_ _ | refine blk_drew ?_ | refine blk_alloc ?_ _)); exact BK1204.out) hb); have n4_ := Aside0.mk (blk_below (g := gb1208) (o := .cells #[.int .i64 t1205, .int .i64 t1206] 23 (0, 0)) (by (with_reducible repeat (first | refine blk_drewN ?_ _ | refine blk_drew ?_ | refine blk_alloc ?_ _)); exact BK1208.out) hb); have n5_ := Aside0.mk (below_step (by repeat (first | (with_reducible first | exact HB.out | apply below_alloc | apply pw_below_drewN | apply below_drew1 | refine below_set ?_ GE1204.out | refine below_set ?_ GE1208.out) | exact HB.out)) hb); clear HO_7; clear HO_8; clear HO_9; clear BK1204; clear BK1208; clear HB; have HO_7 := n0_; have HO_8 := n1_; have HO_9 := n2_; have BK1204 := n3_; have BK1208 := n4_; have HB := n5_; clear n0_ n1_ n2_ n3_ n4_ n5_; (try clear hb); (try clear hb2); (try clear hk); (try clear hi)) | (go_at_call 42; (with_reducible refine (spans_Ahead.calls _ _ t1192 _ _ t1195 true _ ?side1 ?side2 ?side3 ?side4 A34.out).mono ?_); (case side1 => repeat (first | exact (Kd.R_reads' HO_7.out).2.2 | (with_reducible refine Kd.C_alloc ?_ _) | (with_reducible refine Kd.C_drewN ?_ _) | (with_reducible refine Kd.C_drew ?_))); (case side2 => exact (Kd.R_reads' HO_7.out).2.1); (case side3 => repeat (first | exact (Kd.R_reads' HO_8.out).2.2 | (with_reducible refine Kd.C_alloc ?_ _) | (with_reducible refine Kd.C_drewN ?_ _) | (with_reducible refine Kd.C_drew ?_))); (case side4 => exact (Kd.R_reads' HO_8.out).2.1); clear A34; rintro e w' ⟨rfl, ⟨nd, rfl⟩⟩; obtain ⟨Ao40, co40, eo40⟩ := Kd.R_slice HO_9.out; subst eo40) | (go_at_call 42; (with_reducible refine (spans_Ahead.calls _ _ t1195 _ _ t1198 true _ ?side1 ?side2 ?side3 ?side4 A36.out).mono ?_); (case side1 => repeat (first | exact (Kd.R_reads' HO_8.out).2.2 | (with_reducible refine Kd.C_alloc ?_ _) | (with_reducible refine Kd.C_drewN ?_ _) | (with_reducible refine Kd.C_drew ?_))); (case side2 => exact (Kd.R_reads' HO_8.out).2.1); (case side3 => repeat (first | exact (Kd.R_reads' HO_9.out).2.2 | (with_reducible refine Kd.C_alloc ?_ _) | (with_reducible refine Kd.C_drewN ?_ _) | (with_reducible refine Kd.C_drew ?_))); (case side4 => exact (Kd.R_reads' HO_9.out).2.1); clear A36; rintro e w' ⟨rfl, ⟨nd, rfl⟩⟩) | (go_at_call 42; (with_reducible refine (spans_Ahead.calls _ _ t1192 _ _ t1198 t1523 _ ?side1 ?side2 ?side3 ?side4 A38.out).mono ?_); (case side1 => repeat (first | exact (Kd.R_reads' HO_7.out).2.2 | (with_reducible refine Kd.C_alloc ?_ _) | (with_reducible refine Kd.C_drewN ?_ _) | (with_reducible refine Kd.C_drew ?_))); (case side2 => exact (Kd.R_reads' HO_7.out).2.1); (case side3 => repeat (first | exact (Kd.R_reads' HO_9.out).2.2 | (with_reducible refine Kd.C_alloc ?_ _) | (with_reducible refine Kd.C_drewN ?_ _) | (with_reducible refine Kd.C_drew ?_))); (case side4 => exact (Kd.R_reads' HO_9.out).2.1); clear A38; rintro e w' ⟨rfl, ⟨nd, rfl⟩⟩))
                    go_meet
                    case rel => exact ⟨_, (!t1523), (by first | rfl | (simp; done) | (simp [*]; done)), H', ⟨by have := HJ8.out; first | omega | exact Nat.le_refl _⟩, ⟨by (with_reducible repeat (first | apply Kd.R_alloc | apply Kd.R_drewN | apply Kd.R_drew)); exact Kd.R_mono HO_7.out (fun _ hk => ⟨hk.1, ⟨hk.2.2.1, hk.2.2.2⟩⟩)⟩, ⟨by (with_reducible repeat (first | apply Kd.R_alloc | apply Kd.R_drewN | apply Kd.R_drew)); exact Kd.R_mono HO_8.out (fun _ hk => ⟨hk.1, ⟨hk.2.2.1, hk.2.2.2⟩⟩)⟩, ⟨by (with_reducible repeat (first | refine blk_drewN ?_ _ | refine blk_drew ?_ | refine blk_alloc ?_ _)); exact BK1204.out⟩, ⟨by (with_reducible repeat (first | refine blk_drewN ?_ _ | refine blk_drew ?_ | refine blk_alloc ?_ _)); exact BK1208.out⟩, ⟨by repeat (first | (with_reducible first | exact HB.out | apply below_alloc | apply pw_below_drewN | apply below_drew1 | refine below_set ?_ GE1204.out | refine below_set ?_ GE1208.out) | exact HB.out)⟩⟩
                  · replace c37 := Bool.eq_false_iff.mpr c37
                    subst c37
                    have H1 : (epactlaw02_SpansAhead.j1 kj8 t1192 t1195 t1203 false t1201 t1202) = some r := by rw [if_neg (show ¬ (false = true) by decide)] at H; exact H
                    clear H
                    have H := H1
                    clear H1
                    have H' := Aside0.mk H
                    clear H
                    go_wp2_with (first | ((with_reducible refine gate_callee (f := 42) rfl ?_); refine goesL_ (some 46) rfl rfl Try.func42 (by kernel_rfl) rfl #[.slice Ao13 t1192.length co13, .slice Ao17 t1195.length co17] rfl (by (try simp only [List.map_toArray, List.map_cons, List.map_nil]); first | done | rfl | (simp only [List.length_drop, List.length_take]; rfl)) ?_; (with_reducible refine (spans_Ahead.calls _ _ t1192 _ _ t1195 t1519 _ ?side1 ?side2 ?side3 ?side4 A28.out).mono ?_); (case side1 => repeat (first | exact (Kd.R_reads' HO_7.out).2.2 | (with_reducible refine Kd.C_alloc ?_ _) | (with_reducible refine Kd.C_drewN ?_ _) | (with_reducible refine Kd.C_drew ?_))); (case side2 => exact (Kd.R_reads' HO_7.out).2.1); (case side3 => repeat (first | exact (Kd.R_reads' HO_8.out).2.2 | (with_reducible refine Kd.C_alloc ?_ _) | (with_reducible refine Kd.C_drewN ?_ _) | (with_reducible refine Kd.C_drew ?_))); (case side4 => exact (Kd.R_reads' HO_8.out).2.1); clear A28; rintro e w' ⟨rfl, ⟨nd, rfl⟩⟩; refine ⟨_, rfl, ?_⟩) | (go_at_call 38; (with_reducible refine (spans_Meet.calls _ _ t1192 _ _ t1195 false _ ?side1 ?side2 ?side3 ?side4 A31.out).mono ?_); (case side1 => repeat (first | exact (Kd.R_reads' HO_7.out).2.2 | (with_reducible refine Kd.C_alloc ?_ _) | (with_reducible refine Kd.C_drewN ?_ _) | (with_reducible refine Kd.C_drew ?_))); (case side2 => exact (Kd.R_reads' HO_7.out).2.1); (case side3 => repeat (first | exact (Kd.R_reads' HO_8.out).2.2 | (with_reducible refine Kd.C_alloc ?_ _) | (with_reducible refine Kd.C_drewN ?_ _) | (with_reducible refine Kd.C_drew ?_))); (case side4 => exact (Kd.R_reads' HO_8.out).2.1); clear A31; rintro e w41 ⟨rfl, hb⟩; have n0_ := Aside0.mk (Kd.R_below (by (with_reducible repeat (first | apply Kd.R_alloc | apply Kd.R_drewN | apply Kd.R_drew)); exact HO_7.out) hb); have n1_ := Aside0.mk (Kd.R_below (by (with_reducible repeat (first | apply Kd.R_alloc | apply Kd.R_drewN | apply Kd.R_drew)); exact HO_8.out) hb); have n2_ := Aside0.mk (Kd.R_below (by (with_reducible repeat (first | apply Kd.R_alloc | apply Kd.R_drewN | apply Kd.R_drew)); exact HO_9.out) hb); have n3_ := Aside0.mk (blk_below (g := gb1204) (o := .cells #[.int .i64 t1201, .int .i64 t1202] 23 (0, 0)) (by (with_reducible repeat (first | refine blk_drewN ?_ _ | refine blk_drew ?_ | refine blk_alloc ?_ _)); exact BK1204.out) hb); have n4_ := Aside0.mk (blk_below (g := gb1208) (o := .cells #[.int .i64 t1205, .int .i64 t1206] 23 (0, 0)) (by (with_reducible repeat (first | refine blk_drewN ?_ _ | refine blk_drew ?_ | refine blk_alloc ?_ _)); exact BK1208.out) hb); have n5_ := Aside0.mk (below_step (by repeat (first | (with_reducible first | exact HB.out | apply below_alloc | apply pw_below_drewN | apply below_drew1 | refine below_set ?_ GE1204.out | refine below_set ?_ GE1208.out) | exact HB.out)) hb); clear HO_7; clear HO_8; clear HO_9; clear BK1204; clear BK1208; clear HB; have HO_7 := n0_; have HO_8 := n1_; have HO_9 := n2_; have BK1204 := n3_; have BK1208 := n4_; have HB := n5_; clear n0_ n1_ n2_ n3_ n4_ n5_; (try clear hb); (try clear hb2); (try clear hk); (try clear hi)) | (go_at_call 42; (with_reducible refine (spans_Ahead.calls _ _ t1192 _ _ t1195 true _ ?side1 ?side2 ?side3 ?side4 A34.out).mono ?_); (case side1 => repeat (first | exact (Kd.R_reads' HO_7.out).2.2 | (with_reducible refine Kd.C_alloc ?_ _) | (with_reducible refine Kd.C_drewN ?_ _) | (with_reducible refine Kd.C_drew ?_))); (case side2 => exact (Kd.R_reads' HO_7.out).2.1); (case side3 => repeat (first | exact (Kd.R_reads' HO_8.out).2.2 | (with_reducible refine Kd.C_alloc ?_ _) | (with_reducible refine Kd.C_drewN ?_ _) | (with_reducible refine Kd.C_drew ?_))); (case side4 => exact (Kd.R_reads' HO_8.out).2.1); clear A34; rintro e w' ⟨rfl, ⟨nd, rfl⟩⟩; obtain ⟨Ao42, co42, eo42⟩ := Kd.R_slice HO_9.out; subst eo42) | (go_at_call 42; (with_reducible refine (spans_Ahead.calls _ _ t1195 _ _ t1198 false _ ?side1 ?side2 ?side3 ?side4 A36.out).mono ?_); (case side1 => repeat (first | exact (Kd.R_reads' HO_8.out).2.2 | (with_reducible refine Kd.C_alloc ?_ _) | (with_reducible refine Kd.C_drewN ?_ _) | (with_reducible refine Kd.C_drew ?_))); (case side2 => exact (Kd.R_reads' HO_8.out).2.1); (case side3 => repeat (first | exact (Kd.R_reads' HO_9.out).2.2 | (with_reducible refine Kd.C_alloc ?_ _) | (with_reducible refine Kd.C_drewN ?_ _) | (with_reducible refine Kd.C_drew ?_))); (case side4 => exact (Kd.R_reads' HO_9.out).2.1); clear A36; rintro e w' ⟨rfl, ⟨nd, rfl⟩⟩))
                    go_meet
                    case rel => exact ⟨_, (false), (by first | rfl | (simp; done) | (simp [*]; done)), H', ⟨by have := HJ8.out; first | omega | exact Nat.le_refl _⟩, ⟨by (with_reducible repeat (first | apply Kd.R_alloc | apply Kd.R_drewN | apply Kd.R_drew)); exact Kd.R_mono HO_7.out (fun _ hk => ⟨hk.1, ⟨hk.2.2.1, hk.2.2.2⟩⟩)⟩, ⟨by (with_reducible repeat (first | apply Kd.R_alloc | apply Kd.R_drewN | apply Kd.R_drew)); exact Kd.R_mono HO_8.out (fun _ hk => ⟨hk.1, ⟨hk.2.2.1, hk.2.2.2⟩⟩)⟩, ⟨by (with_reducible repeat (first | refine blk_drewN ?_ _ | refine blk_drew ?_ | refine blk_alloc ?_ _)); exact BK1204.out⟩, ⟨by (with_reducible repeat (first | refine blk_drewN ?_ _ | refine blk_drew ?_ | refine blk_alloc ?_ _)); exact BK1208.out⟩, ⟨by repeat (first | (with_reducible first | exact HB.out | apply below_alloc | apply pw_below_drewN | apply below_drew1 | refine below_set ?_ GE1204.out | refine below_set ?_ GE1208.out) | exact HB.out)⟩⟩
                · replace c35 := Bool.eq_false_iff.mpr c35
                  subst c35
                  have H1 : (epactlaw02_SpansAhead.j1 kj8 t1192 t1195 t1203 false t1201 t1202) = some r := by rw [if_neg (show ¬ (false = true) by decide)] at H; exact H
                  clear H
                  have H := H1
                  clear H1
                  have H' := Aside0.mk H
                  clear H
                  go_wp2_with (first | ((with_reducible refine gate_callee (f := 42) rfl ?_); refine goesL_ (some 46) rfl rfl Try.func42 (by kernel_rfl) rfl #[.slice Ao13 t1192.length co13, .slice Ao17 t1195.length co17] rfl (by (try simp only [List.map_toArray, List.map_cons, List.map_nil]); first | done | rfl | (simp only [List.length_drop, List.length_take]; rfl)) ?_; (with_reducible refine (spans_Ahead.calls _ _ t1192 _ _ t1195 t1519 _ ?side1 ?side2 ?side3 ?side4 A28.out).mono ?_); (case side1 => repeat (first | exact (Kd.R_reads' HO_7.out).2.2 | (with_reducible refine Kd.C_alloc ?_ _) | (with_reducible refine Kd.C_drewN ?_ _) | (with_reducible refine Kd.C_drew ?_))); (case side2 => exact (Kd.R_reads' HO_7.out).2.1); (case side3 => repeat (first | exact (Kd.R_reads' HO_8.out).2.2 | (with_reducible refine Kd.C_alloc ?_ _) | (with_reducible refine Kd.C_drewN ?_ _) | (with_reducible refine Kd.C_drew ?_))); (case side4 => exact (Kd.R_reads' HO_8.out).2.1); clear A28; rintro e w' ⟨rfl, ⟨nd, rfl⟩⟩; refine ⟨_, rfl, ?_⟩) | (go_at_call 38; (with_reducible refine (spans_Meet.calls _ _ t1192 _ _ t1195 false _ ?side1 ?side2 ?side3 ?side4 A31.out).mono ?_); (case side1 => repeat (first | exact (Kd.R_reads' HO_7.out).2.2 | (with_reducible refine Kd.C_alloc ?_ _) | (with_reducible refine Kd.C_drewN ?_ _) | (with_reducible refine Kd.C_drew ?_))); (case side2 => exact (Kd.R_reads' HO_7.out).2.1); (case side3 => repeat (first | exact (Kd.R_reads' HO_8.out).2.2 | (with_reducible refine Kd.C_alloc ?_ _) | (with_reducible refine Kd.C_drewN ?_ _) | (with_reducible refine Kd.C_drew ?_))); (case side4 => exact (Kd.R_reads' HO_8.out).2.1); clear A31; rintro e w43 ⟨rfl, hb⟩; have n0_ := Aside0.mk (Kd.R_below (by (with_reducible repeat (first | apply Kd.R_alloc | apply Kd.R_drewN | apply Kd.R_drew)); exact HO_7.out) hb); have n1_ := Aside0.mk (Kd.R_below (by (with_reducible repeat (first | apply Kd.R_alloc | apply Kd.R_drewN | apply Kd.R_drew)); exact HO_8.out) hb); have n2_ := Aside0.mk (Kd.R_below (by (with_reducible repeat (first | apply Kd.R_alloc | apply Kd.R_drewN | apply Kd.R_drew)); exact HO_9.out) hb); have n3_ := Aside0.mk (blk_below (g := gb1204) (o := .cells #[.int .i64 t1201, .int .i64 t1202] 23 (0, 0)) (by (with_reducible repeat (first | refine blk_drewN ?_ _ | refine blk_drew ?_ | refine blk_alloc ?_ _)); exact BK1204.out) hb); have n4_ := Aside0.mk (blk_below (g := gb1208) (o := .cells #[.int .i64 t1205, .int .i64 t1206] 23 (0, 0)) (by (with_reducible repeat (first | refine blk_drewN ?_ _ | refine blk_drew ?_ | refine blk_alloc ?_ _)); exact BK1208.out) hb); have n5_ := Aside0.mk (below_step (by repeat (first | (with_reducible first | exact HB.out | apply below_alloc | apply pw_below_drewN | apply below_drew1 | refine below_set ?_ GE1204.out | refine below_set ?_ GE1208.out) | exact HB.out)) hb); clear HO_7; clear HO_8; clear HO_9; clear BK1204; clear BK1208; clear HB; have HO_7 := n0_; have HO_8 := n1_; have HO_9 := n2_; have BK1204 := n3_; have BK1208 := n4_; have HB := n5_; clear n0_ n1_ n2_ n3_ n4_ n5_; (try clear hb); (try clear hb2); (try clear hk); (try clear hi)) | (go_at_call 42; (with_reducible refine (spans_Ahead.calls _ _ t1192 _ _ t1195 false _ ?side1 ?side2 ?side3 ?side4 A34.out).mono ?_); (case side1 => repeat (first | exact (Kd.R_reads' HO_7.out).2.2 | (with_reducible refine Kd.C_alloc ?_ _) | (with_reducible refine Kd.C_drewN ?_ _) | (with_reducible refine Kd.C_drew ?_))); (case side2 => exact (Kd.R_reads' HO_7.out).2.1); (case side3 => repeat (first | exact (Kd.R_reads' HO_8.out).2.2 | (with_reducible refine Kd.C_alloc ?_ _) | (with_reducible refine Kd.C_drewN ?_ _) | (with_reducible refine Kd.C_drew ?_))); (case side4 => exact (Kd.R_reads' HO_8.out).2.1); clear A34; rintro e w' ⟨rfl, ⟨nd, rfl⟩⟩))
                  go_meet
                  case rel => exact ⟨_, (false), (by first | rfl | (simp; done) | (simp [*]; done)), H', ⟨by have := HJ8.out; first | omega | exact Nat.le_refl _⟩, ⟨by (with_reducible repeat (first | apply Kd.R_alloc | apply Kd.R_drewN | apply Kd.R_drew)); exact Kd.R_mono HO_7.out (fun _ hk => ⟨hk.1, ⟨hk.2.2.1, hk.2.2.2⟩⟩)⟩, ⟨by (with_reducible repeat (first | apply Kd.R_alloc | apply Kd.R_drewN | apply Kd.R_drew)); exact Kd.R_mono HO_8.out (fun _ hk => ⟨hk.1, ⟨hk.2.2.1, hk.2.2.2⟩⟩)⟩, ⟨by (with_reducible repeat (first | refine blk_drewN ?_ _ | refine blk_drew ?_ | refine blk_alloc ?_ _)); exact BK1204.out⟩, ⟨by (with_reducible repeat (first | refine blk_drewN ?_ _ | refine blk_drew ?_ | refine blk_alloc ?_ _)); exact BK1208.out⟩, ⟨by repeat (first | (with_reducible first | exact HB.out | apply below_alloc | apply pw_below_drewN | apply below_drew1 | refine below_set ?_ GE1204.out | refine below_set ?_ GE1208.out) | exact HB.out)⟩⟩
              · rw [if_neg c33] at H
                have c33b0 : decide (0 < (t1195.length : Int)) = false := decide_eq_false c33
                have c33b1 : decide (0 < t1195.length) = false := decide_eq_false (by omega)
                clear c33
                have H' := Aside0.mk H
                clear H
                go_wp2_with (first | ((with_reducible refine gate_callee (f := 42) rfl ?_); refine goesL_ (some 46) rfl rfl Try.func42 (by kernel_rfl) rfl #[.slice Ao13 t1192.length co13, .slice Ao17 t1195.length co17] rfl (by (try simp only [List.map_toArray, List.map_cons, List.map_nil]); first | done | rfl | (simp only [List.length_drop, List.length_take]; rfl)) ?_; (with_reducible refine (spans_Ahead.calls _ _ t1192 _ _ t1195 t1519 _ ?side1 ?side2 ?side3 ?side4 A28.out).mono ?_); (case side1 => repeat (first | exact (Kd.R_reads' HO_7.out).2.2 | (with_reducible refine Kd.C_alloc ?_ _) | (with_reducible refine Kd.C_drewN ?_ _) | (with_reducible refine Kd.C_drew ?_))); (case side2 => exact (Kd.R_reads' HO_7.out).2.1); (case side3 => repeat (first | exact (Kd.R_reads' HO_8.out).2.2 | (with_reducible refine Kd.C_alloc ?_ _) | (with_reducible refine Kd.C_drewN ?_ _) | (with_reducible refine Kd.C_drew ?_))); (case side4 => exact (Kd.R_reads' HO_8.out).2.1); clear A28; rintro e w' ⟨rfl, ⟨nd, rfl⟩⟩; refine ⟨_, rfl, ?_⟩) | (go_at_call 38; (with_reducible refine (spans_Meet.calls _ _ t1192 _ _ t1195 false _ ?side1 ?side2 ?side3 ?side4 A31.out).mono ?_); (case side1 => repeat (first | exact (Kd.R_reads' HO_7.out).2.2 | (with_reducible refine Kd.C_alloc ?_ _) | (with_reducible refine Kd.C_drewN ?_ _) | (with_reducible refine Kd.C_drew ?_))); (case side2 => exact (Kd.R_reads' HO_7.out).2.1); (case side3 => repeat (first | exact (Kd.R_reads' HO_8.out).2.2 | (with_reducible refine Kd.C_alloc ?_ _) | (with_reducible refine Kd.C_drewN ?_ _) | (with_reducible refine Kd.C_drew ?_))); (case side4 => exact (Kd.R_reads' HO_8.out).2.1); clear A31; rintro e w44 ⟨rfl, hb⟩; have n0_ := Aside0.mk (Kd.R_below (by (with_reducible repeat (first | apply Kd.R_alloc | apply Kd.R_drewN | apply Kd.R_drew)); exact HO_7.out) hb); have n1_ := Aside0.mk (Kd.R_below (by (with_reducible repeat (first | apply Kd.R_alloc | apply Kd.R_drewN | apply Kd.R_drew)); exact HO_8.out) hb); have n2_ := Aside0.mk (Kd.R_below (by (with_reducible repeat (first | apply Kd.R_alloc | apply Kd.R_drewN | apply Kd.R_drew)); exact HO_9.out) hb); have n3_ := Aside0.mk (blk_below (g := gb1204) (o := .cells #[.int .i64 t1201, .int .i64 t1202] 23 (0, 0)) (by (with_reducible repeat (first | refine blk_drewN ?_ _ | refine blk_drew ?_ | refine blk_alloc ?_ _)); exact BK1204.out) hb); have n4_ := Aside0.mk (blk_below (g := gb1208) (o := .cells #[.int .i64 t1205, .int .i64 t1206] 23 (0, 0)) (by (with_reducible repeat (first | refine blk_drewN ?_ _ | refine blk_drew ?_ | refine blk_alloc ?_ _)); exact BK1208.out) hb); have n5_ := Aside0.mk (below_step (by repeat (first | (with_reducible first | exact HB.out | apply below_alloc | apply pw_below_drewN | apply below_drew1 | refine below_set ?_ GE1204.out | refine below_set ?_ GE1208.out) | exact HB.out)) hb); clear HO_7; clear HO_8; clear HO_9; clear BK1204; clear BK1208; clear HB; have HO_7 := n0_; have HO_8 := n1_; have HO_9 := n2_; have BK1204 := n3_; have BK1208 := n4_; have HB := n5_; clear n0_ n1_ n2_ n3_ n4_ n5_; (try clear hb); (try clear hb2); (try clear hk); (try clear hi)))
                go_meet
                case rel => exact ⟨_, (false), (by first | rfl | (simp; done) | (simp [*]; done)), H', ⟨by have := HJ8.out; first | omega | exact Nat.le_refl _⟩, ⟨by (with_reducible repeat (first | apply Kd.R_alloc | apply Kd.R_drewN | apply Kd.R_drew)); exact Kd.R_mono HO_7.out (fun _ hk => ⟨hk.1, ⟨hk.2.2.1, hk.2.2.2⟩⟩)⟩, ⟨by (with_reducible repeat (first | apply Kd.R_alloc | apply Kd.R_drewN | apply Kd.R_drew)); exact Kd.R_mono HO_8.out (fun _ hk => ⟨hk.1, ⟨hk.2.2.1, hk.2.2.2⟩⟩)⟩, ⟨by (with_reducible repeat (first | refine blk_drewN ?_ _ | refine blk_drew ?_ | refine blk_alloc ?_ _)); exact BK1204.out⟩, ⟨by (with_reducible repeat (first | refine blk_drewN ?_ _ | refine blk_drew ?_ | refine blk_alloc ?_ _)); exact BK1208.out⟩, ⟨by repeat (first | (with_reducible first | exact HB.out | apply below_alloc | apply pw_below_drewN | apply below_drew1 | refine below_set ?_ GE1204.out | refine below_set ?_ GE1208.out) | exact HB.out)⟩⟩
          · replace c30 := Bool.eq_false_iff.mpr c30
            subst c30
            have H1 : (if (t1195.length : Int) > 0 then ((spans_Ahead.f t1192 t1195).bind fun t1524 => (if t1524 = true then ((spans_Ahead.f t1195 t1198).bind fun t1525 => (if t1525 = true then ((spans_Ahead.f t1192 t1198).bind fun t1526 => (epactlaw02_SpansAhead.j1 kj8 t1192 t1195 t1203 (!t1526) t1201 t1202)) else (epactlaw02_SpansAhead.j1 kj8 t1192 t1195 t1203 false t1201 t1202))) else (epactlaw02_SpansAhead.j1 kj8 t1192 t1195 t1203 false t1201 t1202))) else (epactlaw02_SpansAhead.j1 kj8 t1192 t1195 t1203 false t1201 t1202)) = some r := by rw [if_neg (show ¬ (false = true) by decide)] at H; exact H
            clear H
            have H := H1
            clear H1
            by_cases c45 : (t1195.length : Int) > 0
            · rw [if_pos c45] at H
              have c45b0 : decide (0 < (t1195.length : Int)) = true := decide_eq_true c45
              have c45b1 : decide (0 < t1195.length) = true := decide_eq_true (by omega)
              clear c45
              replace H := Option.bind_eq_some_iff.mp H
              obtain ⟨t1524, A460, H⟩ := H
              replace H : (if t1524 = true then ((spans_Ahead.f t1195 t1198).bind fun t1525 => (if t1525 = true then ((spans_Ahead.f t1192 t1198).bind fun t1526 => (epactlaw02_SpansAhead.j1 kj8 t1192 t1195 t1203 (!t1526) t1201 t1202)) else (epactlaw02_SpansAhead.j1 kj8 t1192 t1195 t1203 false t1201 t1202))) else (epactlaw02_SpansAhead.j1 kj8 t1192 t1195 t1203 false t1201 t1202)) = some r := H
              have A46 := Aside0.mk A460
              clear A460
              by_cases c47 : t1524 = true
              · subst c47
                have H1 : ((spans_Ahead.f t1195 t1198).bind fun t1525 => (if t1525 = true then ((spans_Ahead.f t1192 t1198).bind fun t1526 => (epactlaw02_SpansAhead.j1 kj8 t1192 t1195 t1203 (!t1526) t1201 t1202)) else (epactlaw02_SpansAhead.j1 kj8 t1192 t1195 t1203 false t1201 t1202))) = some r := by rw [if_pos rfl] at H; exact H
                clear H
                have H := H1
                clear H1
                replace H := Option.bind_eq_some_iff.mp H
                obtain ⟨t1525, A480, H⟩ := H
                replace H : (if t1525 = true then ((spans_Ahead.f t1192 t1198).bind fun t1526 => (epactlaw02_SpansAhead.j1 kj8 t1192 t1195 t1203 (!t1526) t1201 t1202)) else (epactlaw02_SpansAhead.j1 kj8 t1192 t1195 t1203 false t1201 t1202)) = some r := H
                have A48 := Aside0.mk A480
                clear A480
                by_cases c49 : t1525 = true
                · subst c49
                  have H1 : ((spans_Ahead.f t1192 t1198).bind fun t1526 => (epactlaw02_SpansAhead.j1 kj8 t1192 t1195 t1203 (!t1526) t1201 t1202)) = some r := by rw [if_pos rfl] at H; exact H
                  clear H
                  have H := H1
                  clear H1
                  replace H := Option.bind_eq_some_iff.mp H
                  obtain ⟨t1526, A500, H⟩ := H
                  replace H : (epactlaw02_SpansAhead.j1 kj8 t1192 t1195 t1203 (!t1526) t1201 t1202) = some r := H
                  have A50 := Aside0.mk A500
                  clear A500
                  have H' := Aside0.mk H
                  clear H
                  go_wp2_with (first | ((with_reducible refine gate_callee (f := 42) rfl ?_); refine goesL_ (some 46) rfl rfl Try.func42 (by kernel_rfl) rfl #[.slice Ao13 t1192.length co13, .slice Ao17 t1195.length co17] rfl (by (try simp only [List.map_toArray, List.map_cons, List.map_nil]); first | done | rfl | (simp only [List.length_drop, List.length_take]; rfl)) ?_; (with_reducible refine (spans_Ahead.calls _ _ t1192 _ _ t1195 t1519 _ ?side1 ?side2 ?side3 ?side4 A28.out).mono ?_); (case side1 => repeat (first | exact (Kd.R_reads' HO_7.out).2.2 | (with_reducible refine Kd.C_alloc ?_ _) | (with_reducible refine Kd.C_drewN ?_ _) | (with_reducible refine Kd.C_drew ?_))); (case side2 => exact (Kd.R_reads' HO_7.out).2.1); (case side3 => repeat (first | exact (Kd.R_reads' HO_8.out).2.2 | (with_reducible refine Kd.C_alloc ?_ _) | (with_reducible refine Kd.C_drewN ?_ _) | (with_reducible refine Kd.C_drew ?_))); (case side4 => exact (Kd.R_reads' HO_8.out).2.1); clear A28; rintro e w' ⟨rfl, ⟨nd, rfl⟩⟩; refine ⟨_, rfl, ?_⟩) | (go_at_call 42; (with_reducible refine (spans_Ahead.calls _ _ t1192 _ _ t1195 true _ ?side1 ?side2 ?side3 ?side4 A46.out).mono ?_); (case side1 => repeat (first | exact (Kd.R_reads' HO_7.out).2.2 | (with_reducible refine Kd.C_alloc ?_ _) | (with_reducible refine Kd.C_drewN ?_ _) | (with_reducible refine Kd.C_drew ?_))); (case side2 => exact (Kd.R_reads' HO_7.out).2.1); (case side3 => repeat (first | exact (Kd.R_reads' HO_8.out).2.2 | (with_reducible refine Kd.C_alloc ?_ _) | (with_reducible refine Kd.C_drewN ?_ _) | (with_reducible refine Kd.C_drew ?_))); (case side4 => exact (Kd.R_reads' HO_8.out).2.1); clear A46; rintro e w' ⟨rfl, ⟨nd, rfl⟩⟩; obtain ⟨Ao51, co51, eo51⟩ := Kd.R_slice HO_9.out; subst eo51) | (go_at_call 42; (with_reducible refine (spans_Ahead.calls _ _ t1195 _ _ t1198 true _ ?side1 ?side2 ?side3 ?side4 A48.out).mono ?_); (case side1 => repeat (first | exact (Kd.R_reads' HO_8.out).2.2 | (with_reducible refine Kd.C_alloc ?_ _) | (with_reducible refine Kd.C_drewN ?_ _) | (with_reducible refine Kd.C_drew ?_))); (case side2 => exact (Kd.R_reads' HO_8.out).2.1); (case side3 => repeat (first | exact (Kd.R_reads' HO_9.out).2.2 | (with_reducible refine Kd.C_alloc ?_ _) | (with_reducible refine Kd.C_drewN ?_ _) | (with_reducible refine Kd.C_drew ?_))); (case side4 => exact (Kd.R_reads' HO_9.out).2.1); clear A48; rintro e w' ⟨rfl, ⟨nd, rfl⟩⟩) | (go_at_call 42; (with_reducible refine (spans_Ahead.calls _ _ t1192 _ _ t1198 t1526 _ ?side1 ?side2 ?side3 ?side4 A50.out).mono ?_); (case side1 => repeat (first | exact (Kd.R_reads' HO_7.out).2.2 | (with_reducible refine Kd.C_alloc ?_ _) | (with_reducible refine Kd.C_drewN ?_ _) | (with_reducible refine Kd.C_drew ?_))); (case side2 => exact (Kd.R_reads' HO_7.out).2.1); (case side3 => repeat (first | exact (Kd.R_reads' HO_9.out).2.2 | (with_reducible refine Kd.C_alloc ?_ _) | (with_reducible refine Kd.C_drewN ?_ _) | (with_reducible refine Kd.C_drew ?_))); (case side4 => exact (Kd.R_reads' HO_9.out).2.1); clear A50; rintro e w' ⟨rfl, ⟨nd, rfl⟩⟩))
                  go_meet
                  case rel => exact ⟨_, (!t1526), (by first | rfl | (simp; done) | (simp [*]; done)), H', ⟨by have := HJ8.out; first | omega | exact Nat.le_refl _⟩, ⟨by (with_reducible repeat (first | apply Kd.R_alloc | apply Kd.R_drewN | apply Kd.R_drew)); exact Kd.R_mono HO_7.out (fun _ hk => ⟨hk.1, ⟨hk.2.2.1, hk.2.2.2⟩⟩)⟩, ⟨by (with_reducible repeat (first | apply Kd.R_alloc | apply Kd.R_drewN | apply Kd.R_drew)); exact Kd.R_mono HO_8.out (fun _ hk => ⟨hk.1, ⟨hk.2.2.1, hk.2.2.2⟩⟩)⟩, ⟨by (with_reducible repeat (first | refine blk_drewN ?_ _ | refine blk_drew ?_ | refine blk_alloc ?_ _)); exact BK1204.out⟩, ⟨by (with_reducible repeat (first | refine blk_drewN ?_ _ | refine blk_drew ?_ | refine blk_alloc ?_ _)); exact BK1208.out⟩, ⟨by repeat (first | (with_reducible first | exact HB.out | apply below_alloc | apply pw_below_drewN | apply below_drew1 | refine below_set ?_ GE1204.out | refine below_set ?_ GE1208.out) | exact HB.out)⟩⟩
                · replace c49 := Bool.eq_false_iff.mpr c49
                  subst c49
                  have H1 : (epactlaw02_SpansAhead.j1 kj8 t1192 t1195 t1203 false t1201 t1202) = some r := by rw [if_neg (show ¬ (false = true) by decide)] at H; exact H
                  clear H
                  have H := H1
                  clear H1
                  have H' := Aside0.mk H
                  clear H
                  go_wp2_with (first | ((with_reducible refine gate_callee (f := 42) rfl ?_); refine goesL_ (some 46) rfl rfl Try.func42 (by kernel_rfl) rfl #[.slice Ao13 t1192.length co13, .slice Ao17 t1195.length co17] rfl (by (try simp only [List.map_toArray, List.map_cons, List.map_nil]); first | done | rfl | (simp only [List.length_drop, List.length_take]; rfl)) ?_; (with_reducible refine (spans_Ahead.calls _ _ t1192 _ _ t1195 t1519 _ ?side1 ?side2 ?side3 ?side4 A28.out).mono ?_); (case side1 => repeat (first | exact (Kd.R_reads' HO_7.out).2.2 | (with_reducible refine Kd.C_alloc ?_ _) | (with_reducible refine Kd.C_drewN ?_ _) | (with_reducible refine Kd.C_drew ?_))); (case side2 => exact (Kd.R_reads' HO_7.out).2.1); (case side3 => repeat (first | exact (Kd.R_reads' HO_8.out).2.2 | (with_reducible refine Kd.C_alloc ?_ _) | (with_reducible refine Kd.C_drewN ?_ _) | (with_reducible refine Kd.C_drew ?_))); (case side4 => exact (Kd.R_reads' HO_8.out).2.1); clear A28; rintro e w' ⟨rfl, ⟨nd, rfl⟩⟩; refine ⟨_, rfl, ?_⟩) | (go_at_call 42; (with_reducible refine (spans_Ahead.calls _ _ t1192 _ _ t1195 true _ ?side1 ?side2 ?side3 ?side4 A46.out).mono ?_); (case side1 => repeat (first | exact (Kd.R_reads' HO_7.out).2.2 | (with_reducible refine Kd.C_alloc ?_ _) | (with_reducible refine Kd.C_drewN ?_ _) | (with_reducible refine Kd.C_drew ?_))); (case side2 => exact (Kd.R_reads' HO_7.out).2.1); (case side3 => repeat (first | exact (Kd.R_reads' HO_8.out).2.2 | (with_reducible refine Kd.C_alloc ?_ _) | (with_reducible refine Kd.C_drewN ?_ _) | (with_reducible refine Kd.C_drew ?_))); (case side4 => exact (Kd.R_reads' HO_8.out).2.1); clear A46; rintro e w' ⟨rfl, ⟨nd, rfl⟩⟩; obtain ⟨Ao52, co52, eo52⟩ := Kd.R_slice HO_9.out; subst eo52) | (go_at_call 42; (with_reducible refine (spans_Ahead.calls _ _ t1195 _ _ t1198 false _ ?side1 ?side2 ?side3 ?side4 A48.out).mono ?_); (case side1 => repeat (first | exact (Kd.R_reads' HO_8.out).2.2 | (with_reducible refine Kd.C_alloc ?_ _) | (with_reducible refine Kd.C_drewN ?_ _) | (with_reducible refine Kd.C_drew ?_))); (case side2 => exact (Kd.R_reads' HO_8.out).2.1); (case side3 => repeat (first | exact (Kd.R_reads' HO_9.out).2.2 | (with_reducible refine Kd.C_alloc ?_ _) | (with_reducible refine Kd.C_drewN ?_ _) | (with_reducible refine Kd.C_drew ?_))); (case side4 => exact (Kd.R_reads' HO_9.out).2.1); clear A48; rintro e w' ⟨rfl, ⟨nd, rfl⟩⟩))
                  go_meet
                  case rel => exact ⟨_, (false), (by first | rfl | (simp; done) | (simp [*]; done)), H', ⟨by have := HJ8.out; first | omega | exact Nat.le_refl _⟩, ⟨by (with_reducible repeat (first | apply Kd.R_alloc | apply Kd.R_drewN | apply Kd.R_drew)); exact Kd.R_mono HO_7.out (fun _ hk => ⟨hk.1, ⟨hk.2.2.1, hk.2.2.2⟩⟩)⟩, ⟨by (with_reducible repeat (first | apply Kd.R_alloc | apply Kd.R_drewN | apply Kd.R_drew)); exact Kd.R_mono HO_8.out (fun _ hk => ⟨hk.1, ⟨hk.2.2.1, hk.2.2.2⟩⟩)⟩, ⟨by (with_reducible repeat (first | refine blk_drewN ?_ _ | refine blk_drew ?_ | refine blk_alloc ?_ _)); exact BK1204.out⟩, ⟨by (with_reducible repeat (first | refine blk_drewN ?_ _ | refine blk_drew ?_ | refine blk_alloc ?_ _)); exact BK1208.out⟩, ⟨by repeat (first | (with_reducible first | exact HB.out | apply below_alloc | apply pw_below_drewN | apply below_drew1 | refine below_set ?_ GE1204.out | refine below_set ?_ GE1208.out) | exact HB.out)⟩⟩
              · replace c47 := Bool.eq_false_iff.mpr c47
                subst c47
                have H1 : (epactlaw02_SpansAhead.j1 kj8 t1192 t1195 t1203 false t1201 t1202) = some r := by rw [if_neg (show ¬ (false = true) by decide)] at H; exact H
                clear H
                have H := H1
                clear H1
                have H' := Aside0.mk H
                clear H
                go_wp2_with (first | ((with_reducible refine gate_callee (f := 42) rfl ?_); refine goesL_ (some 46) rfl rfl Try.func42 (by kernel_rfl) rfl #[.slice Ao13 t1192.length co13, .slice Ao17 t1195.length co17] rfl (by (try simp only [List.map_toArray, List.map_cons, List.map_nil]); first | done | rfl | (simp only [List.length_drop, List.length_take]; rfl)) ?_; (with_reducible refine (spans_Ahead.calls _ _ t1192 _ _ t1195 t1519 _ ?side1 ?side2 ?side3 ?side4 A28.out).mono ?_); (case side1 => repeat (first | exact (Kd.R_reads' HO_7.out).2.2 | (with_reducible refine Kd.C_alloc ?_ _) | (with_reducible refine Kd.C_drewN ?_ _) | (with_reducible refine Kd.C_drew ?_))); (case side2 => exact (Kd.R_reads' HO_7.out).2.1); (case side3 => repeat (first | exact (Kd.R_reads' HO_8.out).2.2 | (with_reducible refine Kd.C_alloc ?_ _) | (with_reducible refine Kd.C_drewN ?_ _) | (with_reducible refine Kd.C_drew ?_))); (case side4 => exact (Kd.R_reads' HO_8.out).2.1); clear A28; rintro e w' ⟨rfl, ⟨nd, rfl⟩⟩; refine ⟨_, rfl, ?_⟩) | (go_at_call 42; (with_reducible refine (spans_Ahead.calls _ _ t1192 _ _ t1195 false _ ?side1 ?side2 ?side3 ?side4 A46.out).mono ?_); (case side1 => repeat (first | exact (Kd.R_reads' HO_7.out).2.2 | (with_reducible refine Kd.C_alloc ?_ _) | (with_reducible refine Kd.C_drewN ?_ _) | (with_reducible refine Kd.C_drew ?_))); (case side2 => exact (Kd.R_reads' HO_7.out).2.1); (case side3 => repeat (first | exact (Kd.R_reads' HO_8.out).2.2 | (with_reducible refine Kd.C_alloc ?_ _) | (with_reducible refine Kd.C_drewN ?_ _) | (with_reducible refine Kd.C_drew ?_))); (case side4 => exact (Kd.R_reads' HO_8.out).2.1); clear A46; rintro e w' ⟨rfl, ⟨nd, rfl⟩⟩))
                go_meet
                case rel => exact ⟨_, (false), (by first | rfl | (simp; done) | (simp [*]; done)), H', ⟨by have := HJ8.out; first | omega | exact Nat.le_refl _⟩, ⟨by (with_reducible repeat (first | apply Kd.R_alloc | apply Kd.R_drewN | apply Kd.R_drew)); exact Kd.R_mono HO_7.out (fun _ hk => ⟨hk.1, ⟨hk.2.2.1, hk.2.2.2⟩⟩)⟩, ⟨by (with_reducible repeat (first | apply Kd.R_alloc | apply Kd.R_drewN | apply Kd.R_drew)); exact Kd.R_mono HO_8.out (fun _ hk => ⟨hk.1, ⟨hk.2.2.1, hk.2.2.2⟩⟩)⟩, ⟨by (with_reducible repeat (first | refine blk_drewN ?_ _ | refine blk_drew ?_ | refine blk_alloc ?_ _)); exact BK1204.out⟩, ⟨by (with_reducible repeat (first | refine blk_drewN ?_ _ | refine blk_drew ?_ | refine blk_alloc ?_ _)); exact BK1208.out⟩, ⟨by repeat (first | (with_reducible first | exact HB.out | apply below_alloc | apply pw_below_drewN | apply below_drew1 | refine below_set ?_ GE1204.out | refine below_set ?_ GE1208.out) | exact HB.out)⟩⟩
            · rw [if_neg c45] at H
              have c45b0 : decide (0 < (t1195.length : Int)) = false := decide_eq_false c45
              have c45b1 : decide (0 < t1195.length) = false := decide_eq_false (by omega)
              clear c45
              have H' := Aside0.mk H
              clear H
              go_wp2_with (first | ((with_reducible refine gate_callee (f := 42) rfl ?_); refine goesL_ (some 46) rfl rfl Try.func42 (by kernel_rfl) rfl #[.slice Ao13 t1192.length co13, .slice Ao17 t1195.length co17] rfl (by (try simp only [List.map_toArray, List.map_cons, List.map_nil]); first | done | rfl | (simp only [List.length_drop, List.length_take]; rfl)) ?_; (with_reducible refine (spans_Ahead.calls _ _ t1192 _ _ t1195 t1519 _ ?side1 ?side2 ?side3 ?side4 A28.out).mono ?_); (case side1 => repeat (first | exact (Kd.R_reads' HO_7.out).2.2 | (with_reducible refine Kd.C_alloc ?_ _) | (with_reducible refine Kd.C_drewN ?_ _) | (with_reducible refine Kd.C_drew ?_))); (case side2 => exact (Kd.R_reads' HO_7.out).2.1); (case side3 => repeat (first | exact (Kd.R_reads' HO_8.out).2.2 | (with_reducible refine Kd.C_alloc ?_ _) | (with_reducible refine Kd.C_drewN ?_ _) | (with_reducible refine Kd.C_drew ?_))); (case side4 => exact (Kd.R_reads' HO_8.out).2.1); clear A28; rintro e w' ⟨rfl, ⟨nd, rfl⟩⟩; refine ⟨_, rfl, ?_⟩))
              go_meet
              case rel => exact ⟨_, (false), (by first | rfl | (simp; done) | (simp [*]; done)), H', ⟨by have := HJ8.out; first | omega | exact Nat.le_refl _⟩, ⟨by (with_reducible repeat (first | apply Kd.R_alloc | apply Kd.R_drewN | apply Kd.R_drew)); exact Kd.R_mono HO_7.out (fun _ hk => ⟨hk.1, ⟨hk.2.2.1, hk.2.2.2⟩⟩)⟩, ⟨by (with_reducible repeat (first | apply Kd.R_alloc | apply Kd.R_drewN | apply Kd.R_drew)); exact Kd.R_mono HO_8.out (fun _ hk => ⟨hk.1, ⟨hk.2.2.1, hk.2.2.2⟩⟩)⟩, ⟨by (with_reducible repeat (first | refine blk_drewN ?_ _ | refine blk_drew ?_ | refine blk_alloc ?_ _)); exact BK1204.out⟩, ⟨by (with_reducible repeat (first | refine blk_drewN ?_ _ | refine blk_drew ?_ | refine blk_alloc ?_ _)); exact BK1208.out⟩, ⟨by repeat (first | (with_reducible first | exact HB.out | apply below_alloc | apply pw_below_drewN | apply below_drew1 | refine below_set ?_ GE1204.out | refine below_set ?_ GE1208.out) | exact HB.out)⟩⟩
      case rest =>
        clear HC27
        try clear c1
        try clear c2
        try clear p2
        try clear c3
        try clear c4
        try clear c10
        try clear c20
        try clear c22
        try clear c23
        try clear c24
        try clear c29
        try clear c29b0
        try clear c29b1
        try clear c29b2
        try clear c30
        try clear c32
        try clear c33
        try clear c33b0
        try clear c33b1
        try clear c35
        try clear c37
        try clear c42
        try clear c43
        try clear c45
        try clear c45b0
        try clear c45b1
        try clear c47
        try clear c49
        try clear hcz16_0
        try clear hcz16_1
        try clear hcz21_0
        try clear hcz21_1
        try clear hcz25_0
        try clear hcz25_1
        try clear hcz26_0
        try clear hcz26_1
        try clear hfz16_0
        try clear hfz16_1
        try clear hfz21_0
        try clear hfz21_1
        try clear hfz25_0
        try clear hfz25_1
        try clear hfz26_0
        try clear hfz26_1
        try clear p2
        obtain ⟨kq, x77_26, rfl, HA, HJ26, HO_7, HO_8, BK1204, BK1208, HB⟩ := hcut
        cases kq with
        | zero => exact absurd HA.out (by simp [epactlaw02_SpansAhead.j1])
        | succ kj26 =>
          have H := HA.out
          clear HA
          simp only [epactlaw02_SpansAhead.j1] at H
          by_cases c53 : x77_26 = true
          · subst c53
            have H1 : (none) = some r := by rw [if_pos rfl] at H; exact H
            clear H
            have H := H1
            clear H1
            exact absurd H (by simp)
          · replace c53 := Bool.eq_false_iff.mpr c53
            subst c53
            have H1 : (if t1203 = true then ((spans_Has.f kj26 t1192 t1201).bind fun t1625 => (if t1625 = true then ((spans_Has.f kj26 t1192 t1202).bind fun t1626 => (if t1626 = true then ((spans_Has.f kj26 t1192 (wrap64 (t1201 - 1))).bind fun t1627 => (if t1627 = true then (none) else ((spans_Has.f kj26 t1192 (wrap64 (t1202 + 1))).bind fun t1628 => (epactlaw02_SpansAhead.j2 kj26 t1192 t1195 t1628)))) else (none))) else (none))) else (epactlaw02_SpansAhead.j2 kj26 t1192 t1195 false)) = some r := by rw [if_neg (show ¬ (false = true) by decide)] at H; exact H
            clear H
            have H := H1
            clear H1
            have HC54 := Aside0.mk H
            clear H
            go_upto_region 7 with (fail)
            go_cut [106] (fun v106 wc => ∃ (kq : Nat) (x106_53 : Bool), v106 = .bool x106_53 ∧ Aside0 (epactlaw02_SpansAhead.j2 kq t1192 t1195 x106_53 = some r) ∧ Aside0 (kq ≤ kj26) ∧ Aside0 (Kd.R k23 23 wc w.heap.size (fun k_ => some k_ ≠ ((.slice Ao17 t1195.length co17) : Value).ownBlock ∧ k_ ≠ gb1204 ∧ k_ ≠ gb1208) (.slice Ao13 t1192.length co13) t1192) ∧ Aside0 (Kd.R k23 23 wc w.heap.size (fun k_ => some k_ ≠ ((.slice Ao13 t1192.length co13) : Value).ownBlock ∧ k_ ≠ gb1204 ∧ k_ ≠ gb1208) (.slice Ao17 t1195.length co17) t1195) ∧ Aside0 (wc.heap[gb1204]? = some (.cells #[.int .i64 t1201, .int .i64 t1202] 23 (0, 0))) ∧ Aside0 (wc.heap[gb1208]? = some (.cells #[.int .i64 t1205, .int .i64 t1206] 23 (0, 0))) ∧ Aside0 (Below w.heap.size w wc))
            case first =>
              have H := HC54.out
              clear HC54
              by_cases c55 : t1203 = true
              · subst c55
                have H1 : ((spans_Has.f kj26 t1192 t1201).bind fun t1625 => (if t1625 = true then ((spans_Has.f kj26 t1192 t1202).bind fun t1626 => (if t1626 = true then ((spans_Has.f kj26 t1192 (wrap64 (t1201 - 1))).bind fun t1627 => (if t1627 = true then (none) else ((spans_Has.f kj26 t1192 (wrap64 (t1202 + 1))).bind fun t1628 => (epactlaw02_SpansAhead.j2 kj26 t1192 t1195 t1628)))) else (none))) else (none))) = some r := by rw [if_pos rfl] at H; exact H
                clear H
                have H := H1
                clear H1
                replace H := Option.bind_eq_some_iff.mp H
                obtain ⟨t1625, A560, H⟩ := H
                replace H : (if t1625 = true then ((spans_Has.f kj26 t1192 t1202).bind fun t1626 => (if t1626 = true then ((spans_Has.f kj26 t1192 (wrap64 (t1201 - 1))).bind fun t1627 => (if t1627 = true then (none) else ((spans_Has.f kj26 t1192 (wrap64 (t1202 + 1))).bind fun t1628 => (epactlaw02_SpansAhead.j2 kj26 t1192 t1195 t1628)))) else (none))) else (none)) = some r := H
                have A56 := Aside0.mk A560
                clear A560
                by_cases c57 : t1625 = true
                · subst c57
                  have H1 : ((spans_Has.f kj26 t1192 t1202).bind fun t1626 => (if t1626 = true then ((spans_Has.f kj26 t1192 (wrap64 (t1201 - 1))).bind fun t1627 => (if t1627 = true then (none) else ((spans_Has.f kj26 t1192 (wrap64 (t1202 + 1))).bind fun t1628 => (epactlaw02_SpansAhead.j2 kj26 t1192 t1195 t1628)))) else (none))) = some r := by rw [if_pos rfl] at H; exact H
                  clear H
                  have H := H1
                  clear H1
                  replace H := Option.bind_eq_some_iff.mp H
                  obtain ⟨t1626, A580, H⟩ := H
                  replace H : (if t1626 = true then ((spans_Has.f kj26 t1192 (wrap64 (t1201 - 1))).bind fun t1627 => (if t1627 = true then (none) else ((spans_Has.f kj26 t1192 (wrap64 (t1202 + 1))).bind fun t1628 => (epactlaw02_SpansAhead.j2 kj26 t1192 t1195 t1628)))) else (none)) = some r := H
                  have A58 := Aside0.mk A580
                  clear A580
                  by_cases c59 : t1626 = true
                  · subst c59
                    have H1 : ((spans_Has.f kj26 t1192 (wrap64 (t1201 - 1))).bind fun t1627 => (if t1627 = true then (none) else ((spans_Has.f kj26 t1192 (wrap64 (t1202 + 1))).bind fun t1628 => (epactlaw02_SpansAhead.j2 kj26 t1192 t1195 t1628)))) = some r := by rw [if_pos rfl] at H; exact H
                    clear H
                    have H := H1
                    clear H1
                    replace H := Option.bind_eq_some_iff.mp H
                    obtain ⟨t1627, A600, H⟩ := H
                    replace H : (if t1627 = true then (none) else ((spans_Has.f kj26 t1192 (wrap64 (t1202 + 1))).bind fun t1628 => (epactlaw02_SpansAhead.j2 kj26 t1192 t1195 t1628))) = some r := H
                    have A60 := Aside0.mk A600
                    clear A600
                    by_cases c61 : t1627 = true
                    · subst c61
                      have H1 : (none) = some r := by rw [if_pos rfl] at H; exact H
                      clear H
                      have H := H1
                      clear H1
                      exact absurd H (by simp)
                    · replace c61 := Bool.eq_false_iff.mpr c61
                      subst c61
                      have H1 : ((spans_Has.f kj26 t1192 (wrap64 (t1202 + 1))).bind fun t1628 => (epactlaw02_SpansAhead.j2 kj26 t1192 t1195 t1628)) = some r := by rw [if_neg (show ¬ (false = true) by decide)] at H; exact H
                      clear H
                      have H := H1
                      clear H1
                      replace H := Option.bind_eq_some_iff.mp H
                      obtain ⟨t1628, A620, H⟩ := H
                      replace H : (epactlaw02_SpansAhead.j2 kj26 t1192 t1195 t1628) = some r := H
                      have A62 := Aside0.mk A620
                      clear A620
                      have H' := Aside0.mk H
                      clear H
                      have hnb63 := NB1204_1208.out
                      have hnc63 := NB1208_1204.out
                      have hcz64_0 : wc.cell? ⟨gb1204, 0, none⟩ = some (.int .i64 t1201) := (blk_cell BK1204.out 0).trans rfl
                      have hcz64_1 : wc.cell? ⟨gb1204, 1, none⟩ = some (.int .i64 t1202) := (blk_cell BK1204.out 1).trans rfl
                      have hfz64_0 := blk_frozen BK1204.out 0
                      have hfz64_1 := blk_frozen BK1204.out 1
                      go_wp2_with (first | (go_at_call 24; (with_reducible refine (spans_Has.calls kj26 _ _ t1192 t1201 true _ ?side1 ?side2 A56.out).mono ?_); (case side1 => repeat (first | exact (Kd.R_reads' HO_7.out).2.2 | (with_reducible refine Kd.C_alloc ?_ _) | (with_reducible refine Kd.C_drewN ?_ _) | (with_reducible refine Kd.C_drew ?_))); (case side2 => exact (Kd.R_reads' HO_7.out).2.1); clear A56; rintro e w65 ⟨rfl, hb⟩; have n0_ := Aside0.mk (Kd.R_below (by (with_reducible repeat (first | apply Kd.R_alloc | apply Kd.R_drewN | apply Kd.R_drew)); exact HO_7.out) hb); have n1_ := Aside0.mk (Kd.R_below (by (with_reducible repeat (first | apply Kd.R_alloc | apply Kd.R_drewN | apply Kd.R_drew)); exact HO_8.out) hb); have n2_ := Aside0.mk (blk_below (g := gb1204) (o := .cells #[.int .i64 t1201, .int .i64 t1202] 23 (0, 0)) (by (with_reducible repeat (first | refine blk_drewN ?_ _ | refine blk_drew ?_ | refine blk_alloc ?_ _)); exact BK1204.out) hb); have n3_ := Aside0.mk (blk_below (g := gb1208) (o := .cells #[.int .i64 t1205, .int .i64 t1206] 23 (0, 0)) (by (with_reducible repeat (first | refine blk_drewN ?_ _ | refine blk_drew ?_ | refine blk_alloc ?_ _)); exact BK1208.out) hb); have n4_ := Aside0.mk (below_step (by repeat (first | (with_reducible first | exact HB.out | apply below_alloc | apply pw_below_drewN | apply below_drew1 | refine below_set ?_ GE1204.out | refine below_set ?_ GE1208.out) | exact HB.out)) hb); clear HO_7; clear HO_8; clear BK1204; clear BK1208; clear HB; have HO_7 := n0_; have HO_8 := n1_; have BK1204 := n2_; have BK1208 := n3_; have HB := n4_; clear n0_ n1_ n2_ n3_ n4_; (try clear hb); (try clear hb2); (try clear hk); (try clear hi); have hcz66_0 : w65.cell? ⟨gb1204, 0, none⟩ = some (.int .i64 t1201) := (blk_cell BK1204.out 0).trans rfl; have hcz66_1 : w65.cell? ⟨gb1204, 1, none⟩ = some (.int .i64 t1202) := (blk_cell BK1204.out 1).trans rfl; have hfz66_0 := blk_frozen BK1204.out 0; have hfz66_1 := blk_frozen BK1204.out 1) | (go_at_call 24; (with_reducible refine (spans_Has.calls kj26 _ _ t1192 t1202 true _ ?side1 ?side2 A58.out).mono ?_); (case side1 => repeat (first | exact (Kd.R_reads' HO_7.out).2.2 | (with_reducible refine Kd.C_alloc ?_ _) | (with_reducible refine Kd.C_drewN ?_ _) | (with_reducible refine Kd.C_drew ?_))); (case side2 => exact (Kd.R_reads' HO_7.out).2.1); clear A58; rintro e w67 ⟨rfl, hb⟩; have n0_ := Aside0.mk (Kd.R_below (by (with_reducible repeat (first | apply Kd.R_alloc | apply Kd.R_drewN | apply Kd.R_drew)); exact HO_7.out) hb); have n1_ := Aside0.mk (Kd.R_below (by (with_reducible repeat (first | apply Kd.R_alloc | apply Kd.R_drewN | apply Kd.R_drew)); exact HO_8.out) hb); have n2_ := Aside0.mk (blk_below (g := gb1204) (o := .cells #[.int .i64 t1201, .int .i64 t1202] 23 (0, 0)) (by (with_reducible repeat (first | refine blk_drewN ?_ _ | refine blk_drew ?_ | refine blk_alloc ?_ _)); exact BK1204.out) hb); have n3_ := Aside0.mk (blk_below (g := gb1208) (o := .cells #[.int .i64 t1205, .int .i64 t1206] 23 (0, 0)) (by (with_reducible repeat (first | refine blk_drewN ?_ _ | refine blk_drew ?_ | refine blk_alloc ?_ _)); exact BK1208.out) hb); have n4_ := Aside0.mk (below_step (by repeat (first | (with_reducible first | exact HB.out | apply below_alloc | apply pw_below_drewN | apply below_drew1 | refine below_set ?_ GE1204.out | refine below_set ?_ GE1208.out) | exact HB.out)) hb); clear HO_7; clear HO_8; clear BK1204; clear BK1208; clear HB; have HO_7 := n0_; have HO_8 := n1_; have BK1204 := n2_; have BK1208 := n3_; have HB := n4_; clear n0_ n1_ n2_ n3_ n4_; (try clear hb); (try clear hb2); (try clear hk); (try clear hi); have hcz68_0 : w67.cell? ⟨gb1204, 0, none⟩ = some (.int .i64 t1201) := (blk_cell BK1204.out 0).trans rfl; have hcz68_1 : w67.cell? ⟨gb1204, 1, none⟩ = some (.int .i64 t1202) := (blk_cell BK1204.out 1).trans rfl; have hfz68_0 := blk_frozen BK1204.out 0; have hfz68_1 := blk_frozen BK1204.out 1) | (go_at_call 24; (with_reducible refine (spans_Has.calls kj26 _ _ t1192 (wrap64 (t1201 - 1)) false _ ?side1 ?side2 A60.out).mono ?_); (case side1 => repeat (first | exact (Kd.R_reads' HO_7.out).2.2 | (with_reducible refine Kd.C_alloc ?_ _) | (with_reducible refine Kd.C_drewN ?_ _) | (with_reducible refine Kd.C_drew ?_))); (case side2 => exact (Kd.R_reads' HO_7.out).2.1); clear A60; rintro e w69 ⟨rfl, hb⟩; have n0_ := Aside0.mk (Kd.R_below (by (with_reducible repeat (first | apply Kd.R_alloc | apply Kd.R_drewN | apply Kd.R_drew)); exact HO_7.out) hb); have n1_ := Aside0.mk (Kd.R_below (by (with_reducible repeat (first | apply Kd.R_alloc | apply Kd.R_drewN | apply Kd.R_drew)); exact HO_8.out) hb); have n2_ := Aside0.mk (blk_below (g := gb1204) (o := .cells #[.int .i64 t1201, .int .i64 t1202] 23 (0, 0)) (by (with_reducible repeat (first | refine blk_drewN ?_ _ | refine blk_drew ?_ | refine blk_alloc ?_ _)); exact BK1204.out) hb); have n3_ := Aside0.mk (blk_below (g := gb1208) (o := .cells #[.int .i64 t1205, .int .i64 t1206] 23 (0, 0)) (by (with_reducible repeat (first | refine blk_drewN ?_ _ | refine blk_drew ?_ | refine blk_alloc ?_ _)); exact BK1208.out) hb); have n4_ := Aside0.mk (below_step (by repeat (first | (with_reducible first | exact HB.out | apply below_alloc | apply pw_below_drewN | apply below_drew1 | refine below_set ?_ GE1204.out | refine below_set ?_ GE1208.out) | exact HB.out)) hb); clear HO_7; clear HO_8; clear BK1204; clear BK1208; clear HB; have HO_7 := n0_; have HO_8 := n1_; have BK1204 := n2_; have BK1208 := n3_; have HB := n4_; clear n0_ n1_ n2_ n3_ n4_; (try clear hb); (try clear hb2); (try clear hk); (try clear hi); have hcz70_0 : w69.cell? ⟨gb1204, 0, none⟩ = some (.int .i64 t1201) := (blk_cell BK1204.out 0).trans rfl; have hcz70_1 : w69.cell? ⟨gb1204, 1, none⟩ = some (.int .i64 t1202) := (blk_cell BK1204.out 1).trans rfl; have hfz70_0 := blk_frozen BK1204.out 0; have hfz70_1 := blk_frozen BK1204.out 1) | (go_at_call 24; (with_reducible refine (spans_Has.calls kj26 _ _ t1192 (wrap64 (t1202 + 1)) t1628 _ ?side1 ?side2 A62.out).mono ?_); (case side1 => repeat (first | exact (Kd.R_reads' HO_7.out).2.2 | (with_reducible refine Kd.C_alloc ?_ _) | (with_reducible refine Kd.C_drewN ?_ _) | (with_reducible refine Kd.C_drew ?_))); (case side2 => exact (Kd.R_reads' HO_7.out).2.1); clear A62; rintro e w71 ⟨rfl, hb⟩; have n0_ := Aside0.mk (Kd.R_below (by (with_reducible repeat (first | apply Kd.R_alloc | apply Kd.R_drewN | apply Kd.R_drew)); exact HO_7.out) hb); have n1_ := Aside0.mk (Kd.R_below (by (with_reducible repeat (first | apply Kd.R_alloc | apply Kd.R_drewN | apply Kd.R_drew)); exact HO_8.out) hb); have n2_ := Aside0.mk (blk_below (g := gb1204) (o := .cells #[.int .i64 t1201, .int .i64 t1202] 23 (0, 0)) (by (with_reducible repeat (first | refine blk_drewN ?_ _ | refine blk_drew ?_ | refine blk_alloc ?_ _)); exact BK1204.out) hb); have n3_ := Aside0.mk (blk_below (g := gb1208) (o := .cells #[.int .i64 t1205, .int .i64 t1206] 23 (0, 0)) (by (with_reducible repeat (first | refine blk_drewN ?_ _ | refine blk_drew ?_ | refine blk_alloc ?_ _)); exact BK1208.out) hb); have n4_ := Aside0.mk (below_step (by repeat (first | (with_reducible first | exact HB.out | apply below_alloc | apply pw_below_drewN | apply below_drew1 | refine below_set ?_ GE1204.out | refine below_set ?_ GE1208.out) | exact HB.out)) hb); clear HO_7; clear HO_8; clear BK1204; clear BK1208; clear HB; have HO_7 := n0_; have HO_8 := n1_; have BK1204 := n2_; have BK1208 := n3_; have HB := n4_; clear n0_ n1_ n2_ n3_ n4_; (try clear hb); (try clear hb2); (try clear hk); (try clear hi)))
                      go_meet
                      case rel => exact ⟨_, (t1628), (by first | rfl | (simp; done) | (simp [*]; done)), H', ⟨by have := HJ8.out; have := HJ26.out; first | omega | exact Nat.le_refl _⟩, ⟨by (with_reducible repeat (first | apply Kd.R_alloc | apply Kd.R_drewN | apply Kd.R_drew)); exact HO_7.out⟩, ⟨by (with_reducible repeat (first | apply Kd.R_alloc | apply Kd.R_drewN | apply Kd.R_drew)); exact HO_8.out⟩, ⟨by (with_reducible repeat (first | refine blk_drewN ?_ _ | refine blk_drew ?_ | refine blk_alloc ?_ _)); exact BK1204.out⟩, ⟨by (with_reducible repeat (first | refine blk_drewN ?_ _ | refine blk_drew ?_ | refine blk_alloc ?_ _)); exact BK1208.out⟩, ⟨by repeat (first | (with_reducible first | exact HB.out | apply below_alloc | apply pw_below_drewN | apply below_drew1 | refine below_set ?_ GE1204.out | refine below_set ?_ GE1208.out) | exact HB.out)⟩⟩
                  · replace c59 := Bool.eq_false_iff.mpr c59
                    subst c59
                    have H1 : (none) = some r := by rw [if_neg (show ¬ (false = true) by decide)] at H; exact H
                    clear H
                    have H := H1
                    clear H1
                    exact absurd H (by simp)
                · replace c57 := Bool.eq_false_iff.mpr c57
                  subst c57
                  have H1 : (none) = some r := by rw [if_neg (show ¬ (false = true) by decide)] at H; exact H
                  clear H
                  have H := H1
                  clear H1
                  exact absurd H (by simp)
              · replace c55 := Bool.eq_false_iff.mpr c55
                subst c55
                have H1 : (epactlaw02_SpansAhead.j2 kj26 t1192 t1195 false) = some r := by rw [if_neg (show ¬ (false = true) by decide)] at H; exact H
                clear H
                have H := H1
                clear H1
                have H' := Aside0.mk H
                clear H
                go_wp2
                go_meet
                case rel => exact ⟨_, (false), (by first | rfl | (simp; done) | (simp [*]; done)), H', ⟨by have := HJ8.out; have := HJ26.out; first | omega | exact Nat.le_refl _⟩, ⟨by (with_reducible repeat (first | apply Kd.R_alloc | apply Kd.R_drewN | apply Kd.R_drew)); exact HO_7.out⟩, ⟨by (with_reducible repeat (first | apply Kd.R_alloc | apply Kd.R_drewN | apply Kd.R_drew)); exact HO_8.out⟩, ⟨by (with_reducible repeat (first | refine blk_drewN ?_ _ | refine blk_drew ?_ | refine blk_alloc ?_ _)); exact BK1204.out⟩, ⟨by (with_reducible repeat (first | refine blk_drewN ?_ _ | refine blk_drew ?_ | refine blk_alloc ?_ _)); exact BK1208.out⟩, ⟨by repeat (first | (with_reducible first | exact HB.out | apply below_alloc | apply pw_below_drewN | apply below_drew1 | refine below_set ?_ GE1204.out | refine below_set ?_ GE1208.out) | exact HB.out)⟩⟩
            case rest =>
              clear HC54
              try clear c1
              try clear c2
              try clear p2
              try clear c3
              try clear c4
              try clear c5
              try clear c6
              try clear p6
              try clear c10
              try clear c20
              try clear c22
              try clear c23
              try clear c24
              try clear c29
              try clear c29b0
              try clear c29b1
              try clear c29b2
              try clear c30
              try clear c32
              try clear c33
              try clear c33b0
              try clear c33b1
              try clear c35
              try clear c37
              try clear c42
              try clear c43
              try clear c45
              try clear c45b0
              try clear c45b1
              try clear c47
              try clear c49
              try clear c53
              try clear c55
              try clear c57
              try clear c59
              try clear c61
              try clear c63
              try clear p64
              try clear hcz16_0
              try clear hcz16_1
              try clear hcz21_0
              try clear hcz21_1
              try clear hcz25_0
              try clear hcz25_1
              try clear hcz26_0
              try clear hcz26_1
              try clear hcz64_0
              try clear hcz64_1
              try clear hcz66_0
              try clear hcz66_1
              try clear hcz68_0
              try clear hcz68_1
              try clear hcz70_0
              try clear hcz70_1
              try clear hfz16_0
              try clear hfz16_1
              try clear hfz21_0
              try clear hfz21_1
              try clear hfz25_0
              try clear hfz25_1
              try clear hfz26_0
              try clear hfz26_1
              try clear hfz64_0
              try clear hfz64_1
              try clear hfz66_0
              try clear hfz66_1
              try clear hfz68_0
              try clear hfz68_1
              try clear hfz70_0
              try clear hfz70_1
              try clear p2
              obtain ⟨kq, x106_53, rfl, HA, HJ53, HO_7, HO_8, BK1204, BK1208, HB⟩ := hcut
              cases kq with
              | zero => exact absurd HA.out (by simp [epactlaw02_SpansAhead.j2])
              | succ kj53 =>
                have H := HA.out
                clear HA
                simp only [epactlaw02_SpansAhead.j2] at H
                by_cases c72 : x106_53 = true
                · subst c72
                  have H1 : (none) = some r := by rw [if_pos rfl] at H; exact H
                  clear H
                  have H := H1
                  clear H1
                  exact absurd H (by simp)
                · replace c72 := Bool.eq_false_iff.mpr c72
                  subst c72
                  have H1 : ((spans_Ahead.f ([] : List (S23)) t1195).bind fun t1634 => (if t1634 = true then ((spans_Ahead.f t1192 ([] : List (S23))).bind fun t1635 => (if t1635 = true then (if (t1192.length : Int) = 0 then ((epactlaw02_awake.f kj53).bind fun t1636 => (some t1636)) else ((spans_Ahead.f t1192 t1192).bind fun t1637 => (if t1637 = true then (none) else ((epactlaw02_awake.f kj53).bind fun t1638 => (some t1638))))) else (none))) else (none))) = some r := by rw [if_neg (show ¬ (false = true) by decide)] at H; exact H
                  clear H
                  have H := H1
                  clear H1
                  replace H := Option.bind_eq_some_iff.mp H
                  obtain ⟨t1634, A730, H⟩ := H
                  replace H : (if t1634 = true then ((spans_Ahead.f t1192 ([] : List (S23))).bind fun t1635 => (if t1635 = true then (if (t1192.length : Int) = 0 then ((epactlaw02_awake.f kj53).bind fun t1636 => (some t1636)) else ((spans_Ahead.f t1192 t1192).bind fun t1637 => (if t1637 = true then (none) else ((epactlaw02_awake.f kj53).bind fun t1638 => (some t1638))))) else (none))) else (none)) = some r := H
                  have A73 := Aside0.mk A730
                  clear A730
                  by_cases c74 : t1634 = true
                  · subst c74
                    have H1 : ((spans_Ahead.f t1192 ([] : List (S23))).bind fun t1635 => (if t1635 = true then (if (t1192.length : Int) = 0 then ((epactlaw02_awake.f kj53).bind fun t1636 => (some t1636)) else ((spans_Ahead.f t1192 t1192).bind fun t1637 => (if t1637 = true then (none) else ((epactlaw02_awake.f kj53).bind fun t1638 => (some t1638))))) else (none))) = some r := by rw [if_pos rfl] at H; exact H
                    clear H
                    have H := H1
                    clear H1
                    replace H := Option.bind_eq_some_iff.mp H
                    obtain ⟨t1635, A750, H⟩ := H
                    replace H : (if t1635 = true then (if (t1192.length : Int) = 0 then ((epactlaw02_awake.f kj53).bind fun t1636 => (some t1636)) else ((spans_Ahead.f t1192 t1192).bind fun t1637 => (if t1637 = true then (none) else ((epactlaw02_awake.f kj53).bind fun t1638 => (some t1638))))) else (none)) = some r := H
                    have A75 := Aside0.mk A750
                    clear A750
                    by_cases c76 : t1635 = true
                    · subst c76
                      have H1 : (if (t1192.length : Int) = 0 then ((epactlaw02_awake.f kj53).bind fun t1636 => (some t1636)) else ((spans_Ahead.f t1192 t1192).bind fun t1637 => (if t1637 = true then (none) else ((epactlaw02_awake.f kj53).bind fun t1638 => (some t1638))))) = some r := by rw [if_pos rfl] at H; exact H
                      clear H
                      have H := H1
                      clear H1
                      by_cases c77 : (t1192.length : Int) = 0
                      · rw [if_pos c77] at H
                        have c77b0 : ((t1192.length : Int) == 0) = true := beq_iff_eq.mpr c77
                        have c77b1 : ((t1192.length : Int) != 0) = false := bne_eq_false_iff_eq.mpr c77
                        clear c77
                        replace H := Option.bind_eq_some_iff.mp H
                        obtain ⟨t1636, A780, H⟩ := H
                        replace H : (some t1636) = some r := H
                        have A78 := Aside0.mk A780
                        clear A780
                        obtain rfl := Option.some.inj H
                        go_wp2_with (first | ((with_reducible refine gate_callee (f := 42) rfl ?_); refine goesL_ (some 108) rfl rfl Try.func42 (by kernel_rfl) rfl #[.slice none 0 0, .slice Ao17 t1195.length co17] rfl (by (try simp only [List.map_toArray, List.map_cons, List.map_nil]); first | done | rfl | (simp only [List.length_drop, List.length_take]; rfl)) ?_; (refine (spans_Ahead.calls _ _ ([] : List (S23)) _ _ t1195 true _ ?side1 ?side2 ?side3 ?side4 A73.out).mono ?_); (case side1 => exact Kd.C_nil _ _); (case side2 => exact Nat.le_refl _); (case side3 => repeat (first | exact (Kd.R_reads' HO_8.out).2.2 | (with_reducible refine Kd.C_alloc ?_ _) | (with_reducible refine Kd.C_drewN ?_ _) | (with_reducible refine Kd.C_drew ?_))); (case side4 => exact (Kd.R_reads' HO_8.out).2.1); clear A73; rintro e w' ⟨rfl, ⟨nd, rfl⟩⟩; refine ⟨_, rfl, ?_⟩) | (go_at_call 42; (refine (spans_Ahead.calls _ _ t1192 _ _ ([] : List (S23)) true _ ?side1 ?side2 ?side3 ?side4 A75.out).mono ?_); (case side1 => repeat (first | exact (Kd.R_reads' HO_7.out).2.2 | (with_reducible refine Kd.C_alloc ?_ _) | (with_reducible refine Kd.C_drewN ?_ _) | (with_reducible refine Kd.C_drew ?_))); (case side2 => exact (Kd.R_reads' HO_7.out).2.1); (case side3 => exact Kd.C_nil _ _); (case side4 => exact Nat.le_refl _); clear A75; rintro e w' ⟨rfl, ⟨nd, rfl⟩⟩) | (go_at_call 26; (with_reducible refine (epactlaw02_awake.calls kj53  t1636 _ A78.out).mono ?_); clear A78; rintro e w79 ⟨rfl, hb⟩; have n0_ := Aside0.mk (Kd.R_below (by (with_reducible repeat (first | apply Kd.R_alloc | apply Kd.R_drewN | apply Kd.R_drew)); exact HO_7.out) hb); have n1_ := Aside0.mk (Kd.R_below (by (with_reducible repeat (first | apply Kd.R_alloc | apply Kd.R_drewN | apply Kd.R_drew)); exact HO_8.out) hb); have n2_ := Aside0.mk (blk_below (g := gb1204) (o := .cells #[.int .i64 t1201, .int .i64 t1202] 23 (0, 0)) (by (with_reducible repeat (first | refine blk_drewN ?_ _ | refine blk_drew ?_ | refine blk_alloc ?_ _)); exact BK1204.out) hb); have n3_ := Aside0.mk (blk_below (g := gb1208) (o := .cells #[.int .i64 t1205, .int .i64 t1206] 23 (0, 0)) (by (with_reducible repeat (first | refine blk_drewN ?_ _ | refine blk_drew ?_ | refine blk_alloc ?_ _)); exact BK1208.out) hb); have n4_ := Aside0.mk (below_step (by repeat (first | (with_reducible first | exact HB.out | apply below_alloc | apply pw_below_drewN | apply below_drew1 | refine below_set ?_ GE1204.out | refine below_set ?_ GE1208.out) | exact HB.out)) hb); clear HO_7; clear HO_8; clear BK1204; clear BK1208; clear HB; have HO_7 := n0_; have HO_8 := n1_; have BK1204 := n2_; have BK1208 := n3_; have HB := n4_; clear n0_ n1_ n2_ n3_ n4_; (try clear hb); (try clear hb2); (try clear hk); (try clear hi)))
                        go_ret
                        exact ⟨by first | rfl | (simp [errW_none, errW_some] <;> rfl) | (simp [*, errW_none, errW_some] <;> rfl), by repeat (first | (with_reducible first | exact HB.out | apply below_alloc | apply pw_below_drewN | apply below_drew1 | refine below_set ?_ GE1204.out | refine below_set ?_ GE1208.out) | exact HB.out)⟩
                      · rw [if_neg c77] at H
                        have c77b0 : ((t1192.length : Int) == 0) = false := beq_eq_false_iff_ne.mpr c77
                        have c77b1 : ((t1192.length : Int) != 0) = true := bne_iff_ne.mpr c77
                        have c77b2 : ¬ (t1192 = []) := fun h_ => c77 (by rw [h_]; rfl)
                        replace H := Option.bind_eq_some_iff.mp H
                        obtain ⟨t1637, A800, H⟩ := H
                        replace H : (if t1637 = true then (none) else ((epactlaw02_awake.f kj53).bind fun t1638 => (some t1638))) = some r := H
                        have A80 := Aside0.mk A800
                        clear A800
                        by_cases c81 : t1637 = true
                        · subst c81
                          have H1 : (none) = some r := by rw [if_pos rfl] at H; exact H
                          clear H
                          have H := H1
                          clear H1
                          exact absurd H (by simp)
                        · replace c81 := Bool.eq_false_iff.mpr c81
                          subst c81
                          have H1 : ((epactlaw02_awake.f kj53).bind fun t1638 => (some t1638)) = some r := by rw [if_neg (show ¬ (false = true) by decide)] at H; exact H
                          clear H
                          have H := H1
                          clear H1
                          replace H := Option.bind_eq_some_iff.mp H
                          obtain ⟨t1638, A820, H⟩ := H
                          replace H : (some t1638) = some r := H
                          have A82 := Aside0.mk A820
                          clear A820
                          obtain rfl := Option.some.inj H
                          go_wp2_with (first | ((with_reducible refine gate_callee (f := 42) rfl ?_); refine goesL_ (some 108) rfl rfl Try.func42 (by kernel_rfl) rfl #[.slice none 0 0, .slice Ao17 t1195.length co17] rfl (by (try simp only [List.map_toArray, List.map_cons, List.map_nil]); first | done | rfl | (simp only [List.length_drop, List.length_take]; rfl)) ?_; (refine (spans_Ahead.calls _ _ ([] : List (S23)) _ _ t1195 true _ ?side1 ?side2 ?side3 ?side4 A73.out).mono ?_); (case side1 => exact Kd.C_nil _ _); (case side2 => exact Nat.le_refl _); (case side3 => repeat (first | exact (Kd.R_reads' HO_8.out).2.2 | (with_reducible refine Kd.C_alloc ?_ _) | (with_reducible refine Kd.C_drewN ?_ _) | (with_reducible refine Kd.C_drew ?_))); (case side4 => exact (Kd.R_reads' HO_8.out).2.1); clear A73; rintro e w' ⟨rfl, ⟨nd, rfl⟩⟩; refine ⟨_, rfl, ?_⟩) | (go_at_call 42; (refine (spans_Ahead.calls _ _ t1192 _ _ ([] : List (S23)) true _ ?side1 ?side2 ?side3 ?side4 A75.out).mono ?_); (case side1 => repeat (first | exact (Kd.R_reads' HO_7.out).2.2 | (with_reducible refine Kd.C_alloc ?_ _) | (with_reducible refine Kd.C_drewN ?_ _) | (with_reducible refine Kd.C_drew ?_))); (case side2 => exact (Kd.R_reads' HO_7.out).2.1); (case side3 => exact Kd.C_nil _ _); (case side4 => exact Nat.le_refl _); clear A75; rintro e w' ⟨rfl, ⟨nd, rfl⟩⟩) | (go_at_call 42; (with_reducible refine (spans_Ahead.calls _ _ t1192 _ _ t1192 false _ ?side1 ?side2 ?side3 ?side4 A80.out).mono ?_); (case side1 => repeat (first | exact (Kd.R_reads' HO_7.out).2.2 | (with_reducible refine Kd.C_alloc ?_ _) | (with_reducible refine Kd.C_drewN ?_ _) | (with_reducible refine Kd.C_drew ?_))); (case side2 => exact (Kd.R_reads' HO_7.out).2.1); (case side3 => repeat (first | exact (Kd.R_reads' HO_7.out).2.2 | (with_reducible refine Kd.C_alloc ?_ _) | (with_reducible refine Kd.C_drewN ?_ _) | (with_reducible refine Kd.C_drew ?_))); (case side4 => exact (Kd.R_reads' HO_7.out).2.1); clear A80; rintro e w' ⟨rfl, ⟨nd, rfl⟩⟩) | (go_at_call 26; (with_reducible refine (epactlaw02_awake.calls kj53  t1638 _ A82.out).mono ?_); clear A82; rintro e w83 ⟨rfl, hb⟩; have n0_ := Aside0.mk (Kd.R_below (by (with_reducible repeat (first | apply Kd.R_alloc | apply Kd.R_drewN | apply Kd.R_drew)); exact HO_7.out) hb); have n1_ := Aside0.mk (Kd.R_below (by (with_reducible repeat (first | apply Kd.R_alloc | apply Kd.R_drewN | apply Kd.R_drew)); exact HO_8.out) hb); have n2_ := Aside0.mk (blk_below (g := gb1204) (o := .cells #[.int .i64 t1201, .int .i64 t1202] 23 (0, 0)) (by (with_reducible repeat (first | refine blk_drewN ?_ _ | refine blk_drew ?_ | refine blk_alloc ?_ _)); exact BK1204.out) hb); have n3_ := Aside0.mk (blk_below (g := gb1208) (o := .cells #[.int .i64 t1205, .int .i64 t1206] 23 (0, 0)) (by (with_reducible repeat (first | refine blk_drewN ?_ _ | refine blk_drew ?_ | refine blk_alloc ?_ _)); exact BK1208.out) hb); have n4_ := Aside0.mk (below_step (by repeat (first | (with_reducible first | exact HB.out | apply below_alloc | apply pw_below_drewN | apply below_drew1 | refine below_set ?_ GE1204.out | refine below_set ?_ GE1208.out) | exact HB.out)) hb); clear HO_7; clear HO_8; clear BK1204; clear BK1208; clear HB; have HO_7 := n0_; have HO_8 := n1_; have BK1204 := n2_; have BK1208 := n3_; have HB := n4_; clear n0_ n1_ n2_ n3_ n4_; (try clear hb); (try clear hb2); (try clear hk); (try clear hi)))
                          go_ret
                          exact ⟨by first | rfl | (simp [errW_none, errW_some] <;> rfl) | (simp [*, errW_none, errW_some] <;> rfl), by repeat (first | (with_reducible first | exact HB.out | apply below_alloc | apply pw_below_drewN | apply below_drew1 | refine below_set ?_ GE1204.out | refine below_set ?_ GE1208.out) | exact HB.out)⟩
                    · replace c76 := Bool.eq_false_iff.mpr c76
                      subst c76
                      have H1 : (none) = some r := by rw [if_neg (show ¬ (false = true) by decide)] at H; exact H
                      clear H
                      have H := H1
                      clear H1
                      exact absurd H (by simp)
                  · replace c74 := Bool.eq_false_iff.mpr c74
                    subst c74
                    have H1 : (none) = some r := by rw [if_neg (show ¬ (false = true) by decide)] at H; exact H
                    clear H
                    have H := H1
                    clear H1
                    exact absurd H (by simp)

end Go.Proofs.Ytmbmalkpmanaaaa.P

/- Sets of ticks as lists of spans: the plain law of what package spans keeps of two. No condition. -/
namespace Go.Proofs.Ytmbmalkpmanaaaa.P
set_option linter.unusedVariables false
set_option linter.unusedSimpArgs false
open Go.RowKit

/-- Spans that rise from lo on, a tick at least between any two, up to hi. -/
def SL (lo hi : Int) : List Sp → Prop
  | [] => True
  | s :: r => lo ≤ s.f0 ∧ s.f0 ≤ s.f1 ∧ s.f1 ≤ hi ∧ SL (s.f1 + 2) hi r
def hasL (l : List Sp) (x : Int) : Bool := l.any fun s => decide (s.f0 ≤ x) && decide (x ≤ s.f1)

theorem hasL_nil (x : Int) : hasL [] x = false := rfl
theorem hasL_cons (s : Sp) (r : List Sp) (x : Int) : hasL (s :: r) x = ((decide (s.f0 ≤ x) && decide (x ≤ s.f1)) || hasL r x) := rfl
theorem hasL_append (l m : List Sp) (x : Int) : hasL (l ++ m) x = (hasL l x || hasL m x) := by simp [hasL]
theorem hasL_true {l : List Sp} {x : Int} : hasL l x = true ↔ ∃ s ∈ l, s.f0 ≤ x ∧ x ≤ s.f1 := by simp [hasL]
theorem SL.mono {lo lo' hi : Int} (h : lo' ≤ lo) : ∀ {l : List Sp}, SL lo hi l → SL lo' hi l
  | [], _ => trivial
  | _ :: _, hs => ⟨by have := hs.1; omega, hs.2⟩
theorem SL.low {lo hi : Int} {l : List Sp} (hs : SL lo hi l) {x : Int} (hx : x < lo) : hasL l x = false := by
  induction l generalizing lo with
  | nil => rfl
  | cons s r ih =>
    obtain ⟨h1, h2, h3, h4⟩ := hs
    rw [hasL_cons, ih h4 (by omega)]
    have : ¬ s.f0 ≤ x := by omega
    simp [this]
theorem SL.high {lo hi : Int} {l : List Sp} (hs : SL lo hi l) {x : Int} (hx : hi < x) : hasL l x = false := by
  induction l generalizing lo with
  | nil => rfl
  | cons s r ih =>
    obtain ⟨h1, h2, h3, h4⟩ := hs
    rw [hasL_cons, ih h4]
    have : ¬ x ≤ s.f1 := by omega
    simp [this]
theorem SL.ticks {lo hi : Int} {l : List Sp} (hs : SL lo hi l) {s : Sp} (h : s ∈ l) : lo ≤ s.f0 ∧ s.f0 ≤ s.f1 ∧ s.f1 ≤ hi := by
  induction l generalizing lo with
  | nil => simp at h
  | cons t r ih =>
    obtain ⟨h1, h2, h3, h4⟩ := hs
    rcases List.mem_cons.1 h with rfl | h
    · exact ⟨h1, h2, h3⟩
    · obtain ⟨a, b, c⟩ := ih h4 h
      exact ⟨by omega, b, c⟩

/-- A set of ticks is kept in one way. -/
theorem SL.uniq {hi hi' : Int} : ∀ {l m : List Sp} {lo lo' : Int}, SL lo hi l → SL lo' hi' m → (∀ x, hasL l x = hasL m x) → l = m
  | [], [], _, _, _, _, _ => rfl
  | [], t :: r, _, _, _, hm, h => by
    have := h t.f0
    rw [hasL_cons] at this
    have h2 := hm.2.1
    simp [hasL_nil, h2] at this
  | s :: r, [], _, _, hl, _, h => by
    have := h s.f0
    rw [hasL_cons] at this
    have h2 := hl.2.1
    simp [hasL_nil, h2] at this
  | s :: r, t :: q, lo, lo', hl, hm, h => by
    obtain ⟨a1, a2, a3, a4⟩ := hl
    obtain ⟨b1, b2, b3, b4⟩ := hm
    have key : ∀ {s t : Sp} {r q : List Sp} {hi hi' : Int}, s.f0 ≤ s.f1 → t.f0 ≤ t.f1 → SL (s.f1 + 2) hi r → SL (t.f1 + 2) hi' q → (∀ x, hasL (s :: r) x = hasL (t :: q) x) → t.f0 ≤ s.f0 := by
      intro s t r q hi hi' a2 b2 a4 b4 h
      by_cases hlt : t.f0 ≤ s.f0
      · exact hlt
      · have hx := h s.f0
        rw [hasL_cons, hasL_cons, b4.low (by omega)] at hx
        have : ¬ t.f0 ≤ s.f0 := hlt
        simp [this, a2] at hx
    have e0 : s.f0 = t.f0 := by
      have h1 := key a2 b2 a4 b4 h
      have h2 := key b2 a2 b4 a4 (fun x => (h x).symm)
      omega
    have key2 : ∀ {s t : Sp} {r q : List Sp} {hi hi' : Int}, s.f0 = t.f0 → s.f0 ≤ s.f1 → t.f0 ≤ t.f1 → SL (s.f1 + 2) hi r → SL (t.f1 + 2) hi' q → (∀ x, hasL (s :: r) x = hasL (t :: q) x) → t.f1 ≤ s.f1 := by
      intro s t r q hi hi' e0 a2 b2 a4 b4 h
      by_cases hlt : t.f1 ≤ s.f1
      · exact hlt
      · have hx := h (s.f1 + 1)
        rw [hasL_cons, hasL_cons, a4.low (by omega)] at hx
        have c1 : ¬ s.f1 + 1 ≤ s.f1 := by omega
        have c2 : t.f0 ≤ s.f1 + 1 := by omega
        have c3 : s.f1 + 1 ≤ t.f1 := by omega
        simp [c2, c3] at hx
        omega
    have e1 : s.f1 = t.f1 := by
      have h1 := key2 e0 a2 b2 a4 b4 h
      have h2 := key2 e0.symm b2 a2 b4 a4 (fun x => (h x).symm)
      omega
    have est : s = t := by cases s; cases t; simp only at e0 e1; rw [e0, e1]
    subst est
    have : r = q := SL.uniq a4 b4 (fun x => by
      have hx := h x
      rw [hasL_cons, hasL_cons] at hx
      by_cases hc : x < s.f1 + 2
      · rw [a4.low hc, b4.low hc]
      · have : ¬ x ≤ s.f1 := by omega
        simpa [this] using hx)
    rw [this]

/-- What is left of a set behind place p: if we are in, its first span has begun there. -/
def Inv (hi : Int) (a : List Sp) (i : Bool) (p : Int) : Prop :=
  match a, i with
  | [], i => i = false
  | s :: r, true => s.f0 ≤ p ∧ p ≤ s.f1 ∧ s.f1 ≤ hi ∧ SL (s.f1 + 2) hi r
  | s :: r, false => SL (p + 1) hi (s :: r)
theorem wrap_ok {n : Int} (h1 : -9223372036854775808 ≤ n) (h2 : n ≤ 9223372036854775807) : wrap64 n = n := by unfold wrap64; omega
theorem Inv.nxt {hi p : Int} {a : List Sp} {i : Bool} (h : Inv hi a i p) (hp : -4611686018427387904 ≤ p) (hh : hi ≤ 4611686018427387904) (hn : a ≠ []) : p < nxtL a i ∧ nxtL a i ≤ hi + 1 := by
  match a, i, hn with
  | s :: r, true, _ =>
    obtain ⟨h1, h2, h3, h4⟩ := h
    have hw : wrap64 (s.f1 + 1) = s.f1 + 1 := wrap_ok (by omega) (by omega)
    simp only [nxtL, hw]
    omega
  | s :: r, false, _ =>
    obtain ⟨h1, h2, h3, h4⟩ := h
    simp only [nxtL]
    omega
theorem Inv.step {hi p t : Int} {a : List Sp} {i : Bool} (h : Inv hi a i p) (hp : -4611686018427387904 ≤ p) (hh : hi ≤ 4611686018427387904) (hpt : p < t) (ht : a ≠ [] → t ≤ nxtL a i) :
    Inv hi (pastL a i t).1 (pastL a i t).2 t ∧ (∀ x, t ≤ x → hasL (pastL a i t).1 x = hasL a x) ∧ (∀ x, p ≤ x → x < t → hasL a x = i) := by
  match a, i with
  | [], i =>
    have : i = false := h
    subst this
    exact ⟨rfl, fun _ _ => rfl, fun _ _ _ => rfl⟩
  | s :: r, true =>
    obtain ⟨h1, h2, h3, h4⟩ := h
    have hw : wrap64 (s.f1 + 1) = s.f1 + 1 := wrap_ok (by omega) (by omega)
    have ht' := ht (by simp)
    simp only [nxtL, hw] at ht'
    have hin : ∀ x, p ≤ x → x < t → hasL (s :: r) x = true := fun x a b => by
      have c1 : s.f0 ≤ x := by omega
      have c2 : x ≤ s.f1 := by omega
      simp [hasL_cons, c1, c2]
    simp only [pastL, hw]
    by_cases e : s.f1 + 1 = t
    · rw [if_pos e]
      refine ⟨?_, fun x hx => ?_, hin⟩
      · cases r with
        | nil => rfl
        | cons u r => exact SL.mono (by omega) h4
      · have : ¬ x ≤ s.f1 := by omega
        simp [hasL_cons, this]
    · rw [if_neg e]
      exact ⟨⟨by omega, by omega, h3, h4⟩, fun _ _ => rfl, hin⟩
  | s :: r, false =>
    obtain ⟨h1, h2, h3, h4⟩ := h
    have ht' := ht (by simp)
    simp only [nxtL] at ht'
    have hout : ∀ x, p ≤ x → x < t → hasL (s :: r) x = false := fun x a b => by
      have c1 : ¬ s.f0 ≤ x := by omega
      rw [hasL_cons, h4.low (by omega)]
      simp [c1]
    simp only [pastL]
    by_cases e : s.f0 = t
    · rw [if_pos e]
      exact ⟨⟨by omega, by omega, h3, h4⟩, fun _ _ => rfl, hout⟩
    · rw [if_neg e]
      exact ⟨⟨by omega, h2, h3, h4⟩, fun _ _ => rfl, hout⟩

theorem fold_out (yes : Bool → Bool → Bool) (xs : List Bd) : ∀ (i : Bool) (f : Int) (o : List Sp), (xs.foldl (kstep yes) ⟨i, f, o⟩).out = o ++ (xs.foldl (kstep yes) ⟨i, f, []⟩).out := by
  induction xs with
  | nil => intro i f o; simp
  | cons x xs ih =>
    intro i f o
    simp only [List.foldl_cons, kstep]
    split
    · exact ih _ _ _
    · split
      · rw [ih _ _ (o ++ _), ih _ _ ([] ++ _)]; simp
      · exact ih _ _ _

theorem sweep (yes : Bool → Bool → Bool) (hy : yes false false = false) (hi lo0 : Int) (hlo : -4611686018427387904 ≤ lo0) (hh : hi ≤ 4611686018427387904) (n : Nat) : ∀ (a : List Sp) (ia : Bool) (b : List Sp) (ib : Bool) (p from_ : Int),
    msr a ia + msr b ib ≤ n → Inv hi a ia p → Inv hi b ib p → lo0 ≤ p + 1 → -4611686018427387904 ≤ p → (yes ia ib = true → lo0 ≤ from_ ∧ from_ ≤ p) →
    SL (if yes ia ib then from_ else p + 1) hi ((bords a ia b ib).foldl (kstep yes) ⟨yes ia ib, from_, []⟩).out ∧
    ∀ x, hasL ((bords a ia b ib).foldl (kstep yes) ⟨yes ia ib, from_, []⟩).out x = if x < p then (yes ia ib && decide (from_ ≤ x)) else yes (hasL a x) (hasL b x) := by
  induction n with
  | zero =>
    intro a ia b ib p from_ hm ha hb hp hp2 hf
    have e : a = [] ∧ b = [] := by
      by_cases e : a = [] ∧ b = []
      · exact e
      · have := step_lt a ia b ib e; omega
    obtain ⟨rfl, rfl⟩ := e
    have h1 : ia = false := ha
    have h2 : ib = false := hb
    subst h1 h2
    rw [bords_nil, hy]
    refine ⟨trivial, fun x => ?_⟩
    simp [hasL_nil, hy]
  | succ n ih =>
    intro a ia b ib p from_ hm ha hb hp hp2 hf
    by_cases e : a = [] ∧ b = []
    · obtain ⟨rfl, rfl⟩ := e
      have h1 : ia = false := ha
      have h2 : ib = false := hb
      subst h1 h2
      rw [bords_nil, hy]
      refine ⟨trivial, fun x => ?_⟩
      simp [hasL_nil, hy]
    · have hlt := step_lt a ia b ib e
      rw [bords_cons a ia b ib e]
      have ht : p < atL a ia b ib ∧ atL a ia b ib ≤ hi + 1 ∧ (a ≠ [] → atL a ia b ib ≤ nxtL a ia) ∧ (b ≠ [] → atL a ia b ib ≤ nxtL b ib) := by
        unfold atL
        by_cases h1 : a = []
        · have h2 : b ≠ [] := fun h => e ⟨h1, h⟩
          rw [if_pos h1]
          have := hb.nxt hp2 hh h2
          exact ⟨this.1, this.2, fun h => absurd h1 h, fun _ => Int.le_refl _⟩
        · rw [if_neg h1]
          have q1 := ha.nxt hp2 hh h1
          by_cases h2 : b = []
          · rw [if_pos h2]
            exact ⟨q1.1, q1.2, fun _ => Int.le_refl _, fun h => absurd h2 h⟩
          · rw [if_neg h2]
            have q2 := hb.nxt hp2 hh h2
            exact ⟨by omega, by omega, fun _ => by omega, fun _ => by omega⟩
      obtain ⟨t, hte⟩ : ∃ t, atL a ia b ib = t := ⟨_, rfl⟩
      rw [hte] at ht hlt ⊢
      obtain ⟨ht1, ht2, ht3, ht4⟩ := ht
      obtain ⟨ia2, ha2, ha3⟩ := ha.step hp2 hh ht1 ht3
      obtain ⟨ib2, hb2, hb3⟩ := hb.step hp2 hh ht1 ht4
      obtain ⟨a1, ia1, hpa⟩ : ∃ a1 ia1, pastL a ia t = (a1, ia1) := ⟨_, _, rfl⟩
      obtain ⟨b1, ib1, hpb⟩ : ∃ b1 ib1, pastL b ib t = (b1, ib1) := ⟨_, _, rfl⟩
      rw [hpa] at hlt ia2 ha2 ⊢
      rw [hpb] at hlt ib2 hb2 ⊢
      dsimp only at hlt ia2 ha2 ib2 hb2 ⊢
      have hw : wrap64 (t - 1) = t - 1 := wrap_ok (by omega) (by omega)
      have hval : ∀ x, p ≤ x → x < t → yes (hasL a x) (hasL b x) = yes ia ib := fun x h1 h2 => by rw [ha3 x h1 h2, hb3 x h1 h2]
      have hval2 : ∀ x, t ≤ x → yes (hasL a1 x) (hasL b1 x) = yes (hasL a x) (hasL b x) := fun x h1 => by rw [ha2 x h1, hb2 x h1]
      simp only [List.foldl_cons]
      cases hin : yes ia ib with
      | false =>
        cases hnow : yes ia1 ib1 with
        | true =>
          have hk : kstep yes ⟨false, from_, []⟩ ⟨t, ia1, ib1⟩ = ⟨yes ia1 ib1, t, []⟩ := by simp [kstep, hnow]
          rw [hk]
          obtain ⟨s1, s2⟩ := ih a1 ia1 b1 ib1 t t (by omega) ia2 ib2 (by omega) (by omega) (fun _ => ⟨by omega, Int.le_refl _⟩)
          rw [hnow] at s1 s2 ⊢
          refine ⟨by simpa using SL.mono (by simp; omega) s1, fun x => ?_⟩
          rw [s2 x]
          by_cases c1 : x < p
          · have c2 : x < t := by omega
            have c3 : ¬ t ≤ x := by omega
            simp [c1, c2, c3]
          · by_cases c2 : x < t
            · have c3 : ¬ t ≤ x := by omega
              rw [if_neg c1, hval x (by omega) c2, hin]
              simp [c2, c3]
            · rw [if_neg c1, if_neg c2, hval2 x (by omega)]
        | false =>
          have hk : kstep yes ⟨false, from_, []⟩ ⟨t, ia1, ib1⟩ = ⟨yes ia1 ib1, from_, []⟩ := by simp [kstep, hnow]
          rw [hk]
          obtain ⟨s1, s2⟩ := ih a1 ia1 b1 ib1 t from_ (by omega) ia2 ib2 (by omega) (by omega) (fun h => by rw [hnow] at h; cases h)
          rw [hnow] at s1 s2 ⊢
          refine ⟨by simpa using SL.mono (by simp; omega) s1, fun x => ?_⟩
          rw [s2 x]
          by_cases c1 : x < p
          · have c2 : x < t := by omega
            simp [c1, c2]
          · by_cases c2 : x < t
            · rw [if_neg c1, hval x (by omega) c2, hin]
              simp [c2]
            · rw [if_neg c1, if_neg c2, hval2 x (by omega)]
      | true =>
        obtain ⟨hf1, hf2⟩ := hf hin
        cases hnow : yes ia1 ib1 with
        | true =>
          have hk : kstep yes ⟨true, from_, []⟩ ⟨t, ia1, ib1⟩ = ⟨yes ia1 ib1, from_, []⟩ := by simp [kstep, hnow]
          rw [hk]
          obtain ⟨s1, s2⟩ := ih a1 ia1 b1 ib1 t from_ (by omega) ia2 ib2 (by omega) (by omega) (fun _ => ⟨hf1, by omega⟩)
          rw [hnow] at s1 s2 ⊢
          refine ⟨by simpa using s1, fun x => ?_⟩
          rw [s2 x]
          by_cases c1 : x < p
          · have c2 : x < t := by omega
            simp [c1, c2]
          · by_cases c2 : x < t
            · have c3 : from_ ≤ x := by omega
              rw [if_neg c1, hval x (by omega) c2, hin]
              simp [c2, c3]
            · rw [if_neg c1, if_neg c2, hval2 x (by omega)]
        | false =>
          have hk : kstep yes ⟨true, from_, []⟩ ⟨t, ia1, ib1⟩ = ⟨yes ia1 ib1, from_, [⟨from_, t - 1⟩]⟩ := by simp [kstep, hnow, hw]
          rw [hk, fold_out]
          obtain ⟨s1, s2⟩ := ih a1 ia1 b1 ib1 t from_ (by omega) ia2 ib2 (by omega) (by omega) (fun h => by rw [hnow] at h; cases h)
          rw [hnow] at s1 s2 ⊢
          refine ⟨⟨by simp, by show from_ ≤ t - 1; omega, by show t - 1 ≤ hi; omega, ?_⟩, fun x => ?_⟩
          · have : (t - 1 : Int) + 2 = t + 1 := by omega
            show SL (t - 1 + 2) hi _
            rw [this]
            simpa using s1
          · have hcons : hasL ([⟨from_, t - 1⟩] ++ (List.foldl (kstep yes) ⟨false, from_, []⟩ (bords a1 ia1 b1 ib1)).out) x = ((decide (from_ ≤ x) && decide (x ≤ t - 1)) || hasL (List.foldl (kstep yes) ⟨false, from_, []⟩ (bords a1 ia1 b1 ib1)).out x) := rfl
            rw [hcons, s2 x]
            by_cases c1 : x < p
            · have c2 : x < t := by omega
              have c3 : x ≤ t - 1 := by omega
              simp [c1, c2, c3]
            · by_cases c2 : x < t
              · have c3 : from_ ≤ x := by omega
                have c4 : x ≤ t - 1 := by omega
                rw [if_neg c1, hval x (by omega) c2, hin]
                simp [c2, c3, c4]
              · have c4 : ¬ x ≤ t - 1 := by omega
                rw [if_neg c1, if_neg c2, hval2 x (by omega)]
                simp [c4]

/-- What is kept of two sets is a set, and has the ticks of which it is said. -/
theorem keptL_spec (yes : Bool → Bool → Bool) (hy : yes false false = false) {lo hi : Int} (hlo : -4611686018427387903 ≤ lo) (hh : hi ≤ 4611686018427387904) {a b : List Sp} (ha : SL lo hi a) (hb : SL lo hi b) :
    SL lo hi (keptL yes a b) ∧ ∀ x, hasL (keptL yes a b) x = yes (hasL a x) (hasL b x) := by
  have inv : ∀ {a : List Sp}, SL lo hi a → Inv hi a false (lo - 1) := by
    intro a h
    cases a with
    | nil => rfl
    | cons s r => exact SL.mono (by omega) h
  obtain ⟨h1, h2⟩ := sweep yes hy hi lo (by omega) hh _ a false b false (lo - 1) 0 (Nat.le_refl _) (inv ha) (inv hb) (by omega) (by omega) (fun h => by rw [hy] at h; cases h)
  rw [hy] at h1 h2
  refine ⟨by simpa [keptL, kfold] using SL.mono (by simp) h1, fun x => ?_⟩
  have := h2 x
  unfold keptL kfold
  rw [this]
  by_cases c : x < lo - 1
  · rw [if_pos c, ha.low (by omega), hb.low (by omega), hy]; simp
  · rw [if_neg c]
end Go.Proofs.Ytmbmalkpmanaaaa.P

/- The reference's sets by their places, and what is made of any spans: plain laws. No condition. -/
namespace Go.Proofs.Ytmbmalkpmanaaaa.P
set_option linter.unusedVariables false
set_option linter.unusedSimpArgs false
open Go.RowKit

theorem SL_snoc {lo hi : Int} {o : List Sp} {z : Sp} : SL lo hi (o ++ [z]) ↔ SL lo hi o ∧ (∀ s ∈ o, s.f1 + 2 ≤ z.f0) ∧ lo ≤ z.f0 ∧ z.f0 ≤ z.f1 ∧ z.f1 ≤ hi := by
  induction o generalizing lo with
  | nil => simp [SL]
  | cons t o ih =>
    simp only [List.cons_append, SL, ih, List.mem_cons]
    constructor
    · rintro ⟨h1, h2, h3, h4, h5, h6, h7, h8⟩
      exact ⟨⟨h1, h2, h3, h4⟩, fun s hs => by rcases hs with rfl | hs; exact h6; exact h5 s hs, by omega, h7, h8⟩
    · rintro ⟨⟨h1, h2, h3, h4⟩, h5, h6, h7, h8⟩
      exact ⟨h1, h2, h3, h4, fun s hs => h5 s (.inr hs), h5 t (.inl rfl), h7, h8⟩

/-! ### What is made of spans that rise by where they begin -/
def glue (out : List Sp) (s : Sp) : List Sp :=
  match out.reverse with
  | [] => [s]
  | z :: o => if s.f0 ≤ z.f1 + 1 then o.reverse ++ [⟨z.f0, max z.f1 s.f1⟩] else out ++ [s]
theorem glue_nil (s : Sp) : glue [] s = [s] := rfl
theorem glue_snoc (o : List Sp) (z s : Sp) : glue (o ++ [z]) s = if s.f0 ≤ z.f1 + 1 then o ++ [⟨z.f0, max z.f1 s.f1⟩] else o ++ [z] ++ [s] := by simp [glue]
theorem glue_spec {lo hi : Int} {out : List Sp} {s : Sp} (hs : SL lo hi out) (hb : ∀ z ∈ out, z.f0 ≤ s.f0) (h0 : lo ≤ s.f0) (h1 : s.f0 ≤ s.f1) (h2 : s.f1 ≤ hi) :
    SL lo hi (glue out s) ∧ (∀ z ∈ glue out s, z.f0 ≤ s.f0) ∧ ∀ t, hasL (glue out s) t = (hasL out t || (decide (s.f0 ≤ t) && decide (t ≤ s.f1))) := by
  rcases List.eq_nil_or_concat out with rfl | ⟨o, z, rfl⟩
  · rw [glue_nil]
    exact ⟨⟨h0, h1, h2, trivial⟩, fun z h => by simp at h; subst h; exact Int.le_refl _, fun t => by simp [hasL]⟩
  · rw [List.concat_eq_append] at *
    obtain ⟨a1, a2, a3, a4, a5⟩ := SL_snoc.1 hs
    have hz := hb z (by simp)
    rw [glue_snoc]
    by_cases e : s.f0 ≤ z.f1 + 1
    · rw [if_pos e]
      refine ⟨SL_snoc.2 ⟨a1, a2, a3, by show z.f0 ≤ max z.f1 s.f1; omega, by show max z.f1 s.f1 ≤ hi; omega⟩, fun u h => ?_, fun t => ?_⟩
      · simp at h
        rcases h with h | rfl
        · exact hb u (by simp [h])
        · exact hz
      · rw [hasL_append, hasL_append]
        simp only [hasL_cons, hasL_nil, Bool.or_false]
        rw [Bool.or_assoc]
        congr 1
        rw [Bool.eq_iff_iff]
        simp only [Bool.and_eq_true, Bool.or_eq_true, decide_eq_true_eq]
        omega
    · rw [if_neg e]
      refine ⟨SL_snoc.2 ⟨hs, fun u h => ?_, h0, h1, h2⟩, fun u h => ?_, fun t => ?_⟩
      · simp at h
        rcases h with h | rfl
        · have := a2 u h; omega
        · omega
      · simp at h
        rcases h with h | rfl | rfl
        · exact hb u (by simp [h])
        · exact hz
        · exact Int.le_refl _
      · rw [hasL_append]; simp [hasL_cons, hasL_nil]
theorem glueAll_spec {lo hi : Int} : ∀ (l out : List Sp), SL lo hi out → (∀ s ∈ l, lo ≤ s.f0 ∧ s.f0 ≤ s.f1 ∧ s.f1 ≤ hi) → (∀ z ∈ out, ∀ s ∈ l, z.f0 ≤ s.f0) → l.Pairwise (fun x y => x.f0 ≤ y.f0) →
    SL lo hi (l.foldl glue out) ∧ ∀ t, hasL (l.foldl glue out) t = (hasL out t || hasL l t) := by
  intro l
  induction l with
  | nil => intro out hs _ _ _; exact ⟨hs, fun t => by simp [hasL_nil]⟩
  | cons s r ih =>
    intro out hs hl hb hp
    obtain ⟨p1, p2⟩ := List.pairwise_cons.1 hp
    obtain ⟨b0, b1, b2⟩ := hl s (by simp)
    obtain ⟨g1, g2, g3⟩ := glue_spec hs (fun z hz => hb z hz s (by simp)) b0 b1 b2
    obtain ⟨i1, i2⟩ := ih (glue out s) g1 (fun u hu => hl u (by simp [hu])) (fun z hz u hu => Int.le_trans (g2 z hz) (p1 u hu)) p2
    refine ⟨i1, fun t => ?_⟩
    simp only [List.foldl_cons]
    rw [i2, g3, hasL_cons, Bool.or_assoc]
theorem glue_len (out : List Sp) (s : Sp) : (glue out s).length ≤ out.length + 1 := by
  rcases List.eq_nil_or_concat out with rfl | ⟨o, z, rfl⟩
  · simp [glue_nil]
  · rw [List.concat_eq_append, glue_snoc]; split <;> simp
theorem hasL_perm {l m : List Sp} (h : l.Perm m) (x : Int) : hasL l x = hasL m x := by
  rw [Bool.eq_iff_iff, hasL_true, hasL_true]
  exact ⟨fun ⟨s, h1, h2⟩ => ⟨s, h.mem_iff.1 h1, h2⟩, fun ⟨s, h1, h2⟩ => ⟨s, h.mem_iff.2 h1, h2⟩⟩
end Go.Proofs.Ytmbmalkpmanaaaa.P

/- An argument that is a slice of spans, opened as a list. No condition. -/
namespace Go.Proofs.Ytmbmalkpmanaaaa.P
set_option linter.unusedVariables false
set_option linter.unusedSimpArgs false
open Go.RowKit Go.ChangeShapes Go.WideShapes Go.Deep Go.Proofs.YtmbmalkpmanaaaaW.PrintWords

/-- What an int's reading says of its size. -/
def fits (n : Int) : Prop := (Lit.int .i64 n).wf = true
def spFits (s : Sp) : Prop := fits s.f0 ∧ fits s.f1

theorem open_spans {H : Type} {enc : TypeId × Value → H} {w : World} {base : Nat} {held : Bool} {a : Option Addr} {len cap : Nat} {d : DataW H} {p : List MemPlace}
    (h : DataW.Trod enc Try.prog w base (fun _ => true) held 24 (.slice a len cap) d p) :
    ∃ l : List Sp, len = l.length ∧ l.length ≤ cap ∧ Kd.C k23 w a l.length l ∧ (∀ s ∈ l, spFits s) ∧ l.length ≤ 9223372036854775807 := by
  obtain ⟨fuel, hf⟩ := h
  rcases open_slice_pairs Try.underlying24 Try.underlying23 (by kernel_rfl) rfl rfl (by kernel_rfl) (by kernel_rfl) hf with ⟨hc, _⟩ | ⟨ad, len', cap', m, n, V0, V1, D0, D1, P0, P1, hc, hb, hl, hm, hmm, hx, hi⟩
  · simp [Value.cells] at hc
    obtain ⟨rfl, rfl, rfl⟩ := hc
    exact ⟨[], rfl, Nat.le_refl _, ⟨rfl, by simp, fun h => absurd h (by simp)⟩, by simp, by simp⟩
  · simp [Value.cells] at hc
    obtain ⟨rfl, rfl, rfl⟩ := hc
    have hlm : len ≤ m := by rw [hmm]; simpa using hl
    have hk : ∀ i, i < len → ∃ s : Sp, w.cell? (ad.add (i * 2)) = some (.int .i64 s.f0) ∧ w.cell? (ad.add (i * 2 + 1)) = some (.int .i64 s.f1) ∧ spFits s := by
      intro i hi'
      obtain ⟨c0, c1, t0, t1⟩ := hi i (by omega)
      obtain ⟨x, e0, _, w0⟩ := DataW.trod_int Try.underlying3 t0
      obtain ⟨y, e1, _, w1⟩ := DataW.trod_int Try.underlying3 t1
      simp only [List.cons.injEq, and_true] at e0 e1
      exact ⟨⟨x, y⟩, by rw [c0, e0], by rw [c1, e1], w0, w1⟩
    have hmax : len ≤ 9223372036854775807 := by unfold maxLen at hm; omega
    suffices key : ∀ k, k ≤ len → ∃ l : List Sp, l.length = k ∧ (∀ j s, l[j]? = some s → w.cell? (ad.add (j * 2)) = some (.int .i64 s.f0) ∧ w.cell? (ad.add (j * 2 + 1)) = some (.int .i64 s.f1)) ∧ ∀ s ∈ l, spFits s by
      obtain ⟨l, rfl, hl2, hfit⟩ := key len (Nat.le_refl _)
      refine ⟨l, rfl, hl, ⟨rfl, hmax, fun _ => ⟨ad, rfl, fun j s hj => ⟨[.int .i64 s.f0, .int .i64 s.f1], rfl, k23_mk w s, fun i u hu => ?_⟩⟩⟩, hfit, hmax⟩
      have := hl2 j s hj
      match i, hu with
      | 0, hu => simp at hu; subst hu; exact this.1
      | 1, hu => simp at hu; subst hu; exact this.2
    intro k
    induction k with
    | zero => exact fun _ => ⟨[], rfl, fun j s h => by simp at h, by simp⟩
    | succ k ih =>
      intro hk'
      obtain ⟨l, hl1, hl2, hl3⟩ := ih (by omega)
      obtain ⟨s, h0, h1, h2⟩ := hk k (by omega)
      refine ⟨l ++ [s], by simp [hl1], fun j t hj => ?_, fun t ht => ?_⟩
      · by_cases hjk : j < l.length
        · rw [List.getElem?_append_left hjk] at hj; exact hl2 j t hj
        · rw [List.getElem?_append_right (by omega)] at hj
          have : j - l.length = 0 := by
            by_cases e : j - l.length = 0
            · exact e
            · rw [List.getElem?_eq_none (by simp; omega)] at hj; cases hj
          rw [this] at hj
          simp at hj
          subst hj
          have : j = k := by omega
          subst this
          exact ⟨h0, h1⟩
      · simp at ht
        rcases ht with ht | rfl
        · exact hl3 t ht
        · exact h2
end Go.Proofs.Ytmbmalkpmanaaaa.P


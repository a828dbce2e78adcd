/- Lemmas for the law FindRises: what the functions that it reaches compute. No condition of its own. -/
import Derived.Test.YtmbmalkpmanaaaaYFindRises4
import Derived.Test.YtmbmalkpmanaaaaYFindRises2
import Derived.Test.YtmbmalkpmanaaaaYFindRises6
import Derived.Test.YtmbmalkpmanaaaaYFindRises5
import Derived.Deep.SlicePairs
import Derived.ChangeArms
import Derived.ProofKit
import Derived.Test.YtmbmalkpmanaaaaYFindRises3
namespace Go.Proofs.Ytmbmalkpmanaaaa.P
open Go.RowKit Go.Proofs.YtmbmalkpmanaaaaW.PrintWords Go.Proofs.YtmbmalkpmanaaaaW.PrintLast Go.Proofs.YtmbmalkpmanaaaaW.PrintMore
attribute [local go_sem] max2_int min2_int max_two min_two max_three min_three max_four min_four   -- for this text's walks alone
set_option linter.unusedVariables false
set_option linter.unusedSimpArgs false

mutual
def gran_shape.j0 : Nat → Bool → Int → Int → List (List (S23)) → List (S70) → Option (Bool)
 | 0, _, _, _, _, _ => none
 | k + 1, x31, x2134000, x2134001, x2134002, x2134003 => if x31 = true then (some false) else (gran_shape.l0 k x2134002 (x2134002.length : Int) 0 x2134000 x2134001 x2134002 x2134003)
def gran_shape.l0 : Nat → List (List (S23)) → Int → Int → Int → Int → List (List (S23)) → List (S70) → Option (Bool)
 | 0, _, _, _, _, _, _, _ => none
 | k + 1, x33, x34, x35, x2134000, x2134001, x2134002, x2134003 => if x35 < x34 then (if 0 ≤ x35 then (if x35 < (x33.length : Int) then ((spans_Right.f k (rd_L2 x33 x35)).bind fun t2135 => (if t2135 = true then (gran_shape.l0 k x33 x34 (wrap64 (x35 + 1)) x2134000 x2134001 x2134002 x2134003) else (some false))) else (none)) else (none)) else (gran_shape.l1 k x2134003 (x2134003.length : Int) 0 x2134000 x2134001 x2134002 x2134003)
def gran_shape.l1 : Nat → List (S70) → Int → Int → Int → Int → List (List (S23)) → List (S70) → Option (Bool)
 | 0, _, _, _, _, _, _, _ => none
 | k + 1, x44, x45, x46, x2134000, x2134001, x2134002, x2134003 => if x46 < x45 then (if 0 ≤ x46 then (if x46 < (x44.length : Int) then ((spans_Right.f k ((rd_T70 x44 x46).f1)).bind fun t2138 => (if t2138 = true then ((gran_inRange.f ((rd_T70 x44 x46).f0)).bind fun t2139 => (if t2139 = true then (if x46 > 0 then (if 0 ≤ (wrap64 (x46 - 1)) then (if (wrap64 (x46 - 1)) < (x2134003.length : Int) then (if ((rd_T70 x44 x46).f0) ≤ ((rd_T70 x2134003 (wrap64 (x46 - 1))).f0) then (some false) else (gran_shape.l1 k x44 x45 (wrap64 (x46 + 1)) x2134000 x2134001 x2134002 x2134003)) else (none)) else (none)) else (gran_shape.l1 k x44 x45 (wrap64 (x46 + 1)) x2134000 x2134001 x2134002 x2134003)) else (some false))) else (some false))) else (none)) else (none)) else (some true)
end
def gran_shape.f (k : Nat) (a0_0 : Int) (a0_1 : Int) (l0_2 : List (List (S23))) (l0_3 : List (S70)) : Option (Bool) := if a0_1 = (l0_2.length : Int) then (if ((a0_1 == 0) != (a0_0 == 0)) = true then (gran_shape.j0 k true a0_0 a0_1 l0_2 l0_3) else (if a0_0 < 0 then (gran_shape.j0 k true a0_0 a0_1 l0_2 l0_3) else (gran_shape.j0 k (decide (a0_0 > 1099511627776)) a0_0 a0_1 l0_2 l0_3))) else (gran_shape.j0 k true a0_0 a0_1 l0_2 l0_3)
def gran_shape.T12 : Bool × List (List Nat × List Nat) := (true, [([], []), ([0], [0]), ([1], [1]), ([2], [2]), ([3, 2], [3]), ([4], [4]), ([5, 4], [4, 5]), ([6, 4, 4], [4, 6]), ([7, 4], [4, 7]), ([4, 8], [4, 8]), ([9, 7], [9]), ([10], [10]), ([11, 10], [10, 11]), ([12, 10, 10], [10, 12]), ([13], [13]), ([14, 13], [13, 14]), ([13], [13]), ([16, 13], [13, 16]), ([13], [13]), ([18, 13], [13, 18]), ([17, 19, 13], [13, 17, 19]), ([20, 13], [13, 20]), ([21, 13], [13, 21]), ([15, 22, 13], [13, 15, 22]), ([13, 23, 10], [10, 13, 23]), ([10, 24], [10, 24])])
def gran_shape.B12 : List Nat := [0, 1, 3, 7, 15, 31, 63, 127, 255, 511, 1023, 2047, 4095, 8191, 16383, 32767, 16383, 81919, 16383, 278527, 999423, 2047999, 4145151, 8388607, 16777215, 33554431]
theorem gran_shape.tab12 : rtab .any (opsOf Try.f81 12) = gran_shape.T12 := by kernel_rfl
theorem gran_shape.bits12 : waitsOk gran_shape.T12.2 gran_shape.B12 = true := by kernel_rfl
set_option maxHeartbeats 8000000 in
set_option maxRecDepth 100000 in
theorem gran_shape.calls (k : Nat) (a0_0 : Int) (a0_1 : Int) (A0_2 : Option Addr) (c0_2 : Nat) (l0_2 : List (List (S23))) (A0_3 : Option Addr) (c0_3 : Nat) (l0_3 : List (S70)) (r : Bool) (w : World) (hr0_2 : Kd.C (Kd.slice 23 k23) w A0_2 l0_2.length l0_2) (hc0_2 : l0_2.length ≤ c0_2) (hr0_3 : Kd.C k70 w A0_3 l0_3.length l0_3) (hc0_3 : l0_3.length ≤ c0_3) (h : gran_shape.f k a0_0 a0_1 l0_2 l0_3 = some r) :
 Calls Try.prog 81 #[.agg #[.int .i64 a0_0, .int .i64 a0_1, .slice A0_2 l0_2.length c0_2, .slice A0_3 l0_3.length c0_3]] w fun e w' => e = .returned (.bool r) ∧ Below w.heap.size w w' := by
 have hu28 := Try.underlying28
 have hu70 := Try.underlying70
 have HR0_2 := am hr0_2
 have HC0_2 := am hc0_2
 clear hr0_2 hc0_2
 have HR0_3 := am hr0_3
 have HC0_3 := am hc0_3
 clear hr0_3 hc0_3
 have HB := am (Below.refl w.heap.size w)
 have H : (if a0_1 = (l0_2.length : Int) then (if ((a0_1 == 0) != (a0_0 == 0)) = true then (gran_shape.j0 k true a0_0 a0_1 l0_2 l0_3) else (if a0_0 < 0 then (gran_shape.j0 k true a0_0 a0_1 l0_2 l0_3) else (gran_shape.j0 k (decide (a0_0 > 1099511627776)) a0_0 a0_1 l0_2 l0_3))) else (gran_shape.j0 k true a0_0 a0_1 l0_2 l0_3)) = some r := h
 clear h
 have HC2 := am H
 clear H
 go_enter Try.func81, Try.ntmps81
 go_upto_region 1 with (first | ((with_reducible refine gate_dst (N := 1) rfl ?_); refine bx 1 28 #[.int .i64 a0_0, .int .i64 a0_1, .slice A0_2 l0_2.length c0_2, .slice A0_3 l0_3.length c0_3] ?_; intro gb2133 hg w3 hbox hb; have BK2133 := am (hbox); have GW2133 := am ((bz hg HB.out : w.heap.size ≤ gb2133)); have GE2133 := am ((bz hg HB.out : w.heap.size ≤ gb2133)); replace HB := am (below_step (bl HB.out) hb); clear hb hbox hg))
 (try simp only [Act.put, List.setIfInBounds_toArray, List.set_cons_zero, List.set_cons_succ])
 go_cut [31] (fun v31 wc => ∃ (kq : Nat) (x31_1 : Bool), v31 = .bool x31_1 ∧ Aside0 (gran_shape.j0 kq x31_1 a0_0 a0_1 l0_2 l0_3 = some r) ∧ Aside0 (kq ≤ k) ∧ Aside0 (wc.heap[gb2133]? = some (.cells #[.int .i64 a0_0, .int .i64 a0_1, (.slice A0_2 l0_2.length c0_2), (.slice A0_3 l0_3.length c0_3)] 28 (0, 0))) ∧ Aside0 (Below w.heap.size w wc))
 case first =>
  have H := HC2.out
  clear HC2
  by_cases c4 : a0_1 = (l0_2.length : Int)
  ·rw [if_pos c4] at H
   have c4b0 : (a0_1 == (l0_2.length : Int)) = true := beq_iff_eq.mpr c4
   have c4b1 : (a0_1 != (l0_2.length : Int)) = false := bne_eq_false_iff_eq.mpr c4
   clear c4
   (first | rw [c4b0] | (simp only [i64_w, i32_w]; rw [c4b0]) | skip)
   by_cases c5 : ((a0_1 == 0) != (a0_0 == 0)) = true
   ·rw [if_pos c5] at H
    have c5b0 : ((a0_1 == 0) != (a0_0 == 0)) = true := c5
    (try (have c5b1 : decide ((a0_1 == 0) = (a0_0 == 0)) = false := by simpa using c5))
    (try (have c5b2 : ((a0_1 == 0) == (a0_0 == 0)) = false := by simpa using c5))
    (try (have c5b3 : ¬ ((a0_1 == 0) = (a0_0 == 0)) := by simpa using c5))
    clear c5
    have H' := am H
    clear H
    have hcz6_0 : w3.cell? ⟨gb2133, 0, none⟩ = some (.int .i64 a0_0) := bc BK2133.out 0
    have hcz6_1 : w3.cell? ⟨gb2133, 1, none⟩ = some (.int .i64 a0_1) := bc BK2133.out 1
    have hcz6_2 : w3.cell? ⟨gb2133, 2, none⟩ = some (.slice A0_2 l0_2.length c0_2) := bc BK2133.out 2
    have hcz6_3 : w3.cell? ⟨gb2133, 3, none⟩ = some (.slice A0_3 l0_3.length c0_3) := bc BK2133.out 3
    have hfz6_0 := blk_frozen BK2133.out 0
    have hfz6_1 := blk_frozen BK2133.out 1
    have hfz6_2 := blk_frozen BK2133.out 2
    have hfz6_3 := blk_frozen BK2133.out 3
    go_wp2
    go_meet
    case rel => exact ⟨_, (true), sm, H', ⟨by first | omega | exact Nat.le_refl _⟩, ⟨kp BK2133.out⟩, ⟨bl1 HB.out GE2133.out⟩⟩
   ·rw [if_neg c5] at H
    have c5b0 : ((a0_1 == 0) != (a0_0 == 0)) = false := by simpa using c5
    (try (have c5b1 : decide ((a0_1 == 0) = (a0_0 == 0)) = true := by simpa using c5))
    (try (have c5b2 : ((a0_1 == 0) == (a0_0 == 0)) = true := by simpa using c5))
    clear c5
    by_cases c7 : a0_0 < 0
    ·rw [if_pos c7] at H
     have c7b0 : decide (a0_0 < 0) = true := decide_eq_true c7
     clear c7
     have H' := am H
     clear H
     have hcz8_0 : w3.cell? ⟨gb2133, 0, none⟩ = some (.int .i64 a0_0) := bc BK2133.out 0
     have hcz8_1 : w3.cell? ⟨gb2133, 1, none⟩ = some (.int .i64 a0_1) := bc BK2133.out 1
     have hcz8_2 : w3.cell? ⟨gb2133, 2, none⟩ = some (.slice A0_2 l0_2.length c0_2) := bc BK2133.out 2
     have hcz8_3 : w3.cell? ⟨gb2133, 3, none⟩ = some (.slice A0_3 l0_3.length c0_3) := bc BK2133.out 3
     have hfz8_0 := blk_frozen BK2133.out 0
     have hfz8_1 := blk_frozen BK2133.out 1
     have hfz8_2 := blk_frozen BK2133.out 2
     have hfz8_3 := blk_frozen BK2133.out 3
     go_wp2
     go_meet
     case rel => exact ⟨_, (true), sm, H', ⟨by first | omega | exact Nat.le_refl _⟩, ⟨kp BK2133.out⟩, ⟨bl1 HB.out GE2133.out⟩⟩
    ·rw [if_neg c7] at H
     have c7b0 : decide (a0_0 < 0) = false := decide_eq_false c7
     clear c7
     have H' := am H
     clear H
     have hcz9_0 : w3.cell? ⟨gb2133, 0, none⟩ = some (.int .i64 a0_0) := bc BK2133.out 0
     have hcz9_1 : w3.cell? ⟨gb2133, 1, none⟩ = some (.int .i64 a0_1) := bc BK2133.out 1
     have hcz9_2 : w3.cell? ⟨gb2133, 2, none⟩ = some (.slice A0_2 l0_2.length c0_2) := bc BK2133.out 2
     have hcz9_3 : w3.cell? ⟨gb2133, 3, none⟩ = some (.slice A0_3 l0_3.length c0_3) := bc BK2133.out 3
     have hfz9_0 := blk_frozen BK2133.out 0
     have hfz9_1 := blk_frozen BK2133.out 1
     have hfz9_2 := blk_frozen BK2133.out 2
     have hfz9_3 := blk_frozen BK2133.out 3
     go_wp2
     go_meet
     case rel => exact ⟨_, (decide (a0_0 > 1099511627776)), sm, H', ⟨by first | omega | exact Nat.le_refl _⟩, ⟨kp BK2133.out⟩, ⟨bl1 HB.out GE2133.out⟩⟩
  ·rw [if_neg c4] at H
   have c4b0 : (a0_1 == (l0_2.length : Int)) = false := beq_eq_false_iff_ne.mpr c4
   have c4b1 : (a0_1 != (l0_2.length : Int)) = true := bne_iff_ne.mpr c4
   (first | rw [c4b0] | (simp only [i64_w, i32_w]; rw [c4b0]) | skip)
   have H' := am H
   clear H
   have hcz10_0 : w3.cell? ⟨gb2133, 0, none⟩ = some (.int .i64 a0_0) := bc BK2133.out 0
   have hcz10_1 : w3.cell? ⟨gb2133, 1, none⟩ = some (.int .i64 a0_1) := bc BK2133.out 1
   have hcz10_2 : w3.cell? ⟨gb2133, 2, none⟩ = some (.slice A0_2 l0_2.length c0_2) := bc BK2133.out 2
   have hcz10_3 : w3.cell? ⟨gb2133, 3, none⟩ = some (.slice A0_3 l0_3.length c0_3) := bc BK2133.out 3
   have hfz10_0 := blk_frozen BK2133.out 0
   have hfz10_1 := blk_frozen BK2133.out 1
   have hfz10_2 := blk_frozen BK2133.out 2
   have hfz10_3 := blk_frozen BK2133.out 3
   go_wp2
   go_meet
   case rel => exact ⟨_, (true), sm, H', ⟨by first | omega | exact Nat.le_refl _⟩, ⟨kp BK2133.out⟩, ⟨bl1 HB.out GE2133.out⟩⟩
 case rest =>
  clear HC2
  try clear p2
  try clear c4
  try clear c4b0
  try clear c4b1
  try clear c5
  try clear c5b0
  try clear c5b1
  try clear c5b2
  try clear c7
  try clear c7b0
  try clear c8
  try clear hcz10_0
  try clear hcz10_1
  try clear hcz10_2
  try clear hcz10_3
  try clear hcz6_0
  try clear hcz6_1
  try clear hcz6_2
  try clear hcz6_3
  try clear hcz8_0
  try clear hcz8_1
  try clear hcz8_2
  try clear hcz8_3
  try clear hcz9_0
  try clear hcz9_1
  try clear hcz9_2
  try clear hcz9_3
  try clear hfz10_0
  try clear hfz10_1
  try clear hfz10_2
  try clear hfz10_3
  try clear hfz6_0
  try clear hfz6_1
  try clear hfz6_2
  try clear hfz6_3
  try clear hfz8_0
  try clear hfz8_1
  try clear hfz8_2
  try clear hfz8_3
  try clear hfz9_0
  try clear hfz9_1
  try clear hfz9_2
  try clear hfz9_3
  obtain ⟨kq, x31_1, rfl, HA, HJ1, BK2133, HB⟩ := hcut
  cases kq with
  | zero => exact absurd HA.out (by simp [gran_shape.j0])
  | succ kj1 =>
   have H := HA.out
   clear HA
   simp only [gran_shape.j0] at H
   by_cases c11 : x31_1 = true
   ·subst c11
    have H1 : (some false) = some r := by rw [if_pos rfl] at H; exact H
    clear H
    have H := H1
    clear H1
    obtain rfl := Option.some.inj H
    go_wp2
    go_ret
    exact ⟨rt, bl1 HB.out GE2133.out⟩
   ·replace c11 := Bool.eq_false_iff.mpr c11
    subst c11
    have H1 : (gran_shape.l0 kj1 l0_2 (l0_2.length : Int) 0 a0_0 a0_1 l0_2 l0_3) = some r := by rw [if_neg (show ¬ (false = true) by decide)] at H; exact H
    clear H
    have H := H1
    clear H1
    have H' := am H
    clear H
    have hcz12_0 : wc.cell? ⟨gb2133, 0, none⟩ = some (.int .i64 a0_0) := bc BK2133.out 0
    have hcz12_1 : wc.cell? ⟨gb2133, 1, none⟩ = some (.int .i64 a0_1) := bc BK2133.out 1
    have hcz12_2 : wc.cell? ⟨gb2133, 2, none⟩ = some (.slice A0_2 l0_2.length c0_2) := bc BK2133.out 2
    have hcz12_3 : wc.cell? ⟨gb2133, 3, none⟩ = some (.slice A0_3 l0_3.length c0_3) := bc BK2133.out 3
    have hfz12_0 := blk_frozen BK2133.out 0
    have hfz12_1 := blk_frozen BK2133.out 1
    have hfz12_2 := blk_frozen BK2133.out 2
    have hfz12_3 := blk_frozen BK2133.out 3
    go_wp2
    go_loopg [35] kj1 (fun kq v35 w' => ∃ (x35_2 : Int), v35 = .int .i64 x35_2 ∧ Aside0 (gran_shape.l0 kq l0_2 (l0_2.length : Int) x35_2 a0_0 a0_1 l0_2 l0_3 = some r) ∧ Aside0 (kq ≤ kj1) ∧ Aside0 (w'.heap[gb2133]? = some (.cells #[.int .i64 a0_0, .int .i64 a0_1, (.slice A0_2 l0_2.length c0_2), (.slice A0_3 l0_3.length c0_3)] 28 (0, 0))) ∧ Aside0 (Below w.heap.size w w'))
    case atStart => exact ⟨(0), sm, H', ⟨Nat.le_refl _⟩, ⟨kp BK2133.out⟩, ⟨bl1 HB.out GE2133.out⟩⟩
    case round =>
     clear H'
     try clear c1
     try clear p2
     try clear c4
     try clear c4b0
     try clear c4b1
     try clear c5
     try clear c5b0
     try clear c5b1
     try clear c5b2
     try clear c7
     try clear c7b0
     try clear c8
     try clear c11
     try clear hcz10_0
     try clear hcz10_1
     try clear hcz10_2
     try clear hcz10_3
     try clear hcz12_0
     try clear hcz12_1
     try clear hcz12_2
     try clear hcz12_3
     try clear hcz6_0
     try clear hcz6_1
     try clear hcz6_2
     try clear hcz6_3
     try clear hcz8_0
     try clear hcz8_1
     try clear hcz8_2
     try clear hcz8_3
     try clear hcz9_0
     try clear hcz9_1
     try clear hcz9_2
     try clear hcz9_3
     try clear hfz10_0
     try clear hfz10_1
     try clear hfz10_2
     try clear hfz10_3
     try clear hfz12_0
     try clear hfz12_1
     try clear hfz12_2
     try clear hfz12_3
     try clear hfz6_0
     try clear hfz6_1
     try clear hfz6_2
     try clear hfz6_3
     try clear hfz8_0
     try clear hfz8_1
     try clear hfz8_2
     try clear hfz8_3
     try clear hfz9_0
     try clear hfz9_1
     try clear hfz9_2
     try clear hfz9_3
     try clear p2
     obtain ⟨x35_2, rfl, HA, HK2, BK2133, HB⟩ := hrel
     cases gk with
     | zero => exact absurd HA.out (by simp [gran_shape.l0])
     | succ k2 =>
      have H := HA.out
      clear HA
      simp only [gran_shape.l0] at H
      by_cases c13 : x35_2 < (l0_2.length : Int)
      ·rw [if_pos c13] at H
       have c13b0 : decide (x35_2 < (l0_2.length : Int)) = true := decide_eq_true c13
       clear c13
       by_cases c14 : 0 ≤ x35_2
       ·rw [if_pos c14] at H
        have c14b0 : decide (0 ≤ x35_2) = true := decide_eq_true c14
        clear c14
        by_cases c15 : x35_2 < (l0_2.length : Int)
        ·rw [if_pos c15] at H
         have c15b0 : decide (x35_2 < (l0_2.length : Int)) = true := decide_eq_true c15
         clear c15
         replace H := Option.bind_eq_some_iff.mp H
         obtain ⟨t2135, A160, H⟩ := H
         try dsimp only at H
         have A16 := am A160
         clear A160
         by_cases c17 : t2135 = true
         ·subst c17
          have H1 : (gran_shape.l0 k2 l0_2 (l0_2.length : Int) (wrap64 (x35_2 + 1)) a0_0 a0_1 l0_2 l0_3) = some r := by rw [if_pos rfl] at H; exact H
          clear H
          have H := H1
          clear H1
          have H' := am H
          clear H
          have p2134 : 0 ≤ (x35_2 : Int) := of_decide_eq_true asm
          have q2134 : x35_2 < (l0_2.length : Int) := of_decide_eq_true asm
          obtain ⟨ad2134, A2134_0, c2134_0, e2134, hx2134_0, hl2134_0, hi2134_0⟩ := at_L2 HR0_2.out x35_2 p2134 q2134
          cases e2134
          replace hx2134_0 := (HB.out.cell (World.block_lt_of_cell? w _ hx2134_0)).trans hx2134_0
          have HR2134_0 := am hi2134_0
          have HC2134_0 := am hl2134_0
          clear hi2134_0 hl2134_0
          replace p2134 := eq_true p2134
          replace q2134 := eq_true q2134
          go_wp2_with (first | ((with_reducible refine gate_callee (f := 31) rfl ?_); refine goesL_ (some 40) rfl rfl Try.func31 (by kernel_rfl) rfl #[.slice A2134_0 (rd_L2 l0_2 x35_2).length c2134_0] rfl ar ?_; (with_reducible refine (spans_Right.calls k2 _ _ (rd_L2 l0_2 x35_2) true _ ?side1 ?side2 A16.out).mono ?_); (case side1 => exact kc (Kd.C_below HR2134_0.out HB.out)); (case side2 => exact HC2134_0.out); rintro e w18 ⟨rfl, hb⟩; refine ⟨_, rfl, ?_⟩; replace BK2133 := am (blk_below (kp BK2133.out) hb); replace HB := am (below_step (bl1 HB.out GE2133.out) hb); (try clear hb); (try clear hb2); (try clear hk); (try clear hi)))
          go_roundg k2
          case measure => have := HJ1.out; have := HK2.out; omega
          case rel => exact ⟨(wrap64 (x35_2 + 1)), sm, H', ⟨by have := HJ1.out; have := HK2.out; omega⟩, ⟨kp BK2133.out⟩, ⟨bl1 HB.out GE2133.out⟩⟩
         ·replace c17 := Bool.eq_false_iff.mpr c17
          subst c17
          have H1 : (some false) = some r := by rw [if_neg (show ¬ (false = true) by decide)] at H; exact H
          clear H
          have H := H1
          clear H1
          obtain rfl := Option.some.inj H
          have p2134 : 0 ≤ (x35_2 : Int) := of_decide_eq_true asm
          have q2134 : x35_2 < (l0_2.length : Int) := of_decide_eq_true asm
          obtain ⟨ad2134, A2134_0, c2134_0, e2134, hx2134_0, hl2134_0, hi2134_0⟩ := at_L2 HR0_2.out x35_2 p2134 q2134
          cases e2134
          replace hx2134_0 := (HB.out.cell (World.block_lt_of_cell? w _ hx2134_0)).trans hx2134_0
          have HR2134_0 := am hi2134_0
          have HC2134_0 := am hl2134_0
          clear hi2134_0 hl2134_0
          replace p2134 := eq_true p2134
          replace q2134 := eq_true q2134
          go_wp2_with (first | ((with_reducible refine gate_callee (f := 31) rfl ?_); refine goesL_ (some 40) rfl rfl Try.func31 (by kernel_rfl) rfl #[.slice A2134_0 (rd_L2 l0_2 x35_2).length c2134_0] rfl ar ?_; (with_reducible refine (spans_Right.calls k2 _ _ (rd_L2 l0_2 x35_2) false _ ?side1 ?side2 A16.out).mono ?_); (case side1 => exact kc (Kd.C_below HR2134_0.out HB.out)); (case side2 => exact HC2134_0.out); rintro e w19 ⟨rfl, hb⟩; refine ⟨_, rfl, ?_⟩; replace BK2133 := am (blk_below (kp BK2133.out) hb); replace HB := am (below_step (bl1 HB.out GE2133.out) hb); (try clear hb); (try clear hb2); (try clear hk); (try clear hi)))
          go_ret
          exact ⟨rt, bl1 HB.out GE2133.out⟩
        ·rw [if_neg c15] at H
         exact absurd H (by simp)
       ·rw [if_neg c14] at H
        exact absurd H (by simp)
      ·rw [if_neg c13] at H
       have c13b0 : decide (x35_2 < (l0_2.length : Int)) = false := decide_eq_false c13
       clear c13
       have H' := am H
       clear H
       have hcz20_0 : wr.cell? ⟨gb2133, 0, none⟩ = some (.int .i64 a0_0) := bc BK2133.out 0
       have hcz20_1 : wr.cell? ⟨gb2133, 1, none⟩ = some (.int .i64 a0_1) := bc BK2133.out 1
       have hcz20_2 : wr.cell? ⟨gb2133, 2, none⟩ = some (.slice A0_2 l0_2.length c0_2) := bc BK2133.out 2
       have hcz20_3 : wr.cell? ⟨gb2133, 3, none⟩ = some (.slice A0_3 l0_3.length c0_3) := bc BK2133.out 3
       have hfz20_0 := blk_frozen BK2133.out 0
       have hfz20_1 := blk_frozen BK2133.out 1
       have hfz20_2 := blk_frozen BK2133.out 2
       have hfz20_3 := blk_frozen BK2133.out 3
       go_wp2
       go_loopg [46] k2 (fun kq v46 w' => ∃ (x46_3 : Int), v46 = .int .i64 x46_3 ∧ Aside0 (gran_shape.l1 kq l0_3 (l0_3.length : Int) x46_3 a0_0 a0_1 l0_2 l0_3 = some r) ∧ Aside0 (kq ≤ k2) ∧ Aside0 (w'.heap[gb2133]? = some (.cells #[.int .i64 a0_0, .int .i64 a0_1, (.slice A0_2 l0_2.length c0_2), (.slice A0_3 l0_3.length c0_3)] 28 (0, 0))) ∧ Aside0 (Below w.heap.size w w'))
       case atStart => exact ⟨(0), sm, H', ⟨Nat.le_refl _⟩, ⟨kp BK2133.out⟩, ⟨bl1 HB.out GE2133.out⟩⟩
       case round =>
        clear H'
        try clear c1
        try clear c2
        try clear p2
        try clear q2
        try clear hx2
        try clear c3
        try clear c4
        try clear c4b0
        try clear c4b1
        try clear c5
        try clear c5b0
        try clear c5b1
        try clear c5b2
        try clear p6
        try clear c7
        try clear c7b0
        try clear c8
        try clear c11
        try clear c13
        try clear c13b0
        try clear c14
        try clear c14b0
        try clear c15
        try clear c15b0
        try clear c17
        try clear hcz10_0
        try clear hcz10_1
        try clear hcz10_2
        try clear hcz10_3
        try clear hcz12_0
        try clear hcz12_1
        try clear hcz12_2
        try clear hcz12_3
        try clear hcz20_0
        try clear hcz20_1
        try clear hcz20_2
        try clear hcz20_3
        try clear hcz6_0
        try clear hcz6_1
        try clear hcz6_2
        try clear hcz6_3
        try clear hcz8_0
        try clear hcz8_1
        try clear hcz8_2
        try clear hcz8_3
        try clear hcz9_0
        try clear hcz9_1
        try clear hcz9_2
        try clear hcz9_3
        try clear hfz10_0
        try clear hfz10_1
        try clear hfz10_2
        try clear hfz10_3
        try clear hfz12_0
        try clear hfz12_1
        try clear hfz12_2
        try clear hfz12_3
        try clear hfz20_0
        try clear hfz20_1
        try clear hfz20_2
        try clear hfz20_3
        try clear hfz6_0
        try clear hfz6_1
        try clear hfz6_2
        try clear hfz6_3
        try clear hfz8_0
        try clear hfz8_1
        try clear hfz8_2
        try clear hfz8_3
        try clear hfz9_0
        try clear hfz9_1
        try clear hfz9_2
        try clear hfz9_3
        try clear hx2134_0
        try clear p2
        try clear p2134
        try clear q2134
        obtain ⟨x46_3, rfl, HA, HK3, BK2133, HB⟩ := hrel
        cases gk with
        | zero => exact absurd HA.out (by simp [gran_shape.l1])
        | succ k3 =>
         have H := HA.out
         clear HA
         simp only [gran_shape.l1] at H
         by_cases c21 : x46_3 < (l0_3.length : Int)
         ·rw [if_pos c21] at H
          have c21b0 : decide (x46_3 < (l0_3.length : Int)) = true := decide_eq_true c21
          clear c21
          by_cases c22 : 0 ≤ x46_3
          ·rw [if_pos c22] at H
           have c22b0 : decide (0 ≤ x46_3) = true := decide_eq_true c22
           clear c22
           by_cases c23 : x46_3 < (l0_3.length : Int)
           ·rw [if_pos c23] at H
            have c23b0 : decide (x46_3 < (l0_3.length : Int)) = true := decide_eq_true c23
            clear c23
            replace H := Option.bind_eq_some_iff.mp H
            obtain ⟨t2138, A240, H⟩ := H
            try dsimp only at H
            have A24 := am A240
            clear A240
            by_cases c25 : t2138 = true
            ·subst c25
             have H1 : ((gran_inRange.f ((rd_T70 l0_3 x46_3).f0)).bind fun t2139 => (if t2139 = true then (if x46_3 > 0 then (if 0 ≤ (wrap64 (x46_3 - 1)) then (if (wrap64 (x46_3 - 1)) < (l0_3.length : Int) then (if ((rd_T70 l0_3 x46_3).f0) ≤ ((rd_T70 l0_3 (wrap64 (x46_3 - 1))).f0) then (some false) else (gran_shape.l1 k3 l0_3 (l0_3.length : Int) (wrap64 (x46_3 + 1)) a0_0 a0_1 l0_2 l0_3)) else (none)) else (none)) else (gran_shape.l1 k3 l0_3 (l0_3.length : Int) (wrap64 (x46_3 + 1)) a0_0 a0_1 l0_2 l0_3)) else (some false))) = some r := by rw [if_pos rfl] at H; exact H
             clear H
             have H := H1
             clear H1
             replace H := Option.bind_eq_some_iff.mp H
             obtain ⟨t2139, A260, H⟩ := H
             try dsimp only at H
             have A26 := am A260
             clear A260
             by_cases c27 : t2139 = true
             ·subst c27
              have H1 : (if x46_3 > 0 then (if 0 ≤ (wrap64 (x46_3 - 1)) then (if (wrap64 (x46_3 - 1)) < (l0_3.length : Int) then (if ((rd_T70 l0_3 x46_3).f0) ≤ ((rd_T70 l0_3 (wrap64 (x46_3 - 1))).f0) then (some false) else (gran_shape.l1 k3 l0_3 (l0_3.length : Int) (wrap64 (x46_3 + 1)) a0_0 a0_1 l0_2 l0_3)) else (none)) else (none)) else (gran_shape.l1 k3 l0_3 (l0_3.length : Int) (wrap64 (x46_3 + 1)) a0_0 a0_1 l0_2 l0_3)) = some r := by rw [if_pos rfl] at H; exact H
              clear H
              have H := H1
              clear H1
              by_cases c28 : x46_3 > 0
              ·rw [if_pos c28] at H
               have c28b0 : decide (0 < x46_3) = true := decide_eq_true c28
               clear c28
               obtain ⟨ji29, hji29⟩ : ∃ j_ : Int, (wrap64 (x46_3 - 1)) = j_ := ⟨_, rfl⟩
               replace H : (if 0 ≤ (ji29) then (if (ji29) < (l0_3.length : Int) then (if ((rd_T70 l0_3 x46_3).f0) ≤ ((rd_T70 l0_3 (ji29)).f0) then (some false) else (gran_shape.l1 k3 l0_3 (l0_3.length : Int) (wrap64 (x46_3 + 1)) a0_0 a0_1 l0_2 l0_3)) else (none)) else (none)) = some r := by first | (rw [hji29] at H; exact H) | (simp only [hji29] at H ⊢; exact H)
               (try rw [hji29] at A24)
               (try rw [hji29] at A26)
               have hji29w : (IntKind.i64.wrap (x46_3 - 1)) = ji29 := (i64_w _).trans hji29
               by_cases c30 : 0 ≤ (ji29)
               ·rw [if_pos c30] at H
                have c30b0 : decide (0 ≤ (ji29)) = true := decide_eq_true c30
                clear c30
                by_cases c31 : (ji29) < (l0_3.length : Int)
                ·rw [if_pos c31] at H
                 have c31b0 : decide ((ji29) < (l0_3.length : Int)) = true := decide_eq_true c31
                 clear c31
                 by_cases c32 : ((rd_T70 l0_3 x46_3).f0) ≤ ((rd_T70 l0_3 (ji29)).f0)
                 ·rw [if_pos c32] at H
                  have c32b0 : decide (((rd_T70 l0_3 x46_3).f0) ≤ ((rd_T70 l0_3 (ji29)).f0)) = true := decide_eq_true c32
                  clear c32
                  obtain rfl := Option.some.inj H
                  have p2136 : 0 ≤ (x46_3 : Int) := of_decide_eq_true asm
                  have q2136 : x46_3 < (l0_3.length : Int) := of_decide_eq_true asm
                  obtain ⟨ad2136, A2136_1, c2136_1, e2136, hx2136_0, hx2136_1, hl2136_1, hi2136_1⟩ := at_T70 HR0_3.out x46_3 p2136 q2136
                  cases e2136
                  replace hx2136_0 := (HB.out.cell (World.block_lt_of_cell? w _ hx2136_0)).trans hx2136_0
                  replace hx2136_1 := (HB.out.cell (World.block_lt_of_cell? w _ hx2136_1)).trans hx2136_1
                  have HR2136_1 := am hi2136_1
                  have HC2136_1 := am hl2136_1
                  clear hi2136_1 hl2136_1
                  replace p2136 := eq_true p2136
                  replace q2136 := eq_true q2136
                  try go_wp2_with (first | ((with_reducible refine gate_dst (N := 6) rfl ?_); refine bx 6 70 #[.int .i64 0, .slice none 0 0] ?_; intro gb2137 hg w33 hbox hb; have BK2137 := am (hbox); have GW2137 := am ((bz1 hg HB.out GE2133.out : w.heap.size ≤ gb2137)); have GE2137 := am ((bz1 hg HB.out GE2133.out : w.heap.size ≤ gb2137)); replace HB := am (below_step (bl1 HB.out GE2133.out) hb); have NB2133_2137 := am ((nl hg BK2133.out : gb2133 ≠ gb2137)); have NB2137_2133 := am ((ng hg BK2133.out : gb2137 ≠ gb2133)); replace BK2133 := am (blk_below (kp BK2133.out) hb); clear hb hbox hg; have hnb34 := NB2137_2133.out; have hnc34 := NB2133_2137.out; have hcz35_0 : w33.cell? ⟨gb2137, 0, none⟩ = some (.int .i64 0) := bc BK2137.out 0; have hcz35_1 : w33.cell? ⟨gb2137, 1, none⟩ = some (.slice none 0 0) := bc BK2137.out 1; have hfz35_0 := blk_frozen BK2137.out 0; have hfz35_1 := blk_frozen BK2137.out 1))
                  have n0_ : Aside0 (((w33.setCell ⟨gb2137, 0, none⟩ (.int .i64 ((rd_T70 l0_3 x46_3).f0))).setCell ⟨gb2137, 1, none⟩ (.slice A2136_1 ((rd_T70 l0_3 x46_3).f1).length c2136_1)).heap[gb2133]? = some (.cells #[.int .i64 a0_0, .int .i64 a0_1, .slice A0_2 l0_2.length c0_2, .slice (some ad2136) l0_3.length c0_3] 28 (0, 0))) := ⟨kf BK2133.out NB2133_2137.out⟩
                  have n1_ : Aside0 (((w33.setCell ⟨gb2137, 0, none⟩ (.int .i64 ((rd_T70 l0_3 x46_3).f0))).setCell ⟨gb2137, 1, none⟩ (.slice A2136_1 ((rd_T70 l0_3 x46_3).f1).length c2136_1)).heap[gb2137]? = some (.cells #[.int .i64 ((rd_T70 l0_3 x46_3).f0), .slice A2136_1 ((rd_T70 l0_3 x46_3).f1).length c2136_1] 70 (0, 0))) := ⟨by (with_reducible repeat (first | refine blk_drewN ?_ _ | refine blk_drew ?_ | refine blk_alloc ?_ _)); refine blk_put (cs := #[.int .i64 ((rd_T70 l0_3 x46_3).f0), .slice none 0 0]) ?_ 1 _ rfl; (with_reducible repeat (first | refine blk_drewN ?_ _ | refine blk_drew ?_ | refine blk_alloc ?_ _)); refine blk_put (cs := #[.int .i64 0, .slice none 0 0]) ?_ 0 _ rfl; (with_reducible repeat (first | refine blk_drewN ?_ _ | refine blk_drew ?_ | refine blk_alloc ?_ _)); exact BK2137.out⟩
                  have n2_ : Aside0 (Below w.heap.size w ((w33.setCell ⟨gb2137, 0, none⟩ (.int .i64 ((rd_T70 l0_3 x46_3).f0))).setCell ⟨gb2137, 1, none⟩ (.slice A2136_1 ((rd_T70 l0_3 x46_3).f1).length c2136_1))) := ⟨bl2 HB.out GE2133.out GE2137.out⟩
                  (try clear BK2133)
                  (try clear BK2137)
                  (try clear HB)
                  generalize ((w33.setCell ⟨gb2137, 0, none⟩ (.int .i64 ((rd_T70 l0_3 x46_3).f0))).setCell ⟨gb2137, 1, none⟩ (.slice A2136_1 ((rd_T70 l0_3 x46_3).f1).length c2136_1)) = w36 at n0_ n1_ n2_ ⊢
                  have BK2133 := n0_
                  have BK2137 := n1_
                  have HB := n2_
                  clear n0_ n1_ n2_
                  replace BK2133 := am (blk_drew BK2133.out)
                  replace BK2137 := am (blk_drew BK2137.out)
                  replace HB := am (below_drew1 HB.out)
                  have p2140 : 0 ≤ ((ji29) : Int) := of_decide_eq_true asm
                  have q2140 : (ji29) < (l0_3.length : Int) := of_decide_eq_true asm
                  obtain ⟨ad2140, A2140_1, c2140_1, e2140, hx2140_0, hx2140_1, hl2140_1, hi2140_1⟩ := at_T70 HR0_3.out (ji29) p2140 q2140
                  have hw2140_1 := hx2140_1
                  have hw2140_0 := hx2140_0
                  obtain rfl : ad2136 = ad2140 := (by injection e2140)
                  replace hx2140_0 := (HB.out.cell (World.block_lt_of_cell? w _ hx2140_0)).trans hx2140_0
                  replace hx2140_1 := (HB.out.cell (World.block_lt_of_cell? w _ hx2140_1)).trans hx2140_1
                  have HR2140_1 := am hi2140_1
                  have HC2140_1 := am hl2140_1
                  clear hi2140_1 hl2140_1
                  replace p2140 := eq_true p2140
                  replace q2140 := eq_true q2140
                  refine start_ (n := 26) (S := fun w' => w'.cell? ⟨gb2137, 0, none⟩ = some (.int .i64 ((rd_T70 l0_3 x46_3).f0)) ∧ w'.cell? ⟨gb2137, 1, none⟩ = some (.slice A2136_1 ((rd_T70 l0_3 x46_3).f1).length c2136_1) ∧ w'.cell? ⟨gb2133, 0, none⟩ = some (.int .i64 a0_0) ∧ w'.cell? ⟨gb2133, 1, none⟩ = some (.int .i64 a0_1) ∧ w'.cell? ⟨gb2133, 2, none⟩ = some (.slice A0_2 l0_2.length c0_2) ∧ w'.cell? ⟨gb2133, 3, none⟩ = some (.slice (some ad2136) l0_3.length c0_3) ∧ w'.cell? (ad2136.add (((ji29)).toNat * 2)) = some (.int .i64 ((rd_T70 l0_3 (ji29)).f0)) ∧ w'.cell? ⟨(ad2136.add (((ji29)).toNat * 2)).block, (ad2136.add (((ji29)).toNat * 2)).off + 1, none⟩ = some (.slice A2140_1 ((rd_T70 l0_3 (ji29)).f1).length c2140_1)) (ds := []) (bs 26 0) (by kernel_rfl) rfl rfl ⟨bc BK2137.out 0, bc BK2137.out 1, bc BK2133.out 0, bc BK2133.out 1, bc BK2133.out 2, bc BK2133.out 3, ((HB.out.cell (World.block_lt_of_cell? w _ hw2140_0)).trans hw2140_0), ((HB.out.cell (World.block_lt_of_cell? w _ hw2140_1)).trans hw2140_1)⟩ (fun hHeld => ?_); refine with_tabW gran_shape.tab12 gran_shape.bits12 (fun HT_ HW_ => ?_)
                  generalize w36.drew = w37 at BK2133 BK2137 HB HR2140_1 hx2140_0 hx2140_1 hHeld ⊢
                  refine px 0 51 (bs 26 1) HT_.out ?_
                  refine tx 1 52 (bs 26 3) HT_.out HW_.out hHeld ?_
                  refine one_ (i := 2) (N := some 53) (bs 26 7) rfl rfl (one_of HT_.out (by kernel_rfl)) (by decide) (fun K hK => ?_)
                  refine goes_ Try.func31 (by kernel_rfl) rfl #[.slice A2136_1 ((rd_T70 l0_3 x46_3).f1).length c2136_1] (by rfl) rfl rfl ar ?_
                  with_reducible refine (spans_Right.calls k3 _ _ ((rd_T70 l0_3 x46_3).f1) true _ ?side1 ?side2 A24.out).mono ?_
                  (case side1 => exact kc (Kd.C_below HR2136_1.out HB.out))
                  (case side2 => exact HC2136_1.out)
                  rintro e w38 ⟨rfl, hb⟩
                  refine ⟨_, rfl, ?_⟩
                  replace BK2133 := am (blk_below (kp BK2133.out) hb)
                  replace BK2137 := am (blk_below (kp BK2137.out) hb)
                  replace HB := am (below_step (bl2 HB.out GE2133.out GE2137.out) hb)
                  (try clear hb)
                  (try clear hb2)
                  (try clear hk)
                  (try clear hi)
                  refine hK.out _ _ ⟨bc BK2137.out 0, bc BK2137.out 1, bc BK2133.out 0, bc BK2133.out 1, bc BK2133.out 2, bc BK2133.out 3, ((HB.out.cell (World.block_lt_of_cell? w _ hw2140_0)).trans hw2140_0), ((HB.out.cell (World.block_lt_of_cell? w _ hw2140_1)).trans hw2140_1)⟩ (fun hHeld => ?_)
                  clear hK K
                  refine nx ?_
                  refine px 3 54 (bs 26 15) HT_.out ?_
                  refine px 4 55 (bs 26 31) HT_.out ?_
                  refine px 5 56 (bs 26 63) HT_.out ?_
                  refine tx 6 57 (bs 26 127) HT_.out HW_.out hHeld ?_
                  refine one_ (i := 7) (N := some 58) (bs 26 255) rfl rfl (one_of HT_.out (by kernel_rfl)) (by decide) (fun K hK => ?_)
                  refine goes_ Try.func55 (by kernel_rfl) rfl #[.int .i64 ((rd_T70 l0_3 x46_3).f0)] (by rfl) rfl rfl ar ?_
                  with_reducible refine (gran_inRange.calls ((rd_T70 l0_3 x46_3).f0) true _ A26.out).mono ?_
                  rintro e w' ⟨rfl, ⟨nd, rfl⟩⟩
                  refine ⟨_, rfl, ?_⟩
                  refine hK.out _ _ ⟨bc BK2137.out 0, bc BK2137.out 1, bc BK2133.out 0, bc BK2133.out 1, bc BK2133.out 2, bc BK2133.out 3, ((HB.out.cell (World.block_lt_of_cell? w _ hw2140_0)).trans hw2140_0), ((HB.out.cell (World.block_lt_of_cell? w _ hw2140_1)).trans hw2140_1)⟩ (fun hHeld => ?_)
                  clear hK K
                  refine nx ?_
                  refine px 8 59 (bs 26 511) HT_.out ?_
                  refine px 9 60 (bs 26 1023) HT_.out ?_
                  refine px 10 61 (bs 26 2047) HT_.out ?_
                  refine px 11 62 (bs 26 4095) HT_.out ?_
                  refine px 12 63 (bs 26 8191) HT_.out ?_
                  refine px 13 64 (bs 26 16383) HT_.out ?_
                  refine px 14 65 (bs 26 32767) HT_.out ?_
                  refine px 16 67 (bs 26 98303) HT_.out ?_
                  refine px 18 69 (bs 26 360447) HT_.out ?_
                  refine px 19 70 (bs 26 884735) HT_.out ?_
                  refine tx 15 66 (bs 26 917503) HT_.out HW_.out hHeld ?_
                  refine tx 17 68 (bs 26 1048575) HT_.out HW_.out hHeld ?_
                  refine px 20 71 (bs 26 2097151) HT_.out ?_
                  refine px 21 72 (bs 26 4194303) HT_.out ?_
                  refine tx 22 73 (bs 26 8388607) HT_.out HW_.out hHeld ?_
                  refine px 23 74 (bs 26 16777215) HT_.out ?_
                  refine px 24 75 (bs 26 33554431) HT_.out ?_
                  refine px 25 76 (bs 26 67108863) HT_.out ?_
                  refine done_ (done_of HT_.out (by kernel_rfl)) ?_
                  try go_wp2
                  go_ret
                  exact ⟨by first | rfl | (simp [errW_none, errW_some] <;> rfl) | (simp only [← hji29]; first | rfl | (simp [errW_none, errW_some] <;> rfl)) | (simp [*, errW_none, errW_some] <;> rfl), bl2 HB.out GE2133.out GE2137.out⟩
                 ·rw [if_neg c32] at H
                  have c32b0 : decide (((rd_T70 l0_3 x46_3).f0) ≤ ((rd_T70 l0_3 (ji29)).f0)) = false := decide_eq_false c32
                  clear c32
                  have H' := am H
                  clear H
                  have p2136 : 0 ≤ (x46_3 : Int) := of_decide_eq_true asm
                  have q2136 : x46_3 < (l0_3.length : Int) := of_decide_eq_true asm
                  obtain ⟨ad2136, A2136_1, c2136_1, e2136, hx2136_0, hx2136_1, hl2136_1, hi2136_1⟩ := at_T70 HR0_3.out x46_3 p2136 q2136
                  cases e2136
                  replace hx2136_0 := (HB.out.cell (World.block_lt_of_cell? w _ hx2136_0)).trans hx2136_0
                  replace hx2136_1 := (HB.out.cell (World.block_lt_of_cell? w _ hx2136_1)).trans hx2136_1
                  have HR2136_1 := am hi2136_1
                  have HC2136_1 := am hl2136_1
                  clear hi2136_1 hl2136_1
                  replace p2136 := eq_true p2136
                  replace q2136 := eq_true q2136
                  try go_wp2_with (first | ((with_reducible refine gate_dst (N := 6) rfl ?_); refine bx 6 70 #[.int .i64 0, .slice none 0 0] ?_; intro gb2137 hg w39 hbox hb; have BK2137 := am (hbox); have GW2137 := am ((bz1 hg HB.out GE2133.out : w.heap.size ≤ gb2137)); have GE2137 := am ((bz1 hg HB.out GE2133.out : w.heap.size ≤ gb2137)); replace HB := am (below_step (bl1 HB.out GE2133.out) hb); have NB2133_2137 := am ((nl hg BK2133.out : gb2133 ≠ gb2137)); have NB2137_2133 := am ((ng hg BK2133.out : gb2137 ≠ gb2133)); replace BK2133 := am (blk_below (kp BK2133.out) hb); clear hb hbox hg; have hnb40 := NB2137_2133.out; have hnc40 := NB2133_2137.out; have hcz41_0 : w39.cell? ⟨gb2137, 0, none⟩ = some (.int .i64 0) := bc BK2137.out 0; have hcz41_1 : w39.cell? ⟨gb2137, 1, none⟩ = some (.slice none 0 0) := bc BK2137.out 1; have hfz41_0 := blk_frozen BK2137.out 0; have hfz41_1 := blk_frozen BK2137.out 1))
                  have n0_ : Aside0 (((w39.setCell ⟨gb2137, 0, none⟩ (.int .i64 ((rd_T70 l0_3 x46_3).f0))).setCell ⟨gb2137, 1, none⟩ (.slice A2136_1 ((rd_T70 l0_3 x46_3).f1).length c2136_1)).heap[gb2133]? = some (.cells #[.int .i64 a0_0, .int .i64 a0_1, .slice A0_2 l0_2.length c0_2, .slice (some ad2136) l0_3.length c0_3] 28 (0, 0))) := ⟨kf BK2133.out NB2133_2137.out⟩
                  have n1_ : Aside0 (((w39.setCell ⟨gb2137, 0, none⟩ (.int .i64 ((rd_T70 l0_3 x46_3).f0))).setCell ⟨gb2137, 1, none⟩ (.slice A2136_1 ((rd_T70 l0_3 x46_3).f1).length c2136_1)).heap[gb2137]? = some (.cells #[.int .i64 ((rd_T70 l0_3 x46_3).f0), .slice A2136_1 ((rd_T70 l0_3 x46_3).f1).length c2136_1] 70 (0, 0))) := ⟨by (with_reducible repeat (first | refine blk_drewN ?_ _ | refine blk_drew ?_ | refine blk_alloc ?_ _)); refine blk_put (cs := #[.int .i64 ((rd_T70 l0_3 x46_3).f0), .slice none 0 0]) ?_ 1 _ rfl; (with_reducible repeat (first | refine blk_drewN ?_ _ | refine blk_drew ?_ | refine blk_alloc ?_ _)); refine blk_put (cs := #[.int .i64 0, .slice none 0 0]) ?_ 0 _ rfl; (with_reducible repeat (first | refine blk_drewN ?_ _ | refine blk_drew ?_ | refine blk_alloc ?_ _)); exact BK2137.out⟩
                  have n2_ : Aside0 (Below w.heap.size w ((w39.setCell ⟨gb2137, 0, none⟩ (.int .i64 ((rd_T70 l0_3 x46_3).f0))).setCell ⟨gb2137, 1, none⟩ (.slice A2136_1 ((rd_T70 l0_3 x46_3).f1).length c2136_1))) := ⟨bl2 HB.out GE2133.out GE2137.out⟩
                  (try clear BK2133)
                  (try clear BK2137)
                  (try clear HB)
                  generalize ((w39.setCell ⟨gb2137, 0, none⟩ (.int .i64 ((rd_T70 l0_3 x46_3).f0))).setCell ⟨gb2137, 1, none⟩ (.slice A2136_1 ((rd_T70 l0_3 x46_3).f1).length c2136_1)) = w42 at n0_ n1_ n2_ ⊢
                  have BK2133 := n0_
                  have BK2137 := n1_
                  have HB := n2_
                  clear n0_ n1_ n2_
                  replace BK2133 := am (blk_drew BK2133.out)
                  replace BK2137 := am (blk_drew BK2137.out)
                  replace HB := am (below_drew1 HB.out)
                  have p2140 : 0 ≤ ((ji29) : Int) := of_decide_eq_true asm
                  have q2140 : (ji29) < (l0_3.length : Int) := of_decide_eq_true asm
                  obtain ⟨ad2140, A2140_1, c2140_1, e2140, hx2140_0, hx2140_1, hl2140_1, hi2140_1⟩ := at_T70 HR0_3.out (ji29) p2140 q2140
                  have hw2140_1 := hx2140_1
                  have hw2140_0 := hx2140_0
                  obtain rfl : ad2136 = ad2140 := (by injection e2140)
                  replace hx2140_0 := (HB.out.cell (World.block_lt_of_cell? w _ hx2140_0)).trans hx2140_0
                  replace hx2140_1 := (HB.out.cell (World.block_lt_of_cell? w _ hx2140_1)).trans hx2140_1
                  have HR2140_1 := am hi2140_1
                  have HC2140_1 := am hl2140_1
                  clear hi2140_1 hl2140_1
                  replace p2140 := eq_true p2140
                  replace q2140 := eq_true q2140
                  refine start_ (n := 26) (S := fun w' => w'.cell? ⟨gb2137, 0, none⟩ = some (.int .i64 ((rd_T70 l0_3 x46_3).f0)) ∧ w'.cell? ⟨gb2137, 1, none⟩ = some (.slice A2136_1 ((rd_T70 l0_3 x46_3).f1).length c2136_1) ∧ w'.cell? ⟨gb2133, 0, none⟩ = some (.int .i64 a0_0) ∧ w'.cell? ⟨gb2133, 1, none⟩ = some (.int .i64 a0_1) ∧ w'.cell? ⟨gb2133, 2, none⟩ = some (.slice A0_2 l0_2.length c0_2) ∧ w'.cell? ⟨gb2133, 3, none⟩ = some (.slice (some ad2136) l0_3.length c0_3) ∧ w'.cell? (ad2136.add (((ji29)).toNat * 2)) = some (.int .i64 ((rd_T70 l0_3 (ji29)).f0)) ∧ w'.cell? ⟨(ad2136.add (((ji29)).toNat * 2)).block, (ad2136.add (((ji29)).toNat * 2)).off + 1, none⟩ = some (.slice A2140_1 ((rd_T70 l0_3 (ji29)).f1).length c2140_1)) (ds := []) (bs 26 0) (by kernel_rfl) rfl rfl ⟨bc BK2137.out 0, bc BK2137.out 1, bc BK2133.out 0, bc BK2133.out 1, bc BK2133.out 2, bc BK2133.out 3, ((HB.out.cell (World.block_lt_of_cell? w _ hw2140_0)).trans hw2140_0), ((HB.out.cell (World.block_lt_of_cell? w _ hw2140_1)).trans hw2140_1)⟩ (fun hHeld => ?_); refine with_tabW gran_shape.tab12 gran_shape.bits12 (fun HT_ HW_ => ?_)
                  generalize w42.drew = w43 at BK2133 BK2137 HB HR2140_1 hx2140_0 hx2140_1 hHeld ⊢
                  refine px 0 51 (bs 26 1) HT_.out ?_
                  refine tx 1 52 (bs 26 3) HT_.out HW_.out hHeld ?_
                  refine one_ (i := 2) (N := some 53) (bs 26 7) rfl rfl (one_of HT_.out (by kernel_rfl)) (by decide) (fun K hK => ?_)
                  refine goes_ Try.func31 (by kernel_rfl) rfl #[.slice A2136_1 ((rd_T70 l0_3 x46_3).f1).length c2136_1] (by rfl) rfl rfl ar ?_
                  with_reducible refine (spans_Right.calls k3 _ _ ((rd_T70 l0_3 x46_3).f1) true _ ?side1 ?side2 A24.out).mono ?_
                  (case side1 => exact kc (Kd.C_below HR2136_1.out HB.out))
                  (case side2 => exact HC2136_1.out)
                  rintro e w44 ⟨rfl, hb⟩
                  refine ⟨_, rfl, ?_⟩
                  replace BK2133 := am (blk_below (kp BK2133.out) hb)
                  replace BK2137 := am (blk_below (kp BK2137.out) hb)
                  replace HB := am (below_step (bl2 HB.out GE2133.out GE2137.out) hb)
                  (try clear hb)
                  (try clear hb2)
                  (try clear hk)
                  (try clear hi)
                  refine hK.out _ _ ⟨bc BK2137.out 0, bc BK2137.out 1, bc BK2133.out 0, bc BK2133.out 1, bc BK2133.out 2, bc BK2133.out 3, ((HB.out.cell (World.block_lt_of_cell? w _ hw2140_0)).trans hw2140_0), ((HB.out.cell (World.block_lt_of_cell? w _ hw2140_1)).trans hw2140_1)⟩ (fun hHeld => ?_)
                  clear hK K
                  refine nx ?_
                  refine px 3 54 (bs 26 15) HT_.out ?_
                  refine px 4 55 (bs 26 31) HT_.out ?_
                  refine px 5 56 (bs 26 63) HT_.out ?_
                  refine tx 6 57 (bs 26 127) HT_.out HW_.out hHeld ?_
                  refine one_ (i := 7) (N := some 58) (bs 26 255) rfl rfl (one_of HT_.out (by kernel_rfl)) (by decide) (fun K hK => ?_)
                  refine goes_ Try.func55 (by kernel_rfl) rfl #[.int .i64 ((rd_T70 l0_3 x46_3).f0)] (by rfl) rfl rfl ar ?_
                  with_reducible refine (gran_inRange.calls ((rd_T70 l0_3 x46_3).f0) true _ A26.out).mono ?_
                  rintro e w' ⟨rfl, ⟨nd, rfl⟩⟩
                  refine ⟨_, rfl, ?_⟩
                  refine hK.out _ _ ⟨bc BK2137.out 0, bc BK2137.out 1, bc BK2133.out 0, bc BK2133.out 1, bc BK2133.out 2, bc BK2133.out 3, ((HB.out.cell (World.block_lt_of_cell? w _ hw2140_0)).trans hw2140_0), ((HB.out.cell (World.block_lt_of_cell? w _ hw2140_1)).trans hw2140_1)⟩ (fun hHeld => ?_)
                  clear hK K
                  refine nx ?_
                  refine px 8 59 (bs 26 511) HT_.out ?_
                  refine px 9 60 (bs 26 1023) HT_.out ?_
                  refine px 10 61 (bs 26 2047) HT_.out ?_
                  refine px 11 62 (bs 26 4095) HT_.out ?_
                  refine px 12 63 (bs 26 8191) HT_.out ?_
                  refine px 13 64 (bs 26 16383) HT_.out ?_
                  refine px 14 65 (bs 26 32767) HT_.out ?_
                  refine px 16 67 (bs 26 98303) HT_.out ?_
                  refine px 18 69 (bs 26 360447) HT_.out ?_
                  refine px 19 70 (bs 26 884735) HT_.out ?_
                  refine tx 15 66 (bs 26 917503) HT_.out HW_.out hHeld ?_
                  refine tx 17 68 (bs 26 1048575) HT_.out HW_.out hHeld ?_
                  refine px 20 71 (bs 26 2097151) HT_.out ?_
                  refine px 21 72 (bs 26 4194303) HT_.out ?_
                  refine tx 22 73 (bs 26 8388607) HT_.out HW_.out hHeld ?_
                  refine px 23 74 (bs 26 16777215) HT_.out ?_
                  refine px 24 75 (bs 26 33554431) HT_.out ?_
                  refine px 25 76 (bs 26 67108863) HT_.out ?_
                  refine done_ (done_of HT_.out (by kernel_rfl)) ?_
                  try go_wp2
                  go_roundg k3
                  case measure => have := HJ1.out; have := HK2.out; have := HK3.out; omega
                  case rel => exact ⟨(wrap64 (x46_3 + 1)), sm, H', ⟨by have := HJ1.out; have := HK2.out; have := HK3.out; omega⟩, ⟨kp BK2133.out⟩, ⟨bl2 HB.out GE2133.out GE2137.out⟩⟩
                ·rw [if_neg c31] at H
                 exact absurd H (by simp)
               ·rw [if_neg c30] at H
                exact absurd H (by simp)
              ·rw [if_neg c28] at H
               have c28b0 : decide (0 < x46_3) = false := decide_eq_false c28
               clear c28
               have H' := am H
               clear H
               have p2136 : 0 ≤ (x46_3 : Int) := of_decide_eq_true asm
               have q2136 : x46_3 < (l0_3.length : Int) := of_decide_eq_true asm
               obtain ⟨ad2136, A2136_1, c2136_1, e2136, hx2136_0, hx2136_1, hl2136_1, hi2136_1⟩ := at_T70 HR0_3.out x46_3 p2136 q2136
               cases e2136
               replace hx2136_0 := (HB.out.cell (World.block_lt_of_cell? w _ hx2136_0)).trans hx2136_0
               replace hx2136_1 := (HB.out.cell (World.block_lt_of_cell? w _ hx2136_1)).trans hx2136_1
               have HR2136_1 := am hi2136_1
               have HC2136_1 := am hl2136_1
               clear hi2136_1 hl2136_1
               replace p2136 := eq_true p2136
               replace q2136 := eq_true q2136
               try go_wp2_with (first | ((with_reducible refine gate_dst (N := 6) rfl ?_); refine bx 6 70 #[.int .i64 0, .slice none 0 0] ?_; intro gb2137 hg w45 hbox hb; have BK2137 := am (hbox); have GW2137 := am ((bz1 hg HB.out GE2133.out : w.heap.size ≤ gb2137)); have GE2137 := am ((bz1 hg HB.out GE2133.out : w.heap.size ≤ gb2137)); replace HB := am (below_step (bl1 HB.out GE2133.out) hb); have NB2133_2137 := am ((nl hg BK2133.out : gb2133 ≠ gb2137)); have NB2137_2133 := am ((ng hg BK2133.out : gb2137 ≠ gb2133)); replace BK2133 := am (blk_below (kp BK2133.out) hb); clear hb hbox hg; have hnb46 := NB2137_2133.out; have hnc46 := NB2133_2137.out; have hcz47_0 : w45.cell? ⟨gb2137, 0, none⟩ = some (.int .i64 0) := bc BK2137.out 0; have hcz47_1 : w45.cell? ⟨gb2137, 1, none⟩ = some (.slice none 0 0) := bc BK2137.out 1; have hfz47_0 := blk_frozen BK2137.out 0; have hfz47_1 := blk_frozen BK2137.out 1))
               have n0_ : Aside0 (((w45.setCell ⟨gb2137, 0, none⟩ (.int .i64 ((rd_T70 l0_3 x46_3).f0))).setCell ⟨gb2137, 1, none⟩ (.slice A2136_1 ((rd_T70 l0_3 x46_3).f1).length c2136_1)).heap[gb2133]? = some (.cells #[.int .i64 a0_0, .int .i64 a0_1, .slice A0_2 l0_2.length c0_2, .slice (some ad2136) l0_3.length c0_3] 28 (0, 0))) := ⟨kf BK2133.out NB2133_2137.out⟩
               have n1_ : Aside0 (((w45.setCell ⟨gb2137, 0, none⟩ (.int .i64 ((rd_T70 l0_3 x46_3).f0))).setCell ⟨gb2137, 1, none⟩ (.slice A2136_1 ((rd_T70 l0_3 x46_3).f1).length c2136_1)).heap[gb2137]? = some (.cells #[.int .i64 ((rd_T70 l0_3 x46_3).f0), .slice A2136_1 ((rd_T70 l0_3 x46_3).f1).length c2136_1] 70 (0, 0))) := ⟨by (with_reducible repeat (first | refine blk_drewN ?_ _ | refine blk_drew ?_ | refine blk_alloc ?_ _)); refine blk_put (cs := #[.int .i64 ((rd_T70 l0_3 x46_3).f0), .slice none 0 0]) ?_ 1 _ rfl; (with_reducible repeat (first | refine blk_drewN ?_ _ | refine blk_drew ?_ | refine blk_alloc ?_ _)); refine blk_put (cs := #[.int .i64 0, .slice none 0 0]) ?_ 0 _ rfl; (with_reducible repeat (first | refine blk_drewN ?_ _ | refine blk_drew ?_ | refine blk_alloc ?_ _)); exact BK2137.out⟩
               have n2_ : Aside0 (Below w.heap.size w ((w45.setCell ⟨gb2137, 0, none⟩ (.int .i64 ((rd_T70 l0_3 x46_3).f0))).setCell ⟨gb2137, 1, none⟩ (.slice A2136_1 ((rd_T70 l0_3 x46_3).f1).length c2136_1))) := ⟨bl2 HB.out GE2133.out GE2137.out⟩
               (try clear BK2133)
               (try clear BK2137)
               (try clear HB)
               generalize ((w45.setCell ⟨gb2137, 0, none⟩ (.int .i64 ((rd_T70 l0_3 x46_3).f0))).setCell ⟨gb2137, 1, none⟩ (.slice A2136_1 ((rd_T70 l0_3 x46_3).f1).length c2136_1)) = w48 at n0_ n1_ n2_ ⊢
               have BK2133 := n0_
               have BK2137 := n1_
               have HB := n2_
               clear n0_ n1_ n2_
               replace BK2133 := am (blk_drew BK2133.out)
               replace BK2137 := am (blk_drew BK2137.out)
               replace HB := am (below_drew1 HB.out)
               refine start_ (n := 26) (S := fun w' => w'.cell? ⟨gb2137, 0, none⟩ = some (.int .i64 ((rd_T70 l0_3 x46_3).f0)) ∧ w'.cell? ⟨gb2137, 1, none⟩ = some (.slice A2136_1 ((rd_T70 l0_3 x46_3).f1).length c2136_1)) (ds := []) (bs 26 0) (by kernel_rfl) rfl rfl ⟨bc BK2137.out 0, bc BK2137.out 1⟩ (fun hHeld => ?_); refine with_tabW gran_shape.tab12 gran_shape.bits12 (fun HT_ HW_ => ?_)
               generalize w48.drew = w49 at BK2133 BK2137 HB hHeld ⊢
               refine px 0 51 (bs 26 1) HT_.out ?_
               refine tx 1 52 (bs 26 3) HT_.out HW_.out hHeld ?_
               refine one_ (i := 2) (N := some 53) (bs 26 7) rfl rfl (one_of HT_.out (by kernel_rfl)) (by decide) (fun K hK => ?_)
               refine goes_ Try.func31 (by kernel_rfl) rfl #[.slice A2136_1 ((rd_T70 l0_3 x46_3).f1).length c2136_1] (by rfl) rfl rfl ar ?_
               with_reducible refine (spans_Right.calls k3 _ _ ((rd_T70 l0_3 x46_3).f1) true _ ?side1 ?side2 A24.out).mono ?_
               (case side1 => exact kc (Kd.C_below HR2136_1.out HB.out))
               (case side2 => exact HC2136_1.out)
               rintro e w50 ⟨rfl, hb⟩
               refine ⟨_, rfl, ?_⟩
               replace BK2133 := am (blk_below (kp BK2133.out) hb)
               replace BK2137 := am (blk_below (kp BK2137.out) hb)
               replace HB := am (below_step (bl2 HB.out GE2133.out GE2137.out) hb)
               (try clear hb)
               (try clear hb2)
               (try clear hk)
               (try clear hi)
               refine hK.out _ _ ⟨bc BK2137.out 0, bc BK2137.out 1⟩ (fun hHeld => ?_)
               clear hK K
               refine nx ?_
               refine px 3 54 (bs 26 15) HT_.out ?_
               refine px 4 55 (bs 26 31) HT_.out ?_
               refine px 5 56 (bs 26 63) HT_.out ?_
               refine tx 6 57 (bs 26 127) HT_.out HW_.out hHeld ?_
               refine one_ (i := 7) (N := some 58) (bs 26 255) rfl rfl (one_of HT_.out (by kernel_rfl)) (by decide) (fun K hK => ?_)
               refine goes_ Try.func55 (by kernel_rfl) rfl #[.int .i64 ((rd_T70 l0_3 x46_3).f0)] (by rfl) rfl rfl ar ?_
               with_reducible refine (gran_inRange.calls ((rd_T70 l0_3 x46_3).f0) true _ A26.out).mono ?_
               rintro e w' ⟨rfl, ⟨nd, rfl⟩⟩
               refine ⟨_, rfl, ?_⟩
               refine hK.out _ _ ⟨bc BK2137.out 0, bc BK2137.out 1⟩ (fun hHeld => ?_)
               clear hK K
               refine nx ?_
               refine px 8 59 (bs 26 511) HT_.out ?_
               refine px 9 60 (bs 26 1023) HT_.out ?_
               refine px 10 61 (bs 26 2047) HT_.out ?_
               refine px 11 62 (bs 26 4095) HT_.out ?_
               refine px 12 63 (bs 26 8191) HT_.out ?_
               refine px 13 64 (bs 26 16383) HT_.out ?_
               refine pu 14 65 (bs 26 32767) HT_.out ?_
               refine pu 15 66 (bs 26 65535) HT_.out ?_
               refine pu 16 67 (bs 26 131071) HT_.out ?_
               refine pu 17 68 (bs 26 262143) HT_.out ?_
               refine pu 18 69 (bs 26 524287) HT_.out ?_
               refine pu 19 70 (bs 26 1048575) HT_.out ?_
               refine pu 20 71 (bs 26 2097151) HT_.out ?_
               refine pu 21 72 (bs 26 4194303) HT_.out ?_
               refine pu 22 73 (bs 26 8388607) HT_.out ?_
               refine pu 23 74 (bs 26 16777215) HT_.out ?_
               refine px 24 75 (bs 26 33554431) HT_.out ?_
               refine px 25 76 (bs 26 67108863) HT_.out ?_
               refine done_ (done_of HT_.out (by kernel_rfl)) ?_
               try go_wp2
               go_roundg k3
               case measure => have := HJ1.out; have := HK2.out; have := HK3.out; omega
               case rel => exact ⟨(wrap64 (x46_3 + 1)), sm, H', ⟨by have := HJ1.out; have := HK2.out; have := HK3.out; omega⟩, ⟨kp BK2133.out⟩, ⟨bl2 HB.out GE2133.out GE2137.out⟩⟩
             ·replace c27 := Bool.eq_false_iff.mpr c27
              subst c27
              have H1 : (some false) = some r := by rw [if_neg (show ¬ (false = true) by decide)] at H; exact H
              clear H
              have H := H1
              clear H1
              obtain rfl := Option.some.inj H
              have p2136 : 0 ≤ (x46_3 : Int) := of_decide_eq_true asm
              have q2136 : x46_3 < (l0_3.length : Int) := of_decide_eq_true asm
              obtain ⟨ad2136, A2136_1, c2136_1, e2136, hx2136_0, hx2136_1, hl2136_1, hi2136_1⟩ := at_T70 HR0_3.out x46_3 p2136 q2136
              cases e2136
              replace hx2136_0 := (HB.out.cell (World.block_lt_of_cell? w _ hx2136_0)).trans hx2136_0
              replace hx2136_1 := (HB.out.cell (World.block_lt_of_cell? w _ hx2136_1)).trans hx2136_1
              have HR2136_1 := am hi2136_1
              have HC2136_1 := am hl2136_1
              clear hi2136_1 hl2136_1
              replace p2136 := eq_true p2136
              replace q2136 := eq_true q2136
              try go_wp2_with (first | ((with_reducible refine gate_dst (N := 6) rfl ?_); refine bx 6 70 #[.int .i64 0, .slice none 0 0] ?_; intro gb2137 hg w51 hbox hb; have BK2137 := am (hbox); have GW2137 := am ((bz1 hg HB.out GE2133.out : w.heap.size ≤ gb2137)); have GE2137 := am ((bz1 hg HB.out GE2133.out : w.heap.size ≤ gb2137)); replace HB := am (below_step (bl1 HB.out GE2133.out) hb); have NB2133_2137 := am ((nl hg BK2133.out : gb2133 ≠ gb2137)); have NB2137_2133 := am ((ng hg BK2133.out : gb2137 ≠ gb2133)); replace BK2133 := am (blk_below (kp BK2133.out) hb); clear hb hbox hg; have hnb52 := NB2137_2133.out; have hnc52 := NB2133_2137.out; have hcz53_0 : w51.cell? ⟨gb2137, 0, none⟩ = some (.int .i64 0) := bc BK2137.out 0; have hcz53_1 : w51.cell? ⟨gb2137, 1, none⟩ = some (.slice none 0 0) := bc BK2137.out 1; have hfz53_0 := blk_frozen BK2137.out 0; have hfz53_1 := blk_frozen BK2137.out 1))
              have n0_ : Aside0 (((w51.setCell ⟨gb2137, 0, none⟩ (.int .i64 ((rd_T70 l0_3 x46_3).f0))).setCell ⟨gb2137, 1, none⟩ (.slice A2136_1 ((rd_T70 l0_3 x46_3).f1).length c2136_1)).heap[gb2133]? = some (.cells #[.int .i64 a0_0, .int .i64 a0_1, .slice A0_2 l0_2.length c0_2, .slice (some ad2136) l0_3.length c0_3] 28 (0, 0))) := ⟨kf BK2133.out NB2133_2137.out⟩
              have n1_ : Aside0 (((w51.setCell ⟨gb2137, 0, none⟩ (.int .i64 ((rd_T70 l0_3 x46_3).f0))).setCell ⟨gb2137, 1, none⟩ (.slice A2136_1 ((rd_T70 l0_3 x46_3).f1).length c2136_1)).heap[gb2137]? = some (.cells #[.int .i64 ((rd_T70 l0_3 x46_3).f0), .slice A2136_1 ((rd_T70 l0_3 x46_3).f1).length c2136_1] 70 (0, 0))) := ⟨by (with_reducible repeat (first | refine blk_drewN ?_ _ | refine blk_drew ?_ | refine blk_alloc ?_ _)); refine blk_put (cs := #[.int .i64 ((rd_T70 l0_3 x46_3).f0), .slice none 0 0]) ?_ 1 _ rfl; (with_reducible repeat (first | refine blk_drewN ?_ _ | refine blk_drew ?_ | refine blk_alloc ?_ _)); refine blk_put (cs := #[.int .i64 0, .slice none 0 0]) ?_ 0 _ rfl; (with_reducible repeat (first | refine blk_drewN ?_ _ | refine blk_drew ?_ | refine blk_alloc ?_ _)); exact BK2137.out⟩
              have n2_ : Aside0 (Below w.heap.size w ((w51.setCell ⟨gb2137, 0, none⟩ (.int .i64 ((rd_T70 l0_3 x46_3).f0))).setCell ⟨gb2137, 1, none⟩ (.slice A2136_1 ((rd_T70 l0_3 x46_3).f1).length c2136_1))) := ⟨bl2 HB.out GE2133.out GE2137.out⟩
              (try clear BK2133)
              (try clear BK2137)
              (try clear HB)
              generalize ((w51.setCell ⟨gb2137, 0, none⟩ (.int .i64 ((rd_T70 l0_3 x46_3).f0))).setCell ⟨gb2137, 1, none⟩ (.slice A2136_1 ((rd_T70 l0_3 x46_3).f1).length c2136_1)) = w54 at n0_ n1_ n2_ ⊢
              have BK2133 := n0_
              have BK2137 := n1_
              have HB := n2_
              clear n0_ n1_ n2_
              replace BK2133 := am (blk_drew BK2133.out)
              replace BK2137 := am (blk_drew BK2137.out)
              replace HB := am (below_drew1 HB.out)
              refine start_ (n := 26) (S := fun w' => w'.cell? ⟨gb2137, 0, none⟩ = some (.int .i64 ((rd_T70 l0_3 x46_3).f0)) ∧ w'.cell? ⟨gb2137, 1, none⟩ = some (.slice A2136_1 ((rd_T70 l0_3 x46_3).f1).length c2136_1)) (ds := []) (bs 26 0) (by kernel_rfl) rfl rfl ⟨bc BK2137.out 0, bc BK2137.out 1⟩ (fun hHeld => ?_); refine with_tabW gran_shape.tab12 gran_shape.bits12 (fun HT_ HW_ => ?_)
              generalize w54.drew = w55 at BK2133 BK2137 HB hHeld ⊢
              refine px 0 51 (bs 26 1) HT_.out ?_
              refine tx 1 52 (bs 26 3) HT_.out HW_.out hHeld ?_
              refine one_ (i := 2) (N := some 53) (bs 26 7) rfl rfl (one_of HT_.out (by kernel_rfl)) (by decide) (fun K hK => ?_)
              refine goes_ Try.func31 (by kernel_rfl) rfl #[.slice A2136_1 ((rd_T70 l0_3 x46_3).f1).length c2136_1] (by rfl) rfl rfl ar ?_
              with_reducible refine (spans_Right.calls k3 _ _ ((rd_T70 l0_3 x46_3).f1) true _ ?side1 ?side2 A24.out).mono ?_
              (case side1 => exact kc (Kd.C_below HR2136_1.out HB.out))
              (case side2 => exact HC2136_1.out)
              rintro e w56 ⟨rfl, hb⟩
              refine ⟨_, rfl, ?_⟩
              replace BK2133 := am (blk_below (kp BK2133.out) hb)
              replace BK2137 := am (blk_below (kp BK2137.out) hb)
              replace HB := am (below_step (bl2 HB.out GE2133.out GE2137.out) hb)
              (try clear hb)
              (try clear hb2)
              (try clear hk)
              (try clear hi)
              refine hK.out _ _ ⟨bc BK2137.out 0, bc BK2137.out 1⟩ (fun hHeld => ?_)
              clear hK K
              refine nx ?_
              refine px 3 54 (bs 26 15) HT_.out ?_
              refine px 4 55 (bs 26 31) HT_.out ?_
              refine px 5 56 (bs 26 63) HT_.out ?_
              refine tx 6 57 (bs 26 127) HT_.out HW_.out hHeld ?_
              refine one_ (i := 7) (N := some 58) (bs 26 255) rfl rfl (one_of HT_.out (by kernel_rfl)) (by decide) (fun K hK => ?_)
              refine goes_ Try.func55 (by kernel_rfl) rfl #[.int .i64 ((rd_T70 l0_3 x46_3).f0)] (by rfl) rfl rfl ar ?_
              with_reducible refine (gran_inRange.calls ((rd_T70 l0_3 x46_3).f0) false _ A26.out).mono ?_
              rintro e w' ⟨rfl, ⟨nd, rfl⟩⟩
              refine ⟨_, rfl, ?_⟩
              refine hK.out _ _ ⟨bc BK2137.out 0, bc BK2137.out 1⟩ (fun hHeld => ?_)
              clear hK K
              refine nx ?_
              refine px 8 59 (bs 26 511) HT_.out ?_
              refine px 9 60 (bs 26 1023) HT_.out ?_
              refine px 10 61 (bs 26 2047) HT_.out ?_
              refine pu 11 62 (bs 26 4095) HT_.out ?_
              refine pu 12 63 (bs 26 8191) HT_.out ?_
              refine pu 13 64 (bs 26 16383) HT_.out ?_
              refine pu 14 65 (bs 26 32767) HT_.out ?_
              refine pu 15 66 (bs 26 65535) HT_.out ?_
              refine pu 16 67 (bs 26 131071) HT_.out ?_
              refine pu 17 68 (bs 26 262143) HT_.out ?_
              refine pu 18 69 (bs 26 524287) HT_.out ?_
              refine pu 19 70 (bs 26 1048575) HT_.out ?_
              refine pu 20 71 (bs 26 2097151) HT_.out ?_
              refine pu 21 72 (bs 26 4194303) HT_.out ?_
              refine pu 22 73 (bs 26 8388607) HT_.out ?_
              refine pu 23 74 (bs 26 16777215) HT_.out ?_
              refine pu 24 75 (bs 26 33554431) HT_.out ?_
              refine px 25 76 (bs 26 67108863) HT_.out ?_
              refine done_ (done_of HT_.out (by kernel_rfl)) ?_
              try go_wp2
              go_ret
              exact ⟨rt, bl2 HB.out GE2133.out GE2137.out⟩
            ·replace c25 := Bool.eq_false_iff.mpr c25
             subst c25
             have H1 : (some false) = some r := by rw [if_neg (show ¬ (false = true) by decide)] at H; exact H
             clear H
             have H := H1
             clear H1
             obtain rfl := Option.some.inj H
             have p2136 : 0 ≤ (x46_3 : Int) := of_decide_eq_true asm
             have q2136 : x46_3 < (l0_3.length : Int) := of_decide_eq_true asm
             obtain ⟨ad2136, A2136_1, c2136_1, e2136, hx2136_0, hx2136_1, hl2136_1, hi2136_1⟩ := at_T70 HR0_3.out x46_3 p2136 q2136
             cases e2136
             replace hx2136_0 := (HB.out.cell (World.block_lt_of_cell? w _ hx2136_0)).trans hx2136_0
             replace hx2136_1 := (HB.out.cell (World.block_lt_of_cell? w _ hx2136_1)).trans hx2136_1
             have HR2136_1 := am hi2136_1
             have HC2136_1 := am hl2136_1
             clear hi2136_1 hl2136_1
             replace p2136 := eq_true p2136
             replace q2136 := eq_true q2136
             try go_wp2_with (first | ((with_reducible refine gate_dst (N := 6) rfl ?_); refine bx 6 70 #[.int .i64 0, .slice none 0 0] ?_; intro gb2137 hg w57 hbox hb; have BK2137 := am (hbox); have GW2137 := am ((bz1 hg HB.out GE2133.out : w.heap.size ≤ gb2137)); have GE2137 := am ((bz1 hg HB.out GE2133.out : w.heap.size ≤ gb2137)); replace HB := am (below_step (bl1 HB.out GE2133.out) hb); have NB2133_2137 := am ((nl hg BK2133.out : gb2133 ≠ gb2137)); have NB2137_2133 := am ((ng hg BK2133.out : gb2137 ≠ gb2133)); replace BK2133 := am (blk_below (kp BK2133.out) hb); clear hb hbox hg; have hnb58 := NB2137_2133.out; have hnc58 := NB2133_2137.out; have hcz59_0 : w57.cell? ⟨gb2137, 0, none⟩ = some (.int .i64 0) := bc BK2137.out 0; have hcz59_1 : w57.cell? ⟨gb2137, 1, none⟩ = some (.slice none 0 0) := bc BK2137.out 1; have hfz59_0 := blk_frozen BK2137.out 0; have hfz59_1 := blk_frozen BK2137.out 1))
             have n0_ : Aside0 (((w57.setCell ⟨gb2137, 0, none⟩ (.int .i64 ((rd_T70 l0_3 x46_3).f0))).setCell ⟨gb2137, 1, none⟩ (.slice A2136_1 ((rd_T70 l0_3 x46_3).f1).length c2136_1)).heap[gb2133]? = some (.cells #[.int .i64 a0_0, .int .i64 a0_1, .slice A0_2 l0_2.length c0_2, .slice (some ad2136) l0_3.length c0_3] 28 (0, 0))) := ⟨kf BK2133.out NB2133_2137.out⟩
             have n1_ : Aside0 (((w57.setCell ⟨gb2137, 0, none⟩ (.int .i64 ((rd_T70 l0_3 x46_3).f0))).setCell ⟨gb2137, 1, none⟩ (.slice A2136_1 ((rd_T70 l0_3 x46_3).f1).length c2136_1)).heap[gb2137]? = some (.cells #[.int .i64 ((rd_T70 l0_3 x46_3).f0), .slice A2136_1 ((rd_T70 l0_3 x46_3).f1).length c2136_1] 70 (0, 0))) := ⟨by (with_reducible repeat (first | refine blk_drewN ?_ _ | refine blk_drew ?_ | refine blk_alloc ?_ _)); refine blk_put (cs := #[.int .i64 ((rd_T70 l0_3 x46_3).f0), .slice none 0 0]) ?_ 1 _ rfl; (with_reducible repeat (first | refine blk_drewN ?_ _ | refine blk_drew ?_ | refine blk_alloc ?_ _)); refine blk_put (cs := #[.int .i64 0, .slice none 0 0]) ?_ 0 _ rfl; (with_reducible repeat (first | refine blk_drewN ?_ _ | refine blk_drew ?_ | refine blk_alloc ?_ _)); exact BK2137.out⟩
             have n2_ : Aside0 (Below w.heap.size w ((w57.setCell ⟨gb2137, 0, none⟩ (.int .i64 ((rd_T70 l0_3 x46_3).f0))).setCell ⟨gb2137, 1, none⟩ (.slice A2136_1 ((rd_T70 l0_3 x46_3).f1).length c2136_1))) := ⟨bl2 HB.out GE2133.out GE2137.out⟩
             (try clear BK2133)
             (try clear BK2137)
             (try clear HB)
             generalize ((w57.setCell ⟨gb2137, 0, none⟩ (.int .i64 ((rd_T70 l0_3 x46_3).f0))).setCell ⟨gb2137, 1, none⟩ (.slice A2136_1 ((rd_T70 l0_3 x46_3).f1).length c2136_1)) = w60 at n0_ n1_ n2_ ⊢
             have BK2133 := n0_
             have BK2137 := n1_
             have HB := n2_
             clear n0_ n1_ n2_
             replace BK2133 := am (blk_drew BK2133.out)
             replace BK2137 := am (blk_drew BK2137.out)
             replace HB := am (below_drew1 HB.out)
             refine start_ (n := 26) (S := fun w' => w'.cell? ⟨gb2137, 0, none⟩ = some (.int .i64 ((rd_T70 l0_3 x46_3).f0)) ∧ w'.cell? ⟨gb2137, 1, none⟩ = some (.slice A2136_1 ((rd_T70 l0_3 x46_3).f1).length c2136_1)) (ds := []) (bs 26 0) (by kernel_rfl) rfl rfl ⟨bc BK2137.out 0, bc BK2137.out 1⟩ (fun hHeld => ?_); refine with_tabW gran_shape.tab12 gran_shape.bits12 (fun HT_ HW_ => ?_)
             generalize w60.drew = w61 at BK2133 BK2137 HB hHeld ⊢
             refine px 0 51 (bs 26 1) HT_.out ?_
             refine tx 1 52 (bs 26 3) HT_.out HW_.out hHeld ?_
             refine one_ (i := 2) (N := some 53) (bs 26 7) rfl rfl (one_of HT_.out (by kernel_rfl)) (by decide) (fun K hK => ?_)
             refine goes_ Try.func31 (by kernel_rfl) rfl #[.slice A2136_1 ((rd_T70 l0_3 x46_3).f1).length c2136_1] (by rfl) rfl rfl ar ?_
             with_reducible refine (spans_Right.calls k3 _ _ ((rd_T70 l0_3 x46_3).f1) false _ ?side1 ?side2 A24.out).mono ?_
             (case side1 => exact kc (Kd.C_below HR2136_1.out HB.out))
             (case side2 => exact HC2136_1.out)
             rintro e w62 ⟨rfl, hb⟩
             refine ⟨_, rfl, ?_⟩
             replace BK2133 := am (blk_below (kp BK2133.out) hb)
             replace BK2137 := am (blk_below (kp BK2137.out) hb)
             replace HB := am (below_step (bl2 HB.out GE2133.out GE2137.out) hb)
             (try clear hb)
             (try clear hb2)
             (try clear hk)
             (try clear hi)
             refine hK.out _ _ ⟨bc BK2137.out 0, bc BK2137.out 1⟩ (fun hHeld => ?_)
             clear hK K
             refine nx ?_
             refine px 3 54 (bs 26 15) HT_.out ?_
             refine px 4 55 (bs 26 31) HT_.out ?_
             refine pu 5 56 (bs 26 63) HT_.out ?_
             refine pu 6 57 (bs 26 127) HT_.out ?_
             refine pu 7 58 (bs 26 255) HT_.out ?_
             refine pu 8 59 (bs 26 511) HT_.out ?_
             refine px 9 60 (bs 26 1023) HT_.out ?_
             refine px 10 61 (bs 26 2047) HT_.out ?_
             refine pu 11 62 (bs 26 4095) HT_.out ?_
             refine pu 12 63 (bs 26 8191) HT_.out ?_
             refine pu 13 64 (bs 26 16383) HT_.out ?_
             refine pu 14 65 (bs 26 32767) HT_.out ?_
             refine pu 15 66 (bs 26 65535) HT_.out ?_
             refine pu 16 67 (bs 26 131071) HT_.out ?_
             refine pu 17 68 (bs 26 262143) HT_.out ?_
             refine pu 18 69 (bs 26 524287) HT_.out ?_
             refine pu 19 70 (bs 26 1048575) HT_.out ?_
             refine pu 20 71 (bs 26 2097151) HT_.out ?_
             refine pu 21 72 (bs 26 4194303) HT_.out ?_
             refine pu 22 73 (bs 26 8388607) HT_.out ?_
             refine pu 23 74 (bs 26 16777215) HT_.out ?_
             refine pu 24 75 (bs 26 33554431) HT_.out ?_
             refine px 25 76 (bs 26 67108863) HT_.out ?_
             refine done_ (done_of HT_.out (by kernel_rfl)) ?_
             try go_wp2
             go_ret
             exact ⟨rt, bl2 HB.out GE2133.out GE2137.out⟩
           ·rw [if_neg c23] at H
            exact absurd H (by simp)
          ·rw [if_neg c22] at H
           exact absurd H (by simp)
         ·rw [if_neg c21] at H
          have c21b0 : decide (x46_3 < (l0_3.length : Int)) = false := decide_eq_false c21
          clear c21
          obtain rfl := Option.some.inj H
          go_wp2
          go_ret
          exact ⟨rt, bl1 HB.out GE2133.out⟩

end Go.Proofs.Ytmbmalkpmanaaaa.P

namespace Go.Proofs.Ytmbmalkpmanaaaa.P
open Go.RowKit Go.Proofs.YtmbmalkpmanaaaaW.PrintWords Go.Proofs.YtmbmalkpmanaaaaW.PrintLast Go.Proofs.YtmbmalkpmanaaaaW.PrintMore
attribute [local go_sem] max2_int min2_int max_two min_two max_three min_three max_four min_four   -- for this text's walks alone
set_option linter.unusedVariables false
set_option linter.unusedSimpArgs false

mutual
def gran_turns.l0 : Nat → List (List (S23)) → List (List (S23)) → Int → Int → Int → Int → List (List (S23)) → List (S70) → Option (Bool)
 | 0, _, _, _, _, _, _, _, _ => none
 | k + 1, x3, x11, x12, x13, x2142000, x2142001, x2142002, x2142003 => if x13 < x12 then (if 0 ≤ x13 then (if x13 < (x11.length : Int) then (if ((rd_L2 x11 x13).length : Int) > 0 then (if x3.length < 5864062014805 then (gran_turns.l0 k (x3 ++ [rd_L2 x11 x13]) x11 x12 (wrap64 (x13 + 1)) x2142000 x2142001 x2142002 x2142003) else (none)) else (gran_turns.l0 k x3 x11 x12 (wrap64 (x13 + 1)) x2142000 x2142001 x2142002 x2142003)) else (none)) else (none)) else (gran_turns.l1 k x3 x3 (x3.length : Int) 0 x2142000 x2142001 x2142002 x2142003)
def gran_turns.l1 : Nat → List (List (S23)) → List (List (S23)) → Int → Int → Int → Int → List (List (S23)) → List (S70) → Option (Bool)
 | 0, _, _, _, _, _, _, _, _ => none
 | k + 1, x3, x25, x26, x27, x2142000, x2142001, x2142002, x2142003 => if x27 < x26 then (if 0 ≤ x27 then (if x27 < (x25.length : Int) then (if (x3.length : Int) = 0 then (none) else (if 0 ≤ (Int.tmod (wrap64 (x27 + 1)) (x3.length : Int)) then (if (Int.tmod (wrap64 (x27 + 1)) (x3.length : Int)) < (x3.length : Int) then (if (wrap64 (x27 + 1)) = (x3.length : Int) then (if 0 ≤ (wrap64 (((rd_L2 x25 x27).length : Int) - 1)) then (if (wrap64 (((rd_L2 x25 x27).length : Int) - 1)) < ((rd_L2 x25 x27).length : Int) then (if 0 < ((rd_L2 x3 (Int.tmod (wrap64 (x27 + 1)) (x3.length : Int))).length : Int) then (if ((rd_T23 (rd_L2 x25 x27) (wrap64 (((rd_L2 x25 x27).length : Int) - 1))).f1) ≥ (wrap64 (((rd_T23 (rd_L2 x3 (Int.tmod (wrap64 (x27 + 1)) (x3.length : Int))) 0).f0) + x2142000)) then (some false) else (gran_turns.l1 k x3 x25 x26 (wrap64 (x27 + 1)) x2142000 x2142001 x2142002 x2142003)) else (none)) else (none)) else (none)) else (if 0 ≤ (wrap64 (((rd_L2 x25 x27).length : Int) - 1)) then (if (wrap64 (((rd_L2 x25 x27).length : Int) - 1)) < ((rd_L2 x25 x27).length : Int) then (if 0 < ((rd_L2 x3 (Int.tmod (wrap64 (x27 + 1)) (x3.length : Int))).length : Int) then (if ((rd_T23 (rd_L2 x25 x27) (wrap64 (((rd_L2 x25 x27).length : Int) - 1))).f1) ≥ (wrap64 (((rd_T23 (rd_L2 x3 (Int.tmod (wrap64 (x27 + 1)) (x3.length : Int))) 0).f0) + 0)) then (some false) else (gran_turns.l1 k x3 x25 x26 (wrap64 (x27 + 1)) x2142000 x2142001 x2142002 x2142003)) else (none)) else (none)) else (none))) else (none)) else (none))) else (none)) else (none)) else (some true)
end
def gran_turns.f (k : Nat) (a0_0 : Int) (a0_1 : Int) (l0_2 : List (List (S23))) (l0_3 : List (S70)) : Option (Bool) := gran_turns.l0 k ([] : List (List (S23))) l0_2 (l0_2.length : Int) 0 a0_0 a0_1 l0_2 l0_3
set_option maxHeartbeats 8000000 in
set_option maxRecDepth 100000 in
theorem gran_turns.calls (k : Nat) (a0_0 : Int) (a0_1 : Int) (P0_2_ : Nat → Prop) (A0_2 : Option Addr) (c0_2 : Nat) (l0_2 : List (List (S23))) (A0_3 : Option Addr) (c0_3 : Nat) (l0_3 : List (S70)) (r : Bool) (w : World) (hs0_2 : Kd.V (Kd.slice 23 k23) 24 w w.heap.size (fun k_ => P0_2_ k_) (.slice A0_2 l0_2.length c0_2) l0_2) (hr0_3 : Kd.C k70 w A0_3 l0_3.length l0_3) (hc0_3 : l0_3.length ≤ c0_3) (h : gran_turns.f k a0_0 a0_1 l0_2 l0_3 = some r) :
 Calls Try.prog 82 #[.agg #[.int .i64 a0_0, .int .i64 a0_1, .slice A0_2 l0_2.length c0_2, .slice A0_3 l0_3.length c0_3]] w fun e w' => e = .returned (.bool r) ∧ Below w.heap.size w w' := by
 have hu28 := Try.underlying28
 have HO0_2 := am (show Kd.V (Kd.slice 23 k23) 24 w w.heap.size (fun k_ => (P0_2_ k_ ∨ w.heap.size ≤ k_)) (.slice A0_2 l0_2.length c0_2) l0_2 from Kd.V_mono hs0_2 (fun k_ hk => .inl hk))
 have HR0_3 := am hr0_3
 have HC0_3 := am hc0_3
 clear hr0_3 hc0_3
 have HB := am (Below.refl w.heap.size w)
 have H : (gran_turns.l0 k ([] : List (List (S23))) l0_2 (l0_2.length : Int) 0 a0_0 a0_1 l0_2 l0_3) = some r := h
 clear h
 have H' := am H
 clear H
 go_enter Try.func82, Try.ntmps82
 go_wp2_with (first | ((with_reducible refine gate_dst (N := 1) rfl ?_); refine bx 1 28 #[.int .i64 a0_0, .int .i64 a0_1, .slice A0_2 l0_2.length c0_2, .slice A0_3 l0_3.length c0_3] ?_; intro gb2141 hg w2 hbox hb; replace HO0_2 := am (Kd.V_below (Kd.V_elderB (kv HO0_2.out) gb2141 (Nat.le_of_eq hg.symm)) hb); have BK2141 := am (hbox); have GW2141 := am ((bz hg HB.out : w.heap.size ≤ gb2141)); have GE2141 := am ((bz hg HB.out : w.heap.size ≤ gb2141)); replace HB := am (below_step (bl HB.out) hb); clear hb hbox hg; have hcz3_0 : w2.cell? ⟨gb2141, 0, none⟩ = some (.int .i64 a0_0) := bc BK2141.out 0; have hcz3_1 : w2.cell? ⟨gb2141, 1, none⟩ = some (.int .i64 a0_1) := bc BK2141.out 1; have hcz3_2 : w2.cell? ⟨gb2141, 2, none⟩ = some (.slice A0_2 l0_2.length c0_2) := bc BK2141.out 2; have hcz3_3 : w2.cell? ⟨gb2141, 3, none⟩ = some (.slice A0_3 l0_3.length c0_3) := bc BK2141.out 3; have hfz3_0 := blk_frozen BK2141.out 0; have hfz3_1 := blk_frozen BK2141.out 1; have hfz3_2 := blk_frozen BK2141.out 2; have hfz3_3 := blk_frozen BK2141.out 3))
 repeat (go_quiet (first | ((with_reducible refine gate_dst (N := 1) rfl ?_); refine bx 1 28 #[.int .i64 a0_0, .int .i64 a0_1, .slice A0_2 l0_2.length c0_2, .slice A0_3 l0_3.length c0_3] ?_; intro gb2141 hg w2 hbox hb; replace HO0_2 := am (Kd.V_below (Kd.V_elderB (kv HO0_2.out) gb2141 (Nat.le_of_eq hg.symm)) hb); have BK2141 := am (hbox); have GW2141 := am ((bz hg HB.out : w.heap.size ≤ gb2141)); have GE2141 := am ((bz hg HB.out : w.heap.size ≤ gb2141)); replace HB := am (below_step (bl HB.out) hb); clear hb hbox hg; have hcz3_0 : w2.cell? ⟨gb2141, 0, none⟩ = some (.int .i64 a0_0) := bc BK2141.out 0; have hcz3_1 : w2.cell? ⟨gb2141, 1, none⟩ = some (.int .i64 a0_1) := bc BK2141.out 1; have hcz3_2 : w2.cell? ⟨gb2141, 2, none⟩ = some (.slice A0_2 l0_2.length c0_2) := bc BK2141.out 2; have hcz3_3 : w2.cell? ⟨gb2141, 3, none⟩ = some (.slice A0_3 l0_3.length c0_3) := bc BK2141.out 3; have hfz3_0 := blk_frozen BK2141.out 0; have hfz3_1 := blk_frozen BK2141.out 1; have hfz3_2 := blk_frozen BK2141.out 2; have hfz3_3 := blk_frozen BK2141.out 3)); try go_wp2_with (first | ((with_reducible refine gate_dst (N := 1) rfl ?_); refine bx 1 28 #[.int .i64 a0_0, .int .i64 a0_1, .slice A0_2 l0_2.length c0_2, .slice A0_3 l0_3.length c0_3] ?_; intro gb2141 hg w2 hbox hb; replace HO0_2 := am (Kd.V_below (Kd.V_elderB (kv HO0_2.out) gb2141 (Nat.le_of_eq hg.symm)) hb); have BK2141 := am (hbox); have GW2141 := am ((bz hg HB.out : w.heap.size ≤ gb2141)); have GE2141 := am ((bz hg HB.out : w.heap.size ≤ gb2141)); replace HB := am (below_step (bl HB.out) hb); clear hb hbox hg; have hcz3_0 : w2.cell? ⟨gb2141, 0, none⟩ = some (.int .i64 a0_0) := bc BK2141.out 0; have hcz3_1 : w2.cell? ⟨gb2141, 1, none⟩ = some (.int .i64 a0_1) := bc BK2141.out 1; have hcz3_2 : w2.cell? ⟨gb2141, 2, none⟩ = some (.slice A0_2 l0_2.length c0_2) := bc BK2141.out 2; have hcz3_3 : w2.cell? ⟨gb2141, 3, none⟩ = some (.slice A0_3 l0_3.length c0_3) := bc BK2141.out 3; have hfz3_0 := blk_frozen BK2141.out 0; have hfz3_1 := blk_frozen BK2141.out 1; have hfz3_2 := blk_frozen BK2141.out 2; have hfz3_3 := blk_frozen BK2141.out 3)))
 go_loopg [3, 13] k (fun kq v3 v13 w' => ∃ (x3_1 : List (List (S23))) (x13_1 : Int), v13 = .int .i64 x13_1 ∧ Aside0 (gran_turns.l0 kq x3_1 l0_2 (l0_2.length : Int) x13_1 a0_0 a0_1 l0_2 l0_3 = some r) ∧ Aside0 (kq ≤ k) ∧ Aside0 (Kd.N (Kd.slice 23 k23) 24 w' w.heap.size (fun k_ => (P0_2_ k_ ∨ w.heap.size ≤ k_) ∧ k_ ≠ gb2141) v3 x3_1) ∧ Aside0 (Kd.V (Kd.slice 23 k23) 24 w' w.heap.size (fun k_ => (P0_2_ k_ ∨ w.heap.size ≤ k_) ∧ some k_ ≠ (v3 : Value).ownBlock ∧ k_ ≠ gb2141) (.slice A0_2 l0_2.length c0_2) l0_2) ∧ Aside0 (Kd.V (Kd.slice 23 k23) 24 w' w.heap.size (fun k_ => (P0_2_ k_ ∨ w.heap.size ≤ k_) ∧ some k_ ≠ (v3 : Value).ownBlock ∧ k_ ≠ gb2141) (.slice A0_2 l0_2.length c0_2) l0_2) ∧ Aside0 (w'.heap[gb2141]? = some (.cells #[.int .i64 a0_0, .int .i64 a0_1, (.slice A0_2 l0_2.length c0_2), (.slice A0_3 l0_3.length c0_3)] 28 (0, 0))) ∧ Aside0 (Below w.heap.size w w'))
 case atStart => exact ⟨(([] : List (List (S23)))), (0), sm, H', ⟨Nat.le_refl _⟩, ⟨by first | exact Kd.S_nil _ _ _ _ _ | exact Kd.N_nil _ _ _ _ _ | exact Kd.V_nil _ _ _ _ _ | exact Kd.Q_nil _ _ _ _ _ | exact Kd.R_nil _ _ _ _ _⟩, ⟨by (with_reducible repeat (first | apply Kd.V_alloc | apply Kd.V_drewN | apply Kd.V_drew)); exact Kd.V_mono HO0_2.out (fun _ hk => ⟨hk.1, ⟨(by simp [Value.ownBlock]), hk.2⟩⟩)⟩, ⟨by (with_reducible repeat (first | apply Kd.V_alloc | apply Kd.V_drewN | apply Kd.V_drew)); exact Kd.V_mono HO0_2.out (fun _ hk => ⟨hk.1, ⟨(by simp [Value.ownBlock]), hk.2⟩⟩)⟩, ⟨kp BK2141.out⟩, ⟨bl1 HB.out GE2141.out⟩⟩
 case round =>
  clear H'
  try clear p2
  try clear hcz3_0
  try clear hcz3_1
  try clear hcz3_2
  try clear hcz3_3
  try clear hfz3_0
  try clear hfz3_1
  try clear hfz3_2
  try clear hfz3_3
  obtain ⟨x3_1, x13_1, rfl, HA, HK1, HO_3, HO_11, HO_2142002, BK2141, HB⟩ := hrel
  cases gk with
  | zero => exact absurd HA.out (by simp [gran_turns.l0])
  | succ k1 =>
   have H := HA.out
   clear HA
   simp only [gran_turns.l0] at H
   by_cases c4 : x13_1 < (l0_2.length : Int)
   ·rw [if_pos c4] at H
    have c4b0 : decide (x13_1 < (l0_2.length : Int)) = true := decide_eq_true c4
    clear c4
    by_cases c5 : 0 ≤ x13_1
    ·rw [if_pos c5] at H
     have c5b0 : decide (0 ≤ x13_1) = true := decide_eq_true c5
     clear c5
     by_cases c6 : x13_1 < (l0_2.length : Int)
     ·rw [if_pos c6] at H
      have c6b0 : decide (x13_1 < (l0_2.length : Int)) = true := decide_eq_true c6
      clear c6
      by_cases c7 : ((rd_L2 l0_2 x13_1).length : Int) > 0
      ·rw [if_pos c7] at H
       have c7b0 : decide (0 < ((rd_L2 l0_2 x13_1).length : Int)) = true := decide_eq_true c7
       have c7b1 : decide (0 < (rd_L2 l0_2 x13_1).length) = true := decide_eq_true (by omega)
       clear c7
       by_cases c8 : x3_1.length < 5864062014805
       ·rw [if_pos c8] at H
        have LMc8 := am c8
        clear c8
        obtain ⟨y2143, hy2143⟩ : ∃ y_ : List (List (S23)), y_ = (x3_1 ++ [rd_L2 l0_2 x13_1]) := ⟨_, rfl⟩
        replace H : (gran_turns.l0 k1 y2143 l0_2 (l0_2.length : Int) (wrap64 (x13_1 + 1)) a0_0 a0_1 l0_2 l0_3) = some r := by first | (rw [hy2143]; with_reducible exact H) | (have H2_ := (Option.bind_some _ _).symm.trans H; rw [hy2143]; with_reducible exact H2_) | (have H2_ := (Option.bind_some _ _).symm.trans H; with_reducible exact H2_) | with_reducible exact H | (rw [hy2143]; exact H) | exact H
        have Ny2143 := am hy2143
        clear hy2143
        have H' := am H
        clear H
        have p2142 : 0 ≤ (x13_1 : Int) := of_decide_eq_true asm
        have q2142 : x13_1 < (l0_2.length : Int) := of_decide_eq_true asm
        obtain ⟨ad2142, A2142_0, c2142_0, e2142, hx2142_0, hl2142_0, hi2142_0⟩ := at_L2 (Kd.V_reads' HO_11.out).2.2 x13_1 p2142 q2142
        cases e2142
        obtain ⟨ce2142, hce2142, hMe2142, hcc2142⟩ := Kd.V_get HO_11.out [] x13_1 p2142 (by first | exact q2142 | exact of_decide_eq_true asm | (have e_ := (Kd.V_reads' HO_11.out).1; omega))
        obtain ⟨ua2142_0, uc2142_0, rfl, ul2142_0, ge2142_0⟩ := Kd.FK_slice_open hMe2142
        have hv2142_0 := hcc2142 0 _ rfl
        rw [Nat.add_zero, show ((Kd.slice 23 k23)).sz = 1 from rfl, Nat.mul_one] at hv2142_0
        replace hv2142_0 := Option.some.inj (hv2142_0.symm.trans hx2142_0)
        injection hv2142_0 with hva_ hvn_ hvc_
        rw [hva_] at ge2142_0
        rw [hvc_] at ul2142_0
        have HL2142_0 := am (show Kd.V k23 23 _ w.heap.size _ _ (rd_L2 l0_2 x13_1) from Kd.V_mk ul2142_0 ge2142_0)
        clear hva_ hvn_ hvc_ ge2142_0 ul2142_0
        clear hcc2142 hce2142
        have HR2142_0 := am hi2142_0
        have HC2142_0 := am hl2142_0
        clear hi2142_0 hl2142_0
        replace p2142 := eq_true p2142
        replace q2142 := eq_true q2142
        go_wp2_with (first | ((with_reducible refine gate_builtin (b := .append) (xs := #[.tmp 20, .tmp 22]) rfl ?_); at_builtin; refine Kd.N_append (Kd.slice 23 k23) (w0 := w) w.heap.size rfl (.tmp 20) (.tmp 22) 25 24 (.slice none 0 0) 24 rfl Try.underlying25 info24 rfl (by decide) (by omega) u3 x3_1 (rd_L2 l0_2 x13_1) [.slice A2142_0 (rd_L2 l0_2 x13_1).length c2142_0] (fun k_ => (P0_2_ k_ ∨ w.heap.size ≤ k_) ∧ k_ ≠ gb2141) (fun k_ => ((fun k_ => (P0_2_ k_ ∨ w.heap.size ≤ k_) ∧ k_ ≠ gb2141)) k_ ∧ some k_ ≠ (u3 : Value).ownBlock) rfl rfl ?aP (fun _ hk => hk) ?aF ?aO ?aB ?aS ?aL ?_; (case aP => exact (Kd.FK_slice_mk (Kd.V_reads' (Kd.V_mono (ok' := (fun k_ => ((fun k_ => (P0_2_ k_ ∨ w.heap.size ≤ k_) ∧ k_ ≠ gb2141)) k_ ∧ some k_ ≠ (u3 : Value).ownBlock)) (HL2142_0.out) (fun k_ hk => ⟨⟨hk.1, hk.2.2⟩, hk.2.1⟩))).2.1 (Kd.V_F (Kd.V_mono (ok' := (fun k_ => ((fun k_ => (P0_2_ k_ ∨ w.heap.size ≤ k_) ∧ k_ ≠ gb2141)) k_ ∧ some k_ ≠ (u3 : Value).ownBlock)) (HL2142_0.out) (fun k_ hk => ⟨⟨hk.1, hk.2.2⟩, hk.2.1⟩))))); (case aB => exact (bl1 HB.out GE2141.out)); (case aF => exact (fun k_ hk => ⟨(.inr (Nat.le_trans (below_size (bl1 HB.out GE2141.out)) hk)), Kd.freshB (g := gb2141) (o := .cells #[.int .i64 a0_0, .int .i64 a0_1, .slice (some ad2142) l0_2.length c0_2, .slice A0_3 l0_3.length c0_3] 28 (0, 0)) (kp BK2141.out) k_ hk⟩)); (case aO => exact (kn HO_3.out)); (case aS => exact (below_size (bl1 HB.out GE2141.out))); (case aL => have := LMc8.out; omega); intro v2144 w9 ho hb hg hat; rw [← Ny2143.out] at ho; replace HO_11 := am (Kd.V_afterv (ok := (fun k_ => (P0_2_ k_ ∨ w.heap.size ≤ k_) ∧ k_ ≠ gb2141)) (by (with_reducible repeat (first | apply Kd.V_alloc | apply Kd.V_drewN | apply Kd.V_drew)); exact Kd.V_mono HO_11.out (fun _ hk => ⟨⟨hk.1, hk.2.2⟩, hk.2.1⟩)) hg hat); replace HO_2142002 := am (Kd.V_afterv (ok := (fun k_ => (P0_2_ k_ ∨ w.heap.size ≤ k_) ∧ k_ ≠ gb2141)) (by (with_reducible repeat (first | apply Kd.V_alloc | apply Kd.V_drewN | apply Kd.V_drew)); exact Kd.V_mono HO_2142002.out (fun _ hk => ⟨⟨hk.1, hk.2.2⟩, hk.2.1⟩)) hg hat); replace BK2141 := am (blk_grown (g := gb2141) (o := .cells #[.int .i64 a0_0, .int .i64 a0_1, .slice (some ad2142) l0_2.length c0_2, .slice A0_3 l0_3.length c0_3] 28 (0, 0)) (kp BK2141.out) hg (Kd.N_ne HO_3.out BK2141.out (by decide))); replace HL2142_0 := am (Kd.V_afterv (ok := (fun k_ => (P0_2_ k_ ∨ w.heap.size ≤ k_) ∧ k_ ≠ gb2141)) (by (with_reducible repeat (first | apply Kd.V_alloc | apply Kd.V_drewN | apply Kd.V_drew)); exact Kd.V_mono HL2142_0.out (fun _ hk => ⟨⟨hk.1, hk.2.2⟩, hk.2.1⟩)) hg hat); replace HB := am (hb); have HO2145 := am (ho); clear HO_3; clear ho hb hg hat))
        repeat (go_quiet (first | ((with_reducible refine gate_builtin (b := .append) (xs := #[.tmp 20, .tmp 22]) rfl ?_); at_builtin; refine Kd.N_append (Kd.slice 23 k23) (w0 := w) w.heap.size rfl (.tmp 20) (.tmp 22) 25 24 (.slice none 0 0) 24 rfl Try.underlying25 info24 rfl (by decide) (by omega) u3 x3_1 (rd_L2 l0_2 x13_1) [.slice A2142_0 (rd_L2 l0_2 x13_1).length c2142_0] (fun k_ => (P0_2_ k_ ∨ w.heap.size ≤ k_) ∧ k_ ≠ gb2141) (fun k_ => ((fun k_ => (P0_2_ k_ ∨ w.heap.size ≤ k_) ∧ k_ ≠ gb2141)) k_ ∧ some k_ ≠ (u3 : Value).ownBlock) rfl rfl ?aP (fun _ hk => hk) ?aF ?aO ?aB ?aS ?aL ?_; (case aP => exact (Kd.FK_slice_mk (Kd.V_reads' (Kd.V_mono (ok' := (fun k_ => ((fun k_ => (P0_2_ k_ ∨ w.heap.size ≤ k_) ∧ k_ ≠ gb2141)) k_ ∧ some k_ ≠ (u3 : Value).ownBlock)) (HL2142_0.out) (fun k_ hk => ⟨⟨hk.1, hk.2.2⟩, hk.2.1⟩))).2.1 (Kd.V_F (Kd.V_mono (ok' := (fun k_ => ((fun k_ => (P0_2_ k_ ∨ w.heap.size ≤ k_) ∧ k_ ≠ gb2141)) k_ ∧ some k_ ≠ (u3 : Value).ownBlock)) (HL2142_0.out) (fun k_ hk => ⟨⟨hk.1, hk.2.2⟩, hk.2.1⟩))))); (case aB => exact (bl1 HB.out GE2141.out)); (case aF => exact (fun k_ hk => ⟨(.inr (Nat.le_trans (below_size (bl1 HB.out GE2141.out)) hk)), Kd.freshB (g := gb2141) (o := .cells #[.int .i64 a0_0, .int .i64 a0_1, .slice (some ad2142) l0_2.length c0_2, .slice A0_3 l0_3.length c0_3] 28 (0, 0)) (kp BK2141.out) k_ hk⟩)); (case aO => exact (kn HO_3.out)); (case aS => exact (below_size (bl1 HB.out GE2141.out))); (case aL => have := LMc8.out; omega); intro v2144 w9 ho hb hg hat; rw [← Ny2143.out] at ho; replace HO_11 := am (Kd.V_afterv (ok := (fun k_ => (P0_2_ k_ ∨ w.heap.size ≤ k_) ∧ k_ ≠ gb2141)) (by (with_reducible repeat (first | apply Kd.V_alloc | apply Kd.V_drewN | apply Kd.V_drew)); exact Kd.V_mono HO_11.out (fun _ hk => ⟨⟨hk.1, hk.2.2⟩, hk.2.1⟩)) hg hat); replace HO_2142002 := am (Kd.V_afterv (ok := (fun k_ => (P0_2_ k_ ∨ w.heap.size ≤ k_) ∧ k_ ≠ gb2141)) (by (with_reducible repeat (first | apply Kd.V_alloc | apply Kd.V_drewN | apply Kd.V_drew)); exact Kd.V_mono HO_2142002.out (fun _ hk => ⟨⟨hk.1, hk.2.2⟩, hk.2.1⟩)) hg hat); replace BK2141 := am (blk_grown (g := gb2141) (o := .cells #[.int .i64 a0_0, .int .i64 a0_1, .slice (some ad2142) l0_2.length c0_2, .slice A0_3 l0_3.length c0_3] 28 (0, 0)) (kp BK2141.out) hg (Kd.N_ne HO_3.out BK2141.out (by decide))); replace HL2142_0 := am (Kd.V_afterv (ok := (fun k_ => (P0_2_ k_ ∨ w.heap.size ≤ k_) ∧ k_ ≠ gb2141)) (by (with_reducible repeat (first | apply Kd.V_alloc | apply Kd.V_drewN | apply Kd.V_drew)); exact Kd.V_mono HL2142_0.out (fun _ hk => ⟨⟨hk.1, hk.2.2⟩, hk.2.1⟩)) hg hat); replace HB := am (hb); have HO2145 := am (ho); clear HO_3; clear ho hb hg hat)); try go_wp2_with (first | ((with_reducible refine gate_builtin (b := .append) (xs := #[.tmp 20, .tmp 22]) rfl ?_); at_builtin; refine Kd.N_append (Kd.slice 23 k23) (w0 := w) w.heap.size rfl (.tmp 20) (.tmp 22) 25 24 (.slice none 0 0) 24 rfl Try.underlying25 info24 rfl (by decide) (by omega) u3 x3_1 (rd_L2 l0_2 x13_1) [.slice A2142_0 (rd_L2 l0_2 x13_1).length c2142_0] (fun k_ => (P0_2_ k_ ∨ w.heap.size ≤ k_) ∧ k_ ≠ gb2141) (fun k_ => ((fun k_ => (P0_2_ k_ ∨ w.heap.size ≤ k_) ∧ k_ ≠ gb2141)) k_ ∧ some k_ ≠ (u3 : Value).ownBlock) rfl rfl ?aP (fun _ hk => hk) ?aF ?aO ?aB ?aS ?aL ?_; (case aP => exact (Kd.FK_slice_mk (Kd.V_reads' (Kd.V_mono (ok' := (fun k_ => ((fun k_ => (P0_2_ k_ ∨ w.heap.size ≤ k_) ∧ k_ ≠ gb2141)) k_ ∧ some k_ ≠ (u3 : Value).ownBlock)) (HL2142_0.out) (fun k_ hk => ⟨⟨hk.1, hk.2.2⟩, hk.2.1⟩))).2.1 (Kd.V_F (Kd.V_mono (ok' := (fun k_ => ((fun k_ => (P0_2_ k_ ∨ w.heap.size ≤ k_) ∧ k_ ≠ gb2141)) k_ ∧ some k_ ≠ (u3 : Value).ownBlock)) (HL2142_0.out) (fun k_ hk => ⟨⟨hk.1, hk.2.2⟩, hk.2.1⟩))))); (case aB => exact (bl1 HB.out GE2141.out)); (case aF => exact (fun k_ hk => ⟨(.inr (Nat.le_trans (below_size (bl1 HB.out GE2141.out)) hk)), Kd.freshB (g := gb2141) (o := .cells #[.int .i64 a0_0, .int .i64 a0_1, .slice (some ad2142) l0_2.length c0_2, .slice A0_3 l0_3.length c0_3] 28 (0, 0)) (kp BK2141.out) k_ hk⟩)); (case aO => exact (kn HO_3.out)); (case aS => exact (below_size (bl1 HB.out GE2141.out))); (case aL => have := LMc8.out; omega); intro v2144 w9 ho hb hg hat; rw [← Ny2143.out] at ho; replace HO_11 := am (Kd.V_afterv (ok := (fun k_ => (P0_2_ k_ ∨ w.heap.size ≤ k_) ∧ k_ ≠ gb2141)) (by (with_reducible repeat (first | apply Kd.V_alloc | apply Kd.V_drewN | apply Kd.V_drew)); exact Kd.V_mono HO_11.out (fun _ hk => ⟨⟨hk.1, hk.2.2⟩, hk.2.1⟩)) hg hat); replace HO_2142002 := am (Kd.V_afterv (ok := (fun k_ => (P0_2_ k_ ∨ w.heap.size ≤ k_) ∧ k_ ≠ gb2141)) (by (with_reducible repeat (first | apply Kd.V_alloc | apply Kd.V_drewN | apply Kd.V_drew)); exact Kd.V_mono HO_2142002.out (fun _ hk => ⟨⟨hk.1, hk.2.2⟩, hk.2.1⟩)) hg hat); replace BK2141 := am (blk_grown (g := gb2141) (o := .cells #[.int .i64 a0_0, .int .i64 a0_1, .slice (some ad2142) l0_2.length c0_2, .slice A0_3 l0_3.length c0_3] 28 (0, 0)) (kp BK2141.out) hg (Kd.N_ne HO_3.out BK2141.out (by decide))); replace HL2142_0 := am (Kd.V_afterv (ok := (fun k_ => (P0_2_ k_ ∨ w.heap.size ≤ k_) ∧ k_ ≠ gb2141)) (by (with_reducible repeat (first | apply Kd.V_alloc | apply Kd.V_drewN | apply Kd.V_drew)); exact Kd.V_mono HL2142_0.out (fun _ hk => ⟨⟨hk.1, hk.2.2⟩, hk.2.1⟩)) hg hat); replace HB := am (hb); have HO2145 := am (ho); clear HO_3; clear ho hb hg hat)))
        go_roundg k1
        case measure => have := HK1.out; omega
        case rel => exact ⟨(y2143), (wrap64 (x13_1 + 1)), sm, H', ⟨by have := HK1.out; omega⟩, ⟨by (with_reducible repeat (first | apply Kd.N_alloc | apply Kd.N_drewN | apply Kd.N_drew)); exact HO2145.out⟩, ⟨by (with_reducible repeat (first | apply Kd.V_alloc | apply Kd.V_drewN | apply Kd.V_drew)); exact Kd.V_mono HO_11.out (fun _ hk => ⟨hk.1.1, ⟨hk.2, hk.1.2⟩⟩)⟩, ⟨by (with_reducible repeat (first | apply Kd.V_alloc | apply Kd.V_drewN | apply Kd.V_drew)); exact Kd.V_mono HO_2142002.out (fun _ hk => ⟨hk.1.1, ⟨hk.2, hk.1.2⟩⟩)⟩, ⟨kp BK2141.out⟩, ⟨bl1 HB.out GE2141.out⟩⟩
       ·rw [if_neg c8] at H
        exact absurd H (by simp)
      ·rw [if_neg c7] at H
       have c7b0 : decide (0 < ((rd_L2 l0_2 x13_1).length : Int)) = false := decide_eq_false c7
       have c7b1 : decide (0 < (rd_L2 l0_2 x13_1).length) = false := decide_eq_false (by omega)
       clear c7
       have H' := am H
       clear H
       have p2142 : 0 ≤ (x13_1 : Int) := of_decide_eq_true asm
       have q2142 : x13_1 < (l0_2.length : Int) := of_decide_eq_true asm
       obtain ⟨ad2142, A2142_0, c2142_0, e2142, hx2142_0, hl2142_0, hi2142_0⟩ := at_L2 (Kd.V_reads' HO_11.out).2.2 x13_1 p2142 q2142
       cases e2142
       obtain ⟨ce2142, hce2142, hMe2142, hcc2142⟩ := Kd.V_get HO_11.out [] x13_1 p2142 (by first | exact q2142 | exact of_decide_eq_true asm | (have e_ := (Kd.V_reads' HO_11.out).1; omega))
       obtain ⟨ua2142_0, uc2142_0, rfl, ul2142_0, ge2142_0⟩ := Kd.FK_slice_open hMe2142
       have hv2142_0 := hcc2142 0 _ rfl
       rw [Nat.add_zero, show ((Kd.slice 23 k23)).sz = 1 from rfl, Nat.mul_one] at hv2142_0
       replace hv2142_0 := Option.some.inj (hv2142_0.symm.trans hx2142_0)
       injection hv2142_0 with hva_ hvn_ hvc_
       rw [hva_] at ge2142_0
       rw [hvc_] at ul2142_0
       have HL2142_0 := am (show Kd.V k23 23 _ w.heap.size _ _ (rd_L2 l0_2 x13_1) from Kd.V_mk ul2142_0 ge2142_0)
       clear hva_ hvn_ hvc_ ge2142_0 ul2142_0
       clear hcc2142 hce2142
       have HR2142_0 := am hi2142_0
       have HC2142_0 := am hl2142_0
       clear hi2142_0 hl2142_0
       replace p2142 := eq_true p2142
       replace q2142 := eq_true q2142
       go_wp2
       repeat (go_quiet (fail); try go_wp2)
       go_roundg k1
       case measure => have := HK1.out; omega
       case rel => exact ⟨(x3_1), (wrap64 (x13_1 + 1)), sm, H', ⟨by have := HK1.out; omega⟩, ⟨by (with_reducible repeat (first | apply Kd.N_alloc | apply Kd.N_drewN | apply Kd.N_drew)); exact HO_3.out⟩, ⟨by (with_reducible repeat (first | apply Kd.V_alloc | apply Kd.V_drewN | apply Kd.V_drew)); exact HO_11.out⟩, ⟨by (with_reducible repeat (first | apply Kd.V_alloc | apply Kd.V_drewN | apply Kd.V_drew)); exact HO_2142002.out⟩, ⟨kp BK2141.out⟩, ⟨bl1 HB.out GE2141.out⟩⟩
     ·rw [if_neg c6] at H
      exact absurd H (by simp)
    ·rw [if_neg c5] at H
     exact absurd H (by simp)
   ·rw [if_neg c4] at H
    have c4b0 : decide (x13_1 < (l0_2.length : Int)) = false := decide_eq_false c4
    clear c4
    have H' := am H
    clear H
    obtain ⟨Ao10, co10, eo10⟩ := Kd.N_slice HO_3.out
    subst eo10
    go_wp2
    repeat (go_quiet (fail); try go_wp2)
    go_loopg [27] k1 (fun kq v27 w' => ∃ (x27_2 : Int), v27 = .int .i64 x27_2 ∧ Aside0 (gran_turns.l1 kq x3_1 x3_1 (x3_1.length : Int) x27_2 a0_0 a0_1 l0_2 l0_3 = some r) ∧ Aside0 (kq ≤ k1) ∧ Aside0 (Kd.N (Kd.slice 23 k23) 24 w' w.heap.size (fun k_ => (P0_2_ k_ ∨ w.heap.size ≤ k_) ∧ k_ ≠ gb2141) (.slice Ao10 x3_1.length co10) x3_1) ∧ Aside0 (Kd.N (Kd.slice 23 k23) 24 w' w.heap.size (fun k_ => (P0_2_ k_ ∨ w.heap.size ≤ k_) ∧ k_ ≠ gb2141) (.slice Ao10 x3_1.length co10) x3_1) ∧ Aside0 (Kd.V (Kd.slice 23 k23) 24 w' w.heap.size (fun k_ => (P0_2_ k_ ∨ w.heap.size ≤ k_) ∧ some k_ ≠ ((.slice Ao10 x3_1.length co10) : Value).ownBlock ∧ some k_ ≠ ((.slice Ao10 x3_1.length co10) : Value).ownBlock ∧ k_ ≠ gb2141) (.slice A0_2 l0_2.length c0_2) l0_2) ∧ Aside0 (w'.heap[gb2141]? = some (.cells #[.int .i64 a0_0, .int .i64 a0_1, (.slice A0_2 l0_2.length c0_2), (.slice A0_3 l0_3.length c0_3)] 28 (0, 0))) ∧ Aside0 (Below w.heap.size w w'))
    case atStart => exact ⟨(0), sm, H', ⟨Nat.le_refl _⟩, ⟨by (with_reducible repeat (first | apply Kd.N_alloc | apply Kd.N_drewN | apply Kd.N_drew)); exact HO_3.out⟩, ⟨by (with_reducible repeat (first | apply Kd.N_alloc | apply Kd.N_drewN | apply Kd.N_drew)); exact HO_3.out⟩, ⟨by (with_reducible repeat (first | apply Kd.V_alloc | apply Kd.V_drewN | apply Kd.V_drew)); exact Kd.V_mono HO_2142002.out (fun _ hk => ⟨hk.1, ⟨hk.2.1, ⟨hk.2.1, hk.2.2⟩⟩⟩)⟩, ⟨kp BK2141.out⟩, ⟨bl1 HB.out GE2141.out⟩⟩
    case round =>
     clear H'
     try clear c2
     try clear p2
     try clear q2
     try clear hx2
     try clear c4
     try clear c4b0
     try clear c5
     try clear c5b0
     try clear c6
     try clear c6b0
     try clear p6
     try clear c7
     try clear c7b0
     try clear c7b1
     try clear c8
     try clear hcz3_0
     try clear hcz3_1
     try clear hcz3_2
     try clear hcz3_3
     try clear hfz3_0
     try clear hfz3_1
     try clear hfz3_2
     try clear hfz3_3
     try clear hx2142_0
     try clear p2
     try clear p2142
     try clear q2142
     obtain ⟨x27_2, rfl, HA, HK2, HO_3, HO_25, HO_2142002, BK2141, HB⟩ := hrel
     cases gk with
     | zero => exact absurd HA.out (by simp [gran_turns.l1])
     | succ k2 =>
      have H := HA.out
      clear HA
      simp only [gran_turns.l1] at H
      by_cases c11 : x27_2 < (x3_1.length : Int)
      ·rw [if_pos c11] at H
       have c11b0 : decide (x27_2 < (x3_1.length : Int)) = true := decide_eq_true c11
       clear c11
       by_cases c12 : 0 ≤ x27_2
       ·rw [if_pos c12] at H
        have c12b0 : decide (0 ≤ x27_2) = true := decide_eq_true c12
        clear c12
        by_cases c13 : x27_2 < (x3_1.length : Int)
        ·rw [if_pos c13] at H
         have c13b0 : decide (x27_2 < (x3_1.length : Int)) = true := decide_eq_true c13
         clear c13
         by_cases c14 : (x3_1.length : Int) = 0
         ·rw [if_pos c14] at H
          exact absurd H (by simp)
         ·rw [if_neg c14] at H
          have c14b0 : ((x3_1.length : Int) == 0) = false := beq_eq_false_iff_ne.mpr c14
          have c14b1 : ((x3_1.length : Int) != 0) = true := bne_iff_ne.mpr c14
          have c14b2 : ¬ (x3_1 = []) := fun h_ => c14 (by rw [h_]; rfl)
          obtain ⟨ji15, hji15⟩ : ∃ j_ : Int, (Int.tmod (wrap64 (x27_2 + 1)) (x3_1.length : Int)) = j_ := ⟨_, rfl⟩
          replace H : (if 0 ≤ (ji15) then (if (ji15) < (x3_1.length : Int) then (if (wrap64 (x27_2 + 1)) = (x3_1.length : Int) then (if 0 ≤ (wrap64 (((rd_L2 x3_1 x27_2).length : Int) - 1)) then (if (wrap64 (((rd_L2 x3_1 x27_2).length : Int) - 1)) < ((rd_L2 x3_1 x27_2).length : Int) then (if 0 < ((rd_L2 x3_1 (ji15)).length : Int) then (if ((rd_T23 (rd_L2 x3_1 x27_2) (wrap64 (((rd_L2 x3_1 x27_2).length : Int) - 1))).f1) ≥ (wrap64 (((rd_T23 (rd_L2 x3_1 (ji15)) 0).f0) + a0_0)) then (some false) else (gran_turns.l1 k2 x3_1 x3_1 (x3_1.length : Int) (wrap64 (x27_2 + 1)) a0_0 a0_1 l0_2 l0_3)) else (none)) else (none)) else (none)) else (if 0 ≤ (wrap64 (((rd_L2 x3_1 x27_2).length : Int) - 1)) then (if (wrap64 (((rd_L2 x3_1 x27_2).length : Int) - 1)) < ((rd_L2 x3_1 x27_2).length : Int) then (if 0 < ((rd_L2 x3_1 (ji15)).length : Int) then (if ((rd_T23 (rd_L2 x3_1 x27_2) (wrap64 (((rd_L2 x3_1 x27_2).length : Int) - 1))).f1) ≥ (wrap64 (((rd_T23 (rd_L2 x3_1 (ji15)) 0).f0) + 0)) then (some false) else (gran_turns.l1 k2 x3_1 x3_1 (x3_1.length : Int) (wrap64 (x27_2 + 1)) a0_0 a0_1 l0_2 l0_3)) else (none)) else (none)) else (none))) else (none)) else (none)) = some r := by first | (rw [hji15] at H; exact H) | (simp only [hji15] at H ⊢; exact H)
          by_cases c16 : 0 ≤ (ji15)
          ·rw [if_pos c16] at H
           have c16b0 : decide (0 ≤ (ji15)) = true := decide_eq_true c16
           clear c16
           by_cases c17 : (ji15) < (x3_1.length : Int)
           ·rw [if_pos c17] at H
            have c17b0 : decide ((ji15) < (x3_1.length : Int)) = true := decide_eq_true c17
            clear c17
            by_cases c18 : (wrap64 (x27_2 + 1)) = (x3_1.length : Int)
            ·rw [if_pos c18] at H
             have c18b0 : ((wrap64 (x27_2 + 1)) == (x3_1.length : Int)) = true := beq_iff_eq.mpr c18
             have c18b1 : ((wrap64 (x27_2 + 1)) != (x3_1.length : Int)) = false := bne_eq_false_iff_eq.mpr c18
             clear c18
             obtain ⟨ji19, hji19⟩ : ∃ j_ : Int, (wrap64 (((rd_L2 x3_1 x27_2).length : Int) - 1)) = j_ := ⟨_, rfl⟩
             replace H : (if 0 ≤ (ji19) then (if (ji19) < ((rd_L2 x3_1 x27_2).length : Int) then (if 0 < ((rd_L2 x3_1 (ji15)).length : Int) then (if ((rd_T23 (rd_L2 x3_1 x27_2) (ji19)).f1) ≥ (wrap64 (((rd_T23 (rd_L2 x3_1 (ji15)) 0).f0) + a0_0)) then (some false) else (gran_turns.l1 k2 x3_1 x3_1 (x3_1.length : Int) (wrap64 (x27_2 + 1)) a0_0 a0_1 l0_2 l0_3)) else (none)) else (none)) else (none)) = some r := by first | (rw [hji19] at H; exact H) | (simp only [hji19] at H ⊢; exact H)
             have hji19w : (IntKind.i64.wrap (((rd_L2 x3_1 x27_2).length : Int) - 1)) = ji19 := (i64_w _).trans hji19
             by_cases c20 : 0 ≤ (ji19)
             ·rw [if_pos c20] at H
              have c20b0 : decide (0 ≤ (ji19)) = true := decide_eq_true c20
              clear c20
              by_cases c21 : (ji19) < ((rd_L2 x3_1 x27_2).length : Int)
              ·rw [if_pos c21] at H
               have c21b0 : decide ((ji19) < ((rd_L2 x3_1 x27_2).length : Int)) = true := decide_eq_true c21
               clear c21
               by_cases c22 : 0 < ((rd_L2 x3_1 (ji15)).length : Int)
               ·rw [if_pos c22] at H
                have c22b0 : decide (0 < ((rd_L2 x3_1 (ji15)).length : Int)) = true := decide_eq_true c22
                have c22b1 : decide (0 < (rd_L2 x3_1 (ji15)).length) = true := decide_eq_true (by omega)
                clear c22
                by_cases c23 : ((rd_T23 (rd_L2 x3_1 x27_2) (ji19)).f1) ≥ (wrap64 (((rd_T23 (rd_L2 x3_1 (ji15)) 0).f0) + a0_0))
                ·rw [if_pos c23] at H
                 have c23b0 : decide ((wrap64 (((rd_T23 (rd_L2 x3_1 (ji15)) 0).f0) + a0_0)) ≤ ((rd_T23 (rd_L2 x3_1 x27_2) (ji19)).f1)) = true := decide_eq_true c23
                 clear c23
                 obtain rfl := Option.some.inj H
                 have p2146 : 0 ≤ (x27_2 : Int) := of_decide_eq_true asm
                 have q2146 : x27_2 < (x3_1.length : Int) := of_decide_eq_true asm
                 obtain ⟨ad2146, A2146_0, c2146_0, e2146, hx2146_0, hl2146_0, hi2146_0⟩ := at_L2 (Kd.N_reads' HO_25.out).2.2 x27_2 p2146 q2146
                 cases e2146
                 obtain ⟨ce2146, hce2146, hMe2146, hcc2146⟩ := Kd.N_get HO_25.out [] x27_2 p2146 (by first | exact q2146 | exact of_decide_eq_true asm | (have e_ := (Kd.N_reads' HO_25.out).1; omega))
                 obtain ⟨ua2146_0, uc2146_0, rfl, ul2146_0, ge2146_0⟩ := Kd.FK_slice_open hMe2146
                 have hv2146_0 := hcc2146 0 _ rfl
                 rw [Nat.add_zero, show ((Kd.slice 23 k23)).sz = 1 from rfl, Nat.mul_one] at hv2146_0
                 replace hv2146_0 := Option.some.inj (hv2146_0.symm.trans hx2146_0)
                 injection hv2146_0 with hva_ hvn_ hvc_
                 rw [hva_] at ge2146_0
                 rw [hvc_] at ul2146_0
                 have HL2146_0 := am (show Kd.V k23 23 _ w.heap.size _ _ (rd_L2 x3_1 x27_2) from Kd.V_mk ul2146_0 ge2146_0)
                 clear hva_ hvn_ hvc_ ge2146_0 ul2146_0
                 clear hcc2146 hce2146
                 have HR2146_0 := am hi2146_0
                 have HC2146_0 := am hl2146_0
                 clear hi2146_0 hl2146_0
                 replace p2146 := eq_true p2146
                 replace q2146 := eq_true q2146
                 have p2147 : 0 ≤ ((ji15) : Int) := of_decide_eq_true asm
                 have q2147 : (ji15) < (x3_1.length : Int) := of_decide_eq_true asm
                 obtain ⟨ad2147, A2147_0, c2147_0, e2147, hx2147_0, hl2147_0, hi2147_0⟩ := at_L2 (Kd.N_reads' HO_3.out).2.2 (ji15) p2147 q2147
                 obtain rfl : ad2146 = ad2147 := (by injection e2147)
                 obtain ⟨ce2147, hce2147, hMe2147, hcc2147⟩ := Kd.N_get HO_3.out [] (ji15) p2147 (by first | exact q2147 | exact of_decide_eq_true asm | (have e_ := (Kd.N_reads' HO_3.out).1; omega))
                 obtain ⟨ua2147_0, uc2147_0, rfl, ul2147_0, ge2147_0⟩ := Kd.FK_slice_open hMe2147
                 have hv2147_0 := hcc2147 0 _ rfl
                 rw [Nat.add_zero, show ((Kd.slice 23 k23)).sz = 1 from rfl, Nat.mul_one] at hv2147_0
                 replace hv2147_0 := Option.some.inj (hv2147_0.symm.trans hx2147_0)
                 injection hv2147_0 with hva_ hvn_ hvc_
                 rw [hva_] at ge2147_0
                 rw [hvc_] at ul2147_0
                 have HL2147_0 := am (show Kd.V k23 23 _ w.heap.size _ _ (rd_L2 x3_1 (ji15)) from Kd.V_mk ul2147_0 ge2147_0)
                 clear hva_ hvn_ hvc_ ge2147_0 ul2147_0
                 clear hcc2147 hce2147
                 have HR2147_0 := am hi2147_0
                 have HC2147_0 := am hl2147_0
                 clear hi2147_0 hl2147_0
                 replace p2147 := eq_true p2147
                 replace q2147 := eq_true q2147
                 have hcz24_0 : wr.cell? ⟨gb2141, 0, none⟩ = some (.int .i64 a0_0) := bc BK2141.out 0
                 have hcz24_1 : wr.cell? ⟨gb2141, 1, none⟩ = some (.int .i64 a0_1) := bc BK2141.out 1
                 have hcz24_2 : wr.cell? ⟨gb2141, 2, none⟩ = some (.slice A0_2 l0_2.length c0_2) := bc BK2141.out 2
                 have hcz24_3 : wr.cell? ⟨gb2141, 3, none⟩ = some (.slice A0_3 l0_3.length c0_3) := bc BK2141.out 3
                 have hfz24_0 := blk_frozen BK2141.out 0
                 have hfz24_1 := blk_frozen BK2141.out 1
                 have hfz24_2 := blk_frozen BK2141.out 2
                 have hfz24_3 := blk_frozen BK2141.out 3
                 have p2148 : 0 ≤ ((ji19) : Int) := of_decide_eq_true asm
                 have q2148 : (ji19) < ((rd_L2 x3_1 x27_2).length : Int) := of_decide_eq_true asm
                 obtain ⟨ad2148, e2148, hx2148_0, hx2148_1⟩ := at_T23 (by repeat (first | (with_reducible exact HR2146_0.out) | (with_reducible refine Kd.C_alloc ?_ _) | (with_reducible refine Kd.C_drewN ?_ _) | (with_reducible refine Kd.C_drew ?_) | exact HR2146_0.out)) (ji19) p2148 q2148
                 cases e2148
                 replace p2148 := eq_true p2148
                 replace q2148 := eq_true q2148
                 have p2149 : 0 ≤ (0 : Int) := (by omega)
                 have q2149 : 0 < ((rd_L2 x3_1 (ji15)).length : Int) := of_decide_eq_true asm
                 obtain ⟨ad2149, e2149, hx2149_0, hx2149_1⟩ := at_T23 (by repeat (first | (with_reducible exact HR2147_0.out) | (with_reducible refine Kd.C_alloc ?_ _) | (with_reducible refine Kd.C_drewN ?_ _) | (with_reducible refine Kd.C_drew ?_) | exact HR2147_0.out)) 0 p2149 q2149
                 cases e2149
                 have qi2149 : (0 < (rd_L2 x3_1 (ji15)).length) = True := eq_true (by omega)
                 (try rw [show ((0 : Int)).toNat = 0 from rfl] at hx2149_0)
                 (try rw [show 0 * 2 = 0 from rfl] at hx2149_0)
                 (try rw [Addr.add_zero'] at hx2149_0)
                 (try rw [show ((0 : Int)).toNat = 0 from rfl] at hx2149_1)
                 (try rw [show 0 * 2 = 0 from rfl] at hx2149_1)
                 (try rw [Addr.add_zero'] at hx2149_1)
                 replace p2149 := eq_true p2149
                 replace q2149 := eq_true q2149
                 go_wp2
                 repeat (go_quiet (fail); try go_wp2)
                 go_ret
                 exact ⟨by first | rfl | (simp [errW_none, errW_some] <;> rfl) | (simp only [← hji15, ← hji19]; first | rfl | (simp [errW_none, errW_some] <;> rfl)) | (simp [*, errW_none, errW_some] <;> rfl), bl1 HB.out GE2141.out⟩
                ·rw [if_neg c23] at H
                 have c23b0 : decide ((wrap64 (((rd_T23 (rd_L2 x3_1 (ji15)) 0).f0) + a0_0)) ≤ ((rd_T23 (rd_L2 x3_1 x27_2) (ji19)).f1)) = false := decide_eq_false c23
                 clear c23
                 have H' := am H
                 clear H
                 have p2146 : 0 ≤ (x27_2 : Int) := of_decide_eq_true asm
                 have q2146 : x27_2 < (x3_1.length : Int) := of_decide_eq_true asm
                 obtain ⟨ad2146, A2146_0, c2146_0, e2146, hx2146_0, hl2146_0, hi2146_0⟩ := at_L2 (Kd.N_reads' HO_25.out).2.2 x27_2 p2146 q2146
                 cases e2146
                 obtain ⟨ce2146, hce2146, hMe2146, hcc2146⟩ := Kd.N_get HO_25.out [] x27_2 p2146 (by first | exact q2146 | exact of_decide_eq_true asm | (have e_ := (Kd.N_reads' HO_25.out).1; omega))
                 obtain ⟨ua2146_0, uc2146_0, rfl, ul2146_0, ge2146_0⟩ := Kd.FK_slice_open hMe2146
                 have hv2146_0 := hcc2146 0 _ rfl
                 rw [Nat.add_zero, show ((Kd.slice 23 k23)).sz = 1 from rfl, Nat.mul_one] at hv2146_0
                 replace hv2146_0 := Option.some.inj (hv2146_0.symm.trans hx2146_0)
                 injection hv2146_0 with hva_ hvn_ hvc_
                 rw [hva_] at ge2146_0
                 rw [hvc_] at ul2146_0
                 have HL2146_0 := am (show Kd.V k23 23 _ w.heap.size _ _ (rd_L2 x3_1 x27_2) from Kd.V_mk ul2146_0 ge2146_0)
                 clear hva_ hvn_ hvc_ ge2146_0 ul2146_0
                 clear hcc2146 hce2146
                 have HR2146_0 := am hi2146_0
                 have HC2146_0 := am hl2146_0
                 clear hi2146_0 hl2146_0
                 replace p2146 := eq_true p2146
                 replace q2146 := eq_true q2146
                 have p2147 : 0 ≤ ((ji15) : Int) := of_decide_eq_true asm
                 have q2147 : (ji15) < (x3_1.length : Int) := of_decide_eq_true asm
                 obtain ⟨ad2147, A2147_0, c2147_0, e2147, hx2147_0, hl2147_0, hi2147_0⟩ := at_L2 (Kd.N_reads' HO_3.out).2.2 (ji15) p2147 q2147
                 obtain rfl : ad2146 = ad2147 := (by injection e2147)
                 obtain ⟨ce2147, hce2147, hMe2147, hcc2147⟩ := Kd.N_get HO_3.out [] (ji15) p2147 (by first | exact q2147 | exact of_decide_eq_true asm | (have e_ := (Kd.N_reads' HO_3.out).1; omega))
                 obtain ⟨ua2147_0, uc2147_0, rfl, ul2147_0, ge2147_0⟩ := Kd.FK_slice_open hMe2147
                 have hv2147_0 := hcc2147 0 _ rfl
                 rw [Nat.add_zero, show ((Kd.slice 23 k23)).sz = 1 from rfl, Nat.mul_one] at hv2147_0
                 replace hv2147_0 := Option.some.inj (hv2147_0.symm.trans hx2147_0)
                 injection hv2147_0 with hva_ hvn_ hvc_
                 rw [hva_] at ge2147_0
                 rw [hvc_] at ul2147_0
                 have HL2147_0 := am (show Kd.V k23 23 _ w.heap.size _ _ (rd_L2 x3_1 (ji15)) from Kd.V_mk ul2147_0 ge2147_0)
                 clear hva_ hvn_ hvc_ ge2147_0 ul2147_0
                 clear hcc2147 hce2147
                 have HR2147_0 := am hi2147_0
                 have HC2147_0 := am hl2147_0
                 clear hi2147_0 hl2147_0
                 replace p2147 := eq_true p2147
                 replace q2147 := eq_true q2147
                 have hcz25_0 : wr.cell? ⟨gb2141, 0, none⟩ = some (.int .i64 a0_0) := bc BK2141.out 0
                 have hcz25_1 : wr.cell? ⟨gb2141, 1, none⟩ = some (.int .i64 a0_1) := bc BK2141.out 1
                 have hcz25_2 : wr.cell? ⟨gb2141, 2, none⟩ = some (.slice A0_2 l0_2.length c0_2) := bc BK2141.out 2
                 have hcz25_3 : wr.cell? ⟨gb2141, 3, none⟩ = some (.slice A0_3 l0_3.length c0_3) := bc BK2141.out 3
                 have hfz25_0 := blk_frozen BK2141.out 0
                 have hfz25_1 := blk_frozen BK2141.out 1
                 have hfz25_2 := blk_frozen BK2141.out 2
                 have hfz25_3 := blk_frozen BK2141.out 3
                 have p2148 : 0 ≤ ((ji19) : Int) := of_decide_eq_true asm
                 have q2148 : (ji19) < ((rd_L2 x3_1 x27_2).length : Int) := of_decide_eq_true asm
                 obtain ⟨ad2148, e2148, hx2148_0, hx2148_1⟩ := at_T23 (by repeat (first | (with_reducible exact HR2146_0.out) | (with_reducible refine Kd.C_alloc ?_ _) | (with_reducible refine Kd.C_drewN ?_ _) | (with_reducible refine Kd.C_drew ?_) | exact HR2146_0.out)) (ji19) p2148 q2148
                 cases e2148
                 replace p2148 := eq_true p2148
                 replace q2148 := eq_true q2148
                 have p2149 : 0 ≤ (0 : Int) := (by omega)
                 have q2149 : 0 < ((rd_L2 x3_1 (ji15)).length : Int) := of_decide_eq_true asm
                 obtain ⟨ad2149, e2149, hx2149_0, hx2149_1⟩ := at_T23 (by repeat (first | (with_reducible exact HR2147_0.out) | (with_reducible refine Kd.C_alloc ?_ _) | (with_reducible refine Kd.C_drewN ?_ _) | (with_reducible refine Kd.C_drew ?_) | exact HR2147_0.out)) 0 p2149 q2149
                 cases e2149
                 have qi2149 : (0 < (rd_L2 x3_1 (ji15)).length) = True := eq_true (by omega)
                 (try rw [show ((0 : Int)).toNat = 0 from rfl] at hx2149_0)
                 (try rw [show 0 * 2 = 0 from rfl] at hx2149_0)
                 (try rw [Addr.add_zero'] at hx2149_0)
                 (try rw [show ((0 : Int)).toNat = 0 from rfl] at hx2149_1)
                 (try rw [show 0 * 2 = 0 from rfl] at hx2149_1)
                 (try rw [Addr.add_zero'] at hx2149_1)
                 replace p2149 := eq_true p2149
                 replace q2149 := eq_true q2149
                 go_wp2
                 repeat (go_quiet (fail); try go_wp2)
                 go_roundg k2
                 case measure => have := HK1.out; have := HK2.out; omega
                 case rel => exact ⟨(wrap64 (x27_2 + 1)), sm, H', ⟨by have := HK1.out; have := HK2.out; omega⟩, ⟨by (with_reducible repeat (first | apply Kd.N_alloc | apply Kd.N_drewN | apply Kd.N_drew)); exact HO_3.out⟩, ⟨by (with_reducible repeat (first | apply Kd.N_alloc | apply Kd.N_drewN | apply Kd.N_drew)); exact HO_25.out⟩, ⟨by (with_reducible repeat (first | apply Kd.V_alloc | apply Kd.V_drewN | apply Kd.V_drew)); exact HO_2142002.out⟩, ⟨kp BK2141.out⟩, ⟨bl1 HB.out GE2141.out⟩⟩
               ·rw [if_neg c22] at H
                exact absurd H (by simp)
              ·rw [if_neg c21] at H
               exact absurd H (by simp)
             ·rw [if_neg c20] at H
              exact absurd H (by simp)
            ·rw [if_neg c18] at H
             have c18b0 : ((wrap64 (x27_2 + 1)) == (x3_1.length : Int)) = false := beq_eq_false_iff_ne.mpr c18
             have c18b1 : ((wrap64 (x27_2 + 1)) != (x3_1.length : Int)) = true := bne_iff_ne.mpr c18
             obtain ⟨ji26, hji26⟩ : ∃ j_ : Int, (wrap64 (((rd_L2 x3_1 x27_2).length : Int) - 1)) = j_ := ⟨_, rfl⟩
             replace H : (if 0 ≤ (ji26) then (if (ji26) < ((rd_L2 x3_1 x27_2).length : Int) then (if 0 < ((rd_L2 x3_1 (ji15)).length : Int) then (if ((rd_T23 (rd_L2 x3_1 x27_2) (ji26)).f1) ≥ (wrap64 (((rd_T23 (rd_L2 x3_1 (ji15)) 0).f0) + 0)) then (some false) else (gran_turns.l1 k2 x3_1 x3_1 (x3_1.length : Int) (wrap64 (x27_2 + 1)) a0_0 a0_1 l0_2 l0_3)) else (none)) else (none)) else (none)) = some r := by first | (rw [hji26] at H; exact H) | (simp only [hji26] at H ⊢; exact H)
             have hji26w : (IntKind.i64.wrap (((rd_L2 x3_1 x27_2).length : Int) - 1)) = ji26 := (i64_w _).trans hji26
             by_cases c27 : 0 ≤ (ji26)
             ·rw [if_pos c27] at H
              have c27b0 : decide (0 ≤ (ji26)) = true := decide_eq_true c27
              clear c27
              by_cases c28 : (ji26) < ((rd_L2 x3_1 x27_2).length : Int)
              ·rw [if_pos c28] at H
               have c28b0 : decide ((ji26) < ((rd_L2 x3_1 x27_2).length : Int)) = true := decide_eq_true c28
               clear c28
               by_cases c29 : 0 < ((rd_L2 x3_1 (ji15)).length : Int)
               ·rw [if_pos c29] at H
                have c29b0 : decide (0 < ((rd_L2 x3_1 (ji15)).length : Int)) = true := decide_eq_true c29
                have c29b1 : decide (0 < (rd_L2 x3_1 (ji15)).length) = true := decide_eq_true (by omega)
                clear c29
                by_cases c30 : ((rd_T23 (rd_L2 x3_1 x27_2) (ji26)).f1) ≥ (wrap64 (((rd_T23 (rd_L2 x3_1 (ji15)) 0).f0) + 0))
                ·rw [if_pos c30] at H
                 have c30b0 : decide ((wrap64 (((rd_T23 (rd_L2 x3_1 (ji15)) 0).f0) + 0)) ≤ ((rd_T23 (rd_L2 x3_1 x27_2) (ji26)).f1)) = true := decide_eq_true c30
                 (try simp only [Int.add_zero] at c30b0)
                 clear c30
                 obtain rfl := Option.some.inj H
                 have p2146 : 0 ≤ (x27_2 : Int) := of_decide_eq_true asm
                 have q2146 : x27_2 < (x3_1.length : Int) := of_decide_eq_true asm
                 obtain ⟨ad2146, A2146_0, c2146_0, e2146, hx2146_0, hl2146_0, hi2146_0⟩ := at_L2 (Kd.N_reads' HO_25.out).2.2 x27_2 p2146 q2146
                 cases e2146
                 obtain ⟨ce2146, hce2146, hMe2146, hcc2146⟩ := Kd.N_get HO_25.out [] x27_2 p2146 (by first | exact q2146 | exact of_decide_eq_true asm | (have e_ := (Kd.N_reads' HO_25.out).1; omega))
                 obtain ⟨ua2146_0, uc2146_0, rfl, ul2146_0, ge2146_0⟩ := Kd.FK_slice_open hMe2146
                 have hv2146_0 := hcc2146 0 _ rfl
                 rw [Nat.add_zero, show ((Kd.slice 23 k23)).sz = 1 from rfl, Nat.mul_one] at hv2146_0
                 replace hv2146_0 := Option.some.inj (hv2146_0.symm.trans hx2146_0)
                 injection hv2146_0 with hva_ hvn_ hvc_
                 rw [hva_] at ge2146_0
                 rw [hvc_] at ul2146_0
                 have HL2146_0 := am (show Kd.V k23 23 _ w.heap.size _ _ (rd_L2 x3_1 x27_2) from Kd.V_mk ul2146_0 ge2146_0)
                 clear hva_ hvn_ hvc_ ge2146_0 ul2146_0
                 clear hcc2146 hce2146
                 have HR2146_0 := am hi2146_0
                 have HC2146_0 := am hl2146_0
                 clear hi2146_0 hl2146_0
                 replace p2146 := eq_true p2146
                 replace q2146 := eq_true q2146
                 have p2147 : 0 ≤ ((ji15) : Int) := of_decide_eq_true asm
                 have q2147 : (ji15) < (x3_1.length : Int) := of_decide_eq_true asm
                 obtain ⟨ad2147, A2147_0, c2147_0, e2147, hx2147_0, hl2147_0, hi2147_0⟩ := at_L2 (Kd.N_reads' HO_3.out).2.2 (ji15) p2147 q2147
                 obtain rfl : ad2146 = ad2147 := (by injection e2147)
                 obtain ⟨ce2147, hce2147, hMe2147, hcc2147⟩ := Kd.N_get HO_3.out [] (ji15) p2147 (by first | exact q2147 | exact of_decide_eq_true asm | (have e_ := (Kd.N_reads' HO_3.out).1; omega))
                 obtain ⟨ua2147_0, uc2147_0, rfl, ul2147_0, ge2147_0⟩ := Kd.FK_slice_open hMe2147
                 have hv2147_0 := hcc2147 0 _ rfl
                 rw [Nat.add_zero, show ((Kd.slice 23 k23)).sz = 1 from rfl, Nat.mul_one] at hv2147_0
                 replace hv2147_0 := Option.some.inj (hv2147_0.symm.trans hx2147_0)
                 injection hv2147_0 with hva_ hvn_ hvc_
                 rw [hva_] at ge2147_0
                 rw [hvc_] at ul2147_0
                 have HL2147_0 := am (show Kd.V k23 23 _ w.heap.size _ _ (rd_L2 x3_1 (ji15)) from Kd.V_mk ul2147_0 ge2147_0)
                 clear hva_ hvn_ hvc_ ge2147_0 ul2147_0
                 clear hcc2147 hce2147
                 have HR2147_0 := am hi2147_0
                 have HC2147_0 := am hl2147_0
                 clear hi2147_0 hl2147_0
                 replace p2147 := eq_true p2147
                 replace q2147 := eq_true q2147
                 have p2150 : 0 ≤ ((ji26) : Int) := of_decide_eq_true asm
                 have q2150 : (ji26) < ((rd_L2 x3_1 x27_2).length : Int) := of_decide_eq_true asm
                 obtain ⟨ad2150, e2150, hx2150_0, hx2150_1⟩ := at_T23 (by repeat (first | (with_reducible exact HR2146_0.out) | (with_reducible refine Kd.C_alloc ?_ _) | (with_reducible refine Kd.C_drewN ?_ _) | (with_reducible refine Kd.C_drew ?_) | exact HR2146_0.out)) (ji26) p2150 q2150
                 cases e2150
                 replace p2150 := eq_true p2150
                 replace q2150 := eq_true q2150
                 have p2151 : 0 ≤ (0 : Int) := (by omega)
                 have q2151 : 0 < ((rd_L2 x3_1 (ji15)).length : Int) := of_decide_eq_true asm
                 obtain ⟨ad2151, e2151, hx2151_0, hx2151_1⟩ := at_T23 (by repeat (first | (with_reducible exact HR2147_0.out) | (with_reducible refine Kd.C_alloc ?_ _) | (with_reducible refine Kd.C_drewN ?_ _) | (with_reducible refine Kd.C_drew ?_) | exact HR2147_0.out)) 0 p2151 q2151
                 cases e2151
                 have qi2151 : (0 < (rd_L2 x3_1 (ji15)).length) = True := eq_true (by omega)
                 (try rw [show ((0 : Int)).toNat = 0 from rfl] at hx2151_0)
                 (try rw [show 0 * 2 = 0 from rfl] at hx2151_0)
                 (try rw [Addr.add_zero'] at hx2151_0)
                 (try rw [show ((0 : Int)).toNat = 0 from rfl] at hx2151_1)
                 (try rw [show 0 * 2 = 0 from rfl] at hx2151_1)
                 (try rw [Addr.add_zero'] at hx2151_1)
                 replace p2151 := eq_true p2151
                 replace q2151 := eq_true q2151
                 go_wp2
                 repeat (go_quiet (fail); try go_wp2)
                 go_ret
                 exact ⟨by first | rfl | (simp [errW_none, errW_some] <;> rfl) | (simp only [← hji15, ← hji26]; first | rfl | (simp [errW_none, errW_some] <;> rfl)) | (simp [*, errW_none, errW_some] <;> rfl), bl1 HB.out GE2141.out⟩
                ·rw [if_neg c30] at H
                 have c30b0 : decide ((wrap64 (((rd_T23 (rd_L2 x3_1 (ji15)) 0).f0) + 0)) ≤ ((rd_T23 (rd_L2 x3_1 x27_2) (ji26)).f1)) = false := decide_eq_false c30
                 (try simp only [Int.add_zero] at c30b0)
                 clear c30
                 have H' := am H
                 clear H
                 have p2146 : 0 ≤ (x27_2 : Int) := of_decide_eq_true asm
                 have q2146 : x27_2 < (x3_1.length : Int) := of_decide_eq_true asm
                 obtain ⟨ad2146, A2146_0, c2146_0, e2146, hx2146_0, hl2146_0, hi2146_0⟩ := at_L2 (Kd.N_reads' HO_25.out).2.2 x27_2 p2146 q2146
                 cases e2146
                 obtain ⟨ce2146, hce2146, hMe2146, hcc2146⟩ := Kd.N_get HO_25.out [] x27_2 p2146 (by first | exact q2146 | exact of_decide_eq_true asm | (have e_ := (Kd.N_reads' HO_25.out).1; omega))
                 obtain ⟨ua2146_0, uc2146_0, rfl, ul2146_0, ge2146_0⟩ := Kd.FK_slice_open hMe2146
                 have hv2146_0 := hcc2146 0 _ rfl
                 rw [Nat.add_zero, show ((Kd.slice 23 k23)).sz = 1 from rfl, Nat.mul_one] at hv2146_0
                 replace hv2146_0 := Option.some.inj (hv2146_0.symm.trans hx2146_0)
                 injection hv2146_0 with hva_ hvn_ hvc_
                 rw [hva_] at ge2146_0
                 rw [hvc_] at ul2146_0
                 have HL2146_0 := am (show Kd.V k23 23 _ w.heap.size _ _ (rd_L2 x3_1 x27_2) from Kd.V_mk ul2146_0 ge2146_0)
                 clear hva_ hvn_ hvc_ ge2146_0 ul2146_0
                 clear hcc2146 hce2146
                 have HR2146_0 := am hi2146_0
                 have HC2146_0 := am hl2146_0
                 clear hi2146_0 hl2146_0
                 replace p2146 := eq_true p2146
                 replace q2146 := eq_true q2146
                 have p2147 : 0 ≤ ((ji15) : Int) := of_decide_eq_true asm
                 have q2147 : (ji15) < (x3_1.length : Int) := of_decide_eq_true asm
                 obtain ⟨ad2147, A2147_0, c2147_0, e2147, hx2147_0, hl2147_0, hi2147_0⟩ := at_L2 (Kd.N_reads' HO_3.out).2.2 (ji15) p2147 q2147
                 obtain rfl : ad2146 = ad2147 := (by injection e2147)
                 obtain ⟨ce2147, hce2147, hMe2147, hcc2147⟩ := Kd.N_get HO_3.out [] (ji15) p2147 (by first | exact q2147 | exact of_decide_eq_true asm | (have e_ := (Kd.N_reads' HO_3.out).1; omega))
                 obtain ⟨ua2147_0, uc2147_0, rfl, ul2147_0, ge2147_0⟩ := Kd.FK_slice_open hMe2147
                 have hv2147_0 := hcc2147 0 _ rfl
                 rw [Nat.add_zero, show ((Kd.slice 23 k23)).sz = 1 from rfl, Nat.mul_one] at hv2147_0
                 replace hv2147_0 := Option.some.inj (hv2147_0.symm.trans hx2147_0)
                 injection hv2147_0 with hva_ hvn_ hvc_
                 rw [hva_] at ge2147_0
                 rw [hvc_] at ul2147_0
                 have HL2147_0 := am (show Kd.V k23 23 _ w.heap.size _ _ (rd_L2 x3_1 (ji15)) from Kd.V_mk ul2147_0 ge2147_0)
                 clear hva_ hvn_ hvc_ ge2147_0 ul2147_0
                 clear hcc2147 hce2147
                 have HR2147_0 := am hi2147_0
                 have HC2147_0 := am hl2147_0
                 clear hi2147_0 hl2147_0
                 replace p2147 := eq_true p2147
                 replace q2147 := eq_true q2147
                 have p2150 : 0 ≤ ((ji26) : Int) := of_decide_eq_true asm
                 have q2150 : (ji26) < ((rd_L2 x3_1 x27_2).length : Int) := of_decide_eq_true asm
                 obtain ⟨ad2150, e2150, hx2150_0, hx2150_1⟩ := at_T23 (by repeat (first | (with_reducible exact HR2146_0.out) | (with_reducible refine Kd.C_alloc ?_ _) | (with_reducible refine Kd.C_drewN ?_ _) | (with_reducible refine Kd.C_drew ?_) | exact HR2146_0.out)) (ji26) p2150 q2150
                 cases e2150
                 replace p2150 := eq_true p2150
                 replace q2150 := eq_true q2150
                 have p2151 : 0 ≤ (0 : Int) := (by omega)
                 have q2151 : 0 < ((rd_L2 x3_1 (ji15)).length : Int) := of_decide_eq_true asm
                 obtain ⟨ad2151, e2151, hx2151_0, hx2151_1⟩ := at_T23 (by repeat (first | (with_reducible exact HR2147_0.out) | (with_reducible refine Kd.C_alloc ?_ _) | (with_reducible refine Kd.C_drewN ?_ _) | (with_reducible refine Kd.C_drew ?_) | exact HR2147_0.out)) 0 p2151 q2151
                 cases e2151
                 have qi2151 : (0 < (rd_L2 x3_1 (ji15)).length) = True := eq_true (by omega)
                 (try rw [show ((0 : Int)).toNat = 0 from rfl] at hx2151_0)
                 (try rw [show 0 * 2 = 0 from rfl] at hx2151_0)
                 (try rw [Addr.add_zero'] at hx2151_0)
                 (try rw [show ((0 : Int)).toNat = 0 from rfl] at hx2151_1)
                 (try rw [show 0 * 2 = 0 from rfl] at hx2151_1)
                 (try rw [Addr.add_zero'] at hx2151_1)
                 replace p2151 := eq_true p2151
                 replace q2151 := eq_true q2151
                 go_wp2
                 repeat (go_quiet (fail); try go_wp2)
                 go_roundg k2
                 case measure => have := HK1.out; have := HK2.out; omega
                 case rel => exact ⟨(wrap64 (x27_2 + 1)), sm, H', ⟨by have := HK1.out; have := HK2.out; omega⟩, ⟨by (with_reducible repeat (first | apply Kd.N_alloc | apply Kd.N_drewN | apply Kd.N_drew)); exact HO_3.out⟩, ⟨by (with_reducible repeat (first | apply Kd.N_alloc | apply Kd.N_drewN | apply Kd.N_drew)); exact HO_25.out⟩, ⟨by (with_reducible repeat (first | apply Kd.V_alloc | apply Kd.V_drewN | apply Kd.V_drew)); exact HO_2142002.out⟩, ⟨kp BK2141.out⟩, ⟨bl1 HB.out GE2141.out⟩⟩
               ·rw [if_neg c29] at H
                exact absurd H (by simp)
              ·rw [if_neg c28] at H
               exact absurd H (by simp)
             ·rw [if_neg c27] at H
              exact absurd H (by simp)
           ·rw [if_neg c17] at H
            exact absurd H (by simp)
          ·rw [if_neg c16] at H
           exact absurd H (by simp)
        ·rw [if_neg c13] at H
         exact absurd H (by simp)
       ·rw [if_neg c12] at H
        exact absurd H (by simp)
      ·rw [if_neg c11] at H
       have c11b0 : decide (x27_2 < (x3_1.length : Int)) = false := decide_eq_false c11
       clear c11
       obtain rfl := Option.some.inj H
       go_wp2
       repeat (go_quiet (fail); try go_wp2)
       go_ret
       exact ⟨rt, bl1 HB.out GE2141.out⟩

end Go.Proofs.Ytmbmalkpmanaaaa.P

namespace Go.Proofs.Ytmbmalkpmanaaaa.P
open Go.RowKit Go.Proofs.YtmbmalkpmanaaaaW.PrintWords Go.Proofs.YtmbmalkpmanaaaaW.PrintLast Go.Proofs.YtmbmalkpmanaaaaW.PrintMore
attribute [local go_sem] max2_int min2_int max_two min_two max_three min_three max_four min_four   -- for this text's walks alone
set_option linter.unusedVariables false
set_option linter.unusedSimpArgs false

mutual
def gran_Right.j0 : Nat → Bool → Int → Int → List (List (S23)) → List (S70) → Option (Int)
 | 0, _, _, _, _, _ => none
 | k + 1, x19, x2176000, x2176001, x2176002, x2176003 => if x19 = true then (some 3) else ((gran_shape.f k x2176000 x2176001 x2176002 x2176003).bind fun t2177 => (if t2177 = true then ((gran_turns.f k x2176000 x2176001 x2176002 x2176003).bind fun t2178 => (gran_Right.j1 k (!t2178) x2176000 x2176001 x2176002 x2176003)) else (gran_Right.j1 k true x2176000 x2176001 x2176002 x2176003)))
def gran_Right.j1 : Nat → Bool → Int → Int → List (List (S23)) → List (S70) → Option (Int)
 | 0, _, _, _, _, _ => none
 | k + 1, x27, x2176000, x2176001, x2176002, x2176003 => if x27 = true then (some 50) else (gran_Right.l0 k x2176003 (x2176003.length : Int) 0 x2176000 x2176001 x2176002 x2176003)
def gran_Right.l0 : Nat → List (S70) → Int → Int → Int → Int → List (List (S23)) → List (S70) → Option (Int)
 | 0, _, _, _, _, _, _, _ => none
 | k + 1, x29, x30, x31, x2176000, x2176001, x2176002, x2176003 => if x31 < x30 then (if 0 ≤ x31 then (if x31 < (x29.length : Int) then ((gran_beside.f k x2176000 x2176001 x2176002 x2176003 ((rd_T70 x29 x31).f0)).bind fun t2181 => (if t2181 = true then (gran_Right.l0 k x29 x30 (wrap64 (x31 + 1)) x2176000 x2176001 x2176002 x2176003) else (some 50))) else (none)) else (none)) else (some 0)
end
def gran_Right.f (k : Nat) (a0_0 : Int) (a0_1 : Int) (l0_2 : List (List (S23))) (l0_3 : List (S70)) : Option (Int) := if (l0_2.length : Int) > 6000 then (gran_Right.j0 k true a0_0 a0_1 l0_2 l0_3) else (if (l0_3.length : Int) > 6000 then (gran_Right.j0 k true a0_0 a0_1 l0_2 l0_3) else ((gran_Size.f k a0_0 a0_1 l0_2 l0_3).bind fun t2176 => (gran_Right.j0 k (decide (t2176 > 60000)) a0_0 a0_1 l0_2 l0_3)))
set_option maxHeartbeats 8000000 in
set_option maxRecDepth 100000 in
theorem gran_Right.calls (k : Nat) (a0_0 : Int) (a0_1 : Int) (A0_2 : Option Addr) (c0_2 : Nat) (l0_2 : List (List (S23))) (A0_3 : Option Addr) (c0_3 : Nat) (l0_3 : List (S70)) (r : Int) (w : World) (hr0_2 : Kd.C (Kd.slice 23 k23) w A0_2 l0_2.length l0_2) (hc0_2 : l0_2.length ≤ c0_2) (hr0_3 : Kd.C k70 w A0_3 l0_3.length l0_3) (hc0_3 : l0_3.length ≤ c0_3) (h : gran_Right.f k a0_0 a0_1 l0_2 l0_3 = some r) :
 Calls Try.prog 54 #[.agg #[.int .i64 a0_0, .int .i64 a0_1, .slice A0_2 l0_2.length c0_2, .slice A0_3 l0_3.length c0_3]] w fun e w' => e = .returned (.int .i64 r) ∧ Below w.heap.size w w' := by
 have hu28 := Try.underlying28
 have hu70 := Try.underlying70
 have HR0_2 := am hr0_2
 have HC0_2 := am hc0_2
 clear hr0_2 hc0_2
 have HR0_3 := am hr0_3
 have HC0_3 := am hc0_3
 clear hr0_3 hc0_3
 have HB := am (Below.refl w.heap.size w)
 have H : (if (l0_2.length : Int) > 6000 then (gran_Right.j0 k true a0_0 a0_1 l0_2 l0_3) else (if (l0_3.length : Int) > 6000 then (gran_Right.j0 k true a0_0 a0_1 l0_2 l0_3) else ((gran_Size.f k a0_0 a0_1 l0_2 l0_3).bind fun t2176 => (gran_Right.j0 k (decide (t2176 > 60000)) a0_0 a0_1 l0_2 l0_3)))) = some r := h
 clear h
 have HC2 := am H
 clear H
 go_enter Try.func54, Try.ntmps54
 go_upto_region 1 with (first | ((with_reducible refine gate_dst (N := 1) rfl ?_); (try (refine gate_guard (by rfl) ?_; dsimp only)); refine bx 1 28 #[.int .i64 a0_0, .int .i64 a0_1, .slice A0_2 l0_2.length c0_2, .slice A0_3 l0_3.length c0_3] ?_; intro gb2175 hg w3 hbox hb; have BK2175 := am (hbox); have GW2175 := am ((bz hg HB.out : w.heap.size ≤ gb2175)); have GE2175 := am ((bz hg HB.out : w.heap.size ≤ gb2175)); replace HB := am (below_step (bl HB.out) hb); clear hb hbox hg))
 (try simp only [Act.put, List.setIfInBounds_toArray, List.set_cons_zero, List.set_cons_succ])
 go_cut [19] (fun v19 wc => ∃ (kq : Nat) (x19_1 : Bool), v19 = .bool x19_1 ∧ Aside0 (gran_Right.j0 kq x19_1 a0_0 a0_1 l0_2 l0_3 = some r) ∧ Aside0 (kq ≤ k) ∧ Aside0 (wc.heap[gb2175]? = some (.cells #[.int .i64 a0_0, .int .i64 a0_1, (.slice A0_2 l0_2.length c0_2), (.slice A0_3 l0_3.length c0_3)] 28 (0, 0))) ∧ Aside0 (Below w.heap.size w wc))
 case first =>
  have H := HC2.out
  clear HC2
  by_cases c4 : (l0_2.length : Int) > 6000
  ·rw [if_pos c4] at H
   have c4b0 : decide (6000 < (l0_2.length : Int)) = true := decide_eq_true c4
   have c4b1 : decide (6000 < l0_2.length) = true := decide_eq_true (by omega)
   clear c4
   (first | rw [c4b0] | (simp only [i64_w, i32_w]; rw [c4b0]) | skip)
   have H' := am H
   clear H
   have hcz5_0 : w3.cell? ⟨gb2175, 0, none⟩ = some (.int .i64 a0_0) := bc BK2175.out 0
   have hcz5_1 : w3.cell? ⟨gb2175, 1, none⟩ = some (.int .i64 a0_1) := bc BK2175.out 1
   have hcz5_2 : w3.cell? ⟨gb2175, 2, none⟩ = some (.slice A0_2 l0_2.length c0_2) := bc BK2175.out 2
   have hcz5_3 : w3.cell? ⟨gb2175, 3, none⟩ = some (.slice A0_3 l0_3.length c0_3) := bc BK2175.out 3
   have hfz5_0 := blk_frozen BK2175.out 0
   have hfz5_1 := blk_frozen BK2175.out 1
   have hfz5_2 := blk_frozen BK2175.out 2
   have hfz5_3 := blk_frozen BK2175.out 3
   go_wp2
   go_meet
   case rel => exact ⟨_, (true), sm, H', ⟨by first | omega | exact Nat.le_refl _⟩, ⟨kp BK2175.out⟩, ⟨bl1 HB.out GE2175.out⟩⟩
  ·rw [if_neg c4] at H
   have c4b0 : decide (6000 < (l0_2.length : Int)) = false := decide_eq_false c4
   have c4b1 : decide (6000 < l0_2.length) = false := decide_eq_false (by omega)
   clear c4
   (first | rw [c4b0] | (simp only [i64_w, i32_w]; rw [c4b0]) | skip)
   by_cases c6 : (l0_3.length : Int) > 6000
   ·rw [if_pos c6] at H
    have c6b0 : decide (6000 < (l0_3.length : Int)) = true := decide_eq_true c6
    have c6b1 : decide (6000 < l0_3.length) = true := decide_eq_true (by omega)
    clear c6
    have H' := am H
    clear H
    have hcz7_0 : w3.cell? ⟨gb2175, 0, none⟩ = some (.int .i64 a0_0) := bc BK2175.out 0
    have hcz7_1 : w3.cell? ⟨gb2175, 1, none⟩ = some (.int .i64 a0_1) := bc BK2175.out 1
    have hcz7_2 : w3.cell? ⟨gb2175, 2, none⟩ = some (.slice A0_2 l0_2.length c0_2) := bc BK2175.out 2
    have hcz7_3 : w3.cell? ⟨gb2175, 3, none⟩ = some (.slice A0_3 l0_3.length c0_3) := bc BK2175.out 3
    have hfz7_0 := blk_frozen BK2175.out 0
    have hfz7_1 := blk_frozen BK2175.out 1
    have hfz7_2 := blk_frozen BK2175.out 2
    have hfz7_3 := blk_frozen BK2175.out 3
    go_wp2
    go_meet
    case rel => exact ⟨_, (true), sm, H', ⟨by first | omega | exact Nat.le_refl _⟩, ⟨kp BK2175.out⟩, ⟨bl1 HB.out GE2175.out⟩⟩
   ·rw [if_neg c6] at H
    have c6b0 : decide (6000 < (l0_3.length : Int)) = false := decide_eq_false c6
    have c6b1 : decide (6000 < l0_3.length) = false := decide_eq_false (by omega)
    clear c6
    replace H := Option.bind_eq_some_iff.mp H
    obtain ⟨t2176, A80, H⟩ := H
    try dsimp only at H
    have A8 := am A80
    clear A80
    have H' := am H
    clear H
    have hcz9_0 : w3.cell? ⟨gb2175, 0, none⟩ = some (.int .i64 a0_0) := bc BK2175.out 0
    have hcz9_1 : w3.cell? ⟨gb2175, 1, none⟩ = some (.int .i64 a0_1) := bc BK2175.out 1
    have hcz9_2 : w3.cell? ⟨gb2175, 2, none⟩ = some (.slice A0_2 l0_2.length c0_2) := bc BK2175.out 2
    have hcz9_3 : w3.cell? ⟨gb2175, 3, none⟩ = some (.slice A0_3 l0_3.length c0_3) := bc BK2175.out 3
    have hfz9_0 := blk_frozen BK2175.out 0
    have hfz9_1 := blk_frozen BK2175.out 1
    have hfz9_2 := blk_frozen BK2175.out 2
    have hfz9_3 := blk_frozen BK2175.out 3
    go_wp2_with (first | (go_at_call 80; (with_reducible refine (gran_Size.calls k a0_0 a0_1 _ _ l0_2 _ _ l0_3 t2176 _ ?side1 ?side2 ?side3 ?side4 A8.out).mono ?_); (case side1 => exact kc (Kd.C_below HR0_2.out HB.out)); (case side2 => exact HC0_2.out); (case side3 => exact kc (Kd.C_below HR0_3.out HB.out)); (case side4 => exact HC0_3.out); rintro e w10 ⟨rfl, hb⟩; replace BK2175 := am (blk_below (kp BK2175.out) hb); replace HB := am (below_step (bl1 HB.out GE2175.out) hb); (try clear hb); (try clear hb2); (try clear hk); (try clear hi)))
    go_meet
    case rel => exact ⟨_, (decide (t2176 > 60000)), sm, H', ⟨by first | omega | exact Nat.le_refl _⟩, ⟨kp BK2175.out⟩, ⟨bl1 HB.out GE2175.out⟩⟩
 case rest =>
  clear HC2
  try clear p2
  try clear c4
  try clear c4b0
  try clear c4b1
  try clear c5
  try clear c6
  try clear c6b0
  try clear c6b1
  try clear hcz5_0
  try clear hcz5_1
  try clear hcz5_2
  try clear hcz5_3
  try clear hcz7_0
  try clear hcz7_1
  try clear hcz7_2
  try clear hcz7_3
  try clear hcz9_0
  try clear hcz9_1
  try clear hcz9_2
  try clear hcz9_3
  try clear hfz5_0
  try clear hfz5_1
  try clear hfz5_2
  try clear hfz5_3
  try clear hfz7_0
  try clear hfz7_1
  try clear hfz7_2
  try clear hfz7_3
  try clear hfz9_0
  try clear hfz9_1
  try clear hfz9_2
  try clear hfz9_3
  obtain ⟨kq, x19_1, rfl, HA, HJ1, BK2175, HB⟩ := hcut
  cases kq with
  | zero => exact absurd HA.out (by simp [gran_Right.j0])
  | succ kj1 =>
   have H := HA.out
   clear HA
   simp only [gran_Right.j0] at H
   by_cases c11 : x19_1 = true
   ·subst c11
    have H1 : (some 3) = some r := by rw [if_pos rfl] at H; exact H
    clear H
    have H := H1
    clear H1
    obtain rfl := Option.some.inj H
    go_wp2
    go_ret
    exact ⟨rt, bl1 HB.out GE2175.out⟩
   ·replace c11 := Bool.eq_false_iff.mpr c11
    subst c11
    have H1 : ((gran_shape.f kj1 a0_0 a0_1 l0_2 l0_3).bind fun t2177 => (if t2177 = true then ((gran_turns.f kj1 a0_0 a0_1 l0_2 l0_3).bind fun t2178 => (gran_Right.j1 kj1 (!t2178) a0_0 a0_1 l0_2 l0_3)) else (gran_Right.j1 kj1 true a0_0 a0_1 l0_2 l0_3))) = some r := by rw [if_neg (show ¬ (false = true) by decide)] at H; exact H
    clear H
    have H := H1
    clear H1
    have HC12 := am H
    clear H
    go_upto_region 3 with (fail)
    go_cut [27] (fun v27 wc => ∃ (kq : Nat) (x27_11 : Bool), v27 = .bool x27_11 ∧ Aside0 (gran_Right.j1 kq x27_11 a0_0 a0_1 l0_2 l0_3 = some r) ∧ Aside0 (kq ≤ kj1) ∧ Aside0 (wc.heap[gb2175]? = some (.cells #[.int .i64 a0_0, .int .i64 a0_1, (.slice A0_2 l0_2.length c0_2), (.slice A0_3 l0_3.length c0_3)] 28 (0, 0))) ∧ Aside0 (Below w.heap.size w wc))
    case first =>
     have H := HC12.out
     clear HC12
     replace H := Option.bind_eq_some_iff.mp H
     obtain ⟨t2177, A130, H⟩ := H
     try dsimp only at H
     have A13 := am A130
     clear A130
     by_cases c14 : t2177 = true
     ·subst c14
      have H1 : ((gran_turns.f kj1 a0_0 a0_1 l0_2 l0_3).bind fun t2178 => (gran_Right.j1 kj1 (!t2178) a0_0 a0_1 l0_2 l0_3)) = some r := by rw [if_pos rfl] at H; exact H
      clear H
      have H := H1
      clear H1
      replace H := Option.bind_eq_some_iff.mp H
      obtain ⟨t2178, A150, H⟩ := H
      try dsimp only at H
      have A15 := am A150
      clear A150
      have H' := am H
      clear H
      have hcz16_0 : wc.cell? ⟨gb2175, 0, none⟩ = some (.int .i64 a0_0) := bc BK2175.out 0
      have hcz16_1 : wc.cell? ⟨gb2175, 1, none⟩ = some (.int .i64 a0_1) := bc BK2175.out 1
      have hcz16_2 : wc.cell? ⟨gb2175, 2, none⟩ = some (.slice A0_2 l0_2.length c0_2) := bc BK2175.out 2
      have hcz16_3 : wc.cell? ⟨gb2175, 3, none⟩ = some (.slice A0_3 l0_3.length c0_3) := bc BK2175.out 3
      have hfz16_0 := blk_frozen BK2175.out 0
      have hfz16_1 := blk_frozen BK2175.out 1
      have hfz16_2 := blk_frozen BK2175.out 2
      have hfz16_3 := blk_frozen BK2175.out 3
      go_wp2_with (first | ((with_reducible refine gate_callee (f := 81) rfl ?_); refine goesL_ (some 21) rfl rfl Try.func81 (by kernel_rfl) rfl #[.agg #[.int .i64 a0_0, .int .i64 a0_1, .slice A0_2 l0_2.length c0_2, .slice A0_3 l0_3.length c0_3]] rfl ar ?_; (with_reducible refine (gran_shape.calls kj1 a0_0 a0_1 _ _ l0_2 _ _ l0_3 true _ ?side1 ?side2 ?side3 ?side4 A13.out).mono ?_); (case side1 => exact kc (Kd.C_below HR0_2.out HB.out)); (case side2 => exact HC0_2.out); (case side3 => exact kc (Kd.C_below HR0_3.out HB.out)); (case side4 => exact HC0_3.out); rintro e w17 ⟨rfl, hb⟩; refine ⟨_, rfl, ?_⟩; replace BK2175 := am (blk_below (kp BK2175.out) hb); replace HB := am (below_step (bl1 HB.out GE2175.out) hb); (try clear hb); (try clear hb2); (try clear hk); (try clear hi); have hcz18_0 : w17.cell? ⟨gb2175, 0, none⟩ = some (.int .i64 a0_0) := bc BK2175.out 0; have hcz18_1 : w17.cell? ⟨gb2175, 1, none⟩ = some (.int .i64 a0_1) := bc BK2175.out 1; have hcz18_2 : w17.cell? ⟨gb2175, 2, none⟩ = some (.slice A0_2 l0_2.length c0_2) := bc BK2175.out 2; have hcz18_3 : w17.cell? ⟨gb2175, 3, none⟩ = some (.slice A0_3 l0_3.length c0_3) := bc BK2175.out 3; have hfz18_0 := blk_frozen BK2175.out 0; have hfz18_1 := blk_frozen BK2175.out 1; have hfz18_2 := blk_frozen BK2175.out 2; have hfz18_3 := blk_frozen BK2175.out 3) | (go_at_call 82; (with_reducible refine (gran_turns.calls kj1 a0_0 a0_1 (fun k_ => k_ < w.heap.size) _ _ l0_2 _ _ l0_3 t2178 _ ?side1 ?side2 ?side3 A15.out).mono ?_); (case side1 => exact Kd.V_mk HC0_2.out (Kd.F_below (Kd.C_F (Kd.heap_slice 23 k23_heap) HR0_2.out) (bl1 HB.out GE2175.out))); (case side2 => exact kc (Kd.C_below HR0_3.out HB.out)); (case side3 => exact HC0_3.out); rintro e w19 ⟨rfl, hb⟩; replace BK2175 := am (blk_below (kp BK2175.out) hb); replace HB := am (below_step (bl1 HB.out GE2175.out) hb); (try clear hb); (try clear hb2); (try clear hk); (try clear hi)))
      go_meet
      case rel => exact ⟨_, (!t2178), sm, H', ⟨by have := HJ1.out; first | omega | exact Nat.le_refl _⟩, ⟨kp BK2175.out⟩, ⟨bl1 HB.out GE2175.out⟩⟩
     ·replace c14 := Bool.eq_false_iff.mpr c14
      subst c14
      have H1 : (gran_Right.j1 kj1 true a0_0 a0_1 l0_2 l0_3) = some r := by rw [if_neg (show ¬ (false = true) by decide)] at H; exact H
      clear H
      have H := H1
      clear H1
      have H' := am H
      clear H
      have hcz20_0 : wc.cell? ⟨gb2175, 0, none⟩ = some (.int .i64 a0_0) := bc BK2175.out 0
      have hcz20_1 : wc.cell? ⟨gb2175, 1, none⟩ = some (.int .i64 a0_1) := bc BK2175.out 1
      have hcz20_2 : wc.cell? ⟨gb2175, 2, none⟩ = some (.slice A0_2 l0_2.length c0_2) := bc BK2175.out 2
      have hcz20_3 : wc.cell? ⟨gb2175, 3, none⟩ = some (.slice A0_3 l0_3.length c0_3) := bc BK2175.out 3
      have hfz20_0 := blk_frozen BK2175.out 0
      have hfz20_1 := blk_frozen BK2175.out 1
      have hfz20_2 := blk_frozen BK2175.out 2
      have hfz20_3 := blk_frozen BK2175.out 3
      go_wp2_with (first | ((with_reducible refine gate_callee (f := 81) rfl ?_); refine goesL_ (some 21) rfl rfl Try.func81 (by kernel_rfl) rfl #[.agg #[.int .i64 a0_0, .int .i64 a0_1, .slice A0_2 l0_2.length c0_2, .slice A0_3 l0_3.length c0_3]] rfl ar ?_; (with_reducible refine (gran_shape.calls kj1 a0_0 a0_1 _ _ l0_2 _ _ l0_3 false _ ?side1 ?side2 ?side3 ?side4 A13.out).mono ?_); (case side1 => exact kc (Kd.C_below HR0_2.out HB.out)); (case side2 => exact HC0_2.out); (case side3 => exact kc (Kd.C_below HR0_3.out HB.out)); (case side4 => exact HC0_3.out); rintro e w21 ⟨rfl, hb⟩; refine ⟨_, rfl, ?_⟩; replace BK2175 := am (blk_below (kp BK2175.out) hb); replace HB := am (below_step (bl1 HB.out GE2175.out) hb); (try clear hb); (try clear hb2); (try clear hk); (try clear hi)))
      go_meet
      case rel => exact ⟨_, (true), sm, H', ⟨by have := HJ1.out; first | omega | exact Nat.le_refl _⟩, ⟨kp BK2175.out⟩, ⟨bl1 HB.out GE2175.out⟩⟩
    case rest =>
     clear HC12
     try clear c1
     try clear p2
     try clear c4
     try clear c4b0
     try clear c4b1
     try clear c5
     try clear c6
     try clear c6b0
     try clear c6b1
     try clear c8
     try clear c11
     try clear c14
     try clear hcz16_0
     try clear hcz16_1
     try clear hcz16_2
     try clear hcz16_3
     try clear hcz18_0
     try clear hcz18_1
     try clear hcz18_2
     try clear hcz18_3
     try clear hcz20_0
     try clear hcz20_1
     try clear hcz20_2
     try clear hcz20_3
     try clear hcz5_0
     try clear hcz5_1
     try clear hcz5_2
     try clear hcz5_3
     try clear hcz7_0
     try clear hcz7_1
     try clear hcz7_2
     try clear hcz7_3
     try clear hcz9_0
     try clear hcz9_1
     try clear hcz9_2
     try clear hcz9_3
     try clear hfz16_0
     try clear hfz16_1
     try clear hfz16_2
     try clear hfz16_3
     try clear hfz18_0
     try clear hfz18_1
     try clear hfz18_2
     try clear hfz18_3
     try clear hfz20_0
     try clear hfz20_1
     try clear hfz20_2
     try clear hfz20_3
     try clear hfz5_0
     try clear hfz5_1
     try clear hfz5_2
     try clear hfz5_3
     try clear hfz7_0
     try clear hfz7_1
     try clear hfz7_2
     try clear hfz7_3
     try clear hfz9_0
     try clear hfz9_1
     try clear hfz9_2
     try clear hfz9_3
     try clear p2
     obtain ⟨kq, x27_11, rfl, HA, HJ11, BK2175, HB⟩ := hcut
     cases kq with
     | zero => exact absurd HA.out (by simp [gran_Right.j1])
     | succ kj11 =>
      have H := HA.out
      clear HA
      simp only [gran_Right.j1] at H
      by_cases c22 : x27_11 = true
      ·subst c22
       have H1 : (some 50) = some r := by rw [if_pos rfl] at H; exact H
       clear H
       have H := H1
       clear H1
       obtain rfl := Option.some.inj H
       go_wp2
       go_ret
       exact ⟨rt, bl1 HB.out GE2175.out⟩
      ·replace c22 := Bool.eq_false_iff.mpr c22
       subst c22
       have H1 : (gran_Right.l0 kj11 l0_3 (l0_3.length : Int) 0 a0_0 a0_1 l0_2 l0_3) = some r := by rw [if_neg (show ¬ (false = true) by decide)] at H; exact H
       clear H
       have H := H1
       clear H1
       have H' := am H
       clear H
       have hcz23_0 : wc.cell? ⟨gb2175, 0, none⟩ = some (.int .i64 a0_0) := bc BK2175.out 0
       have hcz23_1 : wc.cell? ⟨gb2175, 1, none⟩ = some (.int .i64 a0_1) := bc BK2175.out 1
       have hcz23_2 : wc.cell? ⟨gb2175, 2, none⟩ = some (.slice A0_2 l0_2.length c0_2) := bc BK2175.out 2
       have hcz23_3 : wc.cell? ⟨gb2175, 3, none⟩ = some (.slice A0_3 l0_3.length c0_3) := bc BK2175.out 3
       have hfz23_0 := blk_frozen BK2175.out 0
       have hfz23_1 := blk_frozen BK2175.out 1
       have hfz23_2 := blk_frozen BK2175.out 2
       have hfz23_3 := blk_frozen BK2175.out 3
       go_wp2
       go_loopg [31] kj11 (fun kq v31 w' => ∃ (x31_3 : Int), v31 = .int .i64 x31_3 ∧ Aside0 (gran_Right.l0 kq l0_3 (l0_3.length : Int) x31_3 a0_0 a0_1 l0_2 l0_3 = some r) ∧ Aside0 (kq ≤ kj11) ∧ Aside0 (w'.heap[gb2175]? = some (.cells #[.int .i64 a0_0, .int .i64 a0_1, (.slice A0_2 l0_2.length c0_2), (.slice A0_3 l0_3.length c0_3)] 28 (0, 0))) ∧ Aside0 (Below w.heap.size w w'))
       case atStart => exact ⟨(0), sm, H', ⟨Nat.le_refl _⟩, ⟨kp BK2175.out⟩, ⟨bl1 HB.out GE2175.out⟩⟩
       case round =>
        clear H'
        try clear c1
        try clear c2
        try clear p2
        try clear c4
        try clear c4b0
        try clear c4b1
        try clear c5
        try clear c6
        try clear c6b0
        try clear c6b1
        try clear c8
        try clear c11
        try clear c14
        try clear c22
        try clear hcz16_0
        try clear hcz16_1
        try clear hcz16_2
        try clear hcz16_3
        try clear hcz18_0
        try clear hcz18_1
        try clear hcz18_2
        try clear hcz18_3
        try clear hcz20_0
        try clear hcz20_1
        try clear hcz20_2
        try clear hcz20_3
        try clear hcz23_0
        try clear hcz23_1
        try clear hcz23_2
        try clear hcz23_3
        try clear hcz5_0
        try clear hcz5_1
        try clear hcz5_2
        try clear hcz5_3
        try clear hcz7_0
        try clear hcz7_1
        try clear hcz7_2
        try clear hcz7_3
        try clear hcz9_0
        try clear hcz9_1
        try clear hcz9_2
        try clear hcz9_3
        try clear hfz16_0
        try clear hfz16_1
        try clear hfz16_2
        try clear hfz16_3
        try clear hfz18_0
        try clear hfz18_1
        try clear hfz18_2
        try clear hfz18_3
        try clear hfz20_0
        try clear hfz20_1
        try clear hfz20_2
        try clear hfz20_3
        try clear hfz23_0
        try clear hfz23_1
        try clear hfz23_2
        try clear hfz23_3
        try clear hfz5_0
        try clear hfz5_1
        try clear hfz5_2
        try clear hfz5_3
        try clear hfz7_0
        try clear hfz7_1
        try clear hfz7_2
        try clear hfz7_3
        try clear hfz9_0
        try clear hfz9_1
        try clear hfz9_2
        try clear hfz9_3
        try clear p2
        obtain ⟨x31_3, rfl, HA, HK3, BK2175, HB⟩ := hrel
        cases gk with
        | zero => exact absurd HA.out (by simp [gran_Right.l0])
        | succ k3 =>
         have H := HA.out
         clear HA
         simp only [gran_Right.l0] at H
         by_cases c24 : x31_3 < (l0_3.length : Int)
         ·rw [if_pos c24] at H
          have c24b0 : decide (x31_3 < (l0_3.length : Int)) = true := decide_eq_true c24
          clear c24
          by_cases c25 : 0 ≤ x31_3
          ·rw [if_pos c25] at H
           have c25b0 : decide (0 ≤ x31_3) = true := decide_eq_true c25
           clear c25
           by_cases c26 : x31_3 < (l0_3.length : Int)
           ·rw [if_pos c26] at H
            have c26b0 : decide (x31_3 < (l0_3.length : Int)) = true := decide_eq_true c26
            clear c26
            replace H := Option.bind_eq_some_iff.mp H
            obtain ⟨t2181, A270, H⟩ := H
            try dsimp only at H
            have A27 := am A270
            clear A270
            by_cases c28 : t2181 = true
            ·subst c28
             have H1 : (gran_Right.l0 k3 l0_3 (l0_3.length : Int) (wrap64 (x31_3 + 1)) a0_0 a0_1 l0_2 l0_3) = some r := by rw [if_pos rfl] at H; exact H
             clear H
             have H := H1
             clear H1
             have H' := am H
             clear H
             have p2179 : 0 ≤ (x31_3 : Int) := of_decide_eq_true asm
             have q2179 : x31_3 < (l0_3.length : Int) := of_decide_eq_true asm
             obtain ⟨ad2179, A2179_1, c2179_1, e2179, hx2179_0, hx2179_1, hl2179_1, hi2179_1⟩ := at_T70 HR0_3.out x31_3 p2179 q2179
             cases e2179
             replace hx2179_0 := (HB.out.cell (World.block_lt_of_cell? w _ hx2179_0)).trans hx2179_0
             replace hx2179_1 := (HB.out.cell (World.block_lt_of_cell? w _ hx2179_1)).trans hx2179_1
             have HR2179_1 := am hi2179_1
             have HC2179_1 := am hl2179_1
             clear hi2179_1 hl2179_1
             replace p2179 := eq_true p2179
             replace q2179 := eq_true q2179
             go_wp2_with (first | ((with_reducible refine gate_dst (N := 4) rfl ?_); (try (refine gate_guard (by rfl) ?_; dsimp only)); refine bx 4 70 #[.int .i64 0, .slice none 0 0] ?_; intro gb2180 hg w29 hbox hb; have BK2180 := am (hbox); have GW2180 := am ((bz1 hg HB.out GE2175.out : w.heap.size ≤ gb2180)); have GE2180 := am ((bz1 hg HB.out GE2175.out : w.heap.size ≤ gb2180)); replace HB := am (below_step (bl1 HB.out GE2175.out) hb); have NB2175_2180 := am ((nl hg BK2175.out : gb2175 ≠ gb2180)); have NB2180_2175 := am ((ng hg BK2175.out : gb2180 ≠ gb2175)); replace BK2175 := am (blk_below (kp BK2175.out) hb); clear hb hbox hg; have hnb30 := NB2180_2175.out; have hnc30 := NB2175_2180.out; have hcz31_0 : w29.cell? ⟨gb2180, 0, none⟩ = some (.int .i64 0) := bc BK2180.out 0; have hcz31_1 : w29.cell? ⟨gb2180, 1, none⟩ = some (.slice none 0 0) := bc BK2180.out 1; have hfz31_0 := blk_frozen BK2180.out 0; have hfz31_1 := blk_frozen BK2180.out 1; have hcz32_0 : w29.cell? ⟨gb2175, 0, none⟩ = some (.int .i64 a0_0) := bc BK2175.out 0; have hcz32_1 : w29.cell? ⟨gb2175, 1, none⟩ = some (.int .i64 a0_1) := bc BK2175.out 1; have hcz32_2 : w29.cell? ⟨gb2175, 2, none⟩ = some (.slice A0_2 l0_2.length c0_2) := bc BK2175.out 2; have hcz32_3 : w29.cell? ⟨gb2175, 3, none⟩ = some (.slice (some ad2179) l0_3.length c0_3) := bc BK2175.out 3; have hfz32_0 := blk_frozen BK2175.out 0; have hfz32_1 := blk_frozen BK2175.out 1; have hfz32_2 := blk_frozen BK2175.out 2; have hfz32_3 := blk_frozen BK2175.out 3) | ((with_reducible refine gate_callee (f := 83) rfl ?_); refine goesL_ (some 38) rfl rfl Try.func83 (by kernel_rfl) rfl #[.agg #[.int .i64 a0_0, .int .i64 a0_1, .slice A0_2 l0_2.length c0_2, .slice (some ad2179) l0_3.length c0_3], .int .i64 ((rd_T70 l0_3 x31_3).f0)] rfl ar ?_; (with_reducible refine (gran_beside.calls k3 a0_0 a0_1 _ _ l0_2 _ _ l0_3 ((rd_T70 l0_3 x31_3).f0) true _ ?side1 ?side2 ?side3 ?side4 A27.out).mono ?_); (case side1 => exact Kd.C_below HR0_2.out (bl2 HB.out GE2175.out GE2180.out)); (case side2 => exact HC0_2.out); (case side3 => exact Kd.C_below HR0_3.out (bl2 HB.out GE2175.out GE2180.out)); (case side4 => exact HC0_3.out); rintro e w33 ⟨rfl, hb⟩; refine ⟨_, rfl, ?_⟩; replace BK2175 := am (blk_below (g := gb2175) (o := .cells #[.int .i64 a0_0, .int .i64 a0_1, .slice A0_2 l0_2.length c0_2, .slice (some ad2179) l0_3.length c0_3] 28 (0, 0)) (kf BK2175.out NB2175_2180.out) hb); replace BK2180 := am (blk_below (g := gb2180) (o := .cells #[.int .i64 ((rd_T70 l0_3 x31_3).f0), .slice A2179_1 ((rd_T70 l0_3 x31_3).f1).length c2179_1] 70 (0, 0)) (by (with_reducible repeat (first | refine blk_drewN ?_ _ | refine blk_drew ?_ | refine blk_alloc ?_ _)); refine blk_put (cs := #[.int .i64 ((rd_T70 l0_3 x31_3).f0), .slice none 0 0]) ?_ 1 _ rfl; (with_reducible repeat (first | refine blk_drewN ?_ _ | refine blk_drew ?_ | refine blk_alloc ?_ _)); refine blk_put (cs := #[.int .i64 0, .slice none 0 0]) ?_ 0 _ rfl; (with_reducible repeat (first | refine blk_drewN ?_ _ | refine blk_drew ?_ | refine blk_alloc ?_ _)); exact BK2180.out) hb); replace HB := am (below_step (bl2 HB.out GE2175.out GE2180.out) hb); (try clear hb); (try clear hb2); (try clear hk); (try clear hi)))
             go_roundg k3
             case measure => have := HJ1.out; have := HJ11.out; have := HK3.out; omega
             case rel => exact ⟨(wrap64 (x31_3 + 1)), sm, H', ⟨by have := HJ1.out; have := HJ11.out; have := HK3.out; omega⟩, ⟨kp BK2175.out⟩, ⟨bl2 HB.out GE2175.out GE2180.out⟩⟩
            ·replace c28 := Bool.eq_false_iff.mpr c28
             subst c28
             have H1 : (some 50) = some r := by rw [if_neg (show ¬ (false = true) by decide)] at H; exact H
             clear H
             have H := H1
             clear H1
             obtain rfl := Option.some.inj H
             have p2179 : 0 ≤ (x31_3 : Int) := of_decide_eq_true asm
             have q2179 : x31_3 < (l0_3.length : Int) := of_decide_eq_true asm
             obtain ⟨ad2179, A2179_1, c2179_1, e2179, hx2179_0, hx2179_1, hl2179_1, hi2179_1⟩ := at_T70 HR0_3.out x31_3 p2179 q2179
             cases e2179
             replace hx2179_0 := (HB.out.cell (World.block_lt_of_cell? w _ hx2179_0)).trans hx2179_0
             replace hx2179_1 := (HB.out.cell (World.block_lt_of_cell? w _ hx2179_1)).trans hx2179_1
             have HR2179_1 := am hi2179_1
             have HC2179_1 := am hl2179_1
             clear hi2179_1 hl2179_1
             replace p2179 := eq_true p2179
             replace q2179 := eq_true q2179
             go_wp2_with (first | ((with_reducible refine gate_dst (N := 4) rfl ?_); (try (refine gate_guard (by rfl) ?_; dsimp only)); refine bx 4 70 #[.int .i64 0, .slice none 0 0] ?_; intro gb2180 hg w34 hbox hb; have BK2180 := am (hbox); have GW2180 := am ((bz1 hg HB.out GE2175.out : w.heap.size ≤ gb2180)); have GE2180 := am ((bz1 hg HB.out GE2175.out : w.heap.size ≤ gb2180)); replace HB := am (below_step (bl1 HB.out GE2175.out) hb); have NB2175_2180 := am ((nl hg BK2175.out : gb2175 ≠ gb2180)); have NB2180_2175 := am ((ng hg BK2175.out : gb2180 ≠ gb2175)); replace BK2175 := am (blk_below (kp BK2175.out) hb); clear hb hbox hg; have hnb35 := NB2180_2175.out; have hnc35 := NB2175_2180.out; have hcz36_0 : w34.cell? ⟨gb2180, 0, none⟩ = some (.int .i64 0) := bc BK2180.out 0; have hcz36_1 : w34.cell? ⟨gb2180, 1, none⟩ = some (.slice none 0 0) := bc BK2180.out 1; have hfz36_0 := blk_frozen BK2180.out 0; have hfz36_1 := blk_frozen BK2180.out 1; have hcz37_0 : w34.cell? ⟨gb2175, 0, none⟩ = some (.int .i64 a0_0) := bc BK2175.out 0; have hcz37_1 : w34.cell? ⟨gb2175, 1, none⟩ = some (.int .i64 a0_1) := bc BK2175.out 1; have hcz37_2 : w34.cell? ⟨gb2175, 2, none⟩ = some (.slice A0_2 l0_2.length c0_2) := bc BK2175.out 2; have hcz37_3 : w34.cell? ⟨gb2175, 3, none⟩ = some (.slice (some ad2179) l0_3.length c0_3) := bc BK2175.out 3; have hfz37_0 := blk_frozen BK2175.out 0; have hfz37_1 := blk_frozen BK2175.out 1; have hfz37_2 := blk_frozen BK2175.out 2; have hfz37_3 := blk_frozen BK2175.out 3) | ((with_reducible refine gate_callee (f := 83) rfl ?_); refine goesL_ (some 38) rfl rfl Try.func83 (by kernel_rfl) rfl #[.agg #[.int .i64 a0_0, .int .i64 a0_1, .slice A0_2 l0_2.length c0_2, .slice (some ad2179) l0_3.length c0_3], .int .i64 ((rd_T70 l0_3 x31_3).f0)] rfl ar ?_; (with_reducible refine (gran_beside.calls k3 a0_0 a0_1 _ _ l0_2 _ _ l0_3 ((rd_T70 l0_3 x31_3).f0) false _ ?side1 ?side2 ?side3 ?side4 A27.out).mono ?_); (case side1 => exact Kd.C_below HR0_2.out (bl2 HB.out GE2175.out GE2180.out)); (case side2 => exact HC0_2.out); (case side3 => exact Kd.C_below HR0_3.out (bl2 HB.out GE2175.out GE2180.out)); (case side4 => exact HC0_3.out); rintro e w38 ⟨rfl, hb⟩; refine ⟨_, rfl, ?_⟩; replace BK2175 := am (blk_below (g := gb2175) (o := .cells #[.int .i64 a0_0, .int .i64 a0_1, .slice A0_2 l0_2.length c0_2, .slice (some ad2179) l0_3.length c0_3] 28 (0, 0)) (kf BK2175.out NB2175_2180.out) hb); replace BK2180 := am (blk_below (g := gb2180) (o := .cells #[.int .i64 ((rd_T70 l0_3 x31_3).f0), .slice A2179_1 ((rd_T70 l0_3 x31_3).f1).length c2179_1] 70 (0, 0)) (by (with_reducible repeat (first | refine blk_drewN ?_ _ | refine blk_drew ?_ | refine blk_alloc ?_ _)); refine blk_put (cs := #[.int .i64 ((rd_T70 l0_3 x31_3).f0), .slice none 0 0]) ?_ 1 _ rfl; (with_reducible repeat (first | refine blk_drewN ?_ _ | refine blk_drew ?_ | refine blk_alloc ?_ _)); refine blk_put (cs := #[.int .i64 0, .slice none 0 0]) ?_ 0 _ rfl; (with_reducible repeat (first | refine blk_drewN ?_ _ | refine blk_drew ?_ | refine blk_alloc ?_ _)); exact BK2180.out) hb); replace HB := am (below_step (bl2 HB.out GE2175.out GE2180.out) hb); (try clear hb); (try clear hb2); (try clear hk); (try clear hi)))
             go_ret
             exact ⟨rt, bl2 HB.out GE2175.out GE2180.out⟩
           ·rw [if_neg c26] at H
            exact absurd H (by simp)
          ·rw [if_neg c25] at H
           exact absurd H (by simp)
         ·rw [if_neg c24] at H
          have c24b0 : decide (x31_3 < (l0_3.length : Int)) = false := decide_eq_false c24
          clear c24
          obtain rfl := Option.some.inj H
          go_wp2
          go_ret
          exact ⟨rt, bl1 HB.out GE2175.out⟩

end Go.Proofs.Ytmbmalkpmanaaaa.P

namespace Go.Proofs.Ytmbmalkpmanaaaa.P
open Go.RowKit Go.Proofs.YtmbmalkpmanaaaaW.PrintWords Go.Proofs.YtmbmalkpmanaaaaW.PrintLast Go.Proofs.YtmbmalkpmanaaaaW.PrintMore
attribute [local go_sem] max2_int min2_int max_two min_two max_three min_three max_four min_four   -- for this text's walks alone
set_option linter.unusedVariables false
set_option linter.unusedSimpArgs false

def epactlaw07_right.f (k : Nat) (a0_0 : Int) (a0_1 : Int) (l0_2 : List (List (S23))) (l0_3 : List (S70)) : Option (Bool) := (epactlaw05_Small.f k a0_0 a0_1 l0_2 l0_3).bind fun t305 => (if t305 = true then ((gran_Right.f k a0_0 a0_1 l0_2 l0_3).bind fun t306 => (some (t306 == 0))) else (some false))
set_option maxHeartbeats 8000000 in
set_option maxRecDepth 100000 in
theorem epactlaw07_right.calls (k : Nat) (a0_0 : Int) (a0_1 : Int) (A0_2 : Option Addr) (c0_2 : Nat) (l0_2 : List (List (S23))) (A0_3 : Option Addr) (c0_3 : Nat) (l0_3 : List (S70)) (r : Bool) (w : World) (hr0_2 : Kd.C (Kd.slice 23 k23) w A0_2 l0_2.length l0_2) (hc0_2 : l0_2.length ≤ c0_2) (hr0_3 : Kd.C k70 w A0_3 l0_3.length l0_3) (hc0_3 : l0_3.length ≤ c0_3) (h : epactlaw07_right.f k a0_0 a0_1 l0_2 l0_3 = some r) :
 Calls Try.prog 17 #[.agg #[.int .i64 a0_0, .int .i64 a0_1, .slice A0_2 l0_2.length c0_2, .slice A0_3 l0_3.length c0_3]] w fun e w' => e = .returned (.bool r) ∧ Below w.heap.size w w' := by
 have hu28 := Try.underlying28
 have HR0_2 := am hr0_2
 have HC0_2 := am hc0_2
 clear hr0_2 hc0_2
 have HR0_3 := am hr0_3
 have HC0_3 := am hc0_3
 clear hr0_3 hc0_3
 have HB := am (Below.refl w.heap.size w)
 have H : ((epactlaw05_Small.f k a0_0 a0_1 l0_2 l0_3).bind fun t305 => (if t305 = true then ((gran_Right.f k a0_0 a0_1 l0_2 l0_3).bind fun t306 => (some (t306 == 0))) else (some false))) = some r := h
 clear h
 replace H := Option.bind_eq_some_iff.mp H
 obtain ⟨t305, A20, H⟩ := H
 try dsimp only at H
 have A2 := am A20
 clear A20
 by_cases c3 : t305 = true
 ·subst c3
  have H1 : ((gran_Right.f k a0_0 a0_1 l0_2 l0_3).bind fun t306 => (some (t306 == 0))) = some r := by rw [if_pos rfl] at H; exact H
  clear H
  have H := H1
  clear H1
  replace H := Option.bind_eq_some_iff.mp H
  obtain ⟨t306, A40, H⟩ := H
  try dsimp only at H
  have A4 := am A40
  clear A40
  obtain rfl := Option.some.inj H
  go_enter Try.func17, Try.ntmps17
  go_wp2_with (first | ((with_reducible refine gate_dst (N := 1) rfl ?_); refine bx 1 28 #[.int .i64 a0_0, .int .i64 a0_1, .slice A0_2 l0_2.length c0_2, .slice A0_3 l0_3.length c0_3] ?_; intro gb304 hg w5 hbox hb; have BK304 := am (hbox); have GW304 := am ((bz hg HB.out : w.heap.size ≤ gb304)); have GE304 := am ((bz hg HB.out : w.heap.size ≤ gb304)); replace HB := am (below_step (bl HB.out) hb); clear hb hbox hg; have hcz6_0 : w5.cell? ⟨gb304, 0, none⟩ = some (.int .i64 a0_0) := bc BK304.out 0; have hcz6_1 : w5.cell? ⟨gb304, 1, none⟩ = some (.int .i64 a0_1) := bc BK304.out 1; have hcz6_2 : w5.cell? ⟨gb304, 2, none⟩ = some (.slice A0_2 l0_2.length c0_2) := bc BK304.out 2; have hcz6_3 : w5.cell? ⟨gb304, 3, none⟩ = some (.slice A0_3 l0_3.length c0_3) := bc BK304.out 3; have hfz6_0 := blk_frozen BK304.out 0; have hfz6_1 := blk_frozen BK304.out 1; have hfz6_2 := blk_frozen BK304.out 2; have hfz6_3 := blk_frozen BK304.out 3) | ((with_reducible refine gate_callee (f := 53) rfl ?_); refine goesL_ (some 4) rfl rfl Try.func53 (by kernel_rfl) rfl #[.agg #[.int .i64 a0_0, .int .i64 a0_1, .slice A0_2 l0_2.length c0_2, .slice A0_3 l0_3.length c0_3]] rfl ar ?_; (with_reducible refine (epactlaw05_Small.calls k a0_0 a0_1 _ _ l0_2 _ _ l0_3 true _ ?side1 ?side2 ?side3 ?side4 A2.out).mono ?_); (case side1 => exact kc (Kd.C_below HR0_2.out HB.out)); (case side2 => exact HC0_2.out); (case side3 => exact kc (Kd.C_below HR0_3.out HB.out)); (case side4 => exact HC0_3.out); rintro e w7 ⟨rfl, hb⟩; refine ⟨_, rfl, ?_⟩; replace BK304 := am (blk_below (kp BK304.out) hb); replace HB := am (below_step (bl1 HB.out GE304.out) hb); (try clear hb); (try clear hb2); (try clear hk); (try clear hi); have hcz8_0 : w7.cell? ⟨gb304, 0, none⟩ = some (.int .i64 a0_0) := bc BK304.out 0; have hcz8_1 : w7.cell? ⟨gb304, 1, none⟩ = some (.int .i64 a0_1) := bc BK304.out 1; have hcz8_2 : w7.cell? ⟨gb304, 2, none⟩ = some (.slice A0_2 l0_2.length c0_2) := bc BK304.out 2; have hcz8_3 : w7.cell? ⟨gb304, 3, none⟩ = some (.slice A0_3 l0_3.length c0_3) := bc BK304.out 3; have hfz8_0 := blk_frozen BK304.out 0; have hfz8_1 := blk_frozen BK304.out 1; have hfz8_2 := blk_frozen BK304.out 2; have hfz8_3 := blk_frozen BK304.out 3) | (go_at_call 54; (with_reducible refine (gran_Right.calls k a0_0 a0_1 _ _ l0_2 _ _ l0_3 t306 _ ?side1 ?side2 ?side3 ?side4 A4.out).mono ?_); (case side1 => exact kc (Kd.C_below HR0_2.out HB.out)); (case side2 => exact HC0_2.out); (case side3 => exact kc (Kd.C_below HR0_3.out HB.out)); (case side4 => exact HC0_3.out); rintro e w9 ⟨rfl, hb⟩; replace BK304 := am (blk_below (kp BK304.out) hb); replace HB := am (below_step (bl1 HB.out GE304.out) hb); (try clear hb); (try clear hb2); (try clear hk); (try clear hi)))
  go_ret
  exact ⟨rt, bl1 HB.out GE304.out⟩
 ·replace c3 := Bool.eq_false_iff.mpr c3
  subst c3
  have H1 : (some false) = some r := by rw [if_neg (show ¬ (false = true) by decide)] at H; exact H
  clear H
  have H := H1
  clear H1
  obtain rfl := Option.some.inj H
  go_enter Try.func17, Try.ntmps17
  go_wp2_with (first | ((with_reducible refine gate_dst (N := 1) rfl ?_); refine bx 1 28 #[.int .i64 a0_0, .int .i64 a0_1, .slice A0_2 l0_2.length c0_2, .slice A0_3 l0_3.length c0_3] ?_; intro gb304 hg w10 hbox hb; have BK304 := am (hbox); have GW304 := am ((bz hg HB.out : w.heap.size ≤ gb304)); have GE304 := am ((bz hg HB.out : w.heap.size ≤ gb304)); replace HB := am (below_step (bl HB.out) hb); clear hb hbox hg; have hcz11_0 : w10.cell? ⟨gb304, 0, none⟩ = some (.int .i64 a0_0) := bc BK304.out 0; have hcz11_1 : w10.cell? ⟨gb304, 1, none⟩ = some (.int .i64 a0_1) := bc BK304.out 1; have hcz11_2 : w10.cell? ⟨gb304, 2, none⟩ = some (.slice A0_2 l0_2.length c0_2) := bc BK304.out 2; have hcz11_3 : w10.cell? ⟨gb304, 3, none⟩ = some (.slice A0_3 l0_3.length c0_3) := bc BK304.out 3; have hfz11_0 := blk_frozen BK304.out 0; have hfz11_1 := blk_frozen BK304.out 1; have hfz11_2 := blk_frozen BK304.out 2; have hfz11_3 := blk_frozen BK304.out 3) | ((with_reducible refine gate_callee (f := 53) rfl ?_); refine goesL_ (some 4) rfl rfl Try.func53 (by kernel_rfl) rfl #[.agg #[.int .i64 a0_0, .int .i64 a0_1, .slice A0_2 l0_2.length c0_2, .slice A0_3 l0_3.length c0_3]] rfl ar ?_; (with_reducible refine (epactlaw05_Small.calls k a0_0 a0_1 _ _ l0_2 _ _ l0_3 false _ ?side1 ?side2 ?side3 ?side4 A2.out).mono ?_); (case side1 => exact kc (Kd.C_below HR0_2.out HB.out)); (case side2 => exact HC0_2.out); (case side3 => exact kc (Kd.C_below HR0_3.out HB.out)); (case side4 => exact HC0_3.out); rintro e w12 ⟨rfl, hb⟩; refine ⟨_, rfl, ?_⟩; replace BK304 := am (blk_below (kp BK304.out) hb); replace HB := am (below_step (bl1 HB.out GE304.out) hb); (try clear hb); (try clear hb2); (try clear hk); (try clear hi)))
  go_ret
  exact ⟨rt, bl1 HB.out GE304.out⟩

end Go.Proofs.Ytmbmalkpmanaaaa.P

namespace Go.Proofs.Ytmbmalkpmanaaaa.P
open Go.RowKit Go.Proofs.YtmbmalkpmanaaaaW.PrintWords Go.Proofs.YtmbmalkpmanaaaaW.PrintLast Go.Proofs.YtmbmalkpmanaaaaW.PrintMore
attribute [local go_sem] max2_int min2_int max_two min_two max_three min_three max_four min_four   -- for this text's walks alone
set_option linter.unusedVariables false
set_option linter.unusedSimpArgs false

def epactlaw07_FindRises.j0 : Nat → Bool → Int → Int → List (List (S23)) → List (S70) → Option (Bool)
 | 0, _, _, _, _, _ => none
 | k + 1, x74, x551000, x551001, x551002, x551003 => if x74 = true then (none) else ((find_From.f k x551000 x551001 x551002 x551003 1099511627777).bind fun bt604 => ((find_Till.f k x551000 x551001 x551002 x551003 (-1099511627777)).bind fun bt606 => (if bt604.2 = true then (none) else (if bt606.2 = true then (none) else (if (wrap64 (bt604.1 + bt606.1)) = 0 then ((epactlaw07_awake.f k).bind fun t608 => (some t608)) else (none))))))
def epactlaw07_FindRises.f (k : Nat) (a0_0 : Int) (a0_1 : Int) (l0_2 : List (List (S23))) (l0_3 : List (S70)) (a1 : Int) (a2 : Int) : Option (Bool) := (epactlaw07_right.f k a0_0 a0_1 l0_2 l0_3).bind fun t551 => (if t551 = true then ((find_From.f k a0_0 a0_1 l0_2 l0_3 (mn a1 a2)).bind fun bt581 => ((find_From.f k a0_0 a0_1 l0_2 l0_3 (mx a1 a2)).bind fun bt583 => ((find_Till.f k a0_0 a0_1 l0_2 l0_3 (mn a1 a2)).bind fun bt585 => ((find_Till.f k a0_0 a0_1 l0_2 l0_3 (mx a1 a2)).bind fun bt587 => (if bt583.2 = true then (if bt581.2 = true then (if bt581.1 > bt583.1 then (none) else (if bt585.2 = true then (if bt587.2 = true then (epactlaw07_FindRises.j0 k (decide (bt585.1 > bt587.1)) a0_0 a0_1 l0_2 l0_3) else (none)) else (epactlaw07_FindRises.j0 k false a0_0 a0_1 l0_2 l0_3))) else (none)) else (if bt585.2 = true then (if bt587.2 = true then (epactlaw07_FindRises.j0 k (decide (bt585.1 > bt587.1)) a0_0 a0_1 l0_2 l0_3) else (none)) else (epactlaw07_FindRises.j0 k false a0_0 a0_1 l0_2 l0_3))))))) else ((epactlaw07_awake.f k).bind fun t552 => (some t552)))
set_option maxHeartbeats 8000000 in
set_option maxRecDepth 100000 in
theorem epactlaw07_FindRises.calls (k : Nat) (a0_0 : Int) (a0_1 : Int) (A0_2 : Option Addr) (c0_2 : Nat) (l0_2 : List (List (S23))) (A0_3 : Option Addr) (c0_3 : Nat) (l0_3 : List (S70)) (a1 : Int) (a2 : Int) (r : Bool) (w : World) (hr0_2 : Kd.C (Kd.slice 23 k23) w A0_2 l0_2.length l0_2) (hc0_2 : l0_2.length ≤ c0_2) (hr0_3 : Kd.C k70 w A0_3 l0_3.length l0_3) (hc0_3 : l0_3.length ≤ c0_3) (h : epactlaw07_FindRises.f k a0_0 a0_1 l0_2 l0_3 a1 a2 = some r) :
 Calls Try.prog 6 #[.agg #[.int .i64 a0_0, .int .i64 a0_1, .slice A0_2 l0_2.length c0_2, .slice A0_3 l0_3.length c0_3], .int .i64 a1, .int .i64 a2] w fun e w' => e = .returned (.bool r) ∧ Below w.heap.size w w' := by
 have hu28 := Try.underlying28
 have HR0_2 := am hr0_2
 have HC0_2 := am hc0_2
 clear hr0_2 hc0_2
 have HR0_3 := am hr0_3
 have HC0_3 := am hc0_3
 clear hr0_3 hc0_3
 have HB := am (Below.refl w.heap.size w)
 have H : ((epactlaw07_right.f k a0_0 a0_1 l0_2 l0_3).bind fun t551 => (if t551 = true then ((find_From.f k a0_0 a0_1 l0_2 l0_3 (mn a1 a2)).bind fun bt581 => ((find_From.f k a0_0 a0_1 l0_2 l0_3 (mx a1 a2)).bind fun bt583 => ((find_Till.f k a0_0 a0_1 l0_2 l0_3 (mn a1 a2)).bind fun bt585 => ((find_Till.f k a0_0 a0_1 l0_2 l0_3 (mx a1 a2)).bind fun bt587 => (if bt583.2 = true then (if bt581.2 = true then (if bt581.1 > bt583.1 then (none) else (if bt585.2 = true then (if bt587.2 = true then (epactlaw07_FindRises.j0 k (decide (bt585.1 > bt587.1)) a0_0 a0_1 l0_2 l0_3) else (none)) else (epactlaw07_FindRises.j0 k false a0_0 a0_1 l0_2 l0_3))) else (none)) else (if bt585.2 = true then (if bt587.2 = true then (epactlaw07_FindRises.j0 k (decide (bt585.1 > bt587.1)) a0_0 a0_1 l0_2 l0_3) else (none)) else (epactlaw07_FindRises.j0 k false a0_0 a0_1 l0_2 l0_3))))))) else ((epactlaw07_awake.f k).bind fun t552 => (some t552)))) = some r := h
 clear h
 replace H := Option.bind_eq_some_iff.mp H
 obtain ⟨t551, A40, H⟩ := H
 try dsimp only at H
 have A4 := am A40
 clear A40
 by_cases c5 : t551 = true
 ·subst c5
  have H1 : ((find_From.f k a0_0 a0_1 l0_2 l0_3 (mn a1 a2)).bind fun bt581 => ((find_From.f k a0_0 a0_1 l0_2 l0_3 (mx a1 a2)).bind fun bt583 => ((find_Till.f k a0_0 a0_1 l0_2 l0_3 (mn a1 a2)).bind fun bt585 => ((find_Till.f k a0_0 a0_1 l0_2 l0_3 (mx a1 a2)).bind fun bt587 => (if bt583.2 = true then (if bt581.2 = true then (if bt581.1 > bt583.1 then (none) else (if bt585.2 = true then (if bt587.2 = true then (epactlaw07_FindRises.j0 k (decide (bt585.1 > bt587.1)) a0_0 a0_1 l0_2 l0_3) else (none)) else (epactlaw07_FindRises.j0 k false a0_0 a0_1 l0_2 l0_3))) else (none)) else (if bt585.2 = true then (if bt587.2 = true then (epactlaw07_FindRises.j0 k (decide (bt585.1 > bt587.1)) a0_0 a0_1 l0_2 l0_3) else (none)) else (epactlaw07_FindRises.j0 k false a0_0 a0_1 l0_2 l0_3))))))) = some r := by rw [if_pos rfl] at H; exact H
  clear H
  have H := H1
  clear H1
  obtain ⟨ji6, hji6⟩ : ∃ j_ : Int, (mn a1 a2) = j_ := ⟨_, rfl⟩
  replace H : ((find_From.f k a0_0 a0_1 l0_2 l0_3 (ji6)).bind fun bt581 => ((find_From.f k a0_0 a0_1 l0_2 l0_3 (mx a1 a2)).bind fun bt583 => ((find_Till.f k a0_0 a0_1 l0_2 l0_3 (ji6)).bind fun bt585 => ((find_Till.f k a0_0 a0_1 l0_2 l0_3 (mx a1 a2)).bind fun bt587 => (if bt583.2 = true then (if bt581.2 = true then (if bt581.1 > bt583.1 then (none) else (if bt585.2 = true then (if bt587.2 = true then (epactlaw07_FindRises.j0 k (decide (bt585.1 > bt587.1)) a0_0 a0_1 l0_2 l0_3) else (none)) else (epactlaw07_FindRises.j0 k false a0_0 a0_1 l0_2 l0_3))) else (none)) else (if bt585.2 = true then (if bt587.2 = true then (epactlaw07_FindRises.j0 k (decide (bt585.1 > bt587.1)) a0_0 a0_1 l0_2 l0_3) else (none)) else (epactlaw07_FindRises.j0 k false a0_0 a0_1 l0_2 l0_3))))))) = some r := by first | (rw [hji6] at H; exact H) | (simp only [hji6] at H ⊢; exact H)
  (try rw [hji6] at A4)
  have hji6_ : (if a2 < a1 then a2 else a1) = ji6 := hji6
  obtain ⟨ji7, hji7⟩ : ∃ j_ : Int, (mx a1 a2) = j_ := ⟨_, rfl⟩
  replace H : ((find_From.f k a0_0 a0_1 l0_2 l0_3 (ji6)).bind fun bt581 => ((find_From.f k a0_0 a0_1 l0_2 l0_3 (ji7)).bind fun bt583 => ((find_Till.f k a0_0 a0_1 l0_2 l0_3 (ji6)).bind fun bt585 => ((find_Till.f k a0_0 a0_1 l0_2 l0_3 (ji7)).bind fun bt587 => (if bt583.2 = true then (if bt581.2 = true then (if bt581.1 > bt583.1 then (none) else (if bt585.2 = true then (if bt587.2 = true then (epactlaw07_FindRises.j0 k (decide (bt585.1 > bt587.1)) a0_0 a0_1 l0_2 l0_3) else (none)) else (epactlaw07_FindRises.j0 k false a0_0 a0_1 l0_2 l0_3))) else (none)) else (if bt585.2 = true then (if bt587.2 = true then (epactlaw07_FindRises.j0 k (decide (bt585.1 > bt587.1)) a0_0 a0_1 l0_2 l0_3) else (none)) else (epactlaw07_FindRises.j0 k false a0_0 a0_1 l0_2 l0_3))))))) = some r := by first | (rw [hji7] at H; exact H) | (simp only [hji7] at H ⊢; exact H)
  (try rw [hji7] at A4)
  have hji7_ : (if a1 < a2 then a2 else a1) = ji7 := hji7
  replace H := Option.bind_eq_some_iff.mp H
  obtain ⟨⟨t581, t582⟩, A80, H⟩ := H
  try dsimp only at H
  have A8 := am A80
  clear A80
  replace H := Option.bind_eq_some_iff.mp H
  obtain ⟨⟨t583, t584⟩, A90, H⟩ := H
  try dsimp only at H
  have A9 := am A90
  clear A90
  replace H := Option.bind_eq_some_iff.mp H
  obtain ⟨⟨t585, t586⟩, A100, H⟩ := H
  try dsimp only at H
  have A10 := am A100
  clear A100
  replace H := Option.bind_eq_some_iff.mp H
  obtain ⟨⟨t587, t588⟩, A110, H⟩ := H
  try dsimp only at H
  have A11 := am A110
  clear A110
  have HC12 := am H
  clear H
  go_enter Try.func6, Try.ntmps6
  go_upto_region 8 with (first | ((with_reducible refine gate_dst (N := 3) rfl ?_); refine bx 3 28 #[.int .i64 a0_0, .int .i64 a0_1, .slice A0_2 l0_2.length c0_2, .slice A0_3 l0_3.length c0_3] ?_; intro gb550 hg w13 hbox hb; have BK550 := am (hbox); have GW550 := am ((bz hg HB.out : w.heap.size ≤ gb550)); have GE550 := am ((bz hg HB.out : w.heap.size ≤ gb550)); replace HB := am (below_step (bl HB.out) hb); clear hb hbox hg; have hcz14_0 : w13.cell? ⟨gb550, 0, none⟩ = some (.int .i64 a0_0) := bc BK550.out 0; have hcz14_1 : w13.cell? ⟨gb550, 1, none⟩ = some (.int .i64 a0_1) := bc BK550.out 1; have hcz14_2 : w13.cell? ⟨gb550, 2, none⟩ = some (.slice A0_2 l0_2.length c0_2) := bc BK550.out 2; have hcz14_3 : w13.cell? ⟨gb550, 3, none⟩ = some (.slice A0_3 l0_3.length c0_3) := bc BK550.out 3; have hfz14_0 := blk_frozen BK550.out 0; have hfz14_1 := blk_frozen BK550.out 1; have hfz14_2 := blk_frozen BK550.out 2; have hfz14_3 := blk_frozen BK550.out 3) | ((with_reducible refine gate_callee (f := 17) rfl ?_); refine goesL_ (some 20) rfl rfl Try.func17 (by kernel_rfl) rfl #[.agg #[.int .i64 a0_0, .int .i64 a0_1, .slice A0_2 l0_2.length c0_2, .slice A0_3 l0_3.length c0_3]] rfl ar ?_; (with_reducible refine (epactlaw07_right.calls k a0_0 a0_1 _ _ l0_2 _ _ l0_3 true _ ?side1 ?side2 ?side3 ?side4 A4.out).mono ?_); (case side1 => exact kc (Kd.C_below HR0_2.out HB.out)); (case side2 => exact HC0_2.out); (case side3 => exact kc (Kd.C_below HR0_3.out HB.out)); (case side4 => exact HC0_3.out); clear A4; rintro e w15 ⟨rfl, hb⟩; refine ⟨_, rfl, ?_⟩; replace BK550 := am (blk_below (kp BK550.out) hb); replace HB := am (below_step (bl1 HB.out GE550.out) hb); (try clear hb); (try clear hb2); (try clear hk); (try clear hi); have hcz16_0 : w15.cell? ⟨gb550, 0, none⟩ = some (.int .i64 a0_0) := bc BK550.out 0; have hcz16_1 : w15.cell? ⟨gb550, 1, none⟩ = some (.int .i64 a0_1) := bc BK550.out 1; have hcz16_2 : w15.cell? ⟨gb550, 2, none⟩ = some (.slice A0_2 l0_2.length c0_2) := bc BK550.out 2; have hcz16_3 : w15.cell? ⟨gb550, 3, none⟩ = some (.slice A0_3 l0_3.length c0_3) := bc BK550.out 3; have hfz16_0 := blk_frozen BK550.out 0; have hfz16_1 := blk_frozen BK550.out 1; have hfz16_2 := blk_frozen BK550.out 2; have hfz16_3 := blk_frozen BK550.out 3) | ((with_reducible refine gate_callee (f := 22) rfl ?_); refine goesL_ (some 32) rfl rfl Try.func22 (by kernel_rfl) rfl #[.agg #[.int .i64 a0_0, .int .i64 a0_1, .slice A0_2 l0_2.length c0_2, .slice A0_3 l0_3.length c0_3], .int .i64 ji6] rfl (by (try simp only [List.map_toArray, List.map_cons, List.map_nil]); first | done | (simp only [hji6]; rfl) | rfl | (simp only [List.length_drop, List.length_take]; rfl)) ?_; (with_reducible refine (find_From.calls k a0_0 a0_1 _ _ l0_2 _ _ l0_3 ji6 t581 t582 _ ?side1 ?side2 ?side3 ?side4 A8.out).mono ?_); (case side1 => exact kc (Kd.C_below HR0_2.out HB.out)); (case side2 => exact HC0_2.out); (case side3 => exact kc (Kd.C_below HR0_3.out HB.out)); (case side4 => exact HC0_3.out); clear A8; rintro e w17 ⟨rfl, hb⟩; refine ⟨_, rfl, ?_⟩; replace BK550 := am (blk_below (kp BK550.out) hb); replace HB := am (below_step (bl1 HB.out GE550.out) hb); (try clear hb); (try clear hb2); (try clear hk); (try clear hi); have hcz18_0 : w17.cell? ⟨gb550, 0, none⟩ = some (.int .i64 a0_0) := bc BK550.out 0; have hcz18_1 : w17.cell? ⟨gb550, 1, none⟩ = some (.int .i64 a0_1) := bc BK550.out 1; have hcz18_2 : w17.cell? ⟨gb550, 2, none⟩ = some (.slice A0_2 l0_2.length c0_2) := bc BK550.out 2; have hcz18_3 : w17.cell? ⟨gb550, 3, none⟩ = some (.slice A0_3 l0_3.length c0_3) := bc BK550.out 3; have hfz18_0 := blk_frozen BK550.out 0; have hfz18_1 := blk_frozen BK550.out 1; have hfz18_2 := blk_frozen BK550.out 2; have hfz18_3 := blk_frozen BK550.out 3) | ((with_reducible refine gate_callee (f := 22) rfl ?_); refine goesL_ (some 38) rfl rfl Try.func22 (by kernel_rfl) rfl #[.agg #[.int .i64 a0_0, .int .i64 a0_1, .slice A0_2 l0_2.length c0_2, .slice A0_3 l0_3.length c0_3], .int .i64 ji7] rfl (by (try simp only [List.map_toArray, List.map_cons, List.map_nil]); first | done | (simp only [hji7]; rfl) | rfl | (simp only [List.length_drop, List.length_take]; rfl)) ?_; (with_reducible refine (find_From.calls k a0_0 a0_1 _ _ l0_2 _ _ l0_3 ji7 t583 t584 _ ?side1 ?side2 ?side3 ?side4 A9.out).mono ?_); (case side1 => exact kc (Kd.C_below HR0_2.out HB.out)); (case side2 => exact HC0_2.out); (case side3 => exact kc (Kd.C_below HR0_3.out HB.out)); (case side4 => exact HC0_3.out); clear A9; rintro e w19 ⟨rfl, hb⟩; refine ⟨_, rfl, ?_⟩; replace BK550 := am (blk_below (kp BK550.out) hb); replace HB := am (below_step (bl1 HB.out GE550.out) hb); (try clear hb); (try clear hb2); (try clear hk); (try clear hi); have hcz20_0 : w19.cell? ⟨gb550, 0, none⟩ = some (.int .i64 a0_0) := bc BK550.out 0; have hcz20_1 : w19.cell? ⟨gb550, 1, none⟩ = some (.int .i64 a0_1) := bc BK550.out 1; have hcz20_2 : w19.cell? ⟨gb550, 2, none⟩ = some (.slice A0_2 l0_2.length c0_2) := bc BK550.out 2; have hcz20_3 : w19.cell? ⟨gb550, 3, none⟩ = some (.slice A0_3 l0_3.length c0_3) := bc BK550.out 3; have hfz20_0 := blk_frozen BK550.out 0; have hfz20_1 := blk_frozen BK550.out 1; have hfz20_2 := blk_frozen BK550.out 2; have hfz20_3 := blk_frozen BK550.out 3) | ((with_reducible refine gate_callee (f := 23) rfl ?_); refine goesL_ (some 44) rfl rfl Try.func23 (by kernel_rfl) rfl #[.agg #[.int .i64 a0_0, .int .i64 a0_1, .slice A0_2 l0_2.length c0_2, .slice A0_3 l0_3.length c0_3], .int .i64 ji6] rfl (by (try simp only [List.map_toArray, List.map_cons, List.map_nil]); first | done | (simp only [hji6]; rfl) | rfl | (simp only [List.length_drop, List.length_take]; rfl)) ?_; (with_reducible refine (find_Till.calls k a0_0 a0_1 _ _ l0_2 _ _ l0_3 ji6 t585 t586 _ ?side1 ?side2 ?side3 ?side4 A10.out).mono ?_); (case side1 => exact kc (Kd.C_below HR0_2.out HB.out)); (case side2 => exact HC0_2.out); (case side3 => exact kc (Kd.C_below HR0_3.out HB.out)); (case side4 => exact HC0_3.out); clear A10; rintro e w21 ⟨rfl, hb⟩; refine ⟨_, rfl, ?_⟩; replace BK550 := am (blk_below (kp BK550.out) hb); replace HB := am (below_step (bl1 HB.out GE550.out) hb); (try clear hb); (try clear hb2); (try clear hk); (try clear hi); have hcz22_0 : w21.cell? ⟨gb550, 0, none⟩ = some (.int .i64 a0_0) := bc BK550.out 0; have hcz22_1 : w21.cell? ⟨gb550, 1, none⟩ = some (.int .i64 a0_1) := bc BK550.out 1; have hcz22_2 : w21.cell? ⟨gb550, 2, none⟩ = some (.slice A0_2 l0_2.length c0_2) := bc BK550.out 2; have hcz22_3 : w21.cell? ⟨gb550, 3, none⟩ = some (.slice A0_3 l0_3.length c0_3) := bc BK550.out 3; have hfz22_0 := blk_frozen BK550.out 0; have hfz22_1 := blk_frozen BK550.out 1; have hfz22_2 := blk_frozen BK550.out 2; have hfz22_3 := blk_frozen BK550.out 3) | ((with_reducible refine gate_callee (f := 23) rfl ?_); refine goesL_ (some 50) rfl rfl Try.func23 (by kernel_rfl) rfl #[.agg #[.int .i64 a0_0, .int .i64 a0_1, .slice A0_2 l0_2.length c0_2, .slice A0_3 l0_3.length c0_3], .int .i64 ji7] rfl (by (try simp only [List.map_toArray, List.map_cons, List.map_nil]); first | done | (simp only [hji7]; rfl) | rfl | (simp only [List.length_drop, List.length_take]; rfl)) ?_; (with_reducible refine (find_Till.calls k a0_0 a0_1 _ _ l0_2 _ _ l0_3 ji7 t587 t588 _ ?side1 ?side2 ?side3 ?side4 A11.out).mono ?_); (case side1 => exact kc (Kd.C_below HR0_2.out HB.out)); (case side2 => exact HC0_2.out); (case side3 => exact kc (Kd.C_below HR0_3.out HB.out)); (case side4 => exact HC0_3.out); clear A11; rintro e w23 ⟨rfl, hb⟩; refine ⟨_, rfl, ?_⟩; replace BK550 := am (blk_below (kp BK550.out) hb); replace HB := am (below_step (bl1 HB.out GE550.out) hb); (try clear hb); (try clear hb2); (try clear hk); (try clear hi)))
  (try simp only [Act.put, List.setIfInBounds_toArray, List.set_cons_zero, List.set_cons_succ])
  go_cut [74] (fun v74 wc => ∃ (kq : Nat) (x74_11 : Bool), v74 = .bool x74_11 ∧ Aside0 (epactlaw07_FindRises.j0 kq x74_11 a0_0 a0_1 l0_2 l0_3 = some r) ∧ Aside0 (kq ≤ k) ∧ Aside0 (wc.heap[gb550]? = some (.cells #[.int .i64 a0_0, .int .i64 a0_1, (.slice A0_2 l0_2.length c0_2), (.slice A0_3 l0_3.length c0_3)] 28 (0, 0))) ∧ Aside0 (Below w.heap.size w wc))
  case first =>
   have H := HC12.out
   clear HC12
   by_cases c24 : t584 = true
   ·subst c24
    have H1 : (if t582 = true then (if t581 > t583 then (none) else (if t586 = true then (if t588 = true then (epactlaw07_FindRises.j0 k (decide (t585 > t587)) a0_0 a0_1 l0_2 l0_3) else (none)) else (epactlaw07_FindRises.j0 k false a0_0 a0_1 l0_2 l0_3))) else (none)) = some r := by rw [if_pos rfl] at H; exact H
    clear H
    have H := H1
    clear H1
    by_cases c25 : t582 = true
    ·subst c25
     have H1 : (if t581 > t583 then (none) else (if t586 = true then (if t588 = true then (epactlaw07_FindRises.j0 k (decide (t585 > t587)) a0_0 a0_1 l0_2 l0_3) else (none)) else (epactlaw07_FindRises.j0 k false a0_0 a0_1 l0_2 l0_3))) = some r := by rw [if_pos rfl] at H; exact H
     clear H
     have H := H1
     clear H1
     by_cases c26 : t581 > t583
     ·rw [if_pos c26] at H
      exact absurd H (by simp)
     ·rw [if_neg c26] at H
      have c26b0 : decide (t583 < t581) = false := decide_eq_false c26
      clear c26
      (first | rw [c26b0] | (simp only [i64_w, i32_w]; rw [c26b0]) | skip)
      by_cases c27 : t586 = true
      ·subst c27
       have H1 : (if t588 = true then (epactlaw07_FindRises.j0 k (decide (t585 > t587)) a0_0 a0_1 l0_2 l0_3) else (none)) = some r := by rw [if_pos rfl] at H; exact H
       clear H
       have H := H1
       clear H1
       by_cases c28 : t588 = true
       ·subst c28
        have H1 : (epactlaw07_FindRises.j0 k (decide (t585 > t587)) a0_0 a0_1 l0_2 l0_3) = some r := by rw [if_pos rfl] at H; exact H
        clear H
        have H := H1
        clear H1
        have H' := am H
        clear H
        go_wp2
        go_meet
        case rel => exact ⟨_, (decide (t585 > t587)), sm, H', ⟨by first | omega | exact Nat.le_refl _⟩, ⟨kp BK550.out⟩, ⟨bl1 HB.out GE550.out⟩⟩
       ·replace c28 := Bool.eq_false_iff.mpr c28
        subst c28
        have H1 : (none) = some r := by rw [if_neg (show ¬ (false = true) by decide)] at H; exact H
        clear H
        have H := H1
        clear H1
        exact absurd H (by simp)
      ·replace c27 := Bool.eq_false_iff.mpr c27
       subst c27
       have H1 : (epactlaw07_FindRises.j0 k false a0_0 a0_1 l0_2 l0_3) = some r := by rw [if_neg (show ¬ (false = true) by decide)] at H; exact H
       clear H
       have H := H1
       clear H1
       have H' := am H
       clear H
       go_wp2
       go_meet
       case rel => exact ⟨_, (false), sm, H', ⟨by first | omega | exact Nat.le_refl _⟩, ⟨kp BK550.out⟩, ⟨bl1 HB.out GE550.out⟩⟩
    ·replace c25 := Bool.eq_false_iff.mpr c25
     subst c25
     have H1 : (none) = some r := by rw [if_neg (show ¬ (false = true) by decide)] at H; exact H
     clear H
     have H := H1
     clear H1
     exact absurd H (by simp)
   ·replace c24 := Bool.eq_false_iff.mpr c24
    subst c24
    have H1 : (if t586 = true then (if t588 = true then (epactlaw07_FindRises.j0 k (decide (t585 > t587)) a0_0 a0_1 l0_2 l0_3) else (none)) else (epactlaw07_FindRises.j0 k false a0_0 a0_1 l0_2 l0_3)) = some r := by rw [if_neg (show ¬ (false = true) by decide)] at H; exact H
    clear H
    have H := H1
    clear H1
    by_cases c29 : t586 = true
    ·subst c29
     have H1 : (if t588 = true then (epactlaw07_FindRises.j0 k (decide (t585 > t587)) a0_0 a0_1 l0_2 l0_3) else (none)) = some r := by rw [if_pos rfl] at H; exact H
     clear H
     have H := H1
     clear H1
     by_cases c30 : t588 = true
     ·subst c30
      have H1 : (epactlaw07_FindRises.j0 k (decide (t585 > t587)) a0_0 a0_1 l0_2 l0_3) = some r := by rw [if_pos rfl] at H; exact H
      clear H
      have H := H1
      clear H1
      have H' := am H
      clear H
      go_wp2
      go_meet
      case rel => exact ⟨_, (decide (t585 > t587)), sm, H', ⟨by first | omega | exact Nat.le_refl _⟩, ⟨kp BK550.out⟩, ⟨bl1 HB.out GE550.out⟩⟩
     ·replace c30 := Bool.eq_false_iff.mpr c30
      subst c30
      have H1 : (none) = some r := by rw [if_neg (show ¬ (false = true) by decide)] at H; exact H
      clear H
      have H := H1
      clear H1
      exact absurd H (by simp)
    ·replace c29 := Bool.eq_false_iff.mpr c29
     subst c29
     have H1 : (epactlaw07_FindRises.j0 k false a0_0 a0_1 l0_2 l0_3) = some r := by rw [if_neg (show ¬ (false = true) by decide)] at H; exact H
     clear H
     have H := H1
     clear H1
     have H' := am H
     clear H
     go_wp2
     go_meet
     case rel => exact ⟨_, (false), sm, H', ⟨by first | omega | exact Nat.le_refl _⟩, ⟨kp BK550.out⟩, ⟨bl1 HB.out GE550.out⟩⟩
  case rest =>
   clear HC12
   try clear c1
   try clear c2
   try clear p2
   try clear c3
   try clear c5
   try clear c6
   try clear c17
   try clear c22
   try clear c23
   try clear c24
   try clear c25
   try clear c26
   try clear c26b0
   try clear c27
   try clear c28
   try clear c29
   try clear c30
   try clear hcz14_0
   try clear hcz14_1
   try clear hcz14_2
   try clear hcz14_3
   try clear hcz16_0
   try clear hcz16_1
   try clear hcz16_2
   try clear hcz16_3
   try clear hcz18_0
   try clear hcz18_1
   try clear hcz18_2
   try clear hcz18_3
   try clear hcz20_0
   try clear hcz20_1
   try clear hcz20_2
   try clear hcz20_3
   try clear hcz22_0
   try clear hcz22_1
   try clear hcz22_2
   try clear hcz22_3
   try clear hfz14_0
   try clear hfz14_1
   try clear hfz14_2
   try clear hfz14_3
   try clear hfz16_0
   try clear hfz16_1
   try clear hfz16_2
   try clear hfz16_3
   try clear hfz18_0
   try clear hfz18_1
   try clear hfz18_2
   try clear hfz18_3
   try clear hfz20_0
   try clear hfz20_1
   try clear hfz20_2
   try clear hfz20_3
   try clear hfz22_0
   try clear hfz22_1
   try clear hfz22_2
   try clear hfz22_3
   obtain ⟨kq, x74_11, rfl, HA, HJ11, BK550, HB⟩ := hcut
   cases kq with
   | zero => exact absurd HA.out (by simp [epactlaw07_FindRises.j0])
   | succ kj11 =>
    have H := HA.out
    clear HA
    simp only [epactlaw07_FindRises.j0] at H
    by_cases c31 : x74_11 = true
    ·subst c31
     have H1 : (none) = some r := by rw [if_pos rfl] at H; exact H
     clear H
     have H := H1
     clear H1
     exact absurd H (by simp)
    ·replace c31 := Bool.eq_false_iff.mpr c31
     subst c31
     have H1 : ((find_From.f kj11 a0_0 a0_1 l0_2 l0_3 1099511627777).bind fun bt604 => ((find_Till.f kj11 a0_0 a0_1 l0_2 l0_3 (-1099511627777)).bind fun bt606 => (if bt604.2 = true then (none) else (if bt606.2 = true then (none) else (if (wrap64 (bt604.1 + bt606.1)) = 0 then ((epactlaw07_awake.f kj11).bind fun t608 => (some t608)) else (none)))))) = some r := by rw [if_neg (show ¬ (false = true) by decide)] at H; exact H
     clear H
     have H := H1
     clear H1
     replace H := Option.bind_eq_some_iff.mp H
     obtain ⟨⟨t604, t605⟩, A320, H⟩ := H
     try dsimp only at H
     have A32 := am A320
     clear A320
     replace H := Option.bind_eq_some_iff.mp H
     obtain ⟨⟨t606, t607⟩, A330, H⟩ := H
     try dsimp only at H
     have A33 := am A330
     clear A330
     by_cases c34 : t605 = true
     ·subst c34
      have H1 : (none) = some r := by rw [if_pos rfl] at H; exact H
      clear H
      have H := H1
      clear H1
      exact absurd H (by simp)
     ·replace c34 := Bool.eq_false_iff.mpr c34
      subst c34
      have H1 : (if t607 = true then (none) else (if (wrap64 (t604 + t606)) = 0 then ((epactlaw07_awake.f kj11).bind fun t608 => (some t608)) else (none))) = some r := by rw [if_neg (show ¬ (false = true) by decide)] at H; exact H
      clear H
      have H := H1
      clear H1
      by_cases c35 : t607 = true
      ·subst c35
       have H1 : (none) = some r := by rw [if_pos rfl] at H; exact H
       clear H
       have H := H1
       clear H1
       exact absurd H (by simp)
      ·replace c35 := Bool.eq_false_iff.mpr c35
       subst c35
       have H1 : (if (wrap64 (t604 + t606)) = 0 then ((epactlaw07_awake.f kj11).bind fun t608 => (some t608)) else (none)) = some r := by rw [if_neg (show ¬ (false = true) by decide)] at H; exact H
       clear H
       have H := H1
       clear H1
       by_cases c36 : (wrap64 (t604 + t606)) = 0
       ·rw [if_pos c36] at H
        have c36b0 : ((wrap64 (t604 + t606)) == 0) = true := beq_iff_eq.mpr c36
        have c36b1 : ((wrap64 (t604 + t606)) != 0) = false := bne_eq_false_iff_eq.mpr c36
        clear c36
        replace H := Option.bind_eq_some_iff.mp H
        obtain ⟨t608, A370, H⟩ := H
        try dsimp only at H
        have A37 := am A370
        clear A370
        obtain rfl := Option.some.inj H
        have hcz38_0 : wc.cell? ⟨gb550, 0, none⟩ = some (.int .i64 a0_0) := bc BK550.out 0
        have hcz38_1 : wc.cell? ⟨gb550, 1, none⟩ = some (.int .i64 a0_1) := bc BK550.out 1
        have hcz38_2 : wc.cell? ⟨gb550, 2, none⟩ = some (.slice A0_2 l0_2.length c0_2) := bc BK550.out 2
        have hcz38_3 : wc.cell? ⟨gb550, 3, none⟩ = some (.slice A0_3 l0_3.length c0_3) := bc BK550.out 3
        have hfz38_0 := blk_frozen BK550.out 0
        have hfz38_1 := blk_frozen BK550.out 1
        have hfz38_2 := blk_frozen BK550.out 2
        have hfz38_3 := blk_frozen BK550.out 3
        go_wp2_with (first | ((with_reducible refine gate_callee (f := 22) rfl ?_); refine goesL_ (some 77) rfl rfl Try.func22 (by kernel_rfl) rfl #[.agg #[.int .i64 a0_0, .int .i64 a0_1, .slice A0_2 l0_2.length c0_2, .slice A0_3 l0_3.length c0_3], .int .i64 1099511627777] rfl ar ?_; (with_reducible refine (find_From.calls kj11 a0_0 a0_1 _ _ l0_2 _ _ l0_3 1099511627777 t604 false _ ?side1 ?side2 ?side3 ?side4 A32.out).mono ?_); (case side1 => exact kc (Kd.C_below HR0_2.out HB.out)); (case side2 => exact HC0_2.out); (case side3 => exact kc (Kd.C_below HR0_3.out HB.out)); (case side4 => exact HC0_3.out); clear A32; rintro e w39 ⟨rfl, hb⟩; refine ⟨_, rfl, ?_⟩; replace BK550 := am (blk_below (kp BK550.out) hb); replace HB := am (below_step (bl1 HB.out GE550.out) hb); (try clear hb); (try clear hb2); (try clear hk); (try clear hi); have hcz40_0 : w39.cell? ⟨gb550, 0, none⟩ = some (.int .i64 a0_0) := bc BK550.out 0; have hcz40_1 : w39.cell? ⟨gb550, 1, none⟩ = some (.int .i64 a0_1) := bc BK550.out 1; have hcz40_2 : w39.cell? ⟨gb550, 2, none⟩ = some (.slice A0_2 l0_2.length c0_2) := bc BK550.out 2; have hcz40_3 : w39.cell? ⟨gb550, 3, none⟩ = some (.slice A0_3 l0_3.length c0_3) := bc BK550.out 3; have hfz40_0 := blk_frozen BK550.out 0; have hfz40_1 := blk_frozen BK550.out 1; have hfz40_2 := blk_frozen BK550.out 2; have hfz40_3 := blk_frozen BK550.out 3) | ((with_reducible refine gate_callee (f := 23) rfl ?_); refine goesL_ (some 82) rfl rfl Try.func23 (by kernel_rfl) rfl #[.agg #[.int .i64 a0_0, .int .i64 a0_1, .slice A0_2 l0_2.length c0_2, .slice A0_3 l0_3.length c0_3], .int .i64 (-1099511627777)] rfl ar ?_; (with_reducible refine (find_Till.calls kj11 a0_0 a0_1 _ _ l0_2 _ _ l0_3 (-1099511627777) t606 false _ ?side1 ?side2 ?side3 ?side4 A33.out).mono ?_); (case side1 => exact kc (Kd.C_below HR0_2.out HB.out)); (case side2 => exact HC0_2.out); (case side3 => exact kc (Kd.C_below HR0_3.out HB.out)); (case side4 => exact HC0_3.out); clear A33; rintro e w41 ⟨rfl, hb⟩; refine ⟨_, rfl, ?_⟩; replace BK550 := am (blk_below (kp BK550.out) hb); replace HB := am (below_step (bl1 HB.out GE550.out) hb); (try clear hb); (try clear hb2); (try clear hk); (try clear hi)) | (go_at_call 16; (with_reducible refine (epactlaw07_awake.calls kj11  t608 _ A37.out).mono ?_); clear A37; rintro e w42 ⟨rfl, hb⟩; replace BK550 := am (blk_below (kp BK550.out) hb); replace HB := am (below_step (bl1 HB.out GE550.out) hb); (try clear hb); (try clear hb2); (try clear hk); (try clear hi)))
        go_ret
        exact ⟨by first | rfl | (simp [errW_none, errW_some] <;> rfl) | (simp only [← hji6, ← hji7]; first | rfl | (simp [errW_none, errW_some] <;> rfl)) | (simp [*, errW_none, errW_some] <;> rfl), bl1 HB.out GE550.out⟩
       ·rw [if_neg c36] at H
        exact absurd H (by simp)
 ·replace c5 := Bool.eq_false_iff.mpr c5
  subst c5
  have H1 : ((epactlaw07_awake.f k).bind fun t552 => (some t552)) = some r := by rw [if_neg (show ¬ (false = true) by decide)] at H; exact H
  clear H
  have H := H1
  clear H1
  replace H := Option.bind_eq_some_iff.mp H
  obtain ⟨t552, A430, H⟩ := H
  try dsimp only at H
  have A43 := am A430
  clear A430
  obtain rfl := Option.some.inj H
  go_enter Try.func6, Try.ntmps6
  go_wp2_with (first | ((with_reducible refine gate_dst (N := 3) rfl ?_); refine bx 3 28 #[.int .i64 a0_0, .int .i64 a0_1, .slice A0_2 l0_2.length c0_2, .slice A0_3 l0_3.length c0_3] ?_; intro gb550 hg w44 hbox hb; have BK550 := am (hbox); have GW550 := am ((bz hg HB.out : w.heap.size ≤ gb550)); have GE550 := am ((bz hg HB.out : w.heap.size ≤ gb550)); replace HB := am (below_step (bl HB.out) hb); clear hb hbox hg; have hcz45_0 : w44.cell? ⟨gb550, 0, none⟩ = some (.int .i64 a0_0) := bc BK550.out 0; have hcz45_1 : w44.cell? ⟨gb550, 1, none⟩ = some (.int .i64 a0_1) := bc BK550.out 1; have hcz45_2 : w44.cell? ⟨gb550, 2, none⟩ = some (.slice A0_2 l0_2.length c0_2) := bc BK550.out 2; have hcz45_3 : w44.cell? ⟨gb550, 3, none⟩ = some (.slice A0_3 l0_3.length c0_3) := bc BK550.out 3; have hfz45_0 := blk_frozen BK550.out 0; have hfz45_1 := blk_frozen BK550.out 1; have hfz45_2 := blk_frozen BK550.out 2; have hfz45_3 := blk_frozen BK550.out 3) | ((with_reducible refine gate_callee (f := 17) rfl ?_); refine goesL_ (some 20) rfl rfl Try.func17 (by kernel_rfl) rfl #[.agg #[.int .i64 a0_0, .int .i64 a0_1, .slice A0_2 l0_2.length c0_2, .slice A0_3 l0_3.length c0_3]] rfl ar ?_; (with_reducible refine (epactlaw07_right.calls k a0_0 a0_1 _ _ l0_2 _ _ l0_3 false _ ?side1 ?side2 ?side3 ?side4 A4.out).mono ?_); (case side1 => exact kc (Kd.C_below HR0_2.out HB.out)); (case side2 => exact HC0_2.out); (case side3 => exact kc (Kd.C_below HR0_3.out HB.out)); (case side4 => exact HC0_3.out); clear A4; rintro e w46 ⟨rfl, hb⟩; refine ⟨_, rfl, ?_⟩; replace BK550 := am (blk_below (kp BK550.out) hb); replace HB := am (below_step (bl1 HB.out GE550.out) hb); (try clear hb); (try clear hb2); (try clear hk); (try clear hi)) | ((with_reducible refine gate_callee (f := 16) rfl ?_); refine goesL_ (some 22) rfl rfl Try.func16 (by kernel_rfl) rfl #[] rfl ar ?_; (with_reducible refine (epactlaw07_awake.calls k  t552 _ A43.out).mono ?_); clear A43; rintro e w47 ⟨rfl, hb⟩; refine ⟨_, rfl, ?_⟩; replace BK550 := am (blk_below (kp BK550.out) hb); replace HB := am (below_step (bl1 HB.out GE550.out) hb); (try clear hb); (try clear hb2); (try clear hk); (try clear hi)))
  go_ret
  exact ⟨rt, bl1 HB.out GE550.out⟩

end Go.Proofs.Ytmbmalkpmanaaaa.P

namespace Go.Proofs.Ytmbmalkpmanaaaa.P
set_option linter.unusedVariables false
set_option linter.unusedSimpArgs false
open Go.RowKit

def SL (lo hi : Int) : List Sp → Prop
  | [] => True
  | s :: r => lo ≤ s.f0 ∧ s.f0 ≤ s.f1 ∧ s.f1 ≤ hi ∧ SL (s.f1 + 2) hi r
def hasL (l : List Sp) (x : Int) : Bool := l.any fun s => decide (s.f0 ≤ x) && decide (x ≤ s.f1)

theorem hasL_nil (x : Int) : hasL [] x = false := rfl
theorem hasL_cons (s : Sp) (r : List Sp) (x : Int) : hasL (s :: r) x = ((decide (s.f0 ≤ x) && decide (x ≤ s.f1)) || hasL r x) := rfl
theorem SL.mono {lo lo' hi : Int} (h : lo' ≤ lo) : ∀ {l : List Sp}, SL lo hi l → SL lo' hi l
  | [], _ => trivial
  | _ :: _, hs => ⟨by have := hs.1; omega, hs.2⟩
theorem SL.low {lo hi : Int} {l : List Sp} (hs : SL lo hi l) {x : Int} (hx : x < lo) : hasL l x = false := by
  induction l generalizing lo with
  | nil => rfl
  | cons s r ih =>
    obtain ⟨h1, h2, h3, h4⟩ := hs
    rw [hasL_cons, ih h4 (by omega)]
    have : ¬ s.f0 ≤ x := by omega
    simp [this]
theorem SL.high {lo hi : Int} {l : List Sp} (hs : SL lo hi l) {x : Int} (hx : hi < x) : hasL l x = false := by
  induction l generalizing lo with
  | nil => rfl
  | cons s r ih =>
    obtain ⟨h1, h2, h3, h4⟩ := hs
    rw [hasL_cons, ih h4]
    have : ¬ x ≤ s.f1 := by omega
    simp [this]
theorem SL.ticks {lo hi : Int} {l : List Sp} (hs : SL lo hi l) {s : Sp} (h : s ∈ l) : lo ≤ s.f0 ∧ s.f0 ≤ s.f1 ∧ s.f1 ≤ hi := by
  induction l generalizing lo with
  | nil => simp at h
  | cons t r ih =>
    obtain ⟨h1, h2, h3, h4⟩ := hs
    rcases List.mem_cons.1 h with rfl | h
    · exact ⟨h1, h2, h3⟩
    · obtain ⟨a, b, c⟩ := ih h4 h
      exact ⟨by omega, b, c⟩

theorem SL.uniq {hi hi' : Int} : ∀ {l m : List Sp} {lo lo' : Int}, SL lo hi l → SL lo' hi' m → (∀ x, hasL l x = hasL m x) → l = m
  | [], [], _, _, _, _, _ => rfl
  | [], t :: r, _, _, _, hm, h => by
    have := h t.f0
    rw [hasL_cons] at this
    have h2 := hm.2.1
    simp [hasL_nil, h2] at this
  | s :: r, [], _, _, hl, _, h => by
    have := h s.f0
    rw [hasL_cons] at this
    have h2 := hl.2.1
    simp [hasL_nil, h2] at this
  | s :: r, t :: q, lo, lo', hl, hm, h => by
    obtain ⟨a1, a2, a3, a4⟩ := hl
    obtain ⟨b1, b2, b3, b4⟩ := hm
    have key : ∀ {s t : Sp} {r q : List Sp} {hi hi' : Int}, s.f0 ≤ s.f1 → t.f0 ≤ t.f1 → SL (s.f1 + 2) hi r → SL (t.f1 + 2) hi' q → (∀ x, hasL (s :: r) x = hasL (t :: q) x) → t.f0 ≤ s.f0 := by
      intro s t r q hi hi' a2 b2 a4 b4 h
      by_cases hlt : t.f0 ≤ s.f0
      · exact hlt
      · have hx := h s.f0
        rw [hasL_cons, hasL_cons, b4.low (by omega)] at hx
        have : ¬ t.f0 ≤ s.f0 := hlt
        simp [this, a2] at hx
    have e0 : s.f0 = t.f0 := by
      have h1 := key a2 b2 a4 b4 h
      have h2 := key b2 a2 b4 a4 (fun x => (h x).symm)
      omega
    have key2 : ∀ {s t : Sp} {r q : List Sp} {hi hi' : Int}, s.f0 = t.f0 → s.f0 ≤ s.f1 → t.f0 ≤ t.f1 → SL (s.f1 + 2) hi r → SL (t.f1 + 2) hi' q → (∀ x, hasL (s :: r) x = hasL (t :: q) x) → t.f1 ≤ s.f1 := by
      intro s t r q hi hi' e0 a2 b2 a4 b4 h
      by_cases hlt : t.f1 ≤ s.f1
      · exact hlt
      · have hx := h (s.f1 + 1)
        rw [hasL_cons, hasL_cons, a4.low (by omega)] at hx
        have c1 : ¬ s.f1 + 1 ≤ s.f1 := by omega
        have c2 : t.f0 ≤ s.f1 + 1 := by omega
        have c3 : s.f1 + 1 ≤ t.f1 := by omega
        simp [c2, c3] at hx
        omega
    have e1 : s.f1 = t.f1 := by
      have h1 := key2 e0 a2 b2 a4 b4 h
      have h2 := key2 e0.symm b2 a2 b4 a4 (fun x => (h x).symm)
      omega
    have est : s = t := by cases s; cases t; simp only at e0 e1; rw [e0, e1]
    subst est
    have : r = q := SL.uniq a4 b4 (fun x => by
      have hx := h x
      rw [hasL_cons, hasL_cons] at hx
      by_cases hc : x < s.f1 + 2
      · rw [a4.low hc, b4.low hc]
      · have : ¬ x ≤ s.f1 := by omega
        simpa [this] using hx)
    rw [this]

def Inv (hi : Int) (a : List Sp) (i : Bool) (p : Int) : Prop :=
  match a, i with
  | [], i => i = false
  | s :: r, true => s.f0 ≤ p ∧ p ≤ s.f1 ∧ s.f1 ≤ hi ∧ SL (s.f1 + 2) hi r
  | s :: r, false => SL (p + 1) hi (s :: r)
theorem wrap_ok {n : Int} (h1 : -9223372036854775808 ≤ n) (h2 : n ≤ 9223372036854775807) : wrap64 n = n := by unfold wrap64; omega
theorem Inv.nxt {hi p : Int} {a : List Sp} {i : Bool} (h : Inv hi a i p) (hp : -4611686018427387904 ≤ p) (hh : hi ≤ 4611686018427387904) (hn : a ≠ []) : p < nxtL a i ∧ nxtL a i ≤ hi + 1 := by
  match a, i, hn with
  | s :: r, true, _ =>
    obtain ⟨h1, h2, h3, h4⟩ := h
    have hw : wrap64 (s.f1 + 1) = s.f1 + 1 := wrap_ok (by omega) (by omega)
    simp only [nxtL, hw]
    omega
  | s :: r, false, _ =>
    obtain ⟨h1, h2, h3, h4⟩ := h
    simp only [nxtL]
    omega
theorem Inv.step {hi p t : Int} {a : List Sp} {i : Bool} (h : Inv hi a i p) (hp : -4611686018427387904 ≤ p) (hh : hi ≤ 4611686018427387904) (hpt : p < t) (ht : a ≠ [] → t ≤ nxtL a i) :
    Inv hi (pastL a i t).1 (pastL a i t).2 t ∧ (∀ x, t ≤ x → hasL (pastL a i t).1 x = hasL a x) ∧ (∀ x, p ≤ x → x < t → hasL a x = i) := by
  match a, i with
  | [], i =>
    have : i = false := h
    subst this
    exact ⟨rfl, fun _ _ => rfl, fun _ _ _ => rfl⟩
  | s :: r, true =>
    obtain ⟨h1, h2, h3, h4⟩ := h
    have hw : wrap64 (s.f1 + 1) = s.f1 + 1 := wrap_ok (by omega) (by omega)
    have ht' := ht (by simp)
    simp only [nxtL, hw] at ht'
    have hin : ∀ x, p ≤ x → x < t → hasL (s :: r) x = true := fun x a b => by
      have c1 : s.f0 ≤ x := by omega
      have c2 : x ≤ s.f1 := by omega
      simp [hasL_cons, c1, c2]
    simp only [pastL, hw]
    by_cases e : s.f1 + 1 = t
    · rw [if_pos e]
      refine ⟨?_, fun x hx => ?_, hin⟩
      · cases r with
        | nil => rfl
        | cons u r => exact SL.mono (by omega) h4
      · have : ¬ x ≤ s.f1 := by omega
        simp [hasL_cons, this]
    · rw [if_neg e]
      exact ⟨⟨by omega, by omega, h3, h4⟩, fun _ _ => rfl, hin⟩
  | s :: r, false =>
    obtain ⟨h1, h2, h3, h4⟩ := h
    have ht' := ht (by simp)
    simp only [nxtL] at ht'
    have hout : ∀ x, p ≤ x → x < t → hasL (s :: r) x = false := fun x a b => by
      have c1 : ¬ s.f0 ≤ x := by omega
      rw [hasL_cons, h4.low (by omega)]
      simp [c1]
    simp only [pastL]
    by_cases e : s.f0 = t
    · rw [if_pos e]
      exact ⟨⟨by omega, by omega, h3, h4⟩, fun _ _ => rfl, hout⟩
    · rw [if_neg e]
      exact ⟨⟨by omega, h2, h3, h4⟩, fun _ _ => rfl, hout⟩

theorem fold_out (yes : Bool → Bool → Bool) (xs : List Bd) : ∀ (i : Bool) (f : Int) (o : List Sp), (xs.foldl (kstep yes) ⟨i, f, o⟩).out = o ++ (xs.foldl (kstep yes) ⟨i, f, []⟩).out := by
  induction xs with
  | nil => intro i f o; simp
  | cons x xs ih =>
    intro i f o
    simp only [List.foldl_cons, kstep]
    split
    · exact ih _ _ _
    · split
      · rw [ih _ _ (o ++ _), ih _ _ ([] ++ _)]; simp
      · exact ih _ _ _

theorem sweep (yes : Bool → Bool → Bool) (hy : yes false false = false) (hi lo0 : Int) (hlo : -4611686018427387904 ≤ lo0) (hh : hi ≤ 4611686018427387904) (n : Nat) : ∀ (a : List Sp) (ia : Bool) (b : List Sp) (ib : Bool) (p from_ : Int),
    msr a ia + msr b ib ≤ n → Inv hi a ia p → Inv hi b ib p → lo0 ≤ p + 1 → -4611686018427387904 ≤ p → (yes ia ib = true → lo0 ≤ from_ ∧ from_ ≤ p) →
    SL (if yes ia ib then from_ else p + 1) hi ((bords a ia b ib).foldl (kstep yes) ⟨yes ia ib, from_, []⟩).out ∧
    ∀ x, hasL ((bords a ia b ib).foldl (kstep yes) ⟨yes ia ib, from_, []⟩).out x = if x < p then (yes ia ib && decide (from_ ≤ x)) else yes (hasL a x) (hasL b x) := by
  induction n with
  | zero =>
    intro a ia b ib p from_ hm ha hb hp hp2 hf
    have e : a = [] ∧ b = [] := by
      by_cases e : a = [] ∧ b = []
      · exact e
      · have := step_lt a ia b ib e; omega
    obtain ⟨rfl, rfl⟩ := e
    have h1 : ia = false := ha
    have h2 : ib = false := hb
    subst h1 h2
    rw [bords_nil, hy]
    refine ⟨trivial, fun x => ?_⟩
    simp [hasL_nil, hy]
  | succ n ih =>
    intro a ia b ib p from_ hm ha hb hp hp2 hf
    by_cases e : a = [] ∧ b = []
    · obtain ⟨rfl, rfl⟩ := e
      have h1 : ia = false := ha
      have h2 : ib = false := hb
      subst h1 h2
      rw [bords_nil, hy]
      refine ⟨trivial, fun x => ?_⟩
      simp [hasL_nil, hy]
    · have hlt := step_lt a ia b ib e
      rw [bords_cons a ia b ib e]
      have ht : p < atL a ia b ib ∧ atL a ia b ib ≤ hi + 1 ∧ (a ≠ [] → atL a ia b ib ≤ nxtL a ia) ∧ (b ≠ [] → atL a ia b ib ≤ nxtL b ib) := by
        unfold atL
        by_cases h1 : a = []
        · have h2 : b ≠ [] := fun h => e ⟨h1, h⟩
          rw [if_pos h1]
          have := hb.nxt hp2 hh h2
          exact ⟨this.1, this.2, fun h => absurd h1 h, fun _ => Int.le_refl _⟩
        · rw [if_neg h1]
          have q1 := ha.nxt hp2 hh h1
          by_cases h2 : b = []
          · rw [if_pos h2]
            exact ⟨q1.1, q1.2, fun _ => Int.le_refl _, fun h => absurd h2 h⟩
          · rw [if_neg h2]
            have q2 := hb.nxt hp2 hh h2
            exact ⟨by omega, by omega, fun _ => by omega, fun _ => by omega⟩
      obtain ⟨t, hte⟩ : ∃ t, atL a ia b ib = t := ⟨_, rfl⟩
      rw [hte] at ht hlt ⊢
      obtain ⟨ht1, ht2, ht3, ht4⟩ := ht
      obtain ⟨ia2, ha2, ha3⟩ := ha.step hp2 hh ht1 ht3
      obtain ⟨ib2, hb2, hb3⟩ := hb.step hp2 hh ht1 ht4
      obtain ⟨a1, ia1, hpa⟩ : ∃ a1 ia1, pastL a ia t = (a1, ia1) := ⟨_, _, rfl⟩
      obtain ⟨b1, ib1, hpb⟩ : ∃ b1 ib1, pastL b ib t = (b1, ib1) := ⟨_, _, rfl⟩
      rw [hpa] at hlt ia2 ha2 ⊢
      rw [hpb] at hlt ib2 hb2 ⊢
      dsimp only at hlt ia2 ha2 ib2 hb2 ⊢
      have hw : wrap64 (t - 1) = t - 1 := wrap_ok (by omega) (by omega)
      have hval : ∀ x, p ≤ x → x < t → yes (hasL a x) (hasL b x) = yes ia ib := fun x h1 h2 => by rw [ha3 x h1 h2, hb3 x h1 h2]
      have hval2 : ∀ x, t ≤ x → yes (hasL a1 x) (hasL b1 x) = yes (hasL a x) (hasL b x) := fun x h1 => by rw [ha2 x h1, hb2 x h1]
      simp only [List.foldl_cons]
      cases hin : yes ia ib with
      | false =>
        cases hnow : yes ia1 ib1 with
        | true =>
          have hk : kstep yes ⟨false, from_, []⟩ ⟨t, ia1, ib1⟩ = ⟨yes ia1 ib1, t, []⟩ := by simp [kstep, hnow]
          rw [hk]
          obtain ⟨s1, s2⟩ := ih a1 ia1 b1 ib1 t t (by omega) ia2 ib2 (by omega) (by omega) (fun _ => ⟨by omega, Int.le_refl _⟩)
          rw [hnow] at s1 s2 ⊢
          refine ⟨by simpa using SL.mono (by simp; omega) s1, fun x => ?_⟩
          rw [s2 x]
          by_cases c1 : x < p
          · have c2 : x < t := by omega
            have c3 : ¬ t ≤ x := by omega
            simp [c1, c2, c3]
          · by_cases c2 : x < t
            · have c3 : ¬ t ≤ x := by omega
              rw [if_neg c1, hval x (by omega) c2, hin]
              simp [c2, c3]
            · rw [if_neg c1, if_neg c2, hval2 x (by omega)]
        | false =>
          have hk : kstep yes ⟨false, from_, []⟩ ⟨t, ia1, ib1⟩ = ⟨yes ia1 ib1, from_, []⟩ := by simp [kstep, hnow]
          rw [hk]
          obtain ⟨s1, s2⟩ := ih a1 ia1 b1 ib1 t from_ (by omega) ia2 ib2 (by omega) (by omega) (fun h => by rw [hnow] at h; cases h)
          rw [hnow] at s1 s2 ⊢
          refine ⟨by simpa using SL.mono (by simp; omega) s1, fun x => ?_⟩
          rw [s2 x]
          by_cases c1 : x < p
          · have c2 : x < t := by omega
            simp [c1, c2]
          · by_cases c2 : x < t
            · rw [if_neg c1, hval x (by omega) c2, hin]
              simp [c2]
            · rw [if_neg c1, if_neg c2, hval2 x (by omega)]
      | true =>
        obtain ⟨hf1, hf2⟩ := hf hin
        cases hnow : yes ia1 ib1 with
        | true =>
          have hk : kstep yes ⟨true, from_, []⟩ ⟨t, ia1, ib1⟩ = ⟨yes ia1 ib1, from_, []⟩ := by simp [kstep, hnow]
          rw [hk]
          obtain ⟨s1, s2⟩ := ih a1 ia1 b1 ib1 t from_ (by omega) ia2 ib2 (by omega) (by omega) (fun _ => ⟨hf1, by omega⟩)
          rw [hnow] at s1 s2 ⊢
          refine ⟨by simpa using s1, fun x => ?_⟩
          rw [s2 x]
          by_cases c1 : x < p
          · have c2 : x < t := by omega
            simp [c1, c2]
          · by_cases c2 : x < t
            · have c3 : from_ ≤ x := by omega
              rw [if_neg c1, hval x (by omega) c2, hin]
              simp [c2, c3]
            · rw [if_neg c1, if_neg c2, hval2 x (by omega)]
        | false =>
          have hk : kstep yes ⟨true, from_, []⟩ ⟨t, ia1, ib1⟩ = ⟨yes ia1 ib1, from_, [⟨from_, t - 1⟩]⟩ := by simp [kstep, hnow, hw]
          rw [hk, fold_out]
          obtain ⟨s1, s2⟩ := ih a1 ia1 b1 ib1 t from_ (by omega) ia2 ib2 (by omega) (by omega) (fun h => by rw [hnow] at h; cases h)
          rw [hnow] at s1 s2 ⊢
          refine ⟨⟨by simp, by show from_ ≤ t - 1; omega, by show t - 1 ≤ hi; omega, ?_⟩, fun x => ?_⟩
          · have : (t - 1 : Int) + 2 = t + 1 := by omega
            show SL (t - 1 + 2) hi _
            rw [this]
            simpa using s1
          · have hcons : hasL ([⟨from_, t - 1⟩] ++ (List.foldl (kstep yes) ⟨false, from_, []⟩ (bords a1 ia1 b1 ib1)).out) x = ((decide (from_ ≤ x) && decide (x ≤ t - 1)) || hasL (List.foldl (kstep yes) ⟨false, from_, []⟩ (bords a1 ia1 b1 ib1)).out x) := rfl
            rw [hcons, s2 x]
            by_cases c1 : x < p
            · have c2 : x < t := by omega
              have c3 : x ≤ t - 1 := by omega
              simp [c1, c2, c3]
            · by_cases c2 : x < t
              · have c3 : from_ ≤ x := by omega
                have c4 : x ≤ t - 1 := by omega
                rw [if_neg c1, hval x (by omega) c2, hin]
                simp [c2, c3, c4]
              · have c4 : ¬ x ≤ t - 1 := by omega
                rw [if_neg c1, if_neg c2, hval2 x (by omega)]
                simp [c4]

theorem keptL_spec (yes : Bool → Bool → Bool) (hy : yes false false = false) {lo hi : Int} (hlo : -4611686018427387903 ≤ lo) (hh : hi ≤ 4611686018427387904) {a b : List Sp} (ha : SL lo hi a) (hb : SL lo hi b) :
    SL lo hi (keptL yes a b) ∧ ∀ x, hasL (keptL yes a b) x = yes (hasL a x) (hasL b x) := by
  have inv : ∀ {a : List Sp}, SL lo hi a → Inv hi a false (lo - 1) := by
    intro a h
    cases a with
    | nil => rfl
    | cons s r => exact SL.mono (by omega) h
  obtain ⟨h1, h2⟩ := sweep yes hy hi lo (by omega) hh _ a false b false (lo - 1) 0 (Nat.le_refl _) (inv ha) (inv hb) (by omega) (by omega) (fun h => by rw [hy] at h; cases h)
  rw [hy] at h1 h2
  refine ⟨by simpa [keptL, kfold] using SL.mono (by simp) h1, fun x => ?_⟩
  have := h2 x
  unfold keptL kfold
  rw [this]
  by_cases c : x < lo - 1
  · rw [if_pos c, ha.low (by omega), hb.low (by omega), hy]; simp
  · rw [if_neg c]
end Go.Proofs.Ytmbmalkpmanaaaa.P

namespace Go.Proofs.Ytmbmalkpmanaaaa.P
set_option linter.unusedVariables false
set_option linter.unusedSimpArgs false
open Go.RowKit

end Go.Proofs.Ytmbmalkpmanaaaa.P

namespace Go.Proofs.Ytmbmalkpmanaaaa.P
set_option linter.unusedVariables false
set_option linter.unusedSimpArgs false
open Go.RowKit Go.ChangeShapes Go.WideShapes Go.Deep Go.Proofs.YtmbmalkpmanaaaaW.PrintWords

def fits (n : Int) : Prop := (Lit.int .i64 n).wf = true
def spFits (s : Sp) : Prop := fits s.f0 ∧ fits s.f1

end Go.Proofs.Ytmbmalkpmanaaaa.P

namespace Go.Proofs.Ytmbmalkpmanaaaa.P
open Go.RowKit Go.Proofs.YtmbmalkpmanaaaaW.PrintWords Go.Proofs.YtmbmalkpmanaaaaW.PrintLast Go.Proofs.YtmbmalkpmanaaaaW.PrintMore
attribute [local go_sem] max2_int min2_int max_two min_two max_three min_three max_four min_four   -- for this text's walks alone
set_option linter.unusedVariables false
set_option linter.unusedSimpArgs false

theorem eqA23 (d : Nat) (w : World) (x0 y0 : Int) (x1 y1 : Int) :
 (Op.equalIn (d + 2) 23 (.agg #[.int .i64 x0, .int .i64 x1]) (.agg #[.int .i64 y0, .int .i64 y1])).run Try.prog w = .ok (x0 == y0 && (x1 == y1)) w := by
 refine eqA_of Try.underlying23 (by kernel_rfl) ?_
 refine eqf_cons (by rfl) (by go_simp; rfl) (by go_simp; rfl) (by go_simp) ?_
 exact eqf_last (by rfl) (by go_simp; rfl) (by go_simp; rfl) (by go_simp)
end Go.Proofs.Ytmbmalkpmanaaaa.P

namespace Go.Proofs.Ytmbmalkpmanaaaa.P
open Go.RowKit Go.Proofs.YtmbmalkpmanaaaaW.PrintWords Go.Proofs.YtmbmalkpmanaaaaW.PrintLast Go.Proofs.YtmbmalkpmanaaaaW.PrintMore
attribute [local go_sem] max2_int min2_int max_two min_two max_three min_three max_four min_four   -- for this text's walks alone
set_option linter.unusedVariables false
set_option linter.unusedSimpArgs false

attribute [local go_sem high] eqA23
end Go.Proofs.Ytmbmalkpmanaaaa.P

namespace Go.Proofs.Ytmbmalkpmanaaaa.P
open Go.RowKit Go.Proofs.YtmbmalkpmanaaaaW.PrintWords Go.Proofs.YtmbmalkpmanaaaaW.PrintLast Go.Proofs.YtmbmalkpmanaaaaW.PrintMore
attribute [local go_sem] max2_int min2_int max_two min_two max_three min_three max_four min_four   -- for this text's walks alone
set_option linter.unusedVariables false
set_option linter.unusedSimpArgs false

end Go.Proofs.Ytmbmalkpmanaaaa.P

namespace Go.Proofs.Ytmbmalkpmanaaaa.P
open Go.RowKit Go.Proofs.YtmbmalkpmanaaaaW.PrintWords Go.Proofs.YtmbmalkpmanaaaaW.PrintLast Go.Proofs.YtmbmalkpmanaaaaW.PrintMore
attribute [local go_sem] max2_int min2_int max_two min_two max_three min_three max_four min_four   -- for this text's walks alone
set_option linter.unusedVariables false
set_option linter.unusedSimpArgs false

end Go.Proofs.Ytmbmalkpmanaaaa.P

namespace Go.Proofs.Ytmbmalkpmanaaaa.P
open Go.RowKit Go.Proofs.YtmbmalkpmanaaaaW.PrintWords Go.Proofs.YtmbmalkpmanaaaaW.PrintLast Go.Proofs.YtmbmalkpmanaaaaW.PrintMore
attribute [local go_sem] max2_int min2_int max_two min_two max_three min_three max_four min_four   -- for this text's walks alone
set_option linter.unusedVariables false
set_option linter.unusedSimpArgs false

end Go.Proofs.Ytmbmalkpmanaaaa.P

namespace Go.Proofs.Ytmbmalkpmanaaaa.P
open Go.RowKit Go.Proofs.YtmbmalkpmanaaaaW.PrintWords Go.Proofs.YtmbmalkpmanaaaaW.PrintLast Go.Proofs.YtmbmalkpmanaaaaW.PrintMore
attribute [local go_sem] max2_int min2_int max_two min_two max_three min_three max_four min_four   -- for this text's walks alone
set_option linter.unusedVariables false
set_option linter.unusedSimpArgs false

attribute [local go_sem high] eqA23
end Go.Proofs.Ytmbmalkpmanaaaa.P

namespace Go.Proofs.Ytmbmalkpmanaaaa.P
set_option linter.unusedVariables false
set_option linter.unusedSimpArgs false
open Go.RowKit Go.Proofs.YtmbmalkpmanaaaaW.PrintWords

theorem rd_mid (pre r : List Sp) (s : Sp) : rd_T23 (pre ++ s :: r) (pre.length : Int) = s := by simp [rd_T23]
theorem wrap_len {α : Type} (pre : List α) (s : α) (n : Nat) (h : pre.length + 1 ≤ n) (hn : n ≤ 9223372036854775807) : wrap64 ((pre.length : Int) + 1) = ((pre ++ [s]).length : Int) := by
  rw [wrap_ok (by omega) (by omega)]; simp
theorem wrap_pred {α : Type} (pre : List α) (s : α) (n : Nat) (h : pre.length + 1 ≤ n) (hn : n ≤ 9223372036854775807) : wrap64 (((pre ++ [s]).length : Int) - 1) = (pre.length : Int) := by
  rw [wrap_ok (by simp only [List.length_append, List.length_singleton]; omega) (by simp only [List.length_append, List.length_singleton]; omega)]; simp

def slB (lo : Int) : List Sp → Bool
  | [] => true
  | s :: r => decide (lo ≤ s.f0) && (decide (s.f0 ≤ s.f1) && (decide (s.f1 ≤ 1099511627776) && slB (s.f1 + 2) r))
theorem slB_iff {lo : Int} {l : List Sp} : slB lo l = true ↔ SL lo 1099511627776 l := by
  induction l generalizing lo with
  | nil => simp [slB, SL]
  | cons s r ih => simp [slB, SL, ih]

theorem tick_f (a : Int) : spans_tick.f a = some (decide (-1099511627776 ≤ a) && decide (a ≤ 1099511627776)) := by
  unfold spans_tick.f
  by_cases h : a ≥ -1099511627776
  · have h2 : -1099511627776 ≤ a := h
    rw [if_pos h]; simp [h2]
  · have h2 : ¬ -1099511627776 ≤ a := h
    rw [if_neg h]; simp [h2]

theorem right_ev (l : List Sp) (hl : l.length ≤ 9223372036854775807) : Ev (fun k => spans_Right.f k l) (slB (-1099511627776) l) := by
  have key : ∀ (rest pre : List Sp) (lo : Int), l = pre ++ rest → (pre = [] ∧ lo = -1099511627776 ∨ ∃ p q, pre = p ++ [q] ∧ lo = q.f1 + 2 ∧ -1099511627776 ≤ q.f1 ∧ q.f1 ≤ 1099511627776) →
      Ev (fun k => spans_Right.l0 k l l (l.length : Int) (pre.length : Int)) (slB lo rest) := by
    intro rest
    induction rest with
    | nil =>
      intro pre lo hp hlo
      refine Ev.step (f := fun _ => some true) (fun k => ?_) (Ev.now _)
      rw [spans_Right.l0, if_neg (by rw [hp]; simp)]
    | cons s r ih =>
      intro pre lo hp hlo
      have hlen : pre.length + 1 ≤ l.length := by rw [hp]; simp
      have hrd : rd_T23 l (pre.length : Int) = s := by rw [hp]; exact rd_mid _ _ _
      have h0 : ∀ k, spans_Right.l0 (k + 1) l l (l.length : Int) (pre.length : Int) = spans_Right.l0 (k + 1) l l (l.length : Int) (pre.length : Int) := fun _ => rfl
      have hlow : -1099511627776 ≤ lo := by rcases hlo with ⟨_, rfl⟩ | ⟨p, q, _, rfl, h, _⟩ <;> omega
      have c1 : (pre.length : Int) < (l.length : Int) := by omega
      have c2 : (0 : Int) ≤ (pre.length : Int) := by omega
      by_cases t0 : -1099511627776 ≤ s.f0 ∧ s.f0 ≤ 1099511627776
      · by_cases t1 : -1099511627776 ≤ s.f1 ∧ s.f1 ≤ 1099511627776
        · by_cases t2 : s.f0 > s.f1
          · refine Ev.step (f := fun _ => some (slB lo (s :: r))) (fun k => ?_) (Ev.now _)
            have hn : ¬ s.f0 ≤ s.f1 := by omega
            rw [spans_Right.l0, if_pos c1, if_pos c2, if_pos c1, hrd, tick_f, tick_f]
            simp [t0, t1, t2, slB, hn]
          · have hn : s.f0 ≤ s.f1 := by omega
            rcases hlo with ⟨rfl, rfl⟩ | ⟨p, q, rfl, rfl, hq1, hq2⟩
            · have hs : slB (-1099511627776) (s :: r) = slB (s.f1 + 2) r := by simp [slB, t0, t1, hn]
              rw [hs]
              refine Ev.step (fun k => ?_) (ih [s] (s.f1 + 2) hp (.inr ⟨[], s, rfl, rfl, t1.1, t1.2⟩))
              rw [spans_Right.l0, if_pos c1, if_pos c2, if_pos c1, hrd, tick_f, tick_f]
              have hw : wrap64 (([] : List Sp).length + 1 : Int) = (([s] : List Sp).length : Int) := by simpa using wrap_ok (n := 1) (by omega) (by omega)
              simp only [t0, t1, decide_true, Bool.and_self, Option.bind_some, if_true]
              rw [if_neg t2, if_neg (by simp), hw]
            · have hw := wrap_len (p ++ [q]) s l.length hlen hl
              have hwp := wrap_pred p q l.length (by simp at hlen; omega) hl
              have hrq : rd_T23 l (p.length : Int) = q := by rw [hp]; simp [rd_T23]
              have hw2 : wrap64 (q.f1 + 2) = q.f1 + 2 := wrap_ok (by omega) (by omega)
              have c3 : (p.length : Int) < (l.length : Int) := by simp at hlen; omega
              by_cases t3 : s.f0 < q.f1 + 2
              · refine Ev.step (f := fun _ => some (slB (q.f1 + 2) (s :: r))) (fun k => ?_) (Ev.now _)
                have hn3 : ¬ q.f1 + 2 ≤ s.f0 := by omega
                rw [spans_Right.l0, if_pos c1, if_pos c2, if_pos c1, hrd, tick_f, tick_f]
                simp only [t0, t1, decide_true, Bool.and_self, Option.bind_some, if_true]
                rw [if_neg t2, if_pos (by simp), hwp, if_pos (by omega), if_pos c3, hrq, hw2, if_pos t3]
                simp [slB, hn3]
              · have hn3 : q.f1 + 2 ≤ s.f0 := by omega
                have hs : slB (q.f1 + 2) (s :: r) = slB (s.f1 + 2) r := by simp [slB, t1, hn, hn3]
                rw [hs]
                refine Ev.step (fun k => ?_) (ih (p ++ [q] ++ [s]) (s.f1 + 2) (by rw [hp]; simp) (.inr ⟨p ++ [q], s, rfl, rfl, t1.1, t1.2⟩))
                rw [spans_Right.l0, if_pos c1, if_pos c2, if_pos c1, hrd, tick_f, tick_f]
                simp only [t0, t1, decide_true, Bool.and_self, Option.bind_some, if_true]
                rw [if_neg t2, if_pos (by simp), hwp, if_pos (by omega), if_pos c3, hrq, hw2, if_neg t3, hw]
        · refine Ev.step (f := fun _ => some (slB lo (s :: r))) (fun k => ?_) (Ev.now _)
          rw [spans_Right.l0, if_pos c1, if_pos c2, if_pos c1, hrd, tick_f, tick_f]
          have e1 : (decide (-1099511627776 ≤ s.f1) && decide (s.f1 ≤ 1099511627776)) = false := by
            rw [Bool.eq_false_iff]; intro h; simp at h; exact t1 h
          have e2 : slB lo (s :: r) = false := by
            rw [Bool.eq_false_iff]; intro h; rw [slB_iff] at h; obtain ⟨h1, h2, h3, _⟩ := h; exact t1 ⟨by omega, h3⟩
          rw [e1, e2]
          simp [t0]
      · refine Ev.step (f := fun _ => some (slB lo (s :: r))) (fun k => ?_) (Ev.now _)
        rw [spans_Right.l0, if_pos c1, if_pos c2, if_pos c1, hrd, tick_f]
        have e1 : (decide (-1099511627776 ≤ s.f0) && decide (s.f0 ≤ 1099511627776)) = false := by
          rw [Bool.eq_false_iff]; intro h; simp at h; exact t0 h
        have e2 : slB lo (s :: r) = false := by
          rw [Bool.eq_false_iff]; intro h; rw [slB_iff] at h; obtain ⟨h1, h2, h3, _⟩ := h; exact t0 ⟨by omega, by omega⟩
        rw [e1, e2]
        simp
  exact key l [] (-1099511627776) rfl (.inl ⟨rfl, rfl⟩)

end Go.Proofs.Ytmbmalkpmanaaaa.P

namespace Go.Proofs.Ytmbmalkpmanaaaa.P
open Go.RowKit Go.Proofs.YtmbmalkpmanaaaaW.PrintWords Go.Proofs.YtmbmalkpmanaaaaW.PrintLast Go.Proofs.YtmbmalkpmanaaaaW.PrintMore
attribute [local go_sem] max2_int min2_int max_two min_two max_three min_three max_four min_four   -- for this text's walks alone
set_option linter.unusedVariables false
set_option linter.unusedSimpArgs false

end Go.Proofs.Ytmbmalkpmanaaaa.P

namespace Go.Proofs.Ytmbmalkpmanaaaa.P
open Go.RowKit Go.Proofs.YtmbmalkpmanaaaaW.PrintWords Go.Proofs.YtmbmalkpmanaaaaW.PrintLast Go.Proofs.YtmbmalkpmanaaaaW.PrintMore
attribute [local go_sem] max2_int min2_int max_two min_two max_three min_three max_four min_four   -- for this text's walks alone
set_option linter.unusedVariables false
set_option linter.unusedSimpArgs false

end Go.Proofs.Ytmbmalkpmanaaaa.P

namespace Go.Proofs.Ytmbmalkpmanaaaa.P
open Go.RowKit Go.Proofs.YtmbmalkpmanaaaaW.PrintWords Go.Proofs.YtmbmalkpmanaaaaW.PrintLast Go.Proofs.YtmbmalkpmanaaaaW.PrintMore
attribute [local go_sem] max2_int min2_int max_two min_two max_three min_three max_four min_four   -- for this text's walks alone
set_option linter.unusedVariables false
set_option linter.unusedSimpArgs false

end Go.Proofs.Ytmbmalkpmanaaaa.P

namespace Go.Proofs.Ytmbmalkpmanaaaa.P
open Go.RowKit Go.Proofs.YtmbmalkpmanaaaaW.PrintWords Go.Proofs.YtmbmalkpmanaaaaW.PrintLast Go.Proofs.YtmbmalkpmanaaaaW.PrintMore
attribute [local go_sem] max2_int min2_int max_two min_two max_three min_three max_four min_four   -- for this text's walks alone
set_option linter.unusedVariables false
set_option linter.unusedSimpArgs false

end Go.Proofs.Ytmbmalkpmanaaaa.P

namespace Go.Proofs.Ytmbmalkpmanaaaa.P
open Go.RowKit Go.Proofs.YtmbmalkpmanaaaaW.PrintWords Go.Proofs.YtmbmalkpmanaaaaW.PrintLast Go.Proofs.YtmbmalkpmanaaaaW.PrintMore
attribute [local go_sem] max2_int min2_int max_two min_two max_three min_three max_four min_four   -- for this text's walks alone
set_option linter.unusedVariables false
set_option linter.unusedSimpArgs false

end Go.Proofs.Ytmbmalkpmanaaaa.P

namespace Go.Proofs.Ytmbmalkpmanaaaa.P
open Go.RowKit Go.Proofs.YtmbmalkpmanaaaaW.PrintWords Go.Proofs.YtmbmalkpmanaaaaW.PrintLast Go.Proofs.YtmbmalkpmanaaaaW.PrintMore
attribute [local go_sem] max2_int min2_int max_two min_two max_three min_three max_four min_four   -- for this text's walks alone
set_option linter.unusedVariables false
set_option linter.unusedSimpArgs false

end Go.Proofs.Ytmbmalkpmanaaaa.P

namespace Go.Proofs.Ytmbmalkpmanaaaa.P
set_option linter.unusedVariables false
set_option linter.unusedSimpArgs false
open Go.RowKit Go.Proofs.YtmbmalkpmanaaaaW.PrintWords

end Go.Proofs.Ytmbmalkpmanaaaa.P

namespace Go.Proofs.Ytmbmalkpmanaaaa.P
set_option linter.unusedVariables false
set_option linter.unusedSimpArgs false
open Go.RowKit Go.Proofs.YtmbmalkpmanaaaaW.PrintWords Go.Proofs.YtmbmalkpmanaaaaW.PrintMore

end Go.Proofs.Ytmbmalkpmanaaaa.P

namespace Go.Proofs.Ytmbmalkpmanaaaa.P
open Go.RowKit Go.Proofs.YtmbmalkpmanaaaaW.PrintWords Go.Proofs.YtmbmalkpmanaaaaW.PrintLast Go.Proofs.YtmbmalkpmanaaaaW.PrintMore
attribute [local go_sem] max2_int min2_int max_two min_two max_three min_three max_four min_four   -- for this text's walks alone
set_option linter.unusedVariables false
set_option linter.unusedSimpArgs false

end Go.Proofs.Ytmbmalkpmanaaaa.P

namespace Go.Proofs.Ytmbmalkpmanaaaa.P
open Go.RowKit Go.Proofs.YtmbmalkpmanaaaaW.PrintWords Go.Proofs.YtmbmalkpmanaaaaW.PrintLast Go.Proofs.YtmbmalkpmanaaaaW.PrintMore
attribute [local go_sem] max2_int min2_int max_two min_two max_three min_three max_four min_four   -- for this text's walks alone
set_option linter.unusedVariables false
set_option linter.unusedSimpArgs false

end Go.Proofs.Ytmbmalkpmanaaaa.P

namespace Go.Proofs.Ytmbmalkpmanaaaa.P
open Go.RowKit Go.Proofs.YtmbmalkpmanaaaaW.PrintWords Go.Proofs.YtmbmalkpmanaaaaW.PrintLast Go.Proofs.YtmbmalkpmanaaaaW.PrintMore
attribute [local go_sem] max2_int min2_int max_two min_two max_three min_three max_four min_four   -- for this text's walks alone
set_option linter.unusedVariables false
set_option linter.unusedSimpArgs false

end Go.Proofs.Ytmbmalkpmanaaaa.P

namespace Go.Proofs.Ytmbmalkpmanaaaa.P
open Go.RowKit Go.Proofs.YtmbmalkpmanaaaaW.PrintWords Go.Proofs.YtmbmalkpmanaaaaW.PrintLast Go.Proofs.YtmbmalkpmanaaaaW.PrintMore
attribute [local go_sem] max2_int min2_int max_two min_two max_three min_three max_four min_four   -- for this text's walks alone
set_option linter.unusedVariables false
set_option linter.unusedSimpArgs false

attribute [local go_sem high] eqA23
end Go.Proofs.Ytmbmalkpmanaaaa.P

namespace Go.Proofs.Ytmbmalkpmanaaaa.P
set_option linter.unusedVariables false
set_option linter.unusedSimpArgs false
open Go.RowKit Go.Proofs.YtmbmalkpmanaaaaW.PrintWords

theorem Ev.yes {α : Type} {c : Prop} [Decidable c] {g f : Nat → Option α} {r : α} (h : c) (k : Ev g r) : Ev (fun n => if c then g n else f n) r := Ev.congr (fun n => if_pos h) k
theorem Ev.no {α : Type} {c : Prop} [Decidable c] {g f : Nat → Option α} {r : α} (h : ¬ c) (k : Ev f r) : Ev (fun n => if c then g n else f n) r := Ev.congr (fun n => if_neg h) k
theorem Ev.val {α : Type} {g : Option α} {r : α} (h : g = some r) : Ev (fun _ => g) r := ⟨0, fun _ _ => h⟩

theorem SL.len2 {hi : Int} : ∀ {l : List Sp} {lo : Int}, lo ≤ hi + 2 → SL lo hi l → 2 * (l.length : Int) ≤ hi + 2 - lo
  | [], lo, h, _ => by simp; omega
  | s :: r, lo, h, hs => by
    obtain ⟨h1, h2, h3, h4⟩ := hs
    have := SL.len2 (by omega) h4
    simp only [List.length_cons]; omega
theorem SL.len_le {l : List Sp} (h : SL (-1099511627776) 1099511627776 l) : l.length ≤ 2199023255552 := by have := SL.len2 (by omega) h; omega

end Go.Proofs.Ytmbmalkpmanaaaa.P

namespace Go.Proofs.Ytmbmalkpmanaaaa.P
open Go.RowKit Go.Proofs.YtmbmalkpmanaaaaW.PrintWords Go.Proofs.YtmbmalkpmanaaaaW.PrintLast Go.Proofs.YtmbmalkpmanaaaaW.PrintMore
attribute [local go_sem] max2_int min2_int max_two min_two max_three min_three max_four min_four   -- for this text's walks alone
set_option linter.unusedVariables false
set_option linter.unusedSimpArgs false

end Go.Proofs.Ytmbmalkpmanaaaa.P

namespace Go.Proofs.Ytmbmalkpmanaaaa.P
set_option linter.unusedVariables false
set_option linter.unusedSimpArgs false
open Go.RowKit Go.Proofs.YtmbmalkpmanaaaaW.PrintWords

def hullS (l : List Sp) : Int × Int × Bool :=
  match l.head?, l.getLast? with
  | some s, some z => (s.f0, z.f1, true)
  | _, _ => (0, 0, false)
def aheadS (a b : List Sp) : Bool :=
  match a.getLast?, b.head? with
  | some z, some s => decide (z.f1 < s.f0)
  | _, _ => true

theorem rd_last (p : List Sp) (z : Sp) (h : (p ++ [z]).length ≤ 4611686018427387904) : wrap64 (((p ++ [z]).length : Int) - 1) = (p.length : Int) ∧ rd_T23 (p ++ [z]) (p.length : Int) = z := by
  refine ⟨wrap_pred p z _ (by simp) (by omega : (p ++ [z]).length ≤ 9223372036854775807), rd_mid p [] z⟩

theorem hull_f (l : List Sp) (h : l.length ≤ 4611686018427387904) : spans_Hull.f l = some (hullS l) := by
  rcases List.eq_nil_or_concat l with rfl | ⟨p, z, rfl⟩
  · simp [spans_Hull.f, hullS]
  · have e : p.concat z = p ++ [z] := by simp
    rw [e] at h ⊢
    obtain ⟨w, r⟩ := rd_last p z h
    unfold spans_Hull.f
    rw [if_neg (by simp only [List.length_append, List.length_singleton]; omega), if_pos (by simp only [List.length_append, List.length_singleton]; omega), w, if_pos (by omega), if_pos (by simp only [List.length_append, List.length_singleton]; omega), r]
    have hg : (p ++ [z]).getLast? = some z := by simp
    unfold hullS; rw [hg]
    cases p <;> simp [rd_T23]

theorem ahead_f (a b : List Sp) (h : a.length ≤ 4611686018427387904) : spans_Ahead.f a b = some (aheadS a b) := by
  rcases List.eq_nil_or_concat a with rfl | ⟨p, z, rfl⟩
  · simp [spans_Ahead.f, aheadS]
  · have e : p.concat z = p ++ [z] := by simp
    rw [e] at h ⊢
    obtain ⟨w, r⟩ := rd_last p z h
    unfold spans_Ahead.f
    rw [if_neg (by simp only [List.length_append, List.length_singleton]; omega)]
    cases b with
    | nil => simp [aheadS]
    | cons s q =>
      rw [if_neg (by simp; omega), w, if_pos (by omega), if_pos (by simp only [List.length_append, List.length_singleton]; omega), if_pos (by simp), r]
      simp [aheadS, rd_T23]

theorem mid_of (lo hi : Nat) (h : hi ≤ 4611686018427387903) (hl : lo ≤ hi) : wrap64 ((IntKind.u64.wrap (wrap64 ((lo : Int) + (hi : Int)))) / 2) = (((lo + hi) / 2 : Nat) : Int) := by
  rw [wrap_ok (n := (lo : Int) + hi) (by omega) (by omega)]
  have : IntKind.u64.wrap ((lo : Int) + hi) = (lo : Int) + hi := by
    simp only [IntKind.wrap, IntKind.bits, IntKind.signed]
    simp
    omega
  rw [this, wrap_ok (by omega) (by omega)]
  omega

end Go.Proofs.Ytmbmalkpmanaaaa.P

namespace Go.Proofs.Ytmbmalkpmanaaaa.P
open Go.RowKit Go.Proofs.YtmbmalkpmanaaaaW.PrintWords Go.Proofs.YtmbmalkpmanaaaaW.PrintLast Go.Proofs.YtmbmalkpmanaaaaW.PrintMore
attribute [local go_sem] max2_int min2_int max_two min_two max_three min_three max_four min_four   -- for this text's walks alone
set_option linter.unusedVariables false
set_option linter.unusedSimpArgs false

end Go.Proofs.Ytmbmalkpmanaaaa.P

namespace Go.Proofs.Ytmbmalkpmanaaaa.P
set_option linter.unusedVariables false
set_option linter.unusedSimpArgs false
open Go.RowKit Go.Proofs.YtmbmalkpmanaaaaW.PrintWords

theorem SL.front {lo hi : Int} {p r : List Sp} (h : SL lo hi (p ++ r)) : SL lo hi p := by
  induction p generalizing lo with
  | nil => trivial
  | cons s p ih => exact ⟨h.1, h.2.1, h.2.2.1, ih h.2.2.2⟩

end Go.Proofs.Ytmbmalkpmanaaaa.P

namespace Go.Proofs.Ytmbmalkpmanaaaa.P
set_option linter.unusedVariables false
set_option linter.unusedSimpArgs false
open Go.RowKit Go.Proofs.YtmbmalkpmanaaaaW.PrintWords

def shiftS (n : Int) (s : Sp) : Sp := ⟨s.f0 + n, s.f1 + n⟩
def okT (x : Int) : Bool := decide (-1099511627776 ≤ x) && decide (x ≤ 1099511627776)
def okM (n : Int) (s : Sp) : Bool := okT (s.f0 + n) && okT (s.f1 + n)
def moveS (n : Int) (l : List Sp) : List Sp × Int := if l.all (okM n) then (l.map (shiftS n), 0) else ([], 20)

theorem add_fits (a n : Int) (h1 : -9223372036854775808 ≤ a + n) (h2 : a + n ≤ 9223372036854775807) : safe_Add.f a n = some (a + n, 0) := by
  unfold safe_Add.f
  rw [wrap_ok h1 h2]
  have e : ((decide ((a + n) > a)) != (decide (n > 0))) = false := by
    by_cases h : n > 0
    · have : a < a + n := by omega
      simp [h, this]
    · have : a + n ≤ a := by omega
      simp [h, this]
  rw [e]; rfl
theorem add_not (a n : Int) (ha : -1099511627776 ≤ a ∧ a ≤ 1099511627776) (hn : -9223372036854775808 ≤ n ∧ n ≤ 9223372036854775807) (h : ¬ (-9223372036854775808 ≤ a + n ∧ a + n ≤ 9223372036854775807)) : safe_Add.f a n = some (0, 10) := by
  unfold safe_Add.f
  have e : ((decide (wrap64 (a + n) > a)) != (decide (n > 0))) = true := by
    by_cases g : n > 0
    · have : ¬ wrap64 (a + n) > a := by unfold wrap64; omega
      simp [g, this]
    · have : wrap64 (a + n) > a := by unfold wrap64; omega
      simp [g, this]
  rw [e, if_pos rfl, if_neg (by omega)]

theorem move_ev (l : List Sp) (n : Int) (hs : SL (-1099511627776) 1099511627776 l) (hn : -9223372036854775808 ≤ n ∧ n ≤ 9223372036854775807) : Ev (fun k => spans_Move.f k l n) (moveS n l) := by
  have hl := SL.len_le hs
  have key : ∀ (rest pre : List Sp), l = pre ++ rest → pre.all (okM n) = true → Ev (fun k => spans_Move.l0 k n (pre.map (shiftS n)) l (l.length : Int) (pre.length : Int)) (moveS n l) := by
    intro rest
    induction rest with
    | nil =>
      intro pre hp hok
      have e : l = pre := by rw [hp]; simp
      refine Ev.step (f := fun _ => some (pre.map (shiftS n), 0)) (fun k => ?_) ?_
      · rw [spans_Move.l0, if_neg (by rw [hp]; simp)]
      · rw [e]; unfold moveS; rw [if_pos hok]; exact Ev.now _
    | cons s r ih =>
      intro pre hp hok
      have hlen : pre.length + 1 ≤ l.length := by rw [hp]; simp
      have hrd : rd_T23 l (pre.length : Int) = s := by rw [hp]; exact rd_mid _ _ _
      have hw := wrap_len pre s l.length hlen (by omega)
      have c1 : (pre.length : Int) < (l.length : Int) := by omega
      have c2 : (0 : Int) ≤ (pre.length : Int) := by omega
      have c3 : (pre.map (shiftS n)).length < 8796093022208 := by rw [List.length_map]; omega
      have ht := SL.ticks hs (s := s) (by rw [hp]; simp)
      have bad : okM n s = false → moveS n l = ([], 20) := fun h => by
        unfold moveS; rw [if_neg (by rw [hp, List.all_append, List.all_cons, h]; simp)]
      by_cases g0 : -9223372036854775808 ≤ s.f0 + n ∧ s.f0 + n ≤ 9223372036854775807
      · by_cases g1 : -9223372036854775808 ≤ s.f1 + n ∧ s.f1 + n ≤ 9223372036854775807
        · by_cases t0 : okT (s.f0 + n) = true
          · by_cases t1 : okT (s.f1 + n) = true
            · refine Ev.step (fun k => ?_) (ih (pre ++ [s]) (by rw [hp]; simp) (by rw [List.all_append, hok]; simp [okM, t0, t1]))
              rw [spans_Move.l0, if_pos c1, if_pos c2, if_pos c1, hrd, add_fits _ _ g0.1 g0.2, add_fits _ _ g1.1 g1.2, Option.bind_some, Option.bind_some, if_pos rfl, if_pos rfl, tick_f, tick_f]
              unfold okT at t0 t1
              rw [Option.bind_some, if_pos t0, Option.bind_some, if_pos t1, if_pos c3, hw, List.map_append]
              rfl
            · have t1' : okT (s.f1 + n) = false := by simpa using t1
              rw [bad (by simp [okM, t1'])]
              refine Ev.step (f := fun _ => some ([], 20)) (fun k => ?_) (Ev.now _)
              rw [spans_Move.l0, if_pos c1, if_pos c2, if_pos c1, hrd, add_fits _ _ g0.1 g0.2, add_fits _ _ g1.1 g1.2, Option.bind_some, Option.bind_some, if_pos rfl, if_pos rfl, tick_f, tick_f]
              unfold okT at t0 t1
              rw [Option.bind_some, if_pos t0, Option.bind_some, if_neg t1]
          · have t0' : okT (s.f0 + n) = false := by simpa using t0
            rw [bad (by simp [okM, t0'])]
            refine Ev.step (f := fun _ => some ([], 20)) (fun k => ?_) (Ev.now _)
            rw [spans_Move.l0, if_pos c1, if_pos c2, if_pos c1, hrd, add_fits _ _ g0.1 g0.2, add_fits _ _ g1.1 g1.2, Option.bind_some, Option.bind_some, if_pos rfl, if_pos rfl, tick_f]
            unfold okT at t0
            rw [Option.bind_some, if_neg t0]
        · have : okT (s.f1 + n) = false := by unfold okT; simp; omega
          rw [bad (by simp [okM, this])]
          refine Ev.step (f := fun _ => some ([], 20)) (fun k => ?_) (Ev.now _)
          rw [spans_Move.l0, if_pos c1, if_pos c2, if_pos c1, hrd, add_fits _ _ g0.1 g0.2, add_not _ _ (by omega) hn g1, Option.bind_some, Option.bind_some, if_pos rfl, if_neg (by simp)]
      · have : okT (s.f0 + n) = false := by unfold okT; simp; omega
        rw [bad (by simp [okM, this])]
        refine Ev.step (f := fun _ => some ([], 20)) (fun k => ?_) (Ev.now _)
        by_cases g1 : -9223372036854775808 ≤ s.f1 + n ∧ s.f1 + n ≤ 9223372036854775807
        · rw [spans_Move.l0, if_pos c1, if_pos c2, if_pos c1, hrd, add_not _ _ (by omega) hn g0, add_fits _ _ g1.1 g1.2, Option.bind_some, Option.bind_some, if_neg (by simp)]
        · rw [spans_Move.l0, if_pos c1, if_pos c2, if_pos c1, hrd, add_not _ _ (by omega) hn g0, add_not _ _ (by omega) hn g1, Option.bind_some, Option.bind_some, if_neg (by simp)]
  have := key l [] rfl rfl
  exact this

theorem okT_iff {x : Int} : okT x = true ↔ -1099511627776 ≤ x ∧ x ≤ 1099511627776 := by simp [okT]
theorem okM_iff {n : Int} {s : Sp} : okM n s = true ↔ (-1099511627776 ≤ s.f0 + n ∧ s.f0 + n ≤ 1099511627776) ∧ (-1099511627776 ≤ s.f1 + n ∧ s.f1 + n ≤ 1099511627776) := by simp [okM, okT_iff]
theorem SL.shift {lo hi : Int} (n : Int) : ∀ {l : List Sp} {lo : Int}, SL lo hi l → SL (lo + n) (hi + n) (l.map (shiftS n))
  | [], _, _ => trivial
  | s :: r, lo, h => by
    obtain ⟨h1, h2, h3, h4⟩ := h
    refine ⟨by simp only [shiftS]; omega, by simp only [shiftS]; omega, by simp only [shiftS]; omega, ?_⟩
    have := SL.shift (lo := lo) n h4
    have e : (shiftS n s).f1 + 2 = s.f1 + 2 + n := by simp only [shiftS]; omega
    rw [e]; exact this
theorem SL.within {lo' hi' hi : Int} : ∀ {l : List Sp} {lo : Int}, SL lo hi l → (∀ s ∈ l, lo' ≤ s.f0 ∧ s.f1 ≤ hi') → SL lo' hi' l
  | [], _, _, _ => trivial
  | s :: r, lo, h, hb => by
    obtain ⟨h1, h2, h3, h4⟩ := h
    refine ⟨(hb s (by simp)).1, h2, (hb s (by simp)).2, ?_⟩
    refine SL.within h4 (fun t ht => ⟨?_, (hb t (by simp [ht])).2⟩)
    exact (SL.ticks h4 ht).1
theorem SL.moved {n : Int} {l : List Sp} (h : SL (-1099511627776) 1099511627776 l) (ho : l.all (okM n) = true) : SL (-1099511627776) 1099511627776 (l.map (shiftS n)) := by
  refine SL.within (SL.shift (lo := 0) n h) (fun s hs => ?_)
  obtain ⟨t, ht, rfl⟩ := List.mem_map.1 hs
  have := okM_iff.1 (List.all_eq_true.1 ho t ht)
  simp only [shiftS]; omega
end Go.Proofs.Ytmbmalkpmanaaaa.P

namespace Go.Proofs.Ytmbmalkpmanaaaa.P
set_option linter.unusedVariables false
set_option linter.unusedSimpArgs false
open Go.RowKit

abbrev Gn := S70
def fstT : List Sp → Int
  | [] => 0
  | s :: _ => s.f0
def lstT : List Sp → Int
  | [] => 0
  | [s] => s.f1
  | _ :: t :: r => lstT (t :: r)
theorem lstT_snoc (l : List Sp) (s : Sp) : lstT (l ++ [s]) = s.f1 := by
  induction l with
  | nil => rfl
  | cons a r ih => cases r with
    | nil => rfl
    | cons b r => exact ih
theorem SL.ends {lo hi : Int} : ∀ {l : List Sp}, SL lo hi l → l ≠ [] → lo ≤ fstT l ∧ fstT l ≤ lstT l ∧ lstT l ≤ hi
  | [], _, h => absurd rfl h
  | [s], ⟨a, b, c, _⟩, _ => ⟨a, b, c⟩
  | s :: t :: r, ⟨a, b, c, d⟩, _ => by
    obtain ⟨e1, e2, e3⟩ := SL.ends d (by simp)
    simp only [fstT, lstT] at *
    exact ⟨a, by omega, e3⟩
theorem SL.between {lo hi : Int} {l : List Sp} (h : SL lo hi l) {s : Sp} (hs : s ∈ l) : fstT l ≤ s.f0 ∧ s.f1 ≤ lstT l := by
  induction l generalizing lo with
  | nil => simp at hs
  | cons a r ih =>
    obtain ⟨h1, h2, h3, h4⟩ := h
    cases r with
    | nil => simp at hs; subst hs; exact ⟨Int.le_refl _, Int.le_refl _⟩
    | cons b r =>
      have e := h4.ends (by simp)
      rcases List.mem_cons.1 hs with rfl | hs
      · simp only [fstT, lstT] at *; omega
      · have := ih h4 hs; simp only [fstT, lstT] at *; omega
theorem fstT_shift (n : Int) (l : List Sp) (h : l ≠ []) : fstT (l.map (shiftS n)) = fstT l + n := by
  cases l with
  | nil => exact absurd rfl h
  | cons s r => rfl
theorem lstT_shift (n : Int) : ∀ (l : List Sp), l ≠ [] → lstT (l.map (shiftS n)) = lstT l + n
  | [], h => absurd rfl h
  | [s], _ => rfl
  | s :: t :: r, _ => lstT_shift n (t :: r) (by simp)
theorem SL.moved_iff {n : Int} {l : List Sp} (h : SL (-1099511627776) 1099511627776 l) (hn : l ≠ []) : l.all (okM n) = true ↔ (-1099511627776 ≤ fstT l + n ∧ lstT l + n ≤ 1099511627776) := by
  constructor
  · intro ha
    have hm := h.moved ha
    have := hm.ends (by simpa using hn)
    rw [fstT_shift n l hn, lstT_shift n l hn] at this
    exact ⟨this.1, this.2.2⟩
  · intro ⟨h1, h2⟩
    rw [List.all_eq_true]
    intro s hs
    have := h.between hs
    have := h.ticks hs
    rw [okM_iff]; omega

def oddOf : List Gn → Int → Option (List Sp)
  | [], _ => none
  | g :: r, i => if g.f0 = i then some g.f1 else oddOf r i
theorem oddOf_some {odd : List Gn} {i : Int} {l : List Sp} (h : oddOf odd i = some l) : ∃ g ∈ odd, g.f0 = i ∧ g.f1 = l := by
  induction odd with
  | nil => cases h
  | cons g r ih =>
    simp only [oddOf] at h
    split at h
    · cases h; exact ⟨g, by simp, ‹_›, rfl⟩
    · obtain ⟨g', h1, h2⟩ := ih h; exact ⟨g', by simp [h1], h2⟩
theorem oddOf_none {odd : List Gn} {i : Int} : oddOf odd i = none ↔ ∀ g ∈ odd, g.f0 ≠ i := by
  induction odd with
  | nil => simp [oddOf]
  | cons g r ih =>
    simp only [oddOf, List.mem_cons, forall_eq_or_imp]
    by_cases h : g.f0 = i
    · simp [h]
    · simp [h, ih]
theorem oddOf_mem {odd : List Gn} (hu : odd.Pairwise (fun a b => a.f0 < b.f0)) {g : Gn} (hg : g ∈ odd) : oddOf odd g.f0 = some g.f1 := by
  induction odd with
  | nil => simp at hg
  | cons a r ih =>
    obtain ⟨h1, h2⟩ := List.pairwise_cons.1 hu
    simp only [oddOf]
    rcases List.mem_cons.1 hg with rfl | hg
    · rw [if_pos rfl]
    · have := h1 g hg; rw [if_neg (by omega)]; exact ih h2 hg

def coreAt (c : Int) (core : List (List Sp)) (i : Int) : List Sp := if c = 0 then [] else core.getD (i % c).toNat []
def fs (c : Int) (core : List (List Sp)) (odd : List Gn) (i : Int) : List Sp := match oddOf odd i with | some l => l | none => coreAt c core i
def fb (p c : Int) (odd : List Gn) (i : Int) : Int := match oddOf odd i with | some _ => 0 | none => i / c * p
def gLo (p c : Int) (core : List (List Sp)) (odd : List Gn) (i : Int) : Int := fstT (fs c core odd i) + fb p c odd i
def gHi (p c : Int) (core : List (List Sp)) (odd : List Gn) (i : Int) : Int := lstT (fs c core odd i) + fb p c odd i
def inR (i : Int) : Prop := -1099511627776 ≤ i ∧ i ≤ 1099511627776
instance (i : Int) : Decidable (inR i) := by unfold inR; exact inferInstance

structure SF (p c : Int) (core : List (List Sp)) (odd : List Gn) : Prop where
  hc : c = core.length
  hp0 : 0 ≤ p
  hp1 : p ≤ 1099511627776
  hz : c = 0 ↔ p = 0
  hcore : ∀ l ∈ core, SL (-1099511627776) 1099511627776 l
  hodd : ∀ g ∈ odd, SL (-1099511627776) 1099511627776 g.f1
  hidx : ∀ g ∈ odd, inR g.f0
  hup : odd.Pairwise (fun a b => a.f0 < b.f0)
  hl : core.length ≤ 6000
  hlo : odd.length ≤ 6000
structure TF (p : Int) (core : List (List Sp)) : Prop where
  ta : core.Pairwise (fun a b => a ≠ [] → b ≠ [] → lstT a < fstT b)
  tb : ∀ a ∈ core, ∀ b ∈ core, a ≠ [] → b ≠ [] → lstT a < fstT b + p

variable {p c : Int} {core : List (List Sp)} {odd : List Gn}
theorem SF.nil_odd (h : SF p c core odd) : SF p c core [] := ⟨h.hc, h.hp0, h.hp1, h.hz, h.hcore, by simp, by simp, List.Pairwise.nil, h.hl, by simp⟩
theorem SF.coreAt_mem (h : SF p c core odd) (i : Int) (hc : c ≠ 0) : coreAt c core i ∈ core := by
  have h0 := h.hc
  have h1 : 0 ≤ i % c := Int.emod_nonneg _ hc
  have h2 : i % c < c := Int.emod_lt_of_pos _ (by omega)
  have h3 : (i % c).toNat < core.length := by omega
  unfold coreAt
  rw [if_neg hc, List.getD_eq_getElem?_getD, List.getElem?_eq_getElem h3]
  exact List.getElem_mem h3
theorem SF.coreAt_SL (h : SF p c core odd) (i : Int) : SL (-1099511627776) 1099511627776 (coreAt c core i) := by
  by_cases hc : c = 0
  · unfold coreAt; rw [if_pos hc]; trivial
  · exact h.hcore _ (h.coreAt_mem i hc)
theorem SF.fs_SL (h : SF p c core odd) (i : Int) : SL (-1099511627776) 1099511627776 (fs c core odd i) := by
  unfold fs
  cases ho : oddOf odd i with
  | none => exact h.coreAt_SL i
  | some l => obtain ⟨g, hg, _, rfl⟩ := oddOf_some ho; exact h.hodd g hg
theorem SF.lo_le_hi (h : SF p c core odd) {i : Int} (hn : fs c core odd i ≠ []) : gLo p c core odd i ≤ gHi p c core odd i := by
  have := (h.fs_SL i).ends hn
  unfold gLo gHi; omega

theorem core_ord (h : SF p c core odd) (t : TF p core) {i k : Int} (hik : i < k) (hi : coreAt c core i ≠ []) (hk : coreAt c core k ≠ []) : lstT (coreAt c core i) + i / c * p < fstT (coreAt c core k) + k / c * p := by
  have hc : c ≠ 0 := by intro e; apply hi; unfold coreAt; rw [if_pos e]
  have h0 := h.hc
  have hcp : 0 < c := by omega
  have mi := h.coreAt_mem i hc
  have mk := h.coreAt_mem k hc
  have i1 : 0 ≤ i % c := Int.emod_nonneg _ hc
  have i2 : i % c < c := Int.emod_lt_of_pos _ hcp
  have k1 : 0 ≤ k % c := Int.emod_nonneg _ hc
  have k2 : k % c < c := Int.emod_lt_of_pos _ hcp
  have ei := Int.mul_ediv_add_emod i c
  have ek := Int.mul_ediv_add_emod k c
  rcases Int.lt_trichotomy (i / c) (k / c) with hq | hq | hq
  · have hb := t.tb _ mi _ mk hi hk
    have : i / c * p + p ≤ k / c * p := by
      have h1 : (i / c + 1) * p ≤ (k / c) * p := Int.mul_le_mul_of_nonneg_right (by omega) h.hp0
      rw [Int.add_mul, Int.one_mul] at h1; exact h1
    omega
  · rw [hq] at ei ⊢
    have hr : i % c < k % c := by omega
    have hlt : (i % c).toNat < (k % c).toNat := by omega
    have hkl : (k % c).toNat < core.length := by omega
    have hil : (i % c).toNat < core.length := by omega
    have e1 : coreAt c core i = core[(i % c).toNat] := by unfold coreAt; rw [if_neg hc, List.getD_eq_getElem?_getD, List.getElem?_eq_getElem hil]; rfl
    have e2 : coreAt c core k = core[(k % c).toNat] := by unfold coreAt; rw [if_neg hc, List.getD_eq_getElem?_getD, List.getElem?_eq_getElem hkl]; rfl
    have := List.pairwise_iff_getElem.1 t.ta _ _ hil hkl hlt (by rw [← e1]; exact hi) (by rw [← e2]; exact hk)
    rw [← e1, ← e2] at this
    omega
  · exfalso
    have h1 : c * (k / c) + c ≤ c * (i / c) := by
      have : c * (k / c + 1) ≤ c * (i / c) := Int.mul_le_mul_of_nonneg_left (by omega) (by omega)
      rw [Int.mul_add, Int.mul_one] at this; exact this
    omega

def gap (c : Int) (core : List (List Sp)) (odd : List Gn) (i k : Int) : Prop := ∀ m, i < m → m < k → fs c core odd m = []
structure BF (p c : Int) (core : List (List Sp)) (odd : List Gn) : Prop where
  up : ∀ g ∈ odd, g.f1 ≠ [] → ∀ k, g.f0 < k → inR k → fs c core odd k ≠ [] → gap c core odd g.f0 k → gHi p c core odd g.f0 < gLo p c core odd k
  dn : ∀ g ∈ odd, g.f1 ≠ [] → ∀ k, k < g.f0 → inR k → fs c core odd k ≠ [] → gap c core odd k g.f0 → gHi p c core odd k < gLo p c core odd g.f0

theorem gran_ord (h : SF p c core odd) (t : TF p core) (b : BF p c core odd) : ∀ (n : Nat) (i k : Int), (k - i).toNat ≤ n → i < k → inR i → inR k → fs c core odd i ≠ [] → fs c core odd k ≠ [] → gHi p c core odd i < gLo p c core odd k := by
  intro n
  induction n with
  | zero => intro i k hn hik; omega
  | succ n ih =>
    intro i k hn hik ri rk hi hk
    by_cases hg : gap c core odd i k
    · cases hoi : oddOf odd i with
      | some l =>
        obtain ⟨g, hg1, rfl, rfl⟩ := oddOf_some hoi
        exact b.up g hg1 (by unfold fs at hi; rw [hoi] at hi; exact hi) k hik rk hk hg
      | none =>
        cases hok : oddOf odd k with
        | some l =>
          obtain ⟨g, hg1, rfl, rfl⟩ := oddOf_some hok
          exact b.dn g hg1 (by unfold fs at hk; rw [hok] at hk; exact hk) i hik ri hi hg
        | none =>
          have := core_ord h t hik (by unfold fs at hi; rw [hoi] at hi; exact hi) (by unfold fs at hk; rw [hok] at hk; exact hk)
          unfold gHi gLo fs fb; rw [hoi, hok]; exact this
    · have : ∃ m, i < m ∧ m < k ∧ fs c core odd m ≠ [] := Classical.byContradiction fun hx => hg (fun m h1 h2 => Classical.byContradiction fun h3 => hx ⟨m, h1, h2, h3⟩)
      obtain ⟨m, h1, h2, h3⟩ := this
      unfold inR at ri rk
      have a1 := ih i m (by omega) h1 ri ⟨by omega, by omega⟩ hi h3
      have a2 := ih m k (by omega) h2 ⟨by omega, by omega⟩ rk h3 hk
      have a3 := h.lo_le_hi h3
      omega
structure FOK (p c : Int) (core : List (List Sp)) (odd : List Gn) : Prop where
  s : SF p c core odd
  t : TF p core
  ord : ∀ i k, i < k → inR i → inR k → fs c core odd i ≠ [] → fs c core odd k ≠ [] → gHi p c core odd i < gLo p c core odd k
theorem FOK.of (h : SF p c core odd) (t : TF p core) (b : BF p c core odd) : FOK p c core odd := ⟨h, t, fun i k hik => gran_ord h t b _ i k (Nat.le_refl _) hik⟩
end Go.Proofs.Ytmbmalkpmanaaaa.P

namespace Go.Proofs.Ytmbmalkpmanaaaa.P
set_option linter.unusedVariables false
set_option linter.unusedSimpArgs false
open Go.RowKit Go.Proofs.YtmbmalkpmanaaaaW.PrintWords

variable {p c : Int} {core : List (List Sp)} {odd : List Gn}
theorem rdG (l : List Gn) (j : Nat) (hj : j < l.length) : rd_T70 l (j : Int) = l[j] := by simp [rd_T70, hj]
theorem cmp_f (a b : Int) : cmp_Compare_int.f a b = some (if a < b then -1 else if a > b then 1 else 0) := by
  unfold cmp_Compare_int.f
  by_cases h1 : a < b
  · rw [if_pos h1]; simp [cmp_isNaN_int.f, h1]
  · rw [if_neg h1]; by_cases h2 : a > b
    · rw [if_pos h2]; simp [cmp_isNaN_int.f, h1, h2]
    · rw [if_neg h2]; simp [cmp_isNaN_int.f, h1, h2]
theorem odd1_f (a : Int) (l : List Sp) (b : Int) : gran_odd_1.f a l b = some (if a < b then -1 else if a > b then 1 else 0) := by
  unfold gran_odd_1.f; rw [cmp_f]; rfl

structure OddAt (odd : List Gn) (i : Int) (r : Int × Bool) : Prop where
  low : 0 ≤ r.1
  high : r.1 ≤ odd.length
  below : ∀ j (hj : j < odd.length), (j : Int) < r.1 → odd[j].f0 < i
  above : ∀ j (hj : j < odd.length), r.1 ≤ (j : Int) → i ≤ odd[j].f0
  is : r.2 = true → ∃ (hj : r.1.toNat < odd.length), odd[r.1.toNat].f0 = i
  no : r.2 = false → oddOf odd i = none
theorem pw_lt {l : List Gn} (h : l.Pairwise (fun a b => a.f0 < b.f0)) {i j : Nat} (hj : j < l.length) (hij : i < j) : (l[i]'(by omega)).f0 < l[j].f0 := List.pairwise_iff_getElem.1 h i j (by omega) hj hij

theorem oddat_ev (h : SF p c core odd) (i : Int) : ∃ r, Ev (fun k => gran_odd.f k p c core odd i) r ∧ OddAt odd i r := by
  have hn : odd.length ≤ 6000 := h.hlo
  have key : ∀ (d lo hi : Nat), hi - lo = d → lo ≤ hi → hi ≤ odd.length → (∀ j (hj : j < odd.length), j < lo → odd[j].f0 < i) → (∀ j (hj : j < odd.length), hi ≤ j → i ≤ odd[j].f0) →
      ∃ r, Ev (fun k => slices_BinarySearchFunc_Granule_int.l0 k odd i (odd.length : Int) (lo : Int) (hi : Int)) r ∧ OddAt odd i r := by
    intro d
    induction d using Nat.strongRecOn with
    | ind d ih =>
      intro lo hi hd hle hhn hlow hhigh
      by_cases hlt : lo < hi
      · have c1 : (lo : Int) < (hi : Int) := by omega
        have hm := mid_of lo hi (by omega) hle
        have hmid : (lo + hi) / 2 < odd.length := by omega
        have hrd := rdG odd ((lo + hi) / 2) hmid
        by_cases t : odd[(lo + hi) / 2].f0 < i
        · obtain ⟨r, r1, r2⟩ := ih (hi - ((lo + hi) / 2 + 1)) (by omega) ((lo + hi) / 2 + 1) hi rfl (by omega) hhn (fun j hj h' => by
            rcases Nat.lt_or_ge j ((lo + hi) / 2) with g | g
            · have := pw_lt h.hup hmid g; omega
            · have : j = (lo + hi) / 2 := by omega
              subst this; exact t) hhigh
          refine ⟨r, Ev.step (fun k => ?_) r1, r2⟩
          have hw : wrap64 ((((lo + hi) / 2 : Nat) : Int) + 1) = (((lo + hi) / 2 + 1 : Nat) : Int) := by rw [wrap_ok (by omega) (by omega)]; simp
          rw [slices_BinarySearchFunc_Granule_int.l0, if_pos c1, hm, if_pos (by omega), if_pos (by omega), hrd, odd1_f, if_pos t, Option.bind_some, if_pos (by omega), hw]
        · obtain ⟨r, r1, r2⟩ := ih ((lo + hi) / 2 - lo) (by omega) lo ((lo + hi) / 2) rfl (by omega) (by omega) hlow (fun j hj h' => by
            rcases Nat.lt_or_ge ((lo + hi) / 2) j with g | g
            · have := pw_lt h.hup hj g; omega
            · have : j = (lo + hi) / 2 := by omega
              subst this; omega)
          refine ⟨r, Ev.step (fun k => ?_) r1, r2⟩
          have hneg : ¬ (if odd[(lo + hi) / 2].f0 < i then (-1 : Int) else if odd[(lo + hi) / 2].f0 > i then 1 else 0) < 0 := by rw [if_neg t]; split <;> omega
          rw [slices_BinarySearchFunc_Granule_int.l0, if_pos c1, hm, if_pos (by omega), if_pos (by omega), hrd, odd1_f, Option.bind_some, if_neg hneg]
      · have he : lo = hi := by omega
        subst he
        by_cases hlast : lo < odd.length
        · have hx := hhigh lo hlast (by omega)
          refine ⟨((lo : Int), decide (odd[lo].f0 = i)), Ev.step (f := fun _ => some ((lo : Int), decide (odd[lo].f0 = i))) (fun k => ?_) (Ev.now _), ?_⟩
          · rw [slices_BinarySearchFunc_Granule_int.l0, if_neg (by omega), if_pos (by omega), if_pos (by omega), if_pos (by omega), rdG odd lo hlast, odd1_f, if_neg (by omega), Option.bind_some]
            by_cases g : odd[lo].f0 > i
            · have : ¬ odd[lo].f0 = i := by omega
              simp [g, this]
            · have : odd[lo].f0 = i := by omega
              simp [g, this]
          · refine ⟨by omega, by show (lo : Int) ≤ _; omega, fun j hj hl => hlow j hj (by simp only at hl; omega), fun j hj hl => hhigh j hj (by simp only at hl; omega), fun e => ⟨by simpa using hlast, by simpa using e⟩, fun e => ?_⟩
            rw [oddOf_none]
            intro g hg
            obtain ⟨j, hj, rfl⟩ := List.getElem_of_mem hg
            have e' : ¬ odd[lo].f0 = i := by simpa using e
            rcases Nat.lt_or_ge j lo with g | g
            · have := hlow j hj g; omega
            · rcases Nat.lt_or_ge lo j with g2 | g2
              · have := pw_lt h.hup hj g2; omega
              · have : j = lo := by omega
                subst this; exact e'
        · refine ⟨((lo : Int), false), Ev.step (f := fun _ => some ((lo : Int), false)) (fun k => ?_) (Ev.now _), ?_⟩
          · rw [slices_BinarySearchFunc_Granule_int.l0, if_neg (by omega), if_neg (by omega)]
          · refine ⟨by omega, by show (lo : Int) ≤ _; omega, fun j hj hl => hlow j hj (by simp only at hl; omega), fun j hj hl => hhigh j hj (by simp only at hl; omega), (fun e => by cases e), fun e => ?_⟩
            rw [oddOf_none]
            intro g hg
            obtain ⟨j, hj, rfl⟩ := List.getElem_of_mem hg
            have := hlow j hj (by omega); omega
  obtain ⟨r, r1, r2⟩ := key _ 0 odd.length rfl (by omega) (Nat.le_refl _) (fun j hj h => by omega) (fun j hj h => by omega)
  refine ⟨r, ?_, r2⟩
  refine Ev.congr (fun k => ?_) (Ev.bind (f := fun _ a => some (a.1, a.2)) r1 (Ev.now _))
  simp only [gran_odd.f, slices_BinarySearchFunc_Granule_int.f]
  rfl

theorem iLt (a b : Int) : a < b ∨ b ≤ a := by omega
theorem floor_ev (a b : Int) (ha : -4611686018427387904 ≤ a ∧ a ≤ 4611686018427387904) (hb : 0 < b ∧ b ≤ 4611686018427387904) : Ev (fun k => safe_Floor.f k a b) (a / b, a % b, 0) := by
  have h1 := Int.emod_nonneg a (show b ≠ 0 by omega)
  have h2 := Int.emod_lt_of_pos a hb.1
  have h3 := Int.mul_ediv_add_emod a b
  have hq : -4611686018427387904 ≤ a / b ∧ a / b ≤ 4611686018427387904 := by
    constructor
    · rcases iLt (a / b) (-4611686018427387904) with h | h
      · exfalso
        have : b * (a / b) ≤ 1 * (a / b) := Int.mul_le_mul_of_nonpos_right (by omega) (by omega)
        have e : (1 : Int) * (a / b) = a / b := Int.one_mul _
        rw [e] at this
        by_cases hb1 : b = 1
        · subst hb1; omega
        · have : b * (a / b) ≤ 2 * (a / b) := Int.mul_le_mul_of_nonpos_right (by omega) (by omega)
          omega
      · exact h
    · rcases iLt 4611686018427387904 (a / b) with h | h
      · exfalso
        have : 1 * (a / b) ≤ b * (a / b) := Int.mul_le_mul_of_nonneg_right (by omega) (by omega)
        have e : (1 : Int) * (a / b) = a / b := Int.one_mul _
        rw [e] at this
        omega
      · exact h
  refine Ev.congr (f := fun k => safe_Floor.j0 k a b false) (fun k => ?_) ?_
  · unfold safe_Floor.f; rw [if_neg (by omega), if_neg (by omega)]
  refine Ev.step (f := fun _ => some (a / b, a % b, 0)) (fun k => ?_) (Ev.now _)
  rw [safe_Floor.j0, if_neg (by simp), if_neg (by omega)]
  have ht := Int.tmod_add_mul_tdiv a b
  rcases iLt a 0 with hneg | hpos
  · -- below 0
    by_cases hz : Int.tmod a b = 0
    · rw [if_pos hz]
      have hdvd : b ∣ a := Int.dvd_of_tmod_eq_zero hz
      have e1 : a % b = 0 := Int.emod_eq_zero_of_dvd hdvd
      have e2 : Int.tdiv a b = a / b := by
        have : b * Int.tdiv a b = b * (a / b) := by rw [hz] at ht; omega
        exact Int.eq_of_mul_eq_mul_left (by omega) this
      rw [e2, hz, e1, wrap_ok (by omega) (by omega)]
    · have t1 : Int.tmod a b ≤ 0 := (by have h0 := Int.tmod_nonneg b (show 0 ≤ -a by omega); rw [Int.neg_tmod] at h0; omega)
      have t2 : -b < Int.tmod a b := by
        have := Int.lt_tmod_of_pos a hb.1; omega
      have e2 : Int.tdiv a b = a / b + 1 := by
        have k1 : b * (a / b - Int.tdiv a b) = Int.tmod a b - a % b := by rw [Int.mul_sub]; omega
        have k2 : a / b - Int.tdiv a b < 0 := by
          rcases iLt (a / b - Int.tdiv a b) 0 with g | g
          · exact g
          · have : 0 ≤ b * (a / b - Int.tdiv a b) := Int.mul_nonneg (by omega) g
            omega
        have k3 : -2 < a / b - Int.tdiv a b := by
          rcases iLt (-2) (a / b - Int.tdiv a b) with g | g
          · exact g
          · have : b * (a / b - Int.tdiv a b) ≤ b * (-2) := Int.mul_le_mul_of_nonneg_left g (by omega)
            omega
        omega
      have e1 : Int.tmod a b + b = a % b := by
        have : b * Int.tdiv a b = b * (a / b) + b := by rw [e2, Int.mul_add, Int.mul_one]
        omega
      rw [if_neg hz]
      have hx : ((decide ((Int.tmod a b) < 0)) != (decide (b < 0))) = true := by
        have a1 : Int.tmod a b < 0 := by omega
        have a2 : ¬ b < 0 := by omega
        simp [a1, a2]
      rw [if_pos hx, e2, e1, wrap_ok (n := a / b + 1) (by omega) (by omega), wrap_ok (n := a / b + 1 - 1) (by omega) (by omega), wrap_ok (n := a % b) (by omega) (by omega)]
      simp
  · have e1 : Int.tmod a b = a % b := Int.tmod_eq_emod_of_nonneg hpos
    have e2 : Int.tdiv a b = a / b := Int.tdiv_eq_ediv_of_nonneg hpos
    rw [e1, e2, wrap_ok (n := a / b) (by omega) (by omega)]
    by_cases hz : a % b = 0
    · rw [if_pos hz]
    · rw [if_neg hz]
      have hx : ¬ ((decide ((a % b) < 0)) != (decide (b < 0))) = true := by
        have a1 : ¬ a % b < 0 := by omega
        have a2 : ¬ b < 0 := by omega
        simp [a1, a2]
      rw [if_neg hx]
end Go.Proofs.Ytmbmalkpmanaaaa.P

namespace Go.Proofs.Ytmbmalkpmanaaaa.P
set_option linter.unusedVariables false
set_option linter.unusedSimpArgs false
open Go.RowKit Go.Proofs.YtmbmalkpmanaaaaW.PrintWords

theorem wrap_u64 (n : Int) : IntKind.u64.wrap n = n % 18446744073709551616 := by simp [IntKind.wrap, IntKind.bits, IntKind.signed]
theorem wraps_u64 (n : Int) (h₀ : 0 ≤ n) (h₁ : n < 2 ^ 64) : IntKind.u64.wrap n = n := by rw [wrap_u64]; omega
theorem and_u64 (x : Int) (h0 : 0 ≤ x) (h1 : x < 18446744073709551616) : Go.bits .and .u64 x 4294967295 = x % 4294967296 := bits_mask .u64 64 (by decide) wraps_u64 32 (by decide) x h0 h1
theorem mul_bd (u v : Int) (hu : 0 ≤ u) (hu' : u ≤ 4294967295) (hv : 0 ≤ v) (hv' : v ≤ 4294967295) : 0 ≤ u * v ∧ u * v ≤ 18446744065119617025 := by
  refine ⟨Int.mul_nonneg hu hv, ?_⟩
  have := Int.mul_le_mul hu' hv' hv (show (0 : Int) ≤ 4294967295 by omega)
  omega
theorem mul64_f (a b : Int) (ha : 0 ≤ a ∧ a < 18446744073709551616) (hb : 0 ≤ b ∧ b < 18446744073709551616) : bits_Mul64.f a b = some (a * b / 18446744073709551616, a * b % 18446744073709551616) := by
  obtain ⟨a1, ha1⟩ : ∃ a1, a / 4294967296 = a1 := ⟨_, rfl⟩
  obtain ⟨a0, ha0⟩ : ∃ a0, a % 4294967296 = a0 := ⟨_, rfl⟩
  obtain ⟨b1, hb1⟩ : ∃ b1, b / 4294967296 = b1 := ⟨_, rfl⟩
  obtain ⟨b0, hb0⟩ : ∃ b0, b % 4294967296 = b0 := ⟨_, rfl⟩
  have ea : a = a1 * 4294967296 + a0 := by omega
  have eb : b = b1 * 4294967296 + b0 := by omega
  have x1 := mul_bd a0 b0 (by omega) (by omega) (by omega) (by omega)
  have y1 := mul_bd a1 b0 (by omega) (by omega) (by omega) (by omega)
  have z1 := mul_bd a0 b1 (by omega) (by omega) (by omega) (by omega)
  have v1 := mul_bd a1 b1 (by omega) (by omega) (by omega) (by omega)
  have id : a * b = a1 * b1 * 18446744073709551616 + (a1 * b0 + a0 * b1) * 4294967296 + a0 * b0 := by rw [ea, eb]; grind
  have hN : a * b < 18446744073709551616 * 18446744073709551616 := by
    have := Int.mul_le_mul (show a ≤ 18446744073709551615 by omega) (show b ≤ 18446744073709551615 by omega) hb.1 (by omega)
    omega
  unfold bits_Mul64.f
  rw [and_u64 a ha.1 ha.2, and_u64 b hb.1 hb.2, ha1, ha0, hb1, hb0]
  rw [wrap_u64 (a * b), id]
  rw [id] at hN
  obtain ⟨x, hx⟩ : ∃ x, a0 * b0 = x := ⟨_, rfl⟩
  obtain ⟨y, hy⟩ : ∃ y, a1 * b0 = y := ⟨_, rfl⟩
  obtain ⟨z, hz⟩ : ∃ z, a0 * b1 = z := ⟨_, rfl⟩
  obtain ⟨v, hv⟩ : ∃ v, a1 * b1 = v := ⟨_, rfl⟩
  simp only [hx, hy, hz, hv] at x1 y1 z1 v1 hN ⊢
  rw [wraps_u64 x (by omega) (by omega), wraps_u64 y (by omega) (by omega), wraps_u64 z (by omega) (by omega), wraps_u64 v (by omega) (by omega)]
  rw [wraps_u64 (y + x / 4294967296) (by omega) (by omega)]
  rw [and_u64 (y + x / 4294967296) (by omega) (by omega)]
  rw [wraps_u64 ((y + x / 4294967296) % 4294967296 + z) (by omega) (by omega)]
  rw [wraps_u64 (v + (y + x / 4294967296) / 4294967296) (by omega) (by omega)]
  rw [wraps_u64 (v + (y + x / 4294967296) / 4294967296 + ((y + x / 4294967296) % 4294967296 + z) / 4294967296) (by omega) (by omega)]
  congr 1
  refine Prod.ext ?_ rfl
  show v + (y + x / 4294967296) / 4294967296 + ((y + x / 4294967296) % 4294967296 + z) / 4294967296 = (v * 18446744073709551616 + (y + z) * 4294967296 + x) / 18446744073709551616
  omega
theorem size_f (a : Int) (h1 : -9223372036854775808 ≤ a) (h2 : a ≤ 9223372036854775807) : safe_size.f a = some (if a < 0 then -a else a) := by
  unfold safe_size.f
  by_cases h : a < 0
  · rw [if_pos h, if_pos h, wrap_u64, wrap_u64]
    congr 1
    omega
  · rw [if_neg h, if_neg h, wrap_u64]
    congr 1
    omega
def mulV (a b : Int) : Int × Int := if -9223372036854775808 ≤ a * b ∧ a * b ≤ 9223372036854775807 then (a * b, 0) else (0, 10)
theorem mul_ev (a b : Int) (ha : -9223372036854775808 ≤ a ∧ a ≤ 9223372036854775807) (hb : 0 ≤ b ∧ b ≤ 9223372036854775807) : Ev (fun k => safe_Mul.f k a b) (mulV a b) := by
  have sb : safe_size.f b = some b := by rw [size_f b (by omega) (by omega), if_neg (by omega)]
  obtain ⟨n, hn⟩ : ∃ n, (if a < 0 then -a else a) = n := ⟨_, rfl⟩
  have sa : safe_size.f a = some n := by rw [size_f a (by omega) (by omega), hn]
  have hn0 : 0 ≤ n ∧ n ≤ 9223372036854775808 := by split at hn <;> omega
  have hm : n * b = if a < 0 then -(a * b) else a * b := by
    rw [← hn]; split
    · rw [Int.neg_mul]
    · rfl
  have hp : 0 ≤ n * b := Int.mul_nonneg hn0.1 hb.1
  have hbd : (decide (b < 0)) = false := by simp; omega
  unfold safe_Mul.f
  simp only [sa, sb, Option.bind_some, mul64_f n b (by omega) (by omega), hbd]
  by_cases hhi : n * b / 18446744073709551616 = 0
  · have hlt : n * b < 18446744073709551616 := by omega
    have hmod : n * b % 18446744073709551616 = n * b := by omega
    simp only [hhi, hmod, if_true]
    by_cases hs : a < 0
    · have e1 : ((decide (a < 0)) != false) = true := by simp [hs]
      rw [if_pos hs] at hm
      simp only [e1, safe_signed.f, if_true]
      by_cases hz : n * b ≤ 9223372036854775808
      · refine Ev.congr (f := fun k => (safe_signed.j0 k (n * b) true true).bind fun bt => some (bt.1, bt.2)) (fun k => by simp [hz]) ?_
        refine Ev.bind (a := (a * b, 0)) (Ev.step (f := fun _ => some (a * b, 0)) (fun k => ?_) (Ev.now _)) ?_
        · rw [safe_signed.j0, if_pos rfl, wrap_u64]
          congr 2
          unfold wrap64; omega
        · have : mulV a b = (a * b, 0) := by unfold mulV; rw [if_pos (by omega)]
          rw [this]; exact Ev.now _
      · refine Ev.congr (f := fun k => (safe_signed.j0 k (n * b) true false).bind fun bt => some (bt.1, bt.2)) (fun k => by simp [hz]) ?_
        refine Ev.bind (a := (0, 10)) (Ev.step (f := fun _ => some (0, 10)) (fun k => ?_) (Ev.now _)) ?_
        · rw [safe_signed.j0, if_neg (by simp), if_pos rfl]
        · have : mulV a b = (0, 10) := by unfold mulV; rw [if_neg (by omega)]
          rw [this]; exact Ev.now _
    · have e1 : ((decide (a < 0)) != false) = false := by simp [hs]
      rw [if_neg hs] at hm
      simp only [e1, safe_signed.f]
      refine Ev.congr (f := fun k => (safe_signed.j0 k (n * b) false false).bind fun bt => some (bt.1, bt.2)) (fun k => by simp) ?_
      by_cases hz : n * b ≤ 9223372036854775807
      · refine Ev.bind (a := (a * b, 0)) (Ev.step (f := fun _ => some (a * b, 0)) (fun k => ?_) (Ev.now _)) ?_
        · rw [safe_signed.j0, if_neg (by simp), if_neg (by simp), if_pos hz]
          congr 2
          unfold wrap64; omega
        · have : mulV a b = (a * b, 0) := by unfold mulV; rw [if_pos (by omega)]
          rw [this]; exact Ev.now _
      · refine Ev.bind (a := (0, 10)) (Ev.step (f := fun _ => some (0, 10)) (fun k => ?_) (Ev.now _)) ?_
        · rw [safe_signed.j0, if_neg (by simp), if_neg (by simp), if_neg hz]
        · have : mulV a b = (0, 10) := by unfold mulV; rw [if_neg (by omega)]
          rw [this]; exact Ev.now _
  · refine Ev.congr (f := fun _ => some (0, 10)) (fun k => by simp only [hhi, if_false]) ?_
    have : mulV a b = (0, 10) := by
      unfold mulV; rw [if_neg]
      split at hm <;> omega
    rw [this]; exact Ev.now _
end Go.Proofs.Ytmbmalkpmanaaaa.P


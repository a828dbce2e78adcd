/- Lemmas for the law SpansTells: what the functions that it reaches compute. No condition of its own. -/
import Derived.Test.YtmbmalkpmanaaaaYSpansTells2
import Derived.Test.YtmbmalkpmanaaaaYSpansTells4
import Derived.Test.YtmbmalkpmanaaaaYSpansTells5
import Derived.Test.YtmbmalkpmanaaaaYSpansTells7
import Derived.Test.YtmbmalkpmanaaaaYSpansTells6
namespace Go.Proofs.Ytmbmalkpmanaaaa.P
open Go.RowKit Go.Proofs.YtmbmalkpmanaaaaW.PrintWords Go.Proofs.YtmbmalkpmanaaaaW.PrintLast Go.Proofs.YtmbmalkpmanaaaaW.PrintMore
attribute [local go_sem] max2_int min2_int max_two min_two max_three min_three max_four min_four   -- for this text's walks alone
set_option linter.unusedVariables false
set_option linter.unusedSimpArgs false

def spans_Right.l0 : Nat → List (S23) → List (S23) → Int → Int → Option (Bool)
 | 0, _, _, _, _ => none
 | k + 1, x0, x5, x6, x7 => if x7 < x6 then (if 0 ≤ x7 then (if x7 < (x5.length : Int) then ((spans_tick.f ((rd_T23 x5 x7).f0)).bind fun t325 => (if t325 = true then ((spans_tick.f ((rd_T23 x5 x7).f1)).bind fun t326 => (if t326 = true then (if ((rd_T23 x5 x7).f0) > ((rd_T23 x5 x7).f1) then (some false) else (if x7 > 0 then (if 0 ≤ (wrap64 (x7 - 1)) then (if (wrap64 (x7 - 1)) < (x0.length : Int) then (if ((rd_T23 x5 x7).f0) < (wrap64 (((rd_T23 x0 (wrap64 (x7 - 1))).f1) + 2)) then (some false) else (spans_Right.l0 k x0 x5 x6 (wrap64 (x7 + 1)))) else (none)) else (none)) else (spans_Right.l0 k x0 x5 x6 (wrap64 (x7 + 1))))) else (some false))) else (some false))) else (none)) else (none)) else (some true)
def spans_Right.f (k : Nat) (l0 : List (S23)) : Option (Bool) := spans_Right.l0 k l0 l0 (l0.length : Int) 0
theorem spans_Right.mono_l : ∀ k, (∀ y0 y1 y2 y3, LeO (spans_Right.l0 k y0 y1 y2 y3) (spans_Right.l0 (k + 1) y0 y1 y2 y3))
 | 0 => fun _ _ _ _ r h => by simp [spans_Right.l0] at h
 | k + 1 => by
  have ih0 := spans_Right.mono_l k
  ·
   intro y0 y1 y2 y3
   unfold spans_Right.l0
   repeat' first
   | (with_reducible exact ih0 _ _ _ _)
   | (with_reducible exact LeO.refl _)
   | (with_reducible exact LeO.none _)
   | (with_reducible refine LeO.ite ?_ ?_)
   | (with_reducible refine LeO.bind ?_ (fun _ => ?_))
   | exact ih0 _ _ _ _
   | exact LeO.none _
   | refine LeO.ite ?_ ?_
   | refine LeO.bind ?_ (fun _ => ?_)
theorem spans_Right.mono : ∀ a0 k, LeO (spans_Right.f k a0) (spans_Right.f (k + 1) a0) := by
 intro a0 k
 have ih0 := spans_Right.mono_l k
 unfold spans_Right.f
 repeat' first
   | (with_reducible exact ih0 _ _ _ _)
   | (with_reducible exact LeO.refl _)
   | (with_reducible exact LeO.none _)
   | (with_reducible refine LeO.ite ?_ ?_)
   | (with_reducible refine LeO.bind ?_ (fun _ => ?_))
   | exact ih0 _ _ _ _
   | exact LeO.none _
   | refine LeO.ite ?_ ?_
   | refine LeO.bind ?_ (fun _ => ?_)
def spans_Right.T4 : Bool × List (List Nat × List Nat) := (true, [([], []), ([0], [0]), ([1], [1]), ([2], [2]), ([3, 2], [3]), ([4], [4]), ([5, 4], [4, 5]), ([6, 4, 4], [4, 6]), ([7, 4], [4, 7]), ([4, 8], [4, 8]), ([9, 7], [9]), ([10], [10]), ([11, 10], [10, 11]), ([10], [10]), ([13, 10], [10, 13]), ([12, 14, 10], [10, 12, 14]), ([10, 15], [10, 15]), ([16, 10], [16]), ([17], [17]), ([18, 17], [17, 18]), ([19, 17, 17], [17, 19]), ([20], [20]), ([21, 20], [20, 21]), ([20], [20]), ([20], [20]), ([24, 20], [20, 24]), ([23, 25, 20], [20, 23, 25]), ([26, 20], [20, 26]), ([27, 20], [20, 27]), ([28, 20], [20, 28]), ([22, 29, 20], [20, 22, 29]), ([20, 30, 17], [17, 20, 30]), ([17, 31], [17, 31])])
def spans_Right.B4 : List Nat := [0, 1, 3, 7, 15, 31, 63, 127, 255, 511, 1023, 2047, 4095, 2047, 10239, 32767, 65535, 131071, 262143, 524287, 1048575, 2097151, 4194303, 2097151, 2097151, 18874367, 60817407, 127926271, 262143999, 530579455, 1073741823, 2147483647, 4294967295]
theorem spans_Right.tab4 : rtab .any (opsOf Try.f31 4) = spans_Right.T4 := by kernel_rfl
theorem spans_Right.bits4 : waitsOk spans_Right.T4.2 spans_Right.B4 = true := by kernel_rfl
set_option maxHeartbeats 8000000 in
set_option maxRecDepth 100000 in
theorem spans_Right.calls (k : Nat) (A0 : Option Addr) (c0 : Nat) (l0 : List (S23)) (r : Bool) (w : World) (hr0 : Kd.C k23 w A0 l0.length l0) (hc0 : l0.length ≤ c0) (h : spans_Right.f k l0 = some r) :
  Calls Try.prog 31 #[.slice A0 l0.length c0] w fun e w' => e = .returned (.bool r) ∧ Below w.heap.size w w' := by
 have hu23 := Try.underlying23
 have HR0 := Aside0.mk hr0
 have HC0 := Aside0.mk hc0
 clear hr0 hc0
 have HB := Aside0.mk (Below.refl w.heap.size w)
 have H : (spans_Right.l0 k l0 l0 (l0.length : Int) 0) = some r := h
 clear h
 have H' := Aside0.mk H
 clear H
 go_enter Try.func31, Try.ntmps31
 go_wp2
 go_loopg [7] k (fun kq v7 w' => ∃ (x7_1 : Int), v7 = .int .i64 x7_1 ∧ Aside0 (spans_Right.l0 kq l0 l0 (l0.length : Int) x7_1 = some r) ∧ Aside0 (kq ≤ k) ∧ Aside0 (Below w.heap.size w w'))
 case atStart => exact ⟨(0), (by first | rfl | (simp; done) | (simp [*]; done)), H', ⟨Nat.le_refl _⟩, ⟨by repeat (first | (with_reducible first | exact HB.out | apply below_alloc | apply pw_below_drewN | apply below_drew1) | exact HB.out)⟩⟩
 case round =>
  clear H'
  obtain ⟨x7_1, rfl, HA, HK1, HB⟩ := hrel
  cases gk with
  | zero => exact absurd HA.out (by simp [spans_Right.l0])
  | succ k1 =>
   have H := HA.out
   clear HA
   simp only [spans_Right.l0] at H
   by_cases c2 : x7_1 < (l0.length : Int)
   ·
    rw [if_pos c2] at H
    have c2b0 : decide (x7_1 < (l0.length : Int)) = true := decide_eq_true c2
    clear c2
    by_cases c3 : 0 ≤ x7_1
    ·
     rw [if_pos c3] at H
     have c3b0 : decide (0 ≤ x7_1) = true := decide_eq_true c3
     clear c3
     by_cases c4 : x7_1 < (l0.length : Int)
     ·
      rw [if_pos c4] at H
      have c4b0 : decide (x7_1 < (l0.length : Int)) = true := decide_eq_true c4
      clear c4
      replace H := Option.bind_eq_some_iff.mp H
      obtain ⟨t325, A50, H⟩ := H
      replace H : (if t325 = true then ((spans_tick.f ((rd_T23 l0 x7_1).f1)).bind fun t326 => (if t326 = true then (if ((rd_T23 l0 x7_1).f0) > ((rd_T23 l0 x7_1).f1) then (some false) else (if x7_1 > 0 then (if 0 ≤ (wrap64 (x7_1 - 1)) then (if (wrap64 (x7_1 - 1)) < (l0.length : Int) then (if ((rd_T23 l0 x7_1).f0) < (wrap64 (((rd_T23 l0 (wrap64 (x7_1 - 1))).f1) + 2)) then (some false) else (spans_Right.l0 k1 l0 l0 (l0.length : Int) (wrap64 (x7_1 + 1)))) else (none)) else (none)) else (spans_Right.l0 k1 l0 l0 (l0.length : Int) (wrap64 (x7_1 + 1))))) else (some false))) else (some false)) = some r := H
      have A5 := Aside0.mk A50
      clear A50
      by_cases c6 : t325 = true
      ·
       subst c6
       have H1 : ((spans_tick.f ((rd_T23 l0 x7_1).f1)).bind fun t326 => (if t326 = true then (if ((rd_T23 l0 x7_1).f0) > ((rd_T23 l0 x7_1).f1) then (some false) else (if x7_1 > 0 then (if 0 ≤ (wrap64 (x7_1 - 1)) then (if (wrap64 (x7_1 - 1)) < (l0.length : Int) then (if ((rd_T23 l0 x7_1).f0) < (wrap64 (((rd_T23 l0 (wrap64 (x7_1 - 1))).f1) + 2)) then (some false) else (spans_Right.l0 k1 l0 l0 (l0.length : Int) (wrap64 (x7_1 + 1)))) else (none)) else (none)) else (spans_Right.l0 k1 l0 l0 (l0.length : Int) (wrap64 (x7_1 + 1))))) else (some false))) = some r := by rw [if_pos rfl] at H; exact H
       clear H
       have H := H1
       clear H1
       replace H := Option.bind_eq_some_iff.mp H
       obtain ⟨t326, A70, H⟩ := H
       replace H : (if t326 = true then (if ((rd_T23 l0 x7_1).f0) > ((rd_T23 l0 x7_1).f1) then (some false) else (if x7_1 > 0 then (if 0 ≤ (wrap64 (x7_1 - 1)) then (if (wrap64 (x7_1 - 1)) < (l0.length : Int) then (if ((rd_T23 l0 x7_1).f0) < (wrap64 (((rd_T23 l0 (wrap64 (x7_1 - 1))).f1) + 2)) then (some false) else (spans_Right.l0 k1 l0 l0 (l0.length : Int) (wrap64 (x7_1 + 1)))) else (none)) else (none)) else (spans_Right.l0 k1 l0 l0 (l0.length : Int) (wrap64 (x7_1 + 1))))) else (some false)) = some r := H
       have A7 := Aside0.mk A70
       clear A70
       by_cases c8 : t326 = true
       ·
        subst c8
        have H1 : (if ((rd_T23 l0 x7_1).f0) > ((rd_T23 l0 x7_1).f1) then (some false) else (if x7_1 > 0 then (if 0 ≤ (wrap64 (x7_1 - 1)) then (if (wrap64 (x7_1 - 1)) < (l0.length : Int) then (if ((rd_T23 l0 x7_1).f0) < (wrap64 (((rd_T23 l0 (wrap64 (x7_1 - 1))).f1) + 2)) then (some false) else (spans_Right.l0 k1 l0 l0 (l0.length : Int) (wrap64 (x7_1 + 1)))) else (none)) else (none)) else (spans_Right.l0 k1 l0 l0 (l0.length : Int) (wrap64 (x7_1 + 1))))) = some r := by rw [if_pos rfl] at H; exact H
        clear H
        have H := H1
        clear H1
        by_cases c9 : ((rd_T23 l0 x7_1).f0) > ((rd_T23 l0 x7_1).f1)
        ·
         rw [if_pos c9] at H
         have c9b0 : decide (((rd_T23 l0 x7_1).f1) < ((rd_T23 l0 x7_1).f0)) = true := decide_eq_true c9
         clear c9
         obtain rfl := Option.some.inj H
         have p323 : 0 ≤ (x7_1 : Int) := of_decide_eq_true (by first | (with_reducible assumption) | assumption)
         have q323 : x7_1 < (l0.length : Int) := of_decide_eq_true (by first | (with_reducible assumption) | assumption)
         obtain ⟨ad323, e323, hx323_0, hx323_1⟩ := at_T23 HR0.out x7_1 p323 q323
         cases e323
         replace hx323_0 := (HB.out.cell (World.block_lt_of_cell? w _ hx323_0)).trans hx323_0
         replace hx323_1 := (HB.out.cell (World.block_lt_of_cell? w _ hx323_1)).trans hx323_1
         replace p323 := eq_true p323
         replace q323 := eq_true q323
         try go_wp2_with (first | ((with_reducible refine gate_dst (N := 4) rfl ?_); refine box_event ?hg (N := 4) ?hd (cs := #[.int .i64 0, .int .i64 0]) (t := 23) ?hr ?_; (case hd => rfl); (case hg => rfl); (case hr => first | (go_simp; done) | (go_simp; rfl)); intro gb324 hg w10 hbox hb; have n0_ := Aside0.mk (below_step (by repeat (first | (with_reducible first | exact HB.out | apply below_alloc | apply pw_below_drewN | apply below_drew1) | exact HB.out)) hb); have n1_ := Aside0.mk (hbox); have n2_ := Aside0.mk ((by rw [hg]; exact (below_size (by repeat (first | (with_reducible first | exact HB.out | apply below_alloc | apply pw_below_drewN | apply below_drew1) | exact HB.out))) : w.heap.size ≤ gb324)); have n3_ := Aside0.mk ((by rw [hg]; exact (below_size (by repeat (first | (with_reducible first | exact HB.out | apply below_alloc | apply pw_below_drewN | apply below_drew1) | exact HB.out))) : w.heap.size ≤ gb324)); clear HB; have HB := n0_; have BK324 := n1_; have GW324 := n2_; have GE324 := n3_; clear n0_ n1_ n2_ n3_; clear hb hbox hg; have hcz11_0 : w10.cell? ⟨gb324, 0, none⟩ = some (.int .i64 0) := (blk_cell BK324.out 0).trans rfl; have hcz11_1 : w10.cell? ⟨gb324, 1, none⟩ = some (.int .i64 0) := (blk_cell BK324.out 1).trans rfl; have hfz11_0 := blk_frozen BK324.out 0; have hfz11_1 := blk_frozen BK324.out 1))
         have n0_ : Aside0 (((w10.setCell ⟨gb324, 0, none⟩ (.int .i64 ((rd_T23 l0 x7_1).f0))).setCell ⟨gb324, 1, none⟩ (.int .i64 ((rd_T23 l0 x7_1).f1))).heap[gb324]? = some (.cells #[.int .i64 ((rd_T23 l0 x7_1).f0), .int .i64 ((rd_T23 l0 x7_1).f1)] 23 (0, 0))) := ⟨by (with_reducible repeat (first | refine blk_drewN ?_ _ | refine blk_drew ?_ | refine blk_alloc ?_ _)); refine blk_put (cs := #[.int .i64 ((rd_T23 l0 x7_1).f0), .int .i64 0]) ?_ 1 _ rfl; (with_reducible repeat (first | refine blk_drewN ?_ _ | refine blk_drew ?_ | refine blk_alloc ?_ _)); refine blk_put (cs := #[.int .i64 0, .int .i64 0]) ?_ 0 _ rfl; (with_reducible repeat (first | refine blk_drewN ?_ _ | refine blk_drew ?_ | refine blk_alloc ?_ _)); exact BK324.out⟩
         have n1_ : Aside0 (Below w.heap.size w ((w10.setCell ⟨gb324, 0, none⟩ (.int .i64 ((rd_T23 l0 x7_1).f0))).setCell ⟨gb324, 1, none⟩ (.int .i64 ((rd_T23 l0 x7_1).f1)))) := ⟨by repeat (first | (with_reducible first | exact HB.out | apply below_alloc | apply pw_below_drewN | apply below_drew1 | refine below_set ?_ GE324.out) | exact HB.out)⟩
         (try clear BK324)
         (try clear HB)
         generalize ((w10.setCell ⟨gb324, 0, none⟩ (.int .i64 ((rd_T23 l0 x7_1).f0))).setCell ⟨gb324, 1, none⟩ (.int .i64 ((rd_T23 l0 x7_1).f1))) = w12 at n0_ n1_ ⊢
         have BK324 := n0_
         have HB := n1_
         clear n0_ n1_
         have n0_ := Aside0.mk (blk_drew BK324.out)
         have n1_ := Aside0.mk (below_drew1 HB.out)
         clear BK324
         clear HB
         have BK324 := n0_
         have HB := n1_
         clear n0_ n1_
         refine start_ (n := 33) (S := fun w' => w'.cell? ⟨gb324, 0, none⟩ = some (.int .i64 ((rd_T23 l0 x7_1).f0)) ∧ w'.cell? ⟨gb324, 1, none⟩ = some (.int .i64 ((rd_T23 l0 x7_1).f1))) (ds := []) #[false, false, false, false, false, false, false, false, false, false, false, false, false, false, false, false, false, false, false, false, false, false, false, false, false, false, false, false, false, false, false, false, false] (by kernel_rfl) rfl rfl ⟨(blk_cell BK324.out 0).trans rfl, (blk_cell BK324.out 1).trans rfl⟩ (fun hHeld => ?_); refine with_tabW spans_Right.tab4 spans_Right.bits4 (fun HT_ HW_ => ?_)
         generalize w12.drew = w13 at BK324 HB hHeld ⊢
         refine pure_ (i := 0) (N := some 12) (v := ?_) (a' := ?_) #[true, false, false, false, false, false, false, false, false, false, false, false, false, false, false, false, false, false, false, false, false, false, false, false, false, false, false, false, false, false, false, false, false] rfl rfl (any_of HT_.out (by kernel_rfl)) (fun _ _ _ h => h) (Or.inl ⟨by rfl, ?_⟩) ?_ ?_
         rotate_left
         ·
          intro w'
          go_simp
          with_reducible rfl
         rotate_left
         ·
          simp only [Act.put, List.setIfInBounds_toArray, List.set_cons_zero, List.set_cons_succ, i64_w, i32_w]
          rfl
         refine take_ (i := 1) (N := some 13) (v := ?_) (a' := ?_) #[true, true, false, false, false, false, false, false, false, false, false, false, false, false, false, false, false, false, false, false, false, false, false, false, false, false, false, false, false, false, false, false, false] rfl rfl (take_ofW HT_.out HW_.out (by kernel_rfl)) (fun _ _ _ h => h) (Or.inl ⟨by rfl, ?_⟩) hHeld ?_ ?_
         rotate_left
         ·
          rintro w' ⟨s0, s1⟩
          go_simp
          with_reducible rfl
         rotate_left
         ·
          simp only [Act.put, List.setIfInBounds_toArray, List.set_cons_zero, List.set_cons_succ, i64_w, i32_w]
          rfl
         refine one_ (i := 2) (N := some 14) #[true, true, true, false, false, false, false, false, false, false, false, false, false, false, false, false, false, false, false, false, false, false, false, false, false, false, false, false, false, false, false, false, false] rfl rfl (one_of HT_.out (by kernel_rfl)) (by decide) (fun K hK => ?_)
         refine goes_ Try.func66 (by kernel_rfl) rfl #[.int .i64 ((rd_T23 l0 x7_1).f0)] (by rfl) rfl rfl (by (try simp only [List.map_toArray, List.map_cons, List.map_nil]); first | done | rfl | (simp only [List.length_drop, List.length_take]; rfl)) ?_
         with_reducible refine (spans_tick.calls ((rd_T23 l0 x7_1).f0) true _ A5.out).mono ?_
         rintro e w' ⟨rfl, ⟨nd, rfl⟩⟩
         refine ⟨_, rfl, ?_⟩
         refine hK.out _ _ ⟨(blk_cell BK324.out 0).trans rfl, (blk_cell BK324.out 1).trans rfl⟩ (fun hHeld => ?_)
         clear hK K
         refine norm_ (a' := ?_) ?_ ?_
         rotate_left
         ·
          show Act.put _ (some 14) _ = _
          simp only [Act.put, List.setIfInBounds_toArray, List.set_cons_zero, List.set_cons_succ, i64_w, i32_w]
          rfl
         refine pure_ (i := 3) (N := some 15) (v := ?_) (a' := ?_) #[true, true, true, true, false, false, false, false, false, false, false, false, false, false, false, false, false, false, false, false, false, false, false, false, false, false, false, false, false, false, false, false, false] rfl rfl (any_of HT_.out (by kernel_rfl)) (fun _ _ _ h => h) (Or.inl ⟨by rfl, ?_⟩) ?_ ?_
         rotate_left
         ·
          intro w'
          go_simp
          with_reducible rfl
         rotate_left
         ·
          simp only [Act.put, List.setIfInBounds_toArray, List.set_cons_zero, List.set_cons_succ, i64_w, i32_w]
          rfl
         refine pure_ (i := 4) (N := some 16) (v := ?_) (a' := ?_) #[true, true, true, true, true, false, false, false, false, false, false, false, false, false, false, false, false, false, false, false, false, false, false, false, false, false, false, false, false, false, false, false, false] rfl rfl (any_of HT_.out (by kernel_rfl)) (fun _ _ _ h => h) (Or.inl ⟨by rfl, ?_⟩) ?_ ?_
         rotate_left
         ·
          intro w'
          go_simp
          with_reducible rfl
         rotate_left
         ·
          simp only [Act.put, List.setIfInBounds_toArray, List.set_cons_zero, List.set_cons_succ, i64_w, i32_w]
          rfl
         refine pure_ (i := 5) (N := some 17) (v := ?_) (a' := ?_) #[true, true, true, true, true, true, false, false, false, false, false, false, false, false, false, false, false, false, false, false, false, false, false, false, false, false, false, false, false, false, false, false, false] rfl rfl (any_of HT_.out (by kernel_rfl)) (fun _ _ _ h => h) (Or.inl ⟨by rfl, ?_⟩) ?_ ?_
         rotate_left
         ·
          intro w'
          go_simp
          with_reducible rfl
         rotate_left
         ·
          simp only [Act.put, List.setIfInBounds_toArray, List.set_cons_zero, List.set_cons_succ, i64_w, i32_w]
          rfl
         refine take_ (i := 6) (N := some 18) (v := ?_) (a' := ?_) #[true, true, true, true, true, true, true, false, false, false, false, false, false, false, false, false, false, false, false, false, false, false, false, false, false, false, false, false, false, false, false, false, false] rfl rfl (take_ofW HT_.out HW_.out (by kernel_rfl)) (fun _ _ _ h => h) (Or.inl ⟨by rfl, ?_⟩) hHeld ?_ ?_
         rotate_left
         ·
          rintro w' ⟨s0, s1⟩
          go_simp
          with_reducible rfl
         rotate_left
         ·
          simp only [Act.put, List.setIfInBounds_toArray, List.set_cons_zero, List.set_cons_succ, i64_w, i32_w]
          rfl
         refine one_ (i := 7) (N := some 19) #[true, true, true, true, true, true, true, true, false, false, false, false, false, false, false, false, false, false, false, false, false, false, false, false, false, false, false, false, false, false, false, false, false] rfl rfl (one_of HT_.out (by kernel_rfl)) (by decide) (fun K hK => ?_)
         refine goes_ Try.func66 (by kernel_rfl) rfl #[.int .i64 ((rd_T23 l0 x7_1).f1)] (by rfl) rfl rfl (by (try simp only [List.map_toArray, List.map_cons, List.map_nil]); first | done | rfl | (simp only [List.length_drop, List.length_take]; rfl)) ?_
         with_reducible refine (spans_tick.calls ((rd_T23 l0 x7_1).f1) true _ A7.out).mono ?_
         rintro e w' ⟨rfl, ⟨nd, rfl⟩⟩
         refine ⟨_, rfl, ?_⟩
         refine hK.out _ _ ⟨(blk_cell BK324.out 0).trans rfl, (blk_cell BK324.out 1).trans rfl⟩ (fun hHeld => ?_)
         clear hK K
         refine norm_ (a' := ?_) ?_ ?_
         rotate_left
         ·
          show Act.put _ (some 19) _ = _
          simp only [Act.put, List.setIfInBounds_toArray, List.set_cons_zero, List.set_cons_succ, i64_w, i32_w]
          rfl
         refine pure_ (i := 8) (N := some 20) (v := ?_) (a' := ?_) #[true, true, true, true, true, true, true, true, true, false, false, false, false, false, false, false, false, false, false, false, false, false, false, false, false, false, false, false, false, false, false, false, false] rfl rfl (any_of HT_.out (by kernel_rfl)) (fun _ _ _ h => h) (Or.inl ⟨by rfl, ?_⟩) ?_ ?_
         rotate_left
         ·
          intro w'
          go_simp
          with_reducible rfl
         rotate_left
         ·
          simp only [Act.put, List.setIfInBounds_toArray, List.set_cons_zero, List.set_cons_succ, i64_w, i32_w]
          rfl
         refine pure_ (i := 9) (N := some 21) (v := ?_) (a' := ?_) #[true, true, true, true, true, true, true, true, true, true, false, false, false, false, false, false, false, false, false, false, false, false, false, false, false, false, false, false, false, false, false, false, false] rfl rfl (any_of HT_.out (by kernel_rfl)) (fun _ _ _ h => h) (Or.inl ⟨by rfl, ?_⟩) ?_ ?_
         rotate_left
         ·
          intro w'
          go_simp
          with_reducible rfl
         rotate_left
         ·
          simp only [Act.put, List.setIfInBounds_toArray, List.set_cons_zero, List.set_cons_succ, i64_w, i32_w]
          rfl
         refine pure_ (i := 10) (N := some 22) (v := ?_) (a' := ?_) #[true, true, true, true, true, true, true, true, true, true, true, false, false, false, false, false, false, false, false, false, false, false, false, false, false, false, false, false, false, false, false, false, false] rfl rfl (any_of HT_.out (by kernel_rfl)) (fun _ _ _ h => h) (Or.inl ⟨by rfl, ?_⟩) ?_ ?_
         rotate_left
         ·
          intro w'
          go_simp
          with_reducible rfl
         rotate_left
         ·
          simp only [Act.put, List.setIfInBounds_toArray, List.set_cons_zero, List.set_cons_succ, i64_w, i32_w]
          rfl
         refine pure_ (i := 11) (N := some 23) (v := ?_) (a' := ?_) #[true, true, true, true, true, true, true, true, true, true, true, true, false, false, false, false, false, false, false, false, false, false, false, false, false, false, false, false, false, false, false, false, false] rfl rfl (any_of HT_.out (by kernel_rfl)) (fun _ _ _ h => h) (Or.inl ⟨by rfl, ?_⟩) ?_ ?_
         rotate_left
         ·
          intro w'
          go_simp
          with_reducible rfl
         rotate_left
         ·
          simp only [Act.put, List.setIfInBounds_toArray, List.set_cons_zero, List.set_cons_succ, i64_w, i32_w]
          rfl
         refine pure_ (i := 13) (N := some 25) (v := ?_) (a' := ?_) #[true, true, true, true, true, true, true, true, true, true, true, true, false, true, false, false, false, false, false, false, false, false, false, false, false, false, false, false, false, false, false, false, false] rfl rfl (any_of HT_.out (by kernel_rfl)) (fun _ _ _ h => h) (Or.inl ⟨by rfl, ?_⟩) ?_ ?_
         rotate_left
         ·
          intro w'
          go_simp
          with_reducible rfl
         rotate_left
         ·
          simp only [Act.put, List.setIfInBounds_toArray, List.set_cons_zero, List.set_cons_succ, i64_w, i32_w]
          rfl
         refine take_ (i := 12) (N := some 24) (v := ?_) (a' := ?_) #[true, true, true, true, true, true, true, true, true, true, true, true, true, true, false, false, false, false, false, false, false, false, false, false, false, false, false, false, false, false, false, false, false] rfl rfl (take_ofW HT_.out HW_.out (by kernel_rfl)) (fun _ _ _ h => h) (Or.inl ⟨by rfl, ?_⟩) hHeld ?_ ?_
         rotate_left
         ·
          rintro w' ⟨s0, s1⟩
          go_simp
          with_reducible rfl
         rotate_left
         ·
          simp only [Act.put, List.setIfInBounds_toArray, List.set_cons_zero, List.set_cons_succ, i64_w, i32_w]
          rfl
         refine take_ (i := 14) (N := some 26) (v := ?_) (a' := ?_) #[true, true, true, true, true, true, true, true, true, true, true, true, true, true, true, false, false, false, false, false, false, false, false, false, false, false, false, false, false, false, false, false, false] rfl rfl (take_ofW HT_.out HW_.out (by kernel_rfl)) (fun _ _ _ h => h) (Or.inl ⟨by rfl, ?_⟩) hHeld ?_ ?_
         rotate_left
         ·
          rintro w' ⟨s0, s1⟩
          go_simp
          with_reducible rfl
         rotate_left
         ·
          simp only [Act.put, List.setIfInBounds_toArray, List.set_cons_zero, List.set_cons_succ, i64_w, i32_w]
          rfl
         refine pure_ (i := 15) (N := some 27) (v := ?_) (a' := ?_) #[true, true, true, true, true, true, true, true, true, true, true, true, true, true, true, true, false, false, false, false, false, false, false, false, false, false, false, false, false, false, false, false, false] rfl rfl (any_of HT_.out (by kernel_rfl)) (fun _ _ _ h => h) (Or.inl ⟨by rfl, ?_⟩) ?_ ?_
         rotate_left
         ·
          intro w'
          go_simp
          with_reducible rfl
         rotate_left
         ·
          simp only [Act.put, List.setIfInBounds_toArray, List.set_cons_zero, List.set_cons_succ, i64_w, i32_w]
          rfl
         refine pure_ (i := 16) (N := some 28) (v := ?_) (a' := ?_) #[true, true, true, true, true, true, true, true, true, true, true, true, true, true, true, true, true, false, false, false, false, false, false, false, false, false, false, false, false, false, false, false, false] rfl rfl (any_of HT_.out (by kernel_rfl)) (fun _ _ _ h => h) (Or.inl ⟨by rfl, ?_⟩) ?_ ?_
         rotate_left
         ·
          intro w'
          go_simp
          with_reducible rfl
         rotate_left
         ·
          simp only [Act.put, List.setIfInBounds_toArray, List.set_cons_zero, List.set_cons_succ, i64_w, i32_w]
          rfl
         refine pure_ (i := 17) (N := some 29) (v := ?_) (a' := ?_) #[true, true, true, true, true, true, true, true, true, true, true, true, true, true, true, true, true, true, false, false, false, false, false, false, false, false, false, false, false, false, false, false, false] rfl rfl (any_of HT_.out (by kernel_rfl)) (fun _ _ _ h => h) (Or.inl ⟨by rfl, ?_⟩) ?_ ?_
         rotate_left
         ·
          intro w'
          go_simp
          with_reducible rfl
         rotate_left
         ·
          simp only [Act.put, List.setIfInBounds_toArray, List.set_cons_zero, List.set_cons_succ, i64_w, i32_w]
          rfl
         refine pure_ (i := 18) (N := some 30) (v := undef) (a' := ?_) #[true, true, true, true, true, true, true, true, true, true, true, true, true, true, true, true, true, true, true, false, false, false, false, false, false, false, false, false, false, false, false, false, false] rfl rfl (any_of HT_.out (by kernel_rfl)) (fun _ _ _ h => h) (Or.inr ⟨by rfl, rfl⟩) ?_ ?_
         rotate_left
         ·
          simp only [Act.put, List.setIfInBounds_toArray, List.set_cons_zero, List.set_cons_succ, i64_w, i32_w]
          rfl
         refine pure_ (i := 19) (N := some 31) (v := undef) (a' := ?_) #[true, true, true, true, true, true, true, true, true, true, true, true, true, true, true, true, true, true, true, true, false, false, false, false, false, false, false, false, false, false, false, false, false] rfl rfl (any_of HT_.out (by kernel_rfl)) (fun _ _ _ h => h) (Or.inr ⟨by rfl, rfl⟩) ?_ ?_
         rotate_left
         ·
          simp only [Act.put, List.setIfInBounds_toArray, List.set_cons_zero, List.set_cons_succ, i64_w, i32_w]
          rfl
         refine pure_ (i := 20) (N := some 32) (v := undef) (a' := ?_) #[true, true, true, true, true, true, true, true, true, true, true, true, true, true, true, true, true, true, true, true, true, false, false, false, false, false, false, false, false, false, false, false, false] rfl rfl (any_of HT_.out (by kernel_rfl)) (fun _ _ _ h => h) (Or.inr ⟨by rfl, rfl⟩) ?_ ?_
         rotate_left
         ·
          simp only [Act.put, List.setIfInBounds_toArray, List.set_cons_zero, List.set_cons_succ, i64_w, i32_w]
          rfl
         refine pure_ (i := 21) (N := some 33) (v := undef) (a' := ?_) #[true, true, true, true, true, true, true, true, true, true, true, true, true, true, true, true, true, true, true, true, true, true, false, false, false, false, false, false, false, false, false, false, false] rfl rfl (any_of HT_.out (by kernel_rfl)) (fun _ _ _ h => h) (Or.inr ⟨by rfl, rfl⟩) ?_ ?_
         rotate_left
         ·
          simp only [Act.put, List.setIfInBounds_toArray, List.set_cons_zero, List.set_cons_succ, i64_w, i32_w]
          rfl
         refine pure_ (i := 22) (N := some 34) (v := undef) (a' := ?_) #[true, true, true, true, true, true, true, true, true, true, true, true, true, true, true, true, true, true, true, true, true, true, true, false, false, false, false, false, false, false, false, false, false] rfl rfl (any_of HT_.out (by kernel_rfl)) (fun _ _ _ h => h) (Or.inr ⟨by rfl, rfl⟩) ?_ ?_
         rotate_left
         ·
          simp only [Act.put, List.setIfInBounds_toArray, List.set_cons_zero, List.set_cons_succ, i64_w, i32_w]
          rfl
         refine pure_ (i := 23) (N := some 35) (v := undef) (a' := ?_) #[true, true, true, true, true, true, true, true, true, true, true, true, true, true, true, true, true, true, true, true, true, true, true, true, false, false, false, false, false, false, false, false, false] rfl rfl (any_of HT_.out (by kernel_rfl)) (fun _ _ _ h => h) (Or.inr ⟨by rfl, rfl⟩) ?_ ?_
         rotate_left
         ·
          simp only [Act.put, List.setIfInBounds_toArray, List.set_cons_zero, List.set_cons_succ, i64_w, i32_w]
          rfl
         refine pure_ (i := 24) (N := some 36) (v := undef) (a' := ?_) #[true, true, true, true, true, true, true, true, true, true, true, true, true, true, true, true, true, true, true, true, true, true, true, true, true, false, false, false, false, false, false, false, false] rfl rfl (any_of HT_.out (by kernel_rfl)) (fun _ _ _ h => h) (Or.inr ⟨by rfl, rfl⟩) ?_ ?_
         rotate_left
         ·
          simp only [Act.put, List.setIfInBounds_toArray, List.set_cons_zero, List.set_cons_succ, i64_w, i32_w]
          rfl
         refine pure_ (i := 25) (N := some 37) (v := undef) (a' := ?_) #[true, true, true, true, true, true, true, true, true, true, true, true, true, true, true, true, true, true, true, true, true, true, true, true, true, true, false, false, false, false, false, false, false] rfl rfl (any_of HT_.out (by kernel_rfl)) (fun _ _ _ h => h) (Or.inr ⟨by rfl, rfl⟩) ?_ ?_
         rotate_left
         ·
          simp only [Act.put, List.setIfInBounds_toArray, List.set_cons_zero, List.set_cons_succ, i64_w, i32_w]
          rfl
         refine pure_ (i := 26) (N := some 38) (v := undef) (a' := ?_) #[true, true, true, true, true, true, true, true, true, true, true, true, true, true, true, true, true, true, true, true, true, true, true, true, true, true, true, false, false, false, false, false, false] rfl rfl (any_of HT_.out (by kernel_rfl)) (fun _ _ _ h => h) (Or.inr ⟨by rfl, rfl⟩) ?_ ?_
         rotate_left
         ·
          simp only [Act.put, List.setIfInBounds_toArray, List.set_cons_zero, List.set_cons_succ, i64_w, i32_w]
          rfl
         refine pure_ (i := 27) (N := some 39) (v := undef) (a' := ?_) #[true, true, true, true, true, true, true, true, true, true, true, true, true, true, true, true, true, true, true, true, true, true, true, true, true, true, true, true, false, false, false, false, false] rfl rfl (any_of HT_.out (by kernel_rfl)) (fun _ _ _ h => h) (Or.inr ⟨by rfl, rfl⟩) ?_ ?_
         rotate_left
         ·
          simp only [Act.put, List.setIfInBounds_toArray, List.set_cons_zero, List.set_cons_succ, i64_w, i32_w]
          rfl
         refine pure_ (i := 28) (N := some 40) (v := undef) (a' := ?_) #[true, true, true, true, true, true, true, true, true, true, true, true, true, true, true, true, true, true, true, true, true, true, true, true, true, true, true, true, true, false, false, false, false] rfl rfl (any_of HT_.out (by kernel_rfl)) (fun _ _ _ h => h) (Or.inr ⟨by rfl, rfl⟩) ?_ ?_
         rotate_left
         ·
          simp only [Act.put, List.setIfInBounds_toArray, List.set_cons_zero, List.set_cons_succ, i64_w, i32_w]
          rfl
         refine pure_ (i := 29) (N := some 41) (v := undef) (a' := ?_) #[true, true, true, true, true, true, true, true, true, true, true, true, true, true, true, true, true, true, true, true, true, true, true, true, true, true, true, true, true, true, false, false, false] rfl rfl (any_of HT_.out (by kernel_rfl)) (fun _ _ _ h => h) (Or.inr ⟨by rfl, rfl⟩) ?_ ?_
         rotate_left
         ·
          simp only [Act.put, List.setIfInBounds_toArray, List.set_cons_zero, List.set_cons_succ, i64_w, i32_w]
          rfl
         refine pure_ (i := 30) (N := some 42) (v := undef) (a' := ?_) #[true, true, true, true, true, true, true, true, true, true, true, true, true, true, true, true, true, true, true, true, true, true, true, true, true, true, true, true, true, true, true, false, false] rfl rfl (any_of HT_.out (by kernel_rfl)) (fun _ _ _ h => h) (Or.inr ⟨by rfl, rfl⟩) ?_ ?_
         rotate_left
         ·
          simp only [Act.put, List.setIfInBounds_toArray, List.set_cons_zero, List.set_cons_succ, i64_w, i32_w]
          rfl
         refine pure_ (i := 31) (N := some 43) (v := undef) (a' := ?_) #[true, true, true, true, true, true, true, true, true, true, true, true, true, true, true, true, true, true, true, true, true, true, true, true, true, true, true, true, true, true, true, true, false] rfl rfl (any_of HT_.out (by kernel_rfl)) (fun _ _ _ h => h) (Or.inr ⟨by rfl, rfl⟩) ?_ ?_
         rotate_left
         ·
          simp only [Act.put, List.setIfInBounds_toArray, List.set_cons_zero, List.set_cons_succ, i64_w, i32_w]
          rfl
         refine pure_ (i := 32) (N := some 44) (v := ?_) (a' := ?_) #[true, true, true, true, true, true, true, true, true, true, true, true, true, true, true, true, true, true, true, true, true, true, true, true, true, true, true, true, true, true, true, true, true] rfl rfl (any_of HT_.out (by kernel_rfl)) (fun _ _ _ h => h) (Or.inl ⟨by rfl, ?_⟩) ?_ ?_
         rotate_left
         ·
          intro w'
          go_simp
          with_reducible rfl
         rotate_left
         ·
          simp only [Act.put, List.setIfInBounds_toArray, List.set_cons_zero, List.set_cons_succ, i64_w, i32_w]
          rfl
         refine done_ (done_of HT_.out (by kernel_rfl)) ?_
         try go_wp2
         go_ret
         exact ⟨by first | rfl | (simp [errW_none, errW_some] <;> rfl) | (simp [*, errW_none, errW_some] <;> rfl), by repeat (first | (with_reducible first | exact HB.out | apply below_alloc | apply pw_below_drewN | apply below_drew1 | refine below_set ?_ GE324.out) | exact HB.out)⟩
        ·
         rw [if_neg c9] at H
         have c9b0 : decide (((rd_T23 l0 x7_1).f1) < ((rd_T23 l0 x7_1).f0)) = false := decide_eq_false c9
         clear c9
         by_cases c14 : x7_1 > 0
         ·
          rw [if_pos c14] at H
          have c14b0 : decide (0 < x7_1) = true := decide_eq_true c14
          clear c14
          obtain ⟨ji15, hji15⟩ : ∃ j_ : Int, (wrap64 (x7_1 - 1)) = j_ := ⟨_, rfl⟩
          replace H : (if 0 ≤ (ji15) then (if (ji15) < (l0.length : Int) then (if ((rd_T23 l0 x7_1).f0) < (wrap64 (((rd_T23 l0 (ji15)).f1) + 2)) then (some false) else (spans_Right.l0 k1 l0 l0 (l0.length : Int) (wrap64 (x7_1 + 1)))) else (none)) else (none)) = some r := by first | (rw [hji15] at H; exact H) | (simp only [hji15] at H ⊢; exact H)
          (try rw [hji15] at A5)
          (try rw [hji15] at A7)
          have hji15w : (IntKind.i64.wrap (x7_1 - 1)) = ji15 := (i64_w _).trans hji15
          by_cases c16 : 0 ≤ (ji15)
          ·
           rw [if_pos c16] at H
           have c16b0 : decide (0 ≤ (ji15)) = true := decide_eq_true c16
           clear c16
           by_cases c17 : (ji15) < (l0.length : Int)
           ·
            rw [if_pos c17] at H
            have c17b0 : decide ((ji15) < (l0.length : Int)) = true := decide_eq_true c17
            clear c17
            by_cases c18 : ((rd_T23 l0 x7_1).f0) < (wrap64 (((rd_T23 l0 (ji15)).f1) + 2))
            ·
             rw [if_pos c18] at H
             have c18b0 : decide (((rd_T23 l0 x7_1).f0) < (wrap64 (((rd_T23 l0 (ji15)).f1) + 2))) = true := decide_eq_true c18
             clear c18
             obtain rfl := Option.some.inj H
             have p323 : 0 ≤ (x7_1 : Int) := of_decide_eq_true (by first | (with_reducible assumption) | assumption)
             have q323 : x7_1 < (l0.length : Int) := of_decide_eq_true (by first | (with_reducible assumption) | assumption)
             obtain ⟨ad323, e323, hx323_0, hx323_1⟩ := at_T23 HR0.out x7_1 p323 q323
             cases e323
             replace hx323_0 := (HB.out.cell (World.block_lt_of_cell? w _ hx323_0)).trans hx323_0
             replace hx323_1 := (HB.out.cell (World.block_lt_of_cell? w _ hx323_1)).trans hx323_1
             replace p323 := eq_true p323
             replace q323 := eq_true q323
             try go_wp2_with (first | ((with_reducible refine gate_dst (N := 4) rfl ?_); refine box_event ?hg (N := 4) ?hd (cs := #[.int .i64 0, .int .i64 0]) (t := 23) ?hr ?_; (case hd => rfl); (case hg => rfl); (case hr => first | (go_simp; done) | (go_simp; rfl)); intro gb324 hg w19 hbox hb; have n0_ := Aside0.mk (below_step (by repeat (first | (with_reducible first | exact HB.out | apply below_alloc | apply pw_below_drewN | apply below_drew1) | exact HB.out)) hb); have n1_ := Aside0.mk (hbox); have n2_ := Aside0.mk ((by rw [hg]; exact (below_size (by repeat (first | (with_reducible first | exact HB.out | apply below_alloc | apply pw_below_drewN | apply below_drew1) | exact HB.out))) : w.heap.size ≤ gb324)); have n3_ := Aside0.mk ((by rw [hg]; exact (below_size (by repeat (first | (with_reducible first | exact HB.out | apply below_alloc | apply pw_below_drewN | apply below_drew1) | exact HB.out))) : w.heap.size ≤ gb324)); clear HB; have HB := n0_; have BK324 := n1_; have GW324 := n2_; have GE324 := n3_; clear n0_ n1_ n2_ n3_; clear hb hbox hg; have hcz20_0 : w19.cell? ⟨gb324, 0, none⟩ = some (.int .i64 0) := (blk_cell BK324.out 0).trans rfl; have hcz20_1 : w19.cell? ⟨gb324, 1, none⟩ = some (.int .i64 0) := (blk_cell BK324.out 1).trans rfl; have hfz20_0 := blk_frozen BK324.out 0; have hfz20_1 := blk_frozen BK324.out 1))
             have n0_ : Aside0 (((w19.setCell ⟨gb324, 0, none⟩ (.int .i64 ((rd_T23 l0 x7_1).f0))).setCell ⟨gb324, 1, none⟩ (.int .i64 ((rd_T23 l0 x7_1).f1))).heap[gb324]? = some (.cells #[.int .i64 ((rd_T23 l0 x7_1).f0), .int .i64 ((rd_T23 l0 x7_1).f1)] 23 (0, 0))) := ⟨by (with_reducible repeat (first | refine blk_drewN ?_ _ | refine blk_drew ?_ | refine blk_alloc ?_ _)); refine blk_put (cs := #[.int .i64 ((rd_T23 l0 x7_1).f0), .int .i64 0]) ?_ 1 _ rfl; (with_reducible repeat (first | refine blk_drewN ?_ _ | refine blk_drew ?_ | refine blk_alloc ?_ _)); refine blk_put (cs := #[.int .i64 0, .int .i64 0]) ?_ 0 _ rfl; (with_reducible repeat (first | refine blk_drewN ?_ _ | refine blk_drew ?_ | refine blk_alloc ?_ _)); exact BK324.out⟩
             have n1_ : Aside0 (Below w.heap.size w ((w19.setCell ⟨gb324, 0, none⟩ (.int .i64 ((rd_T23 l0 x7_1).f0))).setCell ⟨gb324, 1, none⟩ (.int .i64 ((rd_T23 l0 x7_1).f1)))) := ⟨by repeat (first | (with_reducible first | exact HB.out | apply below_alloc | apply pw_below_drewN | apply below_drew1 | refine below_set ?_ GE324.out) | exact HB.out)⟩
             (try clear BK324)
             (try clear HB)
             generalize ((w19.setCell ⟨gb324, 0, none⟩ (.int .i64 ((rd_T23 l0 x7_1).f0))).setCell ⟨gb324, 1, none⟩ (.int .i64 ((rd_T23 l0 x7_1).f1))) = w21 at n0_ n1_ ⊢
             have BK324 := n0_
             have HB := n1_
             clear n0_ n1_
             have n0_ := Aside0.mk (blk_drew BK324.out)
             have n1_ := Aside0.mk (below_drew1 HB.out)
             clear BK324
             clear HB
             have BK324 := n0_
             have HB := n1_
             clear n0_ n1_
             have p327 : 0 ≤ ((ji15) : Int) := of_decide_eq_true (by first | (with_reducible assumption) | assumption)
             have q327 : (ji15) < (l0.length : Int) := of_decide_eq_true (by first | (with_reducible assumption) | assumption)
             obtain ⟨ad327, e327, hx327_0, hx327_1⟩ := at_T23 HR0.out (ji15) p327 q327
             have hw327_1 := hx327_1
             have hw327_0 := hx327_0
             obtain rfl : ad323 = ad327 := (by injection e327)
             replace hx327_0 := (HB.out.cell (World.block_lt_of_cell? w _ hx327_0)).trans hx327_0
             replace hx327_1 := (HB.out.cell (World.block_lt_of_cell? w _ hx327_1)).trans hx327_1
             replace p327 := eq_true p327
             replace q327 := eq_true q327
             refine start_ (n := 33) (S := fun w' => w'.cell? ⟨gb324, 0, none⟩ = some (.int .i64 ((rd_T23 l0 x7_1).f0)) ∧ w'.cell? ⟨gb324, 1, none⟩ = some (.int .i64 ((rd_T23 l0 x7_1).f1)) ∧ w'.cell? (ad323.add (((ji15)).toNat * 2)) = some (.int .i64 ((rd_T23 l0 (ji15)).f0)) ∧ w'.cell? ⟨(ad323.add (((ji15)).toNat * 2)).block, (ad323.add (((ji15)).toNat * 2)).off + 1, none⟩ = some (.int .i64 ((rd_T23 l0 (ji15)).f1))) (ds := []) #[false, false, false, false, false, false, false, false, false, false, false, false, false, false, false, false, false, false, false, false, false, false, false, false, false, false, false, false, false, false, false, false, false] (by kernel_rfl) rfl rfl ⟨(blk_cell BK324.out 0).trans rfl, (blk_cell BK324.out 1).trans rfl, ((HB.out.cell (World.block_lt_of_cell? w _ hw327_0)).trans hw327_0), ((HB.out.cell (World.block_lt_of_cell? w _ hw327_1)).trans hw327_1)⟩ (fun hHeld => ?_); refine with_tabW spans_Right.tab4 spans_Right.bits4 (fun HT_ HW_ => ?_)
             generalize w21.drew = w22 at BK324 HB hx327_0 hx327_1 hHeld ⊢
             refine pure_ (i := 0) (N := some 12) (v := ?_) (a' := ?_) #[true, false, false, false, false, false, false, false, false, false, false, false, false, false, false, false, false, false, false, false, false, false, false, false, false, false, false, false, false, false, false, false, false] rfl rfl (any_of HT_.out (by kernel_rfl)) (fun _ _ _ h => h) (Or.inl ⟨by rfl, ?_⟩) ?_ ?_
             rotate_left
             ·
              intro w'
              go_simp
              with_reducible rfl
             rotate_left
             ·
              simp only [Act.put, List.setIfInBounds_toArray, List.set_cons_zero, List.set_cons_succ, i64_w, i32_w]
              rfl
             refine take_ (i := 1) (N := some 13) (v := ?_) (a' := ?_) #[true, true, false, false, false, false, false, false, false, false, false, false, false, false, false, false, false, false, false, false, false, false, false, false, false, false, false, false, false, false, false, false, false] rfl rfl (take_ofW HT_.out HW_.out (by kernel_rfl)) (fun _ _ _ h => h) (Or.inl ⟨by rfl, ?_⟩) hHeld ?_ ?_
             rotate_left
             ·
              rintro w' ⟨s0, s1, s2, s3⟩
              go_simp
              with_reducible rfl
             rotate_left
             ·
              simp only [Act.put, List.setIfInBounds_toArray, List.set_cons_zero, List.set_cons_succ, i64_w, i32_w]
              rfl
             refine one_ (i := 2) (N := some 14) #[true, true, true, false, false, false, false, false, false, false, false, false, false, false, false, false, false, false, false, false, false, false, false, false, false, false, false, false, false, false, false, false, false] rfl rfl (one_of HT_.out (by kernel_rfl)) (by decide) (fun K hK => ?_)
             refine goes_ Try.func66 (by kernel_rfl) rfl #[.int .i64 ((rd_T23 l0 x7_1).f0)] (by rfl) rfl rfl (by (try simp only [List.map_toArray, List.map_cons, List.map_nil]); first | done | rfl | (simp only [List.length_drop, List.length_take]; rfl)) ?_
             with_reducible refine (spans_tick.calls ((rd_T23 l0 x7_1).f0) true _ A5.out).mono ?_
             rintro e w' ⟨rfl, ⟨nd, rfl⟩⟩
             refine ⟨_, rfl, ?_⟩
             refine hK.out _ _ ⟨(blk_cell BK324.out 0).trans rfl, (blk_cell BK324.out 1).trans rfl, ((HB.out.cell (World.block_lt_of_cell? w _ hw327_0)).trans hw327_0), ((HB.out.cell (World.block_lt_of_cell? w _ hw327_1)).trans hw327_1)⟩ (fun hHeld => ?_)
             clear hK K
             refine norm_ (a' := ?_) ?_ ?_
             rotate_left
             ·
              show Act.put _ (some 14) _ = _
              simp only [Act.put, List.setIfInBounds_toArray, List.set_cons_zero, List.set_cons_succ, i64_w, i32_w]
              rfl
             refine pure_ (i := 3) (N := some 15) (v := ?_) (a' := ?_) #[true, true, true, true, false, false, false, false, false, false, false, false, false, false, false, false, false, false, false, false, false, false, false, false, false, false, false, false, false, false, false, false, false] rfl rfl (any_of HT_.out (by kernel_rfl)) (fun _ _ _ h => h) (Or.inl ⟨by rfl, ?_⟩) ?_ ?_
             rotate_left
             ·
              intro w'
              go_simp
              with_reducible rfl
             rotate_left
             ·
              simp only [Act.put, List.setIfInBounds_toArray, List.set_cons_zero, List.set_cons_succ, i64_w, i32_w]
              rfl
             refine pure_ (i := 4) (N := some 16) (v := ?_) (a' := ?_) #[true, true, true, true, true, false, false, false, false, false, false, false, false, false, false, false, false, false, false, false, false, false, false, false, false, false, false, false, false, false, false, false, false] rfl rfl (any_of HT_.out (by kernel_rfl)) (fun _ _ _ h => h) (Or.inl ⟨by rfl, ?_⟩) ?_ ?_
             rotate_left
             ·
              intro w'
              go_simp
              with_reducible rfl
             rotate_left
             ·
              simp only [Act.put, List.setIfInBounds_toArray, List.set_cons_zero, List.set_cons_succ, i64_w, i32_w]
              rfl
             refine pure_ (i := 5) (N := some 17) (v := ?_) (a' := ?_) #[true, true, true, true, true, true, false, false, false, false, false, false, false, false, false, false, false, false, false, false, false, false, false, false, false, false, false, false, false, false, false, false, false] rfl rfl (any_of HT_.out (by kernel_rfl)) (fun _ _ _ h => h) (Or.inl ⟨by rfl, ?_⟩) ?_ ?_
             rotate_left
             ·
              intro w'
              go_simp
              with_reducible rfl
             rotate_left
             ·
              simp only [Act.put, List.setIfInBounds_toArray, List.set_cons_zero, List.set_cons_succ, i64_w, i32_w]
              rfl
             refine take_ (i := 6) (N := some 18) (v := ?_) (a' := ?_) #[true, true, true, true, true, true, true, false, false, false, false, false, false, false, false, false, false, false, false, false, false, false, false, false, false, false, false, false, false, false, false, false, false] rfl rfl (take_ofW HT_.out HW_.out (by kernel_rfl)) (fun _ _ _ h => h) (Or.inl ⟨by rfl, ?_⟩) hHeld ?_ ?_
             rotate_left
             ·
              rintro w' ⟨s0, s1, s2, s3⟩
              go_simp
              with_reducible rfl
             rotate_left
             ·
              simp only [Act.put, List.setIfInBounds_toArray, List.set_cons_zero, List.set_cons_succ, i64_w, i32_w]
              rfl
             refine one_ (i := 7) (N := some 19) #[true, true, true, true, true, true, true, true, false, false, false, false, false, false, false, false, false, false, false, false, false, false, false, false, false, false, false, false, false, false, false, false, false] rfl rfl (one_of HT_.out (by kernel_rfl)) (by decide) (fun K hK => ?_)
             refine goes_ Try.func66 (by kernel_rfl) rfl #[.int .i64 ((rd_T23 l0 x7_1).f1)] (by rfl) rfl rfl (by (try simp only [List.map_toArray, List.map_cons, List.map_nil]); first | done | rfl | (simp only [List.length_drop, List.length_take]; rfl)) ?_
             with_reducible refine (spans_tick.calls ((rd_T23 l0 x7_1).f1) true _ A7.out).mono ?_
             rintro e w' ⟨rfl, ⟨nd, rfl⟩⟩
             refine ⟨_, rfl, ?_⟩
             refine hK.out _ _ ⟨(blk_cell BK324.out 0).trans rfl, (blk_cell BK324.out 1).trans rfl, ((HB.out.cell (World.block_lt_of_cell? w _ hw327_0)).trans hw327_0), ((HB.out.cell (World.block_lt_of_cell? w _ hw327_1)).trans hw327_1)⟩ (fun hHeld => ?_)
             clear hK K
             refine norm_ (a' := ?_) ?_ ?_
             rotate_left
             ·
              show Act.put _ (some 19) _ = _
              simp only [Act.put, List.setIfInBounds_toArray, List.set_cons_zero, List.set_cons_succ, i64_w, i32_w]
              rfl
             refine pure_ (i := 8) (N := some 20) (v := ?_) (a' := ?_) #[true, true, true, true, true, true, true, true, true, false, false, false, false, false, false, false, false, false, false, false, false, false, false, false, false, false, false, false, false, false, false, false, false] rfl rfl (any_of HT_.out (by kernel_rfl)) (fun _ _ _ h => h) (Or.inl ⟨by rfl, ?_⟩) ?_ ?_
             rotate_left
             ·
              intro w'
              go_simp
              with_reducible rfl
             rotate_left
             ·
              simp only [Act.put, List.setIfInBounds_toArray, List.set_cons_zero, List.set_cons_succ, i64_w, i32_w]
              rfl
             refine pure_ (i := 9) (N := some 21) (v := ?_) (a' := ?_) #[true, true, true, true, true, true, true, true, true, true, false, false, false, false, false, false, false, false, false, false, false, false, false, false, false, false, false, false, false, false, false, false, false] rfl rfl (any_of HT_.out (by kernel_rfl)) (fun _ _ _ h => h) (Or.inl ⟨by rfl, ?_⟩) ?_ ?_
             rotate_left
             ·
              intro w'
              go_simp
              with_reducible rfl
             rotate_left
             ·
              simp only [Act.put, List.setIfInBounds_toArray, List.set_cons_zero, List.set_cons_succ, i64_w, i32_w]
              rfl
             refine pure_ (i := 10) (N := some 22) (v := ?_) (a' := ?_) #[true, true, true, true, true, true, true, true, true, true, true, false, false, false, false, false, false, false, false, false, false, false, false, false, false, false, false, false, false, false, false, false, false] rfl rfl (any_of HT_.out (by kernel_rfl)) (fun _ _ _ h => h) (Or.inl ⟨by rfl, ?_⟩) ?_ ?_
             rotate_left
             ·
              intro w'
              go_simp
              with_reducible rfl
             rotate_left
             ·
              simp only [Act.put, List.setIfInBounds_toArray, List.set_cons_zero, List.set_cons_succ, i64_w, i32_w]
              rfl
             refine pure_ (i := 11) (N := some 23) (v := ?_) (a' := ?_) #[true, true, true, true, true, true, true, true, true, true, true, true, false, false, false, false, false, false, false, false, false, false, false, false, false, false, false, false, false, false, false, false, false] rfl rfl (any_of HT_.out (by kernel_rfl)) (fun _ _ _ h => h) (Or.inl ⟨by rfl, ?_⟩) ?_ ?_
             rotate_left
             ·
              intro w'
              go_simp
              with_reducible rfl
             rotate_left
             ·
              simp only [Act.put, List.setIfInBounds_toArray, List.set_cons_zero, List.set_cons_succ, i64_w, i32_w]
              rfl
             refine pure_ (i := 13) (N := some 25) (v := ?_) (a' := ?_) #[true, true, true, true, true, true, true, true, true, true, true, true, false, true, false, false, false, false, false, false, false, false, false, false, false, false, false, false, false, false, false, false, false] rfl rfl (any_of HT_.out (by kernel_rfl)) (fun _ _ _ h => h) (Or.inl ⟨by rfl, ?_⟩) ?_ ?_
             rotate_left
             ·
              intro w'
              go_simp
              with_reducible rfl
             rotate_left
             ·
              simp only [Act.put, List.setIfInBounds_toArray, List.set_cons_zero, List.set_cons_succ, i64_w, i32_w]
              rfl
             refine take_ (i := 12) (N := some 24) (v := ?_) (a' := ?_) #[true, true, true, true, true, true, true, true, true, true, true, true, true, true, false, false, false, false, false, false, false, false, false, false, false, false, false, false, false, false, false, false, false] rfl rfl (take_ofW HT_.out HW_.out (by kernel_rfl)) (fun _ _ _ h => h) (Or.inl ⟨by rfl, ?_⟩) hHeld ?_ ?_
             rotate_left
             ·
              rintro w' ⟨s0, s1, s2, s3⟩
              go_simp
              with_reducible rfl
             rotate_left
             ·
              simp only [Act.put, List.setIfInBounds_toArray, List.set_cons_zero, List.set_cons_succ, i64_w, i32_w]
              rfl
             refine take_ (i := 14) (N := some 26) (v := ?_) (a' := ?_) #[true, true, true, true, true, true, true, true, true, true, true, true, true, true, true, false, false, false, false, false, false, false, false, false, false, false, false, false, false, false, false, false, false] rfl rfl (take_ofW HT_.out HW_.out (by kernel_rfl)) (fun _ _ _ h => h) (Or.inl ⟨by rfl, ?_⟩) hHeld ?_ ?_
             rotate_left
             ·
              rintro w' ⟨s0, s1, s2, s3⟩
              go_simp
              with_reducible rfl
             rotate_left
             ·
              simp only [Act.put, List.setIfInBounds_toArray, List.set_cons_zero, List.set_cons_succ, i64_w, i32_w]
              rfl
             refine pure_ (i := 15) (N := some 27) (v := ?_) (a' := ?_) #[true, true, true, true, true, true, true, true, true, true, true, true, true, true, true, true, false, false, false, false, false, false, false, false, false, false, false, false, false, false, false, false, false] rfl rfl (any_of HT_.out (by kernel_rfl)) (fun _ _ _ h => h) (Or.inl ⟨by rfl, ?_⟩) ?_ ?_
             rotate_left
             ·
              intro w'
              go_simp
              with_reducible rfl
             rotate_left
             ·
              simp only [Act.put, List.setIfInBounds_toArray, List.set_cons_zero, List.set_cons_succ, i64_w, i32_w]
              rfl
             refine pure_ (i := 16) (N := some 28) (v := ?_) (a' := ?_) #[true, true, true, true, true, true, true, true, true, true, true, true, true, true, true, true, true, false, false, false, false, false, false, false, false, false, false, false, false, false, false, false, false] rfl rfl (any_of HT_.out (by kernel_rfl)) (fun _ _ _ h => h) (Or.inl ⟨by rfl, ?_⟩) ?_ ?_
             rotate_left
             ·
              intro w'
              go_simp
              with_reducible rfl
             rotate_left
             ·
              simp only [Act.put, List.setIfInBounds_toArray, List.set_cons_zero, List.set_cons_succ, i64_w, i32_w]
              rfl
             refine pure_ (i := 17) (N := some 29) (v := ?_) (a' := ?_) #[true, true, true, true, true, true, true, true, true, true, true, true, true, true, true, true, true, true, false, false, false, false, false, false, false, false, false, false, false, false, false, false, false] rfl rfl (any_of HT_.out (by kernel_rfl)) (fun _ _ _ h => h) (Or.inl ⟨by rfl, ?_⟩) ?_ ?_
             rotate_left
             ·
              intro w'
              go_simp
              with_reducible rfl
             rotate_left
             ·
              simp only [Act.put, List.setIfInBounds_toArray, List.set_cons_zero, List.set_cons_succ, i64_w, i32_w]
              rfl
             refine pure_ (i := 18) (N := some 30) (v := ?_) (a' := ?_) #[true, true, true, true, true, true, true, true, true, true, true, true, true, true, true, true, true, true, true, false, false, false, false, false, false, false, false, false, false, false, false, false, false] rfl rfl (any_of HT_.out (by kernel_rfl)) (fun _ _ _ h => h) (Or.inl ⟨by rfl, ?_⟩) ?_ ?_
             rotate_left
             ·
              intro w'
              go_simp
              with_reducible rfl
             rotate_left
             ·
              simp only [Act.put, List.setIfInBounds_toArray, List.set_cons_zero, List.set_cons_succ, i64_w, i32_w]
              rfl
             refine pure_ (i := 19) (N := some 31) (v := ?_) (a' := ?_) #[true, true, true, true, true, true, true, true, true, true, true, true, true, true, true, true, true, true, true, true, false, false, false, false, false, false, false, false, false, false, false, false, false] rfl rfl (any_of HT_.out (by kernel_rfl)) (fun _ _ _ h => h) (Or.inl ⟨by rfl, ?_⟩) ?_ ?_
             rotate_left
             ·
              intro w'
              go_simp
              with_reducible rfl
             rotate_left
             ·
              simp only [Act.put, List.setIfInBounds_toArray, List.set_cons_zero, List.set_cons_succ, i64_w, i32_w]
              rfl
             refine pure_ (i := 20) (N := some 32) (v := ?_) (a' := ?_) #[true, true, true, true, true, true, true, true, true, true, true, true, true, true, true, true, true, true, true, true, true, false, false, false, false, false, false, false, false, false, false, false, false] rfl rfl (any_of HT_.out (by kernel_rfl)) (fun _ _ _ h => h) (Or.inl ⟨by rfl, ?_⟩) ?_ ?_
             rotate_left
             ·
              intro w'
              go_simp
              with_reducible rfl
             rotate_left
             ·
              simp only [Act.put, List.setIfInBounds_toArray, List.set_cons_zero, List.set_cons_succ, i64_w, i32_w]
              rfl
             refine pure_ (i := 21) (N := some 33) (v := ?_) (a' := ?_) #[true, true, true, true, true, true, true, true, true, true, true, true, true, true, true, true, true, true, true, true, true, true, false, false, false, false, false, false, false, false, false, false, false] rfl rfl (any_of HT_.out (by kernel_rfl)) (fun _ _ _ h => h) (Or.inl ⟨by rfl, ?_⟩) ?_ ?_
             rotate_left
             ·
              intro w'
              go_simp
              with_reducible rfl
             rotate_left
             ·
              simp only [Act.put, List.setIfInBounds_toArray, List.set_cons_zero, List.set_cons_succ, i64_w, i32_w]
              rfl
             refine pure_ (i := 23) (N := some 35) (v := ?_) (a' := ?_) #[true, true, true, true, true, true, true, true, true, true, true, true, true, true, true, true, true, true, true, true, true, true, false, true, false, false, false, false, false, false, false, false, false] rfl rfl (any_of HT_.out (by kernel_rfl)) (fun _ _ _ h => h) (Or.inl ⟨by rfl, ?_⟩) ?_ ?_
             rotate_left
             ·
              intro w'
              go_simp
              with_reducible rfl
             rotate_left
             ·
              simp only [Act.put, List.setIfInBounds_toArray, List.set_cons_zero, List.set_cons_succ, i64_w, i32_w]
              rfl
             refine pure_ (i := 24) (N := some 36) (v := ?_) (a' := ?_) #[true, true, true, true, true, true, true, true, true, true, true, true, true, true, true, true, true, true, true, true, true, true, false, true, true, false, false, false, false, false, false, false, false] rfl rfl (any_of HT_.out (by kernel_rfl)) (fun _ _ _ h => h) (Or.inl ⟨by rfl, ?_⟩) ?_ ?_
             rotate_left
             ·
              intro w'
              go_simp
              with_reducible rfl
             rotate_left
             ·
              simp only [Act.put, List.setIfInBounds_toArray, List.set_cons_zero, List.set_cons_succ, i64_w, i32_w]
              rfl
             refine pure_ (i := 25) (N := some 37) (v := ?_) (a' := ?_) #[true, true, true, true, true, true, true, true, true, true, true, true, true, true, true, true, true, true, true, true, true, true, false, true, true, true, false, false, false, false, false, false, false] rfl rfl (any_of HT_.out (by kernel_rfl)) (fun _ _ _ h => h) (Or.inl ⟨by rfl, ?_⟩) ?_ ?_
             rotate_left
             ·
              intro w'
              go_simp
              with_reducible rfl
             rotate_left
             ·
              simp only [Act.put, List.setIfInBounds_toArray, List.set_cons_zero, List.set_cons_succ, i64_w, i32_w]
              rfl
             refine pure_ (i := 26) (N := some 38) (v := ?_) (a' := ?_) #[true, true, true, true, true, true, true, true, true, true, true, true, true, true, true, true, true, true, true, true, true, true, false, true, true, true, true, false, false, false, false, false, false] rfl rfl (any_of HT_.out (by kernel_rfl)) (fun _ _ _ h => h) (Or.inl ⟨by rfl, ?_⟩) ?_ ?_
             rotate_left
             ·
              intro w'
              go_simp
              with_reducible rfl
             rotate_left
             ·
              simp only [Act.put, List.setIfInBounds_toArray, List.set_cons_zero, List.set_cons_succ, i64_w, i32_w]
              rfl
             refine pure_ (i := 27) (N := some 39) (v := ?_) (a' := ?_) #[true, true, true, true, true, true, true, true, true, true, true, true, true, true, true, true, true, true, true, true, true, true, false, true, true, true, true, true, false, false, false, false, false] rfl rfl (any_of HT_.out (by kernel_rfl)) (fun _ _ _ h => h) (Or.inl ⟨by rfl, ?_⟩) ?_ ?_
             rotate_left
             ·
              intro w'
              go_simp
              with_reducible rfl
             rotate_left
             ·
              simp only [Act.put, List.setIfInBounds_toArray, List.set_cons_zero, List.set_cons_succ, i64_w, i32_w]
              rfl
             refine take_ (i := 22) (N := some 34) (v := ?_) (a' := ?_) #[true, true, true, true, true, true, true, true, true, true, true, true, true, true, true, true, true, true, true, true, true, true, true, true, true, true, true, true, false, false, false, false, false] rfl rfl (take_ofW HT_.out HW_.out (by kernel_rfl)) (fun _ _ _ h => h) (Or.inl ⟨by rfl, ?_⟩) hHeld ?_ ?_
             rotate_left
             ·
              rintro w' ⟨s0, s1, s2, s3⟩
              go_simp
              with_reducible rfl
             rotate_left
             ·
              simp only [Act.put, List.setIfInBounds_toArray, List.set_cons_zero, List.set_cons_succ, i64_w, i32_w]
              rfl
             refine take_ (i := 28) (N := some 40) (v := ?_) (a' := ?_) #[true, true, true, true, true, true, true, true, true, true, true, true, true, true, true, true, true, true, true, true, true, true, true, true, true, true, true, true, true, false, false, false, false] rfl rfl (take_ofW HT_.out HW_.out (by kernel_rfl)) (fun _ _ _ h => h) (Or.inl ⟨by rfl, ?_⟩) hHeld ?_ ?_
             rotate_left
             ·
              rintro w' ⟨s0, s1, s2, s3⟩
              go_simp
              with_reducible rfl
             rotate_left
             ·
              simp only [Act.put, List.setIfInBounds_toArray, List.set_cons_zero, List.set_cons_succ, i64_w, i32_w]
              rfl
             refine pure_ (i := 29) (N := some 41) (v := ?_) (a' := ?_) #[true, true, true, true, true, true, true, true, true, true, true, true, true, true, true, true, true, true, true, true, true, true, true, true, true, true, true, true, true, true, false, false, false] rfl rfl (any_of HT_.out (by kernel_rfl)) (fun _ _ _ h => h) (Or.inl ⟨by rfl, ?_⟩) ?_ ?_
             rotate_left
             ·
              intro w'
              go_simp
              with_reducible rfl
             rotate_left
             ·
              simp only [Act.put, List.setIfInBounds_toArray, List.set_cons_zero, List.set_cons_succ, i64_w, i32_w]
              rfl
             refine pure_ (i := 30) (N := some 42) (v := ?_) (a' := ?_) #[true, true, true, true, true, true, true, true, true, true, true, true, true, true, true, true, true, true, true, true, true, true, true, true, true, true, true, true, true, true, true, false, false] rfl rfl (any_of HT_.out (by kernel_rfl)) (fun _ _ _ h => h) (Or.inl ⟨by rfl, ?_⟩) ?_ ?_
             rotate_left
             ·
              intro w'
              go_simp
              with_reducible rfl
             rotate_left
             ·
              simp only [Act.put, List.setIfInBounds_toArray, List.set_cons_zero, List.set_cons_succ, i64_w, i32_w]
              rfl
             refine pure_ (i := 31) (N := some 43) (v := ?_) (a' := ?_) #[true, true, true, true, true, true, true, true, true, true, true, true, true, true, true, true, true, true, true, true, true, true, true, true, true, true, true, true, true, true, true, true, false] rfl rfl (any_of HT_.out (by kernel_rfl)) (fun _ _ _ h => h) (Or.inl ⟨by rfl, ?_⟩) ?_ ?_
             rotate_left
             ·
              intro w'
              go_simp
              with_reducible rfl
             rotate_left
             ·
              simp only [Act.put, List.setIfInBounds_toArray, List.set_cons_zero, List.set_cons_succ, i64_w, i32_w]
              rfl
             refine pure_ (i := 32) (N := some 44) (v := ?_) (a' := ?_) #[true, true, true, true, true, true, true, true, true, true, true, true, true, true, true, true, true, true, true, true, true, true, true, true, true, true, true, true, true, true, true, true, true] rfl rfl (any_of HT_.out (by kernel_rfl)) (fun _ _ _ h => h) (Or.inl ⟨by rfl, ?_⟩) ?_ ?_
             rotate_left
             ·
              intro w'
              go_simp
              with_reducible rfl
             rotate_left
             ·
              simp only [Act.put, List.setIfInBounds_toArray, List.set_cons_zero, List.set_cons_succ, i64_w, i32_w]
              rfl
             refine done_ (done_of HT_.out (by kernel_rfl)) ?_
             try go_wp2
             go_ret
             exact ⟨by first | rfl | (simp [errW_none, errW_some] <;> rfl) | (simp only [← hji15]; first | rfl | (simp [errW_none, errW_some] <;> rfl)) | (simp [*, errW_none, errW_some] <;> rfl), by repeat (first | (with_reducible first | exact HB.out | apply below_alloc | apply pw_below_drewN | apply below_drew1 | refine below_set ?_ GE324.out) | exact HB.out)⟩
            ·
             rw [if_neg c18] at H
             have c18b0 : decide (((rd_T23 l0 x7_1).f0) < (wrap64 (((rd_T23 l0 (ji15)).f1) + 2))) = false := decide_eq_false c18
             clear c18
             have H' := Aside0.mk H
             clear H
             have p323 : 0 ≤ (x7_1 : Int) := of_decide_eq_true (by first | (with_reducible assumption) | assumption)
             have q323 : x7_1 < (l0.length : Int) := of_decide_eq_true (by first | (with_reducible assumption) | assumption)
             obtain ⟨ad323, e323, hx323_0, hx323_1⟩ := at_T23 HR0.out x7_1 p323 q323
             cases e323
             replace hx323_0 := (HB.out.cell (World.block_lt_of_cell? w _ hx323_0)).trans hx323_0
             replace hx323_1 := (HB.out.cell (World.block_lt_of_cell? w _ hx323_1)).trans hx323_1
             replace p323 := eq_true p323
             replace q323 := eq_true q323
             try go_wp2_with (first | ((with_reducible refine gate_dst (N := 4) rfl ?_); refine box_event ?hg (N := 4) ?hd (cs := #[.int .i64 0, .int .i64 0]) (t := 23) ?hr ?_; (case hd => rfl); (case hg => rfl); (case hr => first | (go_simp; done) | (go_simp; rfl)); intro gb324 hg w23 hbox hb; have n0_ := Aside0.mk (below_step (by repeat (first | (with_reducible first | exact HB.out | apply below_alloc | apply pw_below_drewN | apply below_drew1) | exact HB.out)) hb); have n1_ := Aside0.mk (hbox); have n2_ := Aside0.mk ((by rw [hg]; exact (below_size (by repeat (first | (with_reducible first | exact HB.out | apply below_alloc | apply pw_below_drewN | apply below_drew1) | exact HB.out))) : w.heap.size ≤ gb324)); have n3_ := Aside0.mk ((by rw [hg]; exact (below_size (by repeat (first | (with_reducible first | exact HB.out | apply below_alloc | apply pw_below_drewN | apply below_drew1) | exact HB.out))) : w.heap.size ≤ gb324)); clear HB; have HB := n0_; have BK324 := n1_; have GW324 := n2_; have GE324 := n3_; clear n0_ n1_ n2_ n3_; clear hb hbox hg; have hcz24_0 : w23.cell? ⟨gb324, 0, none⟩ = some (.int .i64 0) := (blk_cell BK324.out 0).trans rfl; have hcz24_1 : w23.cell? ⟨gb324, 1, none⟩ = some (.int .i64 0) := (blk_cell BK324.out 1).trans rfl; have hfz24_0 := blk_frozen BK324.out 0; have hfz24_1 := blk_frozen BK324.out 1))
             have n0_ : Aside0 (((w23.setCell ⟨gb324, 0, none⟩ (.int .i64 ((rd_T23 l0 x7_1).f0))).setCell ⟨gb324, 1, none⟩ (.int .i64 ((rd_T23 l0 x7_1).f1))).heap[gb324]? = some (.cells #[.int .i64 ((rd_T23 l0 x7_1).f0), .int .i64 ((rd_T23 l0 x7_1).f1)] 23 (0, 0))) := ⟨by (with_reducible repeat (first | refine blk_drewN ?_ _ | refine blk_drew ?_ | refine blk_alloc ?_ _)); refine blk_put (cs := #[.int .i64 ((rd_T23 l0 x7_1).f0), .int .i64 0]) ?_ 1 _ rfl; (with_reducible repeat (first | refine blk_drewN ?_ _ | refine blk_drew ?_ | refine blk_alloc ?_ _)); refine blk_put (cs := #[.int .i64 0, .int .i64 0]) ?_ 0 _ rfl; (with_reducible repeat (first | refine blk_drewN ?_ _ | refine blk_drew ?_ | refine blk_alloc ?_ _)); exact BK324.out⟩
             have n1_ : Aside0 (Below w.heap.size w ((w23.setCell ⟨gb324, 0, none⟩ (.int .i64 ((rd_T23 l0 x7_1).f0))).setCell ⟨gb324, 1, none⟩ (.int .i64 ((rd_T23 l0 x7_1).f1)))) := ⟨by repeat (first | (with_reducible first | exact HB.out | apply below_alloc | apply pw_below_drewN | apply below_drew1 | refine below_set ?_ GE324.out) | exact HB.out)⟩
             (try clear BK324)
             (try clear HB)
             generalize ((w23.setCell ⟨gb324, 0, none⟩ (.int .i64 ((rd_T23 l0 x7_1).f0))).setCell ⟨gb324, 1, none⟩ (.int .i64 ((rd_T23 l0 x7_1).f1))) = w25 at n0_ n1_ ⊢
             have BK324 := n0_
             have HB := n1_
             clear n0_ n1_
             have n0_ := Aside0.mk (blk_drew BK324.out)
             have n1_ := Aside0.mk (below_drew1 HB.out)
             clear BK324
             clear HB
             have BK324 := n0_
             have HB := n1_
             clear n0_ n1_
             have p327 : 0 ≤ ((ji15) : Int) := of_decide_eq_true (by first | (with_reducible assumption) | assumption)
             have q327 : (ji15) < (l0.length : Int) := of_decide_eq_true (by first | (with_reducible assumption) | assumption)
             obtain ⟨ad327, e327, hx327_0, hx327_1⟩ := at_T23 HR0.out (ji15) p327 q327
             have hw327_1 := hx327_1
             have hw327_0 := hx327_0
             obtain rfl : ad323 = ad327 := (by injection e327)
             replace hx327_0 := (HB.out.cell (World.block_lt_of_cell? w _ hx327_0)).trans hx327_0
             replace hx327_1 := (HB.out.cell (World.block_lt_of_cell? w _ hx327_1)).trans hx327_1
             replace p327 := eq_true p327
             replace q327 := eq_true q327
             refine start_ (n := 33) (S := fun w' => w'.cell? ⟨gb324, 0, none⟩ = some (.int .i64 ((rd_T23 l0 x7_1).f0)) ∧ w'.cell? ⟨gb324, 1, none⟩ = some (.int .i64 ((rd_T23 l0 x7_1).f1)) ∧ w'.cell? (ad323.add (((ji15)).toNat * 2)) = some (.int .i64 ((rd_T23 l0 (ji15)).f0)) ∧ w'.cell? ⟨(ad323.add (((ji15)).toNat * 2)).block, (ad323.add (((ji15)).toNat * 2)).off + 1, none⟩ = some (.int .i64 ((rd_T23 l0 (ji15)).f1))) (ds := []) #[false, false, false, false, false, false, false, false, false, false, false, false, false, false, false, false, false, false, false, false, false, false, false, false, false, false, false, false, false, false, false, false, false] (by kernel_rfl) rfl rfl ⟨(blk_cell BK324.out 0).trans rfl, (blk_cell BK324.out 1).trans rfl, ((HB.out.cell (World.block_lt_of_cell? w _ hw327_0)).trans hw327_0), ((HB.out.cell (World.block_lt_of_cell? w _ hw327_1)).trans hw327_1)⟩ (fun hHeld => ?_); refine with_tabW spans_Right.tab4 spans_Right.bits4 (fun HT_ HW_ => ?_)
             generalize w25.drew = w26 at BK324 HB hx327_0 hx327_1 hHeld ⊢
             refine pure_ (i := 0) (N := some 12) (v := ?_) (a' := ?_) #[true, false, false, false, false, false, false, false, false, false, false, false, false, false, false, false, false, false, false, false, false, false, false, false, false, false, false, false, false, false, false, false, false] rfl rfl (any_of HT_.out (by kernel_rfl)) (fun _ _ _ h => h) (Or.inl ⟨by rfl, ?_⟩) ?_ ?_
             rotate_left
             ·
              intro w'
              go_simp
              with_reducible rfl
             rotate_left
             ·
              simp only [Act.put, List.setIfInBounds_toArray, List.set_cons_zero, List.set_cons_succ, i64_w, i32_w]
              rfl
             refine take_ (i := 1) (N := some 13) (v := ?_) (a' := ?_) #[true, true, false, false, false, false, false, false, false, false, false, false, false, false, false, false, false, false, false, false, false, false, false, false, false, false, false, false, false, false, false, false, false] rfl rfl (take_ofW HT_.out HW_.out (by kernel_rfl)) (fun _ _ _ h => h) (Or.inl ⟨by rfl, ?_⟩) hHeld ?_ ?_
             rotate_left
             ·
              rintro w' ⟨s0, s1, s2, s3⟩
              go_simp
              with_reducible rfl
             rotate_left
             ·
              simp only [Act.put, List.setIfInBounds_toArray, List.set_cons_zero, List.set_cons_succ, i64_w, i32_w]
              rfl
             refine one_ (i := 2) (N := some 14) #[true, true, true, false, false, false, false, false, false, false, false, false, false, false, false, false, false, false, false, false, false, false, false, false, false, false, false, false, false, false, false, false, false] rfl rfl (one_of HT_.out (by kernel_rfl)) (by decide) (fun K hK => ?_)
             refine goes_ Try.func66 (by kernel_rfl) rfl #[.int .i64 ((rd_T23 l0 x7_1).f0)] (by rfl) rfl rfl (by (try simp only [List.map_toArray, List.map_cons, List.map_nil]); first | done | rfl | (simp only [List.length_drop, List.length_take]; rfl)) ?_
             with_reducible refine (spans_tick.calls ((rd_T23 l0 x7_1).f0) true _ A5.out).mono ?_
             rintro e w' ⟨rfl, ⟨nd, rfl⟩⟩
             refine ⟨_, rfl, ?_⟩
             refine hK.out _ _ ⟨(blk_cell BK324.out 0).trans rfl, (blk_cell BK324.out 1).trans rfl, ((HB.out.cell (World.block_lt_of_cell? w _ hw327_0)).trans hw327_0), ((HB.out.cell (World.block_lt_of_cell? w _ hw327_1)).trans hw327_1)⟩ (fun hHeld => ?_)
             clear hK K
             refine norm_ (a' := ?_) ?_ ?_
             rotate_left
             ·
              show Act.put _ (some 14) _ = _
              simp only [Act.put, List.setIfInBounds_toArray, List.set_cons_zero, List.set_cons_succ, i64_w, i32_w]
              rfl
             refine pure_ (i := 3) (N := some 15) (v := ?_) (a' := ?_) #[true, true, true, true, false, false, false, false, false, false, false, false, false, false, false, false, false, false, false, false, false, false, false, false, false, false, false, false, false, false, false, false, false] rfl rfl (any_of HT_.out (by kernel_rfl)) (fun _ _ _ h => h) (Or.inl ⟨by rfl, ?_⟩) ?_ ?_
             rotate_left
             ·
              intro w'
              go_simp
              with_reducible rfl
             rotate_left
             ·
              simp only [Act.put, List.setIfInBounds_toArray, List.set_cons_zero, List.set_cons_succ, i64_w, i32_w]
              rfl
             refine pure_ (i := 4) (N := some 16) (v := ?_) (a' := ?_) #[true, true, true, true, true, false, false, false, false, false, false, false, false, false, false, false, false, false, false, false, false, false, false, false, false, false, false, false, false, false, false, false, false] rfl rfl (any_of HT_.out (by kernel_rfl)) (fun _ _ _ h => h) (Or.inl ⟨by rfl, ?_⟩) ?_ ?_
             rotate_left
             ·
              intro w'
              go_simp
              with_reducible rfl
             rotate_left
             ·
              simp only [Act.put, List.setIfInBounds_toArray, List.set_cons_zero, List.set_cons_succ, i64_w, i32_w]
              rfl
             refine pure_ (i := 5) (N := some 17) (v := ?_) (a' := ?_) #[true, true, true, true, true, true, false, false, false, false, false, false, false, false, false, false, false, false, false, false, false, false, false, false, false, false, false, false, false, false, false, false, false] rfl rfl (any_of HT_.out (by kernel_rfl)) (fun _ _ _ h => h) (Or.inl ⟨by rfl, ?_⟩) ?_ ?_
             rotate_left
             ·
              intro w'
              go_simp
              with_reducible rfl
             rotate_left
             ·
              simp only [Act.put, List.setIfInBounds_toArray, List.set_cons_zero, List.set_cons_succ, i64_w, i32_w]
              rfl
             refine take_ (i := 6) (N := some 18) (v := ?_) (a' := ?_) #[true, true, true, true, true, true, true, false, false, false, false, false, false, false, false, false, false, false, false, false, false, false, false, false, false, false, false, false, false, false, false, false, false] rfl rfl (take_ofW HT_.out HW_.out (by kernel_rfl)) (fun _ _ _ h => h) (Or.inl ⟨by rfl, ?_⟩) hHeld ?_ ?_
             rotate_left
             ·
              rintro w' ⟨s0, s1, s2, s3⟩
              go_simp
              with_reducible rfl
             rotate_left
             ·
              simp only [Act.put, List.setIfInBounds_toArray, List.set_cons_zero, List.set_cons_succ, i64_w, i32_w]
              rfl
             refine one_ (i := 7) (N := some 19) #[true, true, true, true, true, true, true, true, false, false, false, false, false, false, false, false, false, false, false, false, false, false, false, false, false, false, false, false, false, false, false, false, false] rfl rfl (one_of HT_.out (by kernel_rfl)) (by decide) (fun K hK => ?_)
             refine goes_ Try.func66 (by kernel_rfl) rfl #[.int .i64 ((rd_T23 l0 x7_1).f1)] (by rfl) rfl rfl (by (try simp only [List.map_toArray, List.map_cons, List.map_nil]); first | done | rfl | (simp only [List.length_drop, List.length_take]; rfl)) ?_
             with_reducible refine (spans_tick.calls ((rd_T23 l0 x7_1).f1) true _ A7.out).mono ?_
             rintro e w' ⟨rfl, ⟨nd, rfl⟩⟩
             refine ⟨_, rfl, ?_⟩
             refine hK.out _ _ ⟨(blk_cell BK324.out 0).trans rfl, (blk_cell BK324.out 1).trans rfl, ((HB.out.cell (World.block_lt_of_cell? w _ hw327_0)).trans hw327_0), ((HB.out.cell (World.block_lt_of_cell? w _ hw327_1)).trans hw327_1)⟩ (fun hHeld => ?_)
             clear hK K
             refine norm_ (a' := ?_) ?_ ?_
             rotate_left
             ·
              show Act.put _ (some 19) _ = _
              simp only [Act.put, List.setIfInBounds_toArray, List.set_cons_zero, List.set_cons_succ, i64_w, i32_w]
              rfl
             refine pure_ (i := 8) (N := some 20) (v := ?_) (a' := ?_) #[true, true, true, true, true, true, true, true, true, false, false, false, false, false, false, false, false, false, false, false, false, false, false, false, false, false, false, false, false, false, false, false, false] rfl rfl (any_of HT_.out (by kernel_rfl)) (fun _ _ _ h => h) (Or.inl ⟨by rfl, ?_⟩) ?_ ?_
             rotate_left
             ·
              intro w'
              go_simp
              with_reducible rfl
             rotate_left
             ·
              simp only [Act.put, List.setIfInBounds_toArray, List.set_cons_zero, List.set_cons_succ, i64_w, i32_w]
              rfl
             refine pure_ (i := 9) (N := some 21) (v := ?_) (a' := ?_) #[true, true, true, true, true, true, true, true, true, true, false, false, false, false, false, false, false, false, false, false, false, false, false, false, false, false, false, false, false, false, false, false, false] rfl rfl (any_of HT_.out (by kernel_rfl)) (fun _ _ _ h => h) (Or.inl ⟨by rfl, ?_⟩) ?_ ?_
             rotate_left
             ·
              intro w'
              go_simp
              with_reducible rfl
             rotate_left
             ·
              simp only [Act.put, List.setIfInBounds_toArray, List.set_cons_zero, List.set_cons_succ, i64_w, i32_w]
              rfl
             refine pure_ (i := 10) (N := some 22) (v := ?_) (a' := ?_) #[true, true, true, true, true, true, true, true, true, true, true, false, false, false, false, false, false, false, false, false, false, false, false, false, false, false, false, false, false, false, false, false, false] rfl rfl (any_of HT_.out (by kernel_rfl)) (fun _ _ _ h => h) (Or.inl ⟨by rfl, ?_⟩) ?_ ?_
             rotate_left
             ·
              intro w'
              go_simp
              with_reducible rfl
             rotate_left
             ·
              simp only [Act.put, List.setIfInBounds_toArray, List.set_cons_zero, List.set_cons_succ, i64_w, i32_w]
              rfl
             refine pure_ (i := 11) (N := some 23) (v := ?_) (a' := ?_) #[true, true, true, true, true, true, true, true, true, true, true, true, false, false, false, false, false, false, false, false, false, false, false, false, false, false, false, false, false, false, false, false, false] rfl rfl (any_of HT_.out (by kernel_rfl)) (fun _ _ _ h => h) (Or.inl ⟨by rfl, ?_⟩) ?_ ?_
             rotate_left
             ·
              intro w'
              go_simp
              with_reducible rfl
             rotate_left
             ·
              simp only [Act.put, List.setIfInBounds_toArray, List.set_cons_zero, List.set_cons_succ, i64_w, i32_w]
              rfl
             refine pure_ (i := 13) (N := some 25) (v := ?_) (a' := ?_) #[true, true, true, true, true, true, true, true, true, true, true, true, false, true, false, false, false, false, false, false, false, false, false, false, false, false, false, false, false, false, false, false, false] rfl rfl (any_of HT_.out (by kernel_rfl)) (fun _ _ _ h => h) (Or.inl ⟨by rfl, ?_⟩) ?_ ?_
             rotate_left
             ·
              intro w'
              go_simp
              with_reducible rfl
             rotate_left
             ·
              simp only [Act.put, List.setIfInBounds_toArray, List.set_cons_zero, List.set_cons_succ, i64_w, i32_w]
              rfl
             refine take_ (i := 12) (N := some 24) (v := ?_) (a' := ?_) #[true, true, true, true, true, true, true, true, true, true, true, true, true, true, false, false, false, false, false, false, false, false, false, false, false, false, false, false, false, false, false, false, false] rfl rfl (take_ofW HT_.out HW_.out (by kernel_rfl)) (fun _ _ _ h => h) (Or.inl ⟨by rfl, ?_⟩) hHeld ?_ ?_
             rotate_left
             ·
              rintro w' ⟨s0, s1, s2, s3⟩
              go_simp
              with_reducible rfl
             rotate_left
             ·
              simp only [Act.put, List.setIfInBounds_toArray, List.set_cons_zero, List.set_cons_succ, i64_w, i32_w]
              rfl
             refine take_ (i := 14) (N := some 26) (v := ?_) (a' := ?_) #[true, true, true, true, true, true, true, true, true, true, true, true, true, true, true, false, false, false, false, false, false, false, false, false, false, false, false, false, false, false, false, false, false] rfl rfl (take_ofW HT_.out HW_.out (by kernel_rfl)) (fun _ _ _ h => h) (Or.inl ⟨by rfl, ?_⟩) hHeld ?_ ?_
             rotate_left
             ·
              rintro w' ⟨s0, s1, s2, s3⟩
              go_simp
              with_reducible rfl
             rotate_left
             ·
              simp only [Act.put, List.setIfInBounds_toArray, List.set_cons_zero, List.set_cons_succ, i64_w, i32_w]
              rfl
             refine pure_ (i := 15) (N := some 27) (v := ?_) (a' := ?_) #[true, true, true, true, true, true, true, true, true, true, true, true, true, true, true, true, false, false, false, false, false, false, false, false, false, false, false, false, false, false, false, false, false] rfl rfl (any_of HT_.out (by kernel_rfl)) (fun _ _ _ h => h) (Or.inl ⟨by rfl, ?_⟩) ?_ ?_
             rotate_left
             ·
              intro w'
              go_simp
              with_reducible rfl
             rotate_left
             ·
              simp only [Act.put, List.setIfInBounds_toArray, List.set_cons_zero, List.set_cons_succ, i64_w, i32_w]
              rfl
             refine pure_ (i := 16) (N := some 28) (v := ?_) (a' := ?_) #[true, true, true, true, true, true, true, true, true, true, true, true, true, true, true, true, true, false, false, false, false, false, false, false, false, false, false, false, false, false, false, false, false] rfl rfl (any_of HT_.out (by kernel_rfl)) (fun _ _ _ h => h) (Or.inl ⟨by rfl, ?_⟩) ?_ ?_
             rotate_left
             ·
              intro w'
              go_simp
              with_reducible rfl
             rotate_left
             ·
              simp only [Act.put, List.setIfInBounds_toArray, List.set_cons_zero, List.set_cons_succ, i64_w, i32_w]
              rfl
             refine pure_ (i := 17) (N := some 29) (v := ?_) (a' := ?_) #[true, true, true, true, true, true, true, true, true, true, true, true, true, true, true, true, true, true, false, false, false, false, false, false, false, false, false, false, false, false, false, false, false] rfl rfl (any_of HT_.out (by kernel_rfl)) (fun _ _ _ h => h) (Or.inl ⟨by rfl, ?_⟩) ?_ ?_
             rotate_left
             ·
              intro w'
              go_simp
              with_reducible rfl
             rotate_left
             ·
              simp only [Act.put, List.setIfInBounds_toArray, List.set_cons_zero, List.set_cons_succ, i64_w, i32_w]
              rfl
             refine pure_ (i := 18) (N := some 30) (v := ?_) (a' := ?_) #[true, true, true, true, true, true, true, true, true, true, true, true, true, true, true, true, true, true, true, false, false, false, false, false, false, false, false, false, false, false, false, false, false] rfl rfl (any_of HT_.out (by kernel_rfl)) (fun _ _ _ h => h) (Or.inl ⟨by rfl, ?_⟩) ?_ ?_
             rotate_left
             ·
              intro w'
              go_simp
              with_reducible rfl
             rotate_left
             ·
              simp only [Act.put, List.setIfInBounds_toArray, List.set_cons_zero, List.set_cons_succ, i64_w, i32_w]
              rfl
             refine pure_ (i := 19) (N := some 31) (v := ?_) (a' := ?_) #[true, true, true, true, true, true, true, true, true, true, true, true, true, true, true, true, true, true, true, true, false, false, false, false, false, false, false, false, false, false, false, false, false] rfl rfl (any_of HT_.out (by kernel_rfl)) (fun _ _ _ h => h) (Or.inl ⟨by rfl, ?_⟩) ?_ ?_
             rotate_left
             ·
              intro w'
              go_simp
              with_reducible rfl
             rotate_left
             ·
              simp only [Act.put, List.setIfInBounds_toArray, List.set_cons_zero, List.set_cons_succ, i64_w, i32_w]
              rfl
             refine pure_ (i := 20) (N := some 32) (v := ?_) (a' := ?_) #[true, true, true, true, true, true, true, true, true, true, true, true, true, true, true, true, true, true, true, true, true, false, false, false, false, false, false, false, false, false, false, false, false] rfl rfl (any_of HT_.out (by kernel_rfl)) (fun _ _ _ h => h) (Or.inl ⟨by rfl, ?_⟩) ?_ ?_
             rotate_left
             ·
              intro w'
              go_simp
              with_reducible rfl
             rotate_left
             ·
              simp only [Act.put, List.setIfInBounds_toArray, List.set_cons_zero, List.set_cons_succ, i64_w, i32_w]
              rfl
             refine pure_ (i := 21) (N := some 33) (v := ?_) (a' := ?_) #[true, true, true, true, true, true, true, true, true, true, true, true, true, true, true, true, true, true, true, true, true, true, false, false, false, false, false, false, false, false, false, false, false] rfl rfl (any_of HT_.out (by kernel_rfl)) (fun _ _ _ h => h) (Or.inl ⟨by rfl, ?_⟩) ?_ ?_
             rotate_left
             ·
              intro w'
              go_simp
              with_reducible rfl
             rotate_left
             ·
              simp only [Act.put, List.setIfInBounds_toArray, List.set_cons_zero, List.set_cons_succ, i64_w, i32_w]
              rfl
             refine pure_ (i := 23) (N := some 35) (v := ?_) (a' := ?_) #[true, true, true, true, true, true, true, true, true, true, true, true, true, true, true, true, true, true, true, true, true, true, false, true, false, false, false, false, false, false, false, false, false] rfl rfl (any_of HT_.out (by kernel_rfl)) (fun _ _ _ h => h) (Or.inl ⟨by rfl, ?_⟩) ?_ ?_
             rotate_left
             ·
              intro w'
              go_simp
              with_reducible rfl
             rotate_left
             ·
              simp only [Act.put, List.setIfInBounds_toArray, List.set_cons_zero, List.set_cons_succ, i64_w, i32_w]
              rfl
             refine pure_ (i := 24) (N := some 36) (v := ?_) (a' := ?_) #[true, true, true, true, true, true, true, true, true, true, true, true, true, true, true, true, true, true, true, true, true, true, false, true, true, false, false, false, false, false, false, false, false] rfl rfl (any_of HT_.out (by kernel_rfl)) (fun _ _ _ h => h) (Or.inl ⟨by rfl, ?_⟩) ?_ ?_
             rotate_left
             ·
              intro w'
              go_simp
              with_reducible rfl
             rotate_left
             ·
              simp only [Act.put, List.setIfInBounds_toArray, List.set_cons_zero, List.set_cons_succ, i64_w, i32_w]
              rfl
             refine pure_ (i := 25) (N := some 37) (v := ?_) (a' := ?_) #[true, true, true, true, true, true, true, true, true, true, true, true, true, true, true, true, true, true, true, true, true, true, false, true, true, true, false, false, false, false, false, false, false] rfl rfl (any_of HT_.out (by kernel_rfl)) (fun _ _ _ h => h) (Or.inl ⟨by rfl, ?_⟩) ?_ ?_
             rotate_left
             ·
              intro w'
              go_simp
              with_reducible rfl
             rotate_left
             ·
              simp only [Act.put, List.setIfInBounds_toArray, List.set_cons_zero, List.set_cons_succ, i64_w, i32_w]
              rfl
             refine pure_ (i := 26) (N := some 38) (v := ?_) (a' := ?_) #[true, true, true, true, true, true, true, true, true, true, true, true, true, true, true, true, true, true, true, true, true, true, false, true, true, true, true, false, false, false, false, false, false] rfl rfl (any_of HT_.out (by kernel_rfl)) (fun _ _ _ h => h) (Or.inl ⟨by rfl, ?_⟩) ?_ ?_
             rotate_left
             ·
              intro w'
              go_simp
              with_reducible rfl
             rotate_left
             ·
              simp only [Act.put, List.setIfInBounds_toArray, List.set_cons_zero, List.set_cons_succ, i64_w, i32_w]
              rfl
             refine pure_ (i := 27) (N := some 39) (v := ?_) (a' := ?_) #[true, true, true, true, true, true, true, true, true, true, true, true, true, true, true, true, true, true, true, true, true, true, false, true, true, true, true, true, false, false, false, false, false] rfl rfl (any_of HT_.out (by kernel_rfl)) (fun _ _ _ h => h) (Or.inl ⟨by rfl, ?_⟩) ?_ ?_
             rotate_left
             ·
              intro w'
              go_simp
              with_reducible rfl
             rotate_left
             ·
              simp only [Act.put, List.setIfInBounds_toArray, List.set_cons_zero, List.set_cons_succ, i64_w, i32_w]
              rfl
             refine take_ (i := 22) (N := some 34) (v := ?_) (a' := ?_) #[true, true, true, true, true, true, true, true, true, true, true, true, true, true, true, true, true, true, true, true, true, true, true, true, true, true, true, true, false, false, false, false, false] rfl rfl (take_ofW HT_.out HW_.out (by kernel_rfl)) (fun _ _ _ h => h) (Or.inl ⟨by rfl, ?_⟩) hHeld ?_ ?_
             rotate_left
             ·
              rintro w' ⟨s0, s1, s2, s3⟩
              go_simp
              with_reducible rfl
             rotate_left
             ·
              simp only [Act.put, List.setIfInBounds_toArray, List.set_cons_zero, List.set_cons_succ, i64_w, i32_w]
              rfl
             refine take_ (i := 28) (N := some 40) (v := ?_) (a' := ?_) #[true, true, true, true, true, true, true, true, true, true, true, true, true, true, true, true, true, true, true, true, true, true, true, true, true, true, true, true, true, false, false, false, false] rfl rfl (take_ofW HT_.out HW_.out (by kernel_rfl)) (fun _ _ _ h => h) (Or.inl ⟨by rfl, ?_⟩) hHeld ?_ ?_
             rotate_left
             ·
              rintro w' ⟨s0, s1, s2, s3⟩
              go_simp
              with_reducible rfl
             rotate_left
             ·
              simp only [Act.put, List.setIfInBounds_toArray, List.set_cons_zero, List.set_cons_succ, i64_w, i32_w]
              rfl
             refine pure_ (i := 29) (N := some 41) (v := ?_) (a' := ?_) #[true, true, true, true, true, true, true, true, true, true, true, true, true, true, true, true, true, true, true, true, true, true, true, true, true, true, true, true, true, true, false, false, false] rfl rfl (any_of HT_.out (by kernel_rfl)) (fun _ _ _ h => h) (Or.inl ⟨by rfl, ?_⟩) ?_ ?_
             rotate_left
             ·
              intro w'
              go_simp
              with_reducible rfl
             rotate_left
             ·
              simp only [Act.put, List.setIfInBounds_toArray, List.set_cons_zero, List.set_cons_succ, i64_w, i32_w]
              rfl
             refine pure_ (i := 30) (N := some 42) (v := ?_) (a' := ?_) #[true, true, true, true, true, true, true, true, true, true, true, true, true, true, true, true, true, true, true, true, true, true, true, true, true, true, true, true, true, true, true, false, false] rfl rfl (any_of HT_.out (by kernel_rfl)) (fun _ _ _ h => h) (Or.inl ⟨by rfl, ?_⟩) ?_ ?_
             rotate_left
             ·
              intro w'
              go_simp
              with_reducible rfl
             rotate_left
             ·
              simp only [Act.put, List.setIfInBounds_toArray, List.set_cons_zero, List.set_cons_succ, i64_w, i32_w]
              rfl
             refine pure_ (i := 31) (N := some 43) (v := ?_) (a' := ?_) #[true, true, true, true, true, true, true, true, true, true, true, true, true, true, true, true, true, true, true, true, true, true, true, true, true, true, true, true, true, true, true, true, false] rfl rfl (any_of HT_.out (by kernel_rfl)) (fun _ _ _ h => h) (Or.inl ⟨by rfl, ?_⟩) ?_ ?_
             rotate_left
             ·
              intro w'
              go_simp
              with_reducible rfl
             rotate_left
             ·
              simp only [Act.put, List.setIfInBounds_toArray, List.set_cons_zero, List.set_cons_succ, i64_w, i32_w]
              rfl
             refine pure_ (i := 32) (N := some 44) (v := ?_) (a' := ?_) #[true, true, true, true, true, true, true, true, true, true, true, true, true, true, true, true, true, true, true, true, true, true, true, true, true, true, true, true, true, true, true, true, true] rfl rfl (any_of HT_.out (by kernel_rfl)) (fun _ _ _ h => h) (Or.inl ⟨by rfl, ?_⟩) ?_ ?_
             rotate_left
             ·
              intro w'
              go_simp
              with_reducible rfl
             rotate_left
             ·
              simp only [Act.put, List.setIfInBounds_toArray, List.set_cons_zero, List.set_cons_succ, i64_w, i32_w]
              rfl
             refine done_ (done_of HT_.out (by kernel_rfl)) ?_
             try go_wp2
             go_roundg k1
             case measure => have := HK1.out; omega
             case rel => exact ⟨(wrap64 (x7_1 + 1)), (by first | rfl | (simp; done) | (simp [*]; done)), H', ⟨by have := HK1.out; omega⟩, ⟨by repeat (first | (with_reducible first | exact HB.out | apply below_alloc | apply pw_below_drewN | apply below_drew1 | refine below_set ?_ GE324.out) | exact HB.out)⟩⟩
           ·
            rw [if_neg c17] at H
            exact absurd H (by simp)
          ·
           rw [if_neg c16] at H
           exact absurd H (by simp)
         ·
          rw [if_neg c14] at H
          have c14b0 : decide (0 < x7_1) = false := decide_eq_false c14
          clear c14
          have H' := Aside0.mk H
          clear H
          have p323 : 0 ≤ (x7_1 : Int) := of_decide_eq_true (by first | (with_reducible assumption) | assumption)
          have q323 : x7_1 < (l0.length : Int) := of_decide_eq_true (by first | (with_reducible assumption) | assumption)
          obtain ⟨ad323, e323, hx323_0, hx323_1⟩ := at_T23 HR0.out x7_1 p323 q323
          cases e323
          replace hx323_0 := (HB.out.cell (World.block_lt_of_cell? w _ hx323_0)).trans hx323_0
          replace hx323_1 := (HB.out.cell (World.block_lt_of_cell? w _ hx323_1)).trans hx323_1
          replace p323 := eq_true p323
          replace q323 := eq_true q323
          try go_wp2_with (first | ((with_reducible refine gate_dst (N := 4) rfl ?_); refine box_event ?hg (N := 4) ?hd (cs := #[.int .i64 0, .int .i64 0]) (t := 23) ?hr ?_; (case hd => rfl); (case hg => rfl); (case hr => first | (go_simp; done) | (go_simp; rfl)); intro gb324 hg w27 hbox hb; have n0_ := Aside0.mk (below_step (by repeat (first | (with_reducible first | exact HB.out | apply below_alloc | apply pw_below_drewN | apply below_drew1) | exact HB.out)) hb); have n1_ := Aside0.mk (hbox); have n2_ := Aside0.mk ((by rw [hg]; exact (below_size (by repeat (first | (with_reducible first | exact HB.out | apply below_alloc | apply pw_below_drewN | apply below_drew1) | exact HB.out))) : w.heap.size ≤ gb324)); have n3_ := Aside0.mk ((by rw [hg]; exact (below_size (by repeat (first | (with_reducible first | exact HB.out | apply below_alloc | apply pw_below_drewN | apply below_drew1) | exact HB.out))) : w.heap.size ≤ gb324)); clear HB; have HB := n0_; have BK324 := n1_; have GW324 := n2_; have GE324 := n3_; clear n0_ n1_ n2_ n3_; clear hb hbox hg; have hcz28_0 : w27.cell? ⟨gb324, 0, none⟩ = some (.int .i64 0) := (blk_cell BK324.out 0).trans rfl; have hcz28_1 : w27.cell? ⟨gb324, 1, none⟩ = some (.int .i64 0) := (blk_cell BK324.out 1).trans rfl; have hfz28_0 := blk_frozen BK324.out 0; have hfz28_1 := blk_frozen BK324.out 1))
          have n0_ : Aside0 (((w27.setCell ⟨gb324, 0, none⟩ (.int .i64 ((rd_T23 l0 x7_1).f0))).setCell ⟨gb324, 1, none⟩ (.int .i64 ((rd_T23 l0 x7_1).f1))).heap[gb324]? = some (.cells #[.int .i64 ((rd_T23 l0 x7_1).f0), .int .i64 ((rd_T23 l0 x7_1).f1)] 23 (0, 0))) := ⟨by (with_reducible repeat (first | refine blk_drewN ?_ _ | refine blk_drew ?_ | refine blk_alloc ?_ _)); refine blk_put (cs := #[.int .i64 ((rd_T23 l0 x7_1).f0), .int .i64 0]) ?_ 1 _ rfl; (with_reducible repeat (first | refine blk_drewN ?_ _ | refine blk_drew ?_ | refine blk_alloc ?_ _)); refine blk_put (cs := #[.int .i64 0, .int .i64 0]) ?_ 0 _ rfl; (with_reducible repeat (first | refine blk_drewN ?_ _ | refine blk_drew ?_ | refine blk_alloc ?_ _)); exact BK324.out⟩
          have n1_ : Aside0 (Below w.heap.size w ((w27.setCell ⟨gb324, 0, none⟩ (.int .i64 ((rd_T23 l0 x7_1).f0))).setCell ⟨gb324, 1, none⟩ (.int .i64 ((rd_T23 l0 x7_1).f1)))) := ⟨by repeat (first | (with_reducible first | exact HB.out | apply below_alloc | apply pw_below_drewN | apply below_drew1 | refine below_set ?_ GE324.out) | exact HB.out)⟩
          (try clear BK324)
          (try clear HB)
          generalize ((w27.setCell ⟨gb324, 0, none⟩ (.int .i64 ((rd_T23 l0 x7_1).f0))).setCell ⟨gb324, 1, none⟩ (.int .i64 ((rd_T23 l0 x7_1).f1))) = w29 at n0_ n1_ ⊢
          have BK324 := n0_
          have HB := n1_
          clear n0_ n1_
          have n0_ := Aside0.mk (blk_drew BK324.out)
          have n1_ := Aside0.mk (below_drew1 HB.out)
          clear BK324
          clear HB
          have BK324 := n0_
          have HB := n1_
          clear n0_ n1_
          refine start_ (n := 33) (S := fun w' => w'.cell? ⟨gb324, 0, none⟩ = some (.int .i64 ((rd_T23 l0 x7_1).f0)) ∧ w'.cell? ⟨gb324, 1, none⟩ = some (.int .i64 ((rd_T23 l0 x7_1).f1))) (ds := []) #[false, false, false, false, false, false, false, false, false, false, false, false, false, false, false, false, false, false, false, false, false, false, false, false, false, false, false, false, false, false, false, false, false] (by kernel_rfl) rfl rfl ⟨(blk_cell BK324.out 0).trans rfl, (blk_cell BK324.out 1).trans rfl⟩ (fun hHeld => ?_); refine with_tabW spans_Right.tab4 spans_Right.bits4 (fun HT_ HW_ => ?_)
          generalize w29.drew = w30 at BK324 HB hHeld ⊢
          refine pure_ (i := 0) (N := some 12) (v := ?_) (a' := ?_) #[true, false, false, false, false, false, false, false, false, false, false, false, false, false, false, false, false, false, false, false, false, false, false, false, false, false, false, false, false, false, false, false, false] rfl rfl (any_of HT_.out (by kernel_rfl)) (fun _ _ _ h => h) (Or.inl ⟨by rfl, ?_⟩) ?_ ?_
          rotate_left
          ·
           intro w'
           go_simp
           with_reducible rfl
          rotate_left
          ·
           simp only [Act.put, List.setIfInBounds_toArray, List.set_cons_zero, List.set_cons_succ, i64_w, i32_w]
           rfl
          refine take_ (i := 1) (N := some 13) (v := ?_) (a' := ?_) #[true, true, false, false, false, false, false, false, false, false, false, false, false, false, false, false, false, false, false, false, false, false, false, false, false, false, false, false, false, false, false, false, false] rfl rfl (take_ofW HT_.out HW_.out (by kernel_rfl)) (fun _ _ _ h => h) (Or.inl ⟨by rfl, ?_⟩) hHeld ?_ ?_
          rotate_left
          ·
           rintro w' ⟨s0, s1⟩
           go_simp
           with_reducible rfl
          rotate_left
          ·
           simp only [Act.put, List.setIfInBounds_toArray, List.set_cons_zero, List.set_cons_succ, i64_w, i32_w]
           rfl
          refine one_ (i := 2) (N := some 14) #[true, true, true, false, false, false, false, false, false, false, false, false, false, false, false, false, false, false, false, false, false, false, false, false, false, false, false, false, false, false, false, false, false] rfl rfl (one_of HT_.out (by kernel_rfl)) (by decide) (fun K hK => ?_)
          refine goes_ Try.func66 (by kernel_rfl) rfl #[.int .i64 ((rd_T23 l0 x7_1).f0)] (by rfl) rfl rfl (by (try simp only [List.map_toArray, List.map_cons, List.map_nil]); first | done | rfl | (simp only [List.length_drop, List.length_take]; rfl)) ?_
          with_reducible refine (spans_tick.calls ((rd_T23 l0 x7_1).f0) true _ A5.out).mono ?_
          rintro e w' ⟨rfl, ⟨nd, rfl⟩⟩
          refine ⟨_, rfl, ?_⟩
          refine hK.out _ _ ⟨(blk_cell BK324.out 0).trans rfl, (blk_cell BK324.out 1).trans rfl⟩ (fun hHeld => ?_)
          clear hK K
          refine norm_ (a' := ?_) ?_ ?_
          rotate_left
          ·
           show Act.put _ (some 14) _ = _
           simp only [Act.put, List.setIfInBounds_toArray, List.set_cons_zero, List.set_cons_succ, i64_w, i32_w]
           rfl
          refine pure_ (i := 3) (N := some 15) (v := ?_) (a' := ?_) #[true, true, true, true, false, false, false, false, false, false, false, false, false, false, false, false, false, false, false, false, false, false, false, false, false, false, false, false, false, false, false, false, false] rfl rfl (any_of HT_.out (by kernel_rfl)) (fun _ _ _ h => h) (Or.inl ⟨by rfl, ?_⟩) ?_ ?_
          rotate_left
          ·
           intro w'
           go_simp
           with_reducible rfl
          rotate_left
          ·
           simp only [Act.put, List.setIfInBounds_toArray, List.set_cons_zero, List.set_cons_succ, i64_w, i32_w]
           rfl
          refine pure_ (i := 4) (N := some 16) (v := ?_) (a' := ?_) #[true, true, true, true, true, false, false, false, false, false, false, false, false, false, false, false, false, false, false, false, false, false, false, false, false, false, false, false, false, false, false, false, false] rfl rfl (any_of HT_.out (by kernel_rfl)) (fun _ _ _ h => h) (Or.inl ⟨by rfl, ?_⟩) ?_ ?_
          rotate_left
          ·
           intro w'
           go_simp
           with_reducible rfl
          rotate_left
          ·
           simp only [Act.put, List.setIfInBounds_toArray, List.set_cons_zero, List.set_cons_succ, i64_w, i32_w]
           rfl
          refine pure_ (i := 5) (N := some 17) (v := ?_) (a' := ?_) #[true, true, true, true, true, true, false, false, false, false, false, false, false, false, false, false, false, false, false, false, false, false, false, false, false, false, false, false, false, false, false, false, false] rfl rfl (any_of HT_.out (by kernel_rfl)) (fun _ _ _ h => h) (Or.inl ⟨by rfl, ?_⟩) ?_ ?_
          rotate_left
          ·
           intro w'
           go_simp
           with_reducible rfl
          rotate_left
          ·
           simp only [Act.put, List.setIfInBounds_toArray, List.set_cons_zero, List.set_cons_succ, i64_w, i32_w]
           rfl
          refine take_ (i := 6) (N := some 18) (v := ?_) (a' := ?_) #[true, true, true, true, true, true, true, false, false, false, false, false, false, false, false, false, false, false, false, false, false, false, false, false, false, false, false, false, false, false, false, false, false] rfl rfl (take_ofW HT_.out HW_.out (by kernel_rfl)) (fun _ _ _ h => h) (Or.inl ⟨by rfl, ?_⟩) hHeld ?_ ?_
          rotate_left
          ·
           rintro w' ⟨s0, s1⟩
           go_simp
           with_reducible rfl
          rotate_left
          ·
           simp only [Act.put, List.setIfInBounds_toArray, List.set_cons_zero, List.set_cons_succ, i64_w, i32_w]
           rfl
          refine one_ (i := 7) (N := some 19) #[true, true, true, true, true, true, true, true, false, false, false, false, false, false, false, false, false, false, false, false, false, false, false, false, false, false, false, false, false, false, false, false, false] rfl rfl (one_of HT_.out (by kernel_rfl)) (by decide) (fun K hK => ?_)
          refine goes_ Try.func66 (by kernel_rfl) rfl #[.int .i64 ((rd_T23 l0 x7_1).f1)] (by rfl) rfl rfl (by (try simp only [List.map_toArray, List.map_cons, List.map_nil]); first | done | rfl | (simp only [List.length_drop, List.length_take]; rfl)) ?_
          with_reducible refine (spans_tick.calls ((rd_T23 l0 x7_1).f1) true _ A7.out).mono ?_
          rintro e w' ⟨rfl, ⟨nd, rfl⟩⟩
          refine ⟨_, rfl, ?_⟩
          refine hK.out _ _ ⟨(blk_cell BK324.out 0).trans rfl, (blk_cell BK324.out 1).trans rfl⟩ (fun hHeld => ?_)
          clear hK K
          refine norm_ (a' := ?_) ?_ ?_
          rotate_left
          ·
           show Act.put _ (some 19) _ = _
           simp only [Act.put, List.setIfInBounds_toArray, List.set_cons_zero, List.set_cons_succ, i64_w, i32_w]
           rfl
          refine pure_ (i := 8) (N := some 20) (v := ?_) (a' := ?_) #[true, true, true, true, true, true, true, true, true, false, false, false, false, false, false, false, false, false, false, false, false, false, false, false, false, false, false, false, false, false, false, false, false] rfl rfl (any_of HT_.out (by kernel_rfl)) (fun _ _ _ h => h) (Or.inl ⟨by rfl, ?_⟩) ?_ ?_
          rotate_left
          ·
           intro w'
           go_simp
           with_reducible rfl
          rotate_left
          ·
           simp only [Act.put, List.setIfInBounds_toArray, List.set_cons_zero, List.set_cons_succ, i64_w, i32_w]
           rfl
          refine pure_ (i := 9) (N := some 21) (v := ?_) (a' := ?_) #[true, true, true, true, true, true, true, true, true, true, false, false, false, false, false, false, false, false, false, false, false, false, false, false, false, false, false, false, false, false, false, false, false] rfl rfl (any_of HT_.out (by kernel_rfl)) (fun _ _ _ h => h) (Or.inl ⟨by rfl, ?_⟩) ?_ ?_
          rotate_left
          ·
           intro w'
           go_simp
           with_reducible rfl
          rotate_left
          ·
           simp only [Act.put, List.setIfInBounds_toArray, List.set_cons_zero, List.set_cons_succ, i64_w, i32_w]
           rfl
          refine pure_ (i := 10) (N := some 22) (v := ?_) (a' := ?_) #[true, true, true, true, true, true, true, true, true, true, true, false, false, false, false, false, false, false, false, false, false, false, false, false, false, false, false, false, false, false, false, false, false] rfl rfl (any_of HT_.out (by kernel_rfl)) (fun _ _ _ h => h) (Or.inl ⟨by rfl, ?_⟩) ?_ ?_
          rotate_left
          ·
           intro w'
           go_simp
           with_reducible rfl
          rotate_left
          ·
           simp only [Act.put, List.setIfInBounds_toArray, List.set_cons_zero, List.set_cons_succ, i64_w, i32_w]
           rfl
          refine pure_ (i := 11) (N := some 23) (v := ?_) (a' := ?_) #[true, true, true, true, true, true, true, true, true, true, true, true, false, false, false, false, false, false, false, false, false, false, false, false, false, false, false, false, false, false, false, false, false] rfl rfl (any_of HT_.out (by kernel_rfl)) (fun _ _ _ h => h) (Or.inl ⟨by rfl, ?_⟩) ?_ ?_
          rotate_left
          ·
           intro w'
           go_simp
           with_reducible rfl
          rotate_left
          ·
           simp only [Act.put, List.setIfInBounds_toArray, List.set_cons_zero, List.set_cons_succ, i64_w, i32_w]
           rfl
          refine pure_ (i := 13) (N := some 25) (v := ?_) (a' := ?_) #[true, true, true, true, true, true, true, true, true, true, true, true, false, true, false, false, false, false, false, false, false, false, false, false, false, false, false, false, false, false, false, false, false] rfl rfl (any_of HT_.out (by kernel_rfl)) (fun _ _ _ h => h) (Or.inl ⟨by rfl, ?_⟩) ?_ ?_
          rotate_left
          ·
           intro w'
           go_simp
           with_reducible rfl
          rotate_left
          ·
           simp only [Act.put, List.setIfInBounds_toArray, List.set_cons_zero, List.set_cons_succ, i64_w, i32_w]
           rfl
          refine take_ (i := 12) (N := some 24) (v := ?_) (a' := ?_) #[true, true, true, true, true, true, true, true, true, true, true, true, true, true, false, false, false, false, false, false, false, false, false, false, false, false, false, false, false, false, false, false, false] rfl rfl (take_ofW HT_.out HW_.out (by kernel_rfl)) (fun _ _ _ h => h) (Or.inl ⟨by rfl, ?_⟩) hHeld ?_ ?_
          rotate_left
          ·
           rintro w' ⟨s0, s1⟩
           go_simp
           with_reducible rfl
          rotate_left
          ·
           simp only [Act.put, List.setIfInBounds_toArray, List.set_cons_zero, List.set_cons_succ, i64_w, i32_w]
           rfl
          refine take_ (i := 14) (N := some 26) (v := ?_) (a' := ?_) #[true, true, true, true, true, true, true, true, true, true, true, true, true, true, true, false, false, false, false, false, false, false, false, false, false, false, false, false, false, false, false, false, false] rfl rfl (take_ofW HT_.out HW_.out (by kernel_rfl)) (fun _ _ _ h => h) (Or.inl ⟨by rfl, ?_⟩) hHeld ?_ ?_
          rotate_left
          ·
           rintro w' ⟨s0, s1⟩
           go_simp
           with_reducible rfl
          rotate_left
          ·
           simp only [Act.put, List.setIfInBounds_toArray, List.set_cons_zero, List.set_cons_succ, i64_w, i32_w]
           rfl
          refine pure_ (i := 15) (N := some 27) (v := ?_) (a' := ?_) #[true, true, true, true, true, true, true, true, true, true, true, true, true, true, true, true, false, false, false, false, false, false, false, false, false, false, false, false, false, false, false, false, false] rfl rfl (any_of HT_.out (by kernel_rfl)) (fun _ _ _ h => h) (Or.inl ⟨by rfl, ?_⟩) ?_ ?_
          rotate_left
          ·
           intro w'
           go_simp
           with_reducible rfl
          rotate_left
          ·
           simp only [Act.put, List.setIfInBounds_toArray, List.set_cons_zero, List.set_cons_succ, i64_w, i32_w]
           rfl
          refine pure_ (i := 16) (N := some 28) (v := ?_) (a' := ?_) #[true, true, true, true, true, true, true, true, true, true, true, true, true, true, true, true, true, false, false, false, false, false, false, false, false, false, false, false, false, false, false, false, false] rfl rfl (any_of HT_.out (by kernel_rfl)) (fun _ _ _ h => h) (Or.inl ⟨by rfl, ?_⟩) ?_ ?_
          rotate_left
          ·
           intro w'
           go_simp
           with_reducible rfl
          rotate_left
          ·
           simp only [Act.put, List.setIfInBounds_toArray, List.set_cons_zero, List.set_cons_succ, i64_w, i32_w]
           rfl
          refine pure_ (i := 17) (N := some 29) (v := ?_) (a' := ?_) #[true, true, true, true, true, true, true, true, true, true, true, true, true, true, true, true, true, true, false, false, false, false, false, false, false, false, false, false, false, false, false, false, false] rfl rfl (any_of HT_.out (by kernel_rfl)) (fun _ _ _ h => h) (Or.inl ⟨by rfl, ?_⟩) ?_ ?_
          rotate_left
          ·
           intro w'
           go_simp
           with_reducible rfl
          rotate_left
          ·
           simp only [Act.put, List.setIfInBounds_toArray, List.set_cons_zero, List.set_cons_succ, i64_w, i32_w]
           rfl
          refine pure_ (i := 18) (N := some 30) (v := ?_) (a' := ?_) #[true, true, true, true, true, true, true, true, true, true, true, true, true, true, true, true, true, true, true, false, false, false, false, false, false, false, false, false, false, false, false, false, false] rfl rfl (any_of HT_.out (by kernel_rfl)) (fun _ _ _ h => h) (Or.inl ⟨by rfl, ?_⟩) ?_ ?_
          rotate_left
          ·
           intro w'
           go_simp
           with_reducible rfl
          rotate_left
          ·
           simp only [Act.put, List.setIfInBounds_toArray, List.set_cons_zero, List.set_cons_succ, i64_w, i32_w]
           rfl
          refine pure_ (i := 19) (N := some 31) (v := ?_) (a' := ?_) #[true, true, true, true, true, true, true, true, true, true, true, true, true, true, true, true, true, true, true, true, false, false, false, false, false, false, false, false, false, false, false, false, false] rfl rfl (any_of HT_.out (by kernel_rfl)) (fun _ _ _ h => h) (Or.inl ⟨by rfl, ?_⟩) ?_ ?_
          rotate_left
          ·
           intro w'
           go_simp
           with_reducible rfl
          rotate_left
          ·
           simp only [Act.put, List.setIfInBounds_toArray, List.set_cons_zero, List.set_cons_succ, i64_w, i32_w]
           rfl
          refine pure_ (i := 20) (N := some 32) (v := ?_) (a' := ?_) #[true, true, true, true, true, true, true, true, true, true, true, true, true, true, true, true, true, true, true, true, true, false, false, false, false, false, false, false, false, false, false, false, false] rfl rfl (any_of HT_.out (by kernel_rfl)) (fun _ _ _ h => h) (Or.inl ⟨by rfl, ?_⟩) ?_ ?_
          rotate_left
          ·
           intro w'
           go_simp
           with_reducible rfl
          rotate_left
          ·
           simp only [Act.put, List.setIfInBounds_toArray, List.set_cons_zero, List.set_cons_succ, i64_w, i32_w]
           rfl
          refine pure_ (i := 21) (N := some 33) (v := undef) (a' := ?_) #[true, true, true, true, true, true, true, true, true, true, true, true, true, true, true, true, true, true, true, true, true, true, false, false, false, false, false, false, false, false, false, false, false] rfl rfl (any_of HT_.out (by kernel_rfl)) (fun _ _ _ h => h) (Or.inr ⟨by rfl, rfl⟩) ?_ ?_
          rotate_left
          ·
           simp only [Act.put, List.setIfInBounds_toArray, List.set_cons_zero, List.set_cons_succ, i64_w, i32_w]
           rfl
          refine pure_ (i := 22) (N := some 34) (v := undef) (a' := ?_) #[true, true, true, true, true, true, true, true, true, true, true, true, true, true, true, true, true, true, true, true, true, true, true, false, false, false, false, false, false, false, false, false, false] rfl rfl (any_of HT_.out (by kernel_rfl)) (fun _ _ _ h => h) (Or.inr ⟨by rfl, rfl⟩) ?_ ?_
          rotate_left
          ·
           simp only [Act.put, List.setIfInBounds_toArray, List.set_cons_zero, List.set_cons_succ, i64_w, i32_w]
           rfl
          refine pure_ (i := 23) (N := some 35) (v := undef) (a' := ?_) #[true, true, true, true, true, true, true, true, true, true, true, true, true, true, true, true, true, true, true, true, true, true, true, true, false, false, false, false, false, false, false, false, false] rfl rfl (any_of HT_.out (by kernel_rfl)) (fun _ _ _ h => h) (Or.inr ⟨by rfl, rfl⟩) ?_ ?_
          rotate_left
          ·
           simp only [Act.put, List.setIfInBounds_toArray, List.set_cons_zero, List.set_cons_succ, i64_w, i32_w]
           rfl
          refine pure_ (i := 24) (N := some 36) (v := undef) (a' := ?_) #[true, true, true, true, true, true, true, true, true, true, true, true, true, true, true, true, true, true, true, true, true, true, true, true, true, false, false, false, false, false, false, false, false] rfl rfl (any_of HT_.out (by kernel_rfl)) (fun _ _ _ h => h) (Or.inr ⟨by rfl, rfl⟩) ?_ ?_
          rotate_left
          ·
           simp only [Act.put, List.setIfInBounds_toArray, List.set_cons_zero, List.set_cons_succ, i64_w, i32_w]
           rfl
          refine pure_ (i := 25) (N := some 37) (v := undef) (a' := ?_) #[true, true, true, true, true, true, true, true, true, true, true, true, true, true, true, true, true, true, true, true, true, true, true, true, true, true, false, false, false, false, false, false, false] rfl rfl (any_of HT_.out (by kernel_rfl)) (fun _ _ _ h => h) (Or.inr ⟨by rfl, rfl⟩) ?_ ?_
          rotate_left
          ·
           simp only [Act.put, List.setIfInBounds_toArray, List.set_cons_zero, List.set_cons_succ, i64_w, i32_w]
           rfl
          refine pure_ (i := 26) (N := some 38) (v := undef) (a' := ?_) #[true, true, true, true, true, true, true, true, true, true, true, true, true, true, true, true, true, true, true, true, true, true, true, true, true, true, true, false, false, false, false, false, false] rfl rfl (any_of HT_.out (by kernel_rfl)) (fun _ _ _ h => h) (Or.inr ⟨by rfl, rfl⟩) ?_ ?_
          rotate_left
          ·
           simp only [Act.put, List.setIfInBounds_toArray, List.set_cons_zero, List.set_cons_succ, i64_w, i32_w]
           rfl
          refine pure_ (i := 27) (N := some 39) (v := undef) (a' := ?_) #[true, true, true, true, true, true, true, true, true, true, true, true, true, true, true, true, true, true, true, true, true, true, true, true, true, true, true, true, false, false, false, false, false] rfl rfl (any_of HT_.out (by kernel_rfl)) (fun _ _ _ h => h) (Or.inr ⟨by rfl, rfl⟩) ?_ ?_
          rotate_left
          ·
           simp only [Act.put, List.setIfInBounds_toArray, List.set_cons_zero, List.set_cons_succ, i64_w, i32_w]
           rfl
          refine pure_ (i := 28) (N := some 40) (v := undef) (a' := ?_) #[true, true, true, true, true, true, true, true, true, true, true, true, true, true, true, true, true, true, true, true, true, true, true, true, true, true, true, true, true, false, false, false, false] rfl rfl (any_of HT_.out (by kernel_rfl)) (fun _ _ _ h => h) (Or.inr ⟨by rfl, rfl⟩) ?_ ?_
          rotate_left
          ·
           simp only [Act.put, List.setIfInBounds_toArray, List.set_cons_zero, List.set_cons_succ, i64_w, i32_w]
           rfl
          refine pure_ (i := 29) (N := some 41) (v := undef) (a' := ?_) #[true, true, true, true, true, true, true, true, true, true, true, true, true, true, true, true, true, true, true, true, true, true, true, true, true, true, true, true, true, true, false, false, false] rfl rfl (any_of HT_.out (by kernel_rfl)) (fun _ _ _ h => h) (Or.inr ⟨by rfl, rfl⟩) ?_ ?_
          rotate_left
          ·
           simp only [Act.put, List.setIfInBounds_toArray, List.set_cons_zero, List.set_cons_succ, i64_w, i32_w]
           rfl
          refine pure_ (i := 30) (N := some 42) (v := undef) (a' := ?_) #[true, true, true, true, true, true, true, true, true, true, true, true, true, true, true, true, true, true, true, true, true, true, true, true, true, true, true, true, true, true, true, false, false] rfl rfl (any_of HT_.out (by kernel_rfl)) (fun _ _ _ h => h) (Or.inr ⟨by rfl, rfl⟩) ?_ ?_
          rotate_left
          ·
           simp only [Act.put, List.setIfInBounds_toArray, List.set_cons_zero, List.set_cons_succ, i64_w, i32_w]
           rfl
          refine pure_ (i := 31) (N := some 43) (v := ?_) (a' := ?_) #[true, true, true, true, true, true, true, true, true, true, true, true, true, true, true, true, true, true, true, true, true, true, true, true, true, true, true, true, true, true, true, true, false] rfl rfl (any_of HT_.out (by kernel_rfl)) (fun _ _ _ h => h) (Or.inl ⟨by rfl, ?_⟩) ?_ ?_
          rotate_left
          ·
           intro w'
           go_simp
           with_reducible rfl
          rotate_left
          ·
           simp only [Act.put, List.setIfInBounds_toArray, List.set_cons_zero, List.set_cons_succ, i64_w, i32_w]
           rfl
          refine pure_ (i := 32) (N := some 44) (v := ?_) (a' := ?_) #[true, true, true, true, true, true, true, true, true, true, true, true, true, true, true, true, true, true, true, true, true, true, true, true, true, true, true, true, true, true, true, true, true] rfl rfl (any_of HT_.out (by kernel_rfl)) (fun _ _ _ h => h) (Or.inl ⟨by rfl, ?_⟩) ?_ ?_
          rotate_left
          ·
           intro w'
           go_simp
           with_reducible rfl
          rotate_left
          ·
           simp only [Act.put, List.setIfInBounds_toArray, List.set_cons_zero, List.set_cons_succ, i64_w, i32_w]
           rfl
          refine done_ (done_of HT_.out (by kernel_rfl)) ?_
          try go_wp2
          go_roundg k1
          case measure => have := HK1.out; omega
          case rel => exact ⟨(wrap64 (x7_1 + 1)), (by first | rfl | (simp; done) | (simp [*]; done)), H', ⟨by have := HK1.out; omega⟩, ⟨by repeat (first | (with_reducible first | exact HB.out | apply below_alloc | apply pw_below_drewN | apply below_drew1 | refine below_set ?_ GE324.out) | exact HB.out)⟩⟩
       ·
        replace c8 := Bool.eq_false_iff.mpr c8
        subst c8
        have H1 : (some false) = some r := by rw [if_neg (show ¬ (false = true) by decide)] at H; exact H
        clear H
        have H := H1
        clear H1
        obtain rfl := Option.some.inj H
        have p323 : 0 ≤ (x7_1 : Int) := of_decide_eq_true (by first | (with_reducible assumption) | assumption)
        have q323 : x7_1 < (l0.length : Int) := of_decide_eq_true (by first | (with_reducible assumption) | assumption)
        obtain ⟨ad323, e323, hx323_0, hx323_1⟩ := at_T23 HR0.out x7_1 p323 q323
        cases e323
        replace hx323_0 := (HB.out.cell (World.block_lt_of_cell? w _ hx323_0)).trans hx323_0
        replace hx323_1 := (HB.out.cell (World.block_lt_of_cell? w _ hx323_1)).trans hx323_1
        replace p323 := eq_true p323
        replace q323 := eq_true q323
        try go_wp2_with (first | ((with_reducible refine gate_dst (N := 4) rfl ?_); refine box_event ?hg (N := 4) ?hd (cs := #[.int .i64 0, .int .i64 0]) (t := 23) ?hr ?_; (case hd => rfl); (case hg => rfl); (case hr => first | (go_simp; done) | (go_simp; rfl)); intro gb324 hg w31 hbox hb; have n0_ := Aside0.mk (below_step (by repeat (first | (with_reducible first | exact HB.out | apply below_alloc | apply pw_below_drewN | apply below_drew1) | exact HB.out)) hb); have n1_ := Aside0.mk (hbox); have n2_ := Aside0.mk ((by rw [hg]; exact (below_size (by repeat (first | (with_reducible first | exact HB.out | apply below_alloc | apply pw_below_drewN | apply below_drew1) | exact HB.out))) : w.heap.size ≤ gb324)); have n3_ := Aside0.mk ((by rw [hg]; exact (below_size (by repeat (first | (with_reducible first | exact HB.out | apply below_alloc | apply pw_below_drewN | apply below_drew1) | exact HB.out))) : w.heap.size ≤ gb324)); clear HB; have HB := n0_; have BK324 := n1_; have GW324 := n2_; have GE324 := n3_; clear n0_ n1_ n2_ n3_; clear hb hbox hg; have hcz32_0 : w31.cell? ⟨gb324, 0, none⟩ = some (.int .i64 0) := (blk_cell BK324.out 0).trans rfl; have hcz32_1 : w31.cell? ⟨gb324, 1, none⟩ = some (.int .i64 0) := (blk_cell BK324.out 1).trans rfl; have hfz32_0 := blk_frozen BK324.out 0; have hfz32_1 := blk_frozen BK324.out 1))
        have n0_ : Aside0 (((w31.setCell ⟨gb324, 0, none⟩ (.int .i64 ((rd_T23 l0 x7_1).f0))).setCell ⟨gb324, 1, none⟩ (.int .i64 ((rd_T23 l0 x7_1).f1))).heap[gb324]? = some (.cells #[.int .i64 ((rd_T23 l0 x7_1).f0), .int .i64 ((rd_T23 l0 x7_1).f1)] 23 (0, 0))) := ⟨by (with_reducible repeat (first | refine blk_drewN ?_ _ | refine blk_drew ?_ | refine blk_alloc ?_ _)); refine blk_put (cs := #[.int .i64 ((rd_T23 l0 x7_1).f0), .int .i64 0]) ?_ 1 _ rfl; (with_reducible repeat (first | refine blk_drewN ?_ _ | refine blk_drew ?_ | refine blk_alloc ?_ _)); refine blk_put (cs := #[.int .i64 0, .int .i64 0]) ?_ 0 _ rfl; (with_reducible repeat (first | refine blk_drewN ?_ _ | refine blk_drew ?_ | refine blk_alloc ?_ _)); exact BK324.out⟩
        have n1_ : Aside0 (Below w.heap.size w ((w31.setCell ⟨gb324, 0, none⟩ (.int .i64 ((rd_T23 l0 x7_1).f0))).setCell ⟨gb324, 1, none⟩ (.int .i64 ((rd_T23 l0 x7_1).f1)))) := ⟨by repeat (first | (with_reducible first | exact HB.out | apply below_alloc | apply pw_below_drewN | apply below_drew1 | refine below_set ?_ GE324.out) | exact HB.out)⟩
        (try clear BK324)
        (try clear HB)
        generalize ((w31.setCell ⟨gb324, 0, none⟩ (.int .i64 ((rd_T23 l0 x7_1).f0))).setCell ⟨gb324, 1, none⟩ (.int .i64 ((rd_T23 l0 x7_1).f1))) = w33 at n0_ n1_ ⊢
        have BK324 := n0_
        have HB := n1_
        clear n0_ n1_
        have n0_ := Aside0.mk (blk_drew BK324.out)
        have n1_ := Aside0.mk (below_drew1 HB.out)
        clear BK324
        clear HB
        have BK324 := n0_
        have HB := n1_
        clear n0_ n1_
        refine start_ (n := 33) (S := fun w' => w'.cell? ⟨gb324, 0, none⟩ = some (.int .i64 ((rd_T23 l0 x7_1).f0)) ∧ w'.cell? ⟨gb324, 1, none⟩ = some (.int .i64 ((rd_T23 l0 x7_1).f1))) (ds := []) #[false, false, false, false, false, false, false, false, false, false, false, false, false, false, false, false, false, false, false, false, false, false, false, false, false, false, false, false, false, false, false, false, false] (by kernel_rfl) rfl rfl ⟨(blk_cell BK324.out 0).trans rfl, (blk_cell BK324.out 1).trans rfl⟩ (fun hHeld => ?_); refine with_tabW spans_Right.tab4 spans_Right.bits4 (fun HT_ HW_ => ?_)
        generalize w33.drew = w34 at BK324 HB hHeld ⊢
        refine pure_ (i := 0) (N := some 12) (v := ?_) (a' := ?_) #[true, false, false, false, false, false, false, false, false, false, false, false, false, false, false, false, false, false, false, false, false, false, false, false, false, false, false, false, false, false, false, false, false] rfl rfl (any_of HT_.out (by kernel_rfl)) (fun _ _ _ h => h) (Or.inl ⟨by rfl, ?_⟩) ?_ ?_
        rotate_left
        ·
         intro w'
         go_simp
         with_reducible rfl
        rotate_left
        ·
         simp only [Act.put, List.setIfInBounds_toArray, List.set_cons_zero, List.set_cons_succ, i64_w, i32_w]
         rfl
        refine take_ (i := 1) (N := some 13) (v := ?_) (a' := ?_) #[true, true, false, false, false, false, false, false, false, false, false, false, false, false, false, false, false, false, false, false, false, false, false, false, false, false, false, false, false, false, false, false, false] rfl rfl (take_ofW HT_.out HW_.out (by kernel_rfl)) (fun _ _ _ h => h) (Or.inl ⟨by rfl, ?_⟩) hHeld ?_ ?_
        rotate_left
        ·
         rintro w' ⟨s0, s1⟩
         go_simp
         with_reducible rfl
        rotate_left
        ·
         simp only [Act.put, List.setIfInBounds_toArray, List.set_cons_zero, List.set_cons_succ, i64_w, i32_w]
         rfl
        refine one_ (i := 2) (N := some 14) #[true, true, true, false, false, false, false, false, false, false, false, false, false, false, false, false, false, false, false, false, false, false, false, false, false, false, false, false, false, false, false, false, false] rfl rfl (one_of HT_.out (by kernel_rfl)) (by decide) (fun K hK => ?_)
        refine goes_ Try.func66 (by kernel_rfl) rfl #[.int .i64 ((rd_T23 l0 x7_1).f0)] (by rfl) rfl rfl (by (try simp only [List.map_toArray, List.map_cons, List.map_nil]); first | done | rfl | (simp only [List.length_drop, List.length_take]; rfl)) ?_
        with_reducible refine (spans_tick.calls ((rd_T23 l0 x7_1).f0) true _ A5.out).mono ?_
        rintro e w' ⟨rfl, ⟨nd, rfl⟩⟩
        refine ⟨_, rfl, ?_⟩
        refine hK.out _ _ ⟨(blk_cell BK324.out 0).trans rfl, (blk_cell BK324.out 1).trans rfl⟩ (fun hHeld => ?_)
        clear hK K
        refine norm_ (a' := ?_) ?_ ?_
        rotate_left
        ·
         show Act.put _ (some 14) _ = _
         simp only [Act.put, List.setIfInBounds_toArray, List.set_cons_zero, List.set_cons_succ, i64_w, i32_w]
         rfl
        refine pure_ (i := 3) (N := some 15) (v := ?_) (a' := ?_) #[true, true, true, true, false, false, false, false, false, false, false, false, false, false, false, false, false, false, false, false, false, false, false, false, false, false, false, false, false, false, false, false, false] rfl rfl (any_of HT_.out (by kernel_rfl)) (fun _ _ _ h => h) (Or.inl ⟨by rfl, ?_⟩) ?_ ?_
        rotate_left
        ·
         intro w'
         go_simp
         with_reducible rfl
        rotate_left
        ·
         simp only [Act.put, List.setIfInBounds_toArray, List.set_cons_zero, List.set_cons_succ, i64_w, i32_w]
         rfl
        refine pure_ (i := 4) (N := some 16) (v := ?_) (a' := ?_) #[true, true, true, true, true, false, false, false, false, false, false, false, false, false, false, false, false, false, false, false, false, false, false, false, false, false, false, false, false, false, false, false, false] rfl rfl (any_of HT_.out (by kernel_rfl)) (fun _ _ _ h => h) (Or.inl ⟨by rfl, ?_⟩) ?_ ?_
        rotate_left
        ·
         intro w'
         go_simp
         with_reducible rfl
        rotate_left
        ·
         simp only [Act.put, List.setIfInBounds_toArray, List.set_cons_zero, List.set_cons_succ, i64_w, i32_w]
         rfl
        refine pure_ (i := 5) (N := some 17) (v := ?_) (a' := ?_) #[true, true, true, true, true, true, false, false, false, false, false, false, false, false, false, false, false, false, false, false, false, false, false, false, false, false, false, false, false, false, false, false, false] rfl rfl (any_of HT_.out (by kernel_rfl)) (fun _ _ _ h => h) (Or.inl ⟨by rfl, ?_⟩) ?_ ?_
        rotate_left
        ·
         intro w'
         go_simp
         with_reducible rfl
        rotate_left
        ·
         simp only [Act.put, List.setIfInBounds_toArray, List.set_cons_zero, List.set_cons_succ, i64_w, i32_w]
         rfl
        refine take_ (i := 6) (N := some 18) (v := ?_) (a' := ?_) #[true, true, true, true, true, true, true, false, false, false, false, false, false, false, false, false, false, false, false, false, false, false, false, false, false, false, false, false, false, false, false, false, false] rfl rfl (take_ofW HT_.out HW_.out (by kernel_rfl)) (fun _ _ _ h => h) (Or.inl ⟨by rfl, ?_⟩) hHeld ?_ ?_
        rotate_left
        ·
         rintro w' ⟨s0, s1⟩
         go_simp
         with_reducible rfl
        rotate_left
        ·
         simp only [Act.put, List.setIfInBounds_toArray, List.set_cons_zero, List.set_cons_succ, i64_w, i32_w]
         rfl
        refine one_ (i := 7) (N := some 19) #[true, true, true, true, true, true, true, true, false, false, false, false, false, false, false, false, false, false, false, false, false, false, false, false, false, false, false, false, false, false, false, false, false] rfl rfl (one_of HT_.out (by kernel_rfl)) (by decide) (fun K hK => ?_)
        refine goes_ Try.func66 (by kernel_rfl) rfl #[.int .i64 ((rd_T23 l0 x7_1).f1)] (by rfl) rfl rfl (by (try simp only [List.map_toArray, List.map_cons, List.map_nil]); first | done | rfl | (simp only [List.length_drop, List.length_take]; rfl)) ?_
        with_reducible refine (spans_tick.calls ((rd_T23 l0 x7_1).f1) false _ A7.out).mono ?_
        rintro e w' ⟨rfl, ⟨nd, rfl⟩⟩
        refine ⟨_, rfl, ?_⟩
        refine hK.out _ _ ⟨(blk_cell BK324.out 0).trans rfl, (blk_cell BK324.out 1).trans rfl⟩ (fun hHeld => ?_)
        clear hK K
        refine norm_ (a' := ?_) ?_ ?_
        rotate_left
        ·
         show Act.put _ (some 19) _ = _
         simp only [Act.put, List.setIfInBounds_toArray, List.set_cons_zero, List.set_cons_succ, i64_w, i32_w]
         rfl
        refine pure_ (i := 8) (N := some 20) (v := ?_) (a' := ?_) #[true, true, true, true, true, true, true, true, true, false, false, false, false, false, false, false, false, false, false, false, false, false, false, false, false, false, false, false, false, false, false, false, false] rfl rfl (any_of HT_.out (by kernel_rfl)) (fun _ _ _ h => h) (Or.inl ⟨by rfl, ?_⟩) ?_ ?_
        rotate_left
        ·
         intro w'
         go_simp
         with_reducible rfl
        rotate_left
        ·
         simp only [Act.put, List.setIfInBounds_toArray, List.set_cons_zero, List.set_cons_succ, i64_w, i32_w]
         rfl
        refine pure_ (i := 9) (N := some 21) (v := ?_) (a' := ?_) #[true, true, true, true, true, true, true, true, true, true, false, false, false, false, false, false, false, false, false, false, false, false, false, false, false, false, false, false, false, false, false, false, false] rfl rfl (any_of HT_.out (by kernel_rfl)) (fun _ _ _ h => h) (Or.inl ⟨by rfl, ?_⟩) ?_ ?_
        rotate_left
        ·
         intro w'
         go_simp
         with_reducible rfl
        rotate_left
        ·
         simp only [Act.put, List.setIfInBounds_toArray, List.set_cons_zero, List.set_cons_succ, i64_w, i32_w]
         rfl
        refine pure_ (i := 10) (N := some 22) (v := ?_) (a' := ?_) #[true, true, true, true, true, true, true, true, true, true, true, false, false, false, false, false, false, false, false, false, false, false, false, false, false, false, false, false, false, false, false, false, false] rfl rfl (any_of HT_.out (by kernel_rfl)) (fun _ _ _ h => h) (Or.inl ⟨by rfl, ?_⟩) ?_ ?_
        rotate_left
        ·
         intro w'
         go_simp
         with_reducible rfl
        rotate_left
        ·
         simp only [Act.put, List.setIfInBounds_toArray, List.set_cons_zero, List.set_cons_succ, i64_w, i32_w]
         rfl
        refine pure_ (i := 11) (N := some 23) (v := undef) (a' := ?_) #[true, true, true, true, true, true, true, true, true, true, true, true, false, false, false, false, false, false, false, false, false, false, false, false, false, false, false, false, false, false, false, false, false] rfl rfl (any_of HT_.out (by kernel_rfl)) (fun _ _ _ h => h) (Or.inr ⟨by rfl, rfl⟩) ?_ ?_
        rotate_left
        ·
         simp only [Act.put, List.setIfInBounds_toArray, List.set_cons_zero, List.set_cons_succ, i64_w, i32_w]
         rfl
        refine pure_ (i := 12) (N := some 24) (v := undef) (a' := ?_) #[true, true, true, true, true, true, true, true, true, true, true, true, true, false, false, false, false, false, false, false, false, false, false, false, false, false, false, false, false, false, false, false, false] rfl rfl (any_of HT_.out (by kernel_rfl)) (fun _ _ _ h => h) (Or.inr ⟨by rfl, rfl⟩) ?_ ?_
        rotate_left
        ·
         simp only [Act.put, List.setIfInBounds_toArray, List.set_cons_zero, List.set_cons_succ, i64_w, i32_w]
         rfl
        refine pure_ (i := 13) (N := some 25) (v := undef) (a' := ?_) #[true, true, true, true, true, true, true, true, true, true, true, true, true, true, false, false, false, false, false, false, false, false, false, false, false, false, false, false, false, false, false, false, false] rfl rfl (any_of HT_.out (by kernel_rfl)) (fun _ _ _ h => h) (Or.inr ⟨by rfl, rfl⟩) ?_ ?_
        rotate_left
        ·
         simp only [Act.put, List.setIfInBounds_toArray, List.set_cons_zero, List.set_cons_succ, i64_w, i32_w]
         rfl
        refine pure_ (i := 14) (N := some 26) (v := undef) (a' := ?_) #[true, true, true, true, true, true, true, true, true, true, true, true, true, true, true, false, false, false, false, false, false, false, false, false, false, false, false, false, false, false, false, false, false] rfl rfl (any_of HT_.out (by kernel_rfl)) (fun _ _ _ h => h) (Or.inr ⟨by rfl, rfl⟩) ?_ ?_
        rotate_left
        ·
         simp only [Act.put, List.setIfInBounds_toArray, List.set_cons_zero, List.set_cons_succ, i64_w, i32_w]
         rfl
        refine pure_ (i := 15) (N := some 27) (v := undef) (a' := ?_) #[true, true, true, true, true, true, true, true, true, true, true, true, true, true, true, true, false, false, false, false, false, false, false, false, false, false, false, false, false, false, false, false, false] rfl rfl (any_of HT_.out (by kernel_rfl)) (fun _ _ _ h => h) (Or.inr ⟨by rfl, rfl⟩) ?_ ?_
        rotate_left
        ·
         simp only [Act.put, List.setIfInBounds_toArray, List.set_cons_zero, List.set_cons_succ, i64_w, i32_w]
         rfl
        refine pure_ (i := 16) (N := some 28) (v := ?_) (a' := ?_) #[true, true, true, true, true, true, true, true, true, true, true, true, true, true, true, true, true, false, false, false, false, false, false, false, false, false, false, false, false, false, false, false, false] rfl rfl (any_of HT_.out (by kernel_rfl)) (fun _ _ _ h => h) (Or.inl ⟨by rfl, ?_⟩) ?_ ?_
        rotate_left
        ·
         intro w'
         go_simp
         with_reducible rfl
        rotate_left
        ·
         simp only [Act.put, List.setIfInBounds_toArray, List.set_cons_zero, List.set_cons_succ, i64_w, i32_w]
         rfl
        refine pure_ (i := 17) (N := some 29) (v := ?_) (a' := ?_) #[true, true, true, true, true, true, true, true, true, true, true, true, true, true, true, true, true, true, false, false, false, false, false, false, false, false, false, false, false, false, false, false, false] rfl rfl (any_of HT_.out (by kernel_rfl)) (fun _ _ _ h => h) (Or.inl ⟨by rfl, ?_⟩) ?_ ?_
        rotate_left
        ·
         intro w'
         go_simp
         with_reducible rfl
        rotate_left
        ·
         simp only [Act.put, List.setIfInBounds_toArray, List.set_cons_zero, List.set_cons_succ, i64_w, i32_w]
         rfl
        refine pure_ (i := 18) (N := some 30) (v := undef) (a' := ?_) #[true, true, true, true, true, true, true, true, true, true, true, true, true, true, true, true, true, true, true, false, false, false, false, false, false, false, false, false, false, false, false, false, false] rfl rfl (any_of HT_.out (by kernel_rfl)) (fun _ _ _ h => h) (Or.inr ⟨by rfl, rfl⟩) ?_ ?_
        rotate_left
        ·
         simp only [Act.put, List.setIfInBounds_toArray, List.set_cons_zero, List.set_cons_succ, i64_w, i32_w]
         rfl
        refine pure_ (i := 19) (N := some 31) (v := undef) (a' := ?_) #[true, true, true, true, true, true, true, true, true, true, true, true, true, true, true, true, true, true, true, true, false, false, false, false, false, false, false, false, false, false, false, false, false] rfl rfl (any_of HT_.out (by kernel_rfl)) (fun _ _ _ h => h) (Or.inr ⟨by rfl, rfl⟩) ?_ ?_
        rotate_left
        ·
         simp only [Act.put, List.setIfInBounds_toArray, List.set_cons_zero, List.set_cons_succ, i64_w, i32_w]
         rfl
        refine pure_ (i := 20) (N := some 32) (v := undef) (a' := ?_) #[true, true, true, true, true, true, true, true, true, true, true, true, true, true, true, true, true, true, true, true, true, false, false, false, false, false, false, false, false, false, false, false, false] rfl rfl (any_of HT_.out (by kernel_rfl)) (fun _ _ _ h => h) (Or.inr ⟨by rfl, rfl⟩) ?_ ?_
        rotate_left
        ·
         simp only [Act.put, List.setIfInBounds_toArray, List.set_cons_zero, List.set_cons_succ, i64_w, i32_w]
         rfl
        refine pure_ (i := 21) (N := some 33) (v := undef) (a' := ?_) #[true, true, true, true, true, true, true, true, true, true, true, true, true, true, true, true, true, true, true, true, true, true, false, false, false, false, false, false, false, false, false, false, false] rfl rfl (any_of HT_.out (by kernel_rfl)) (fun _ _ _ h => h) (Or.inr ⟨by rfl, rfl⟩) ?_ ?_
        rotate_left
        ·
         simp only [Act.put, List.setIfInBounds_toArray, List.set_cons_zero, List.set_cons_succ, i64_w, i32_w]
         rfl
        refine pure_ (i := 22) (N := some 34) (v := undef) (a' := ?_) #[true, true, true, true, true, true, true, true, true, true, true, true, true, true, true, true, true, true, true, true, true, true, true, false, false, false, false, false, false, false, false, false, false] rfl rfl (any_of HT_.out (by kernel_rfl)) (fun _ _ _ h => h) (Or.inr ⟨by rfl, rfl⟩) ?_ ?_
        rotate_left
        ·
         simp only [Act.put, List.setIfInBounds_toArray, List.set_cons_zero, List.set_cons_succ, i64_w, i32_w]
         rfl
        refine pure_ (i := 23) (N := some 35) (v := undef) (a' := ?_) #[true, true, true, true, true, true, true, true, true, true, true, true, true, true, true, true, true, true, true, true, true, true, true, true, false, false, false, false, false, false, false, false, false] rfl rfl (any_of HT_.out (by kernel_rfl)) (fun _ _ _ h => h) (Or.inr ⟨by rfl, rfl⟩) ?_ ?_
        rotate_left
        ·
         simp only [Act.put, List.setIfInBounds_toArray, List.set_cons_zero, List.set_cons_succ, i64_w, i32_w]
         rfl
        refine pure_ (i := 24) (N := some 36) (v := undef) (a' := ?_) #[true, true, true, true, true, true, true, true, true, true, true, true, true, true, true, true, true, true, true, true, true, true, true, true, true, false, false, false, false, false, false, false, false] rfl rfl (any_of HT_.out (by kernel_rfl)) (fun _ _ _ h => h) (Or.inr ⟨by rfl, rfl⟩) ?_ ?_
        rotate_left
        ·
         simp only [Act.put, List.setIfInBounds_toArray, List.set_cons_zero, List.set_cons_succ, i64_w, i32_w]
         rfl
        refine pure_ (i := 25) (N := some 37) (v := undef) (a' := ?_) #[true, true, true, true, true, true, true, true, true, true, true, true, true, true, true, true, true, true, true, true, true, true, true, true, true, true, false, false, false, false, false, false, false] rfl rfl (any_of HT_.out (by kernel_rfl)) (fun _ _ _ h => h) (Or.inr ⟨by rfl, rfl⟩) ?_ ?_
        rotate_left
        ·
         simp only [Act.put, List.setIfInBounds_toArray, List.set_cons_zero, List.set_cons_succ, i64_w, i32_w]
         rfl
        refine pure_ (i := 26) (N := some 38) (v := undef) (a' := ?_) #[true, true, true, true, true, true, true, true, true, true, true, true, true, true, true, true, true, true, true, true, true, true, true, true, true, true, true, false, false, false, false, false, false] rfl rfl (any_of HT_.out (by kernel_rfl)) (fun _ _ _ h => h) (Or.inr ⟨by rfl, rfl⟩) ?_ ?_
        rotate_left
        ·
         simp only [Act.put, List.setIfInBounds_toArray, List.set_cons_zero, List.set_cons_succ, i64_w, i32_w]
         rfl
        refine pure_ (i := 27) (N := some 39) (v := undef) (a' := ?_) #[true, true, true, true, true, true, true, true, true, true, true, true, true, true, true, true, true, true, true, true, true, true, true, true, true, true, true, true, false, false, false, false, false] rfl rfl (any_of HT_.out (by kernel_rfl)) (fun _ _ _ h => h) (Or.inr ⟨by rfl, rfl⟩) ?_ ?_
        rotate_left
        ·
         simp only [Act.put, List.setIfInBounds_toArray, List.set_cons_zero, List.set_cons_succ, i64_w, i32_w]
         rfl
        refine pure_ (i := 28) (N := some 40) (v := undef) (a' := ?_) #[true, true, true, true, true, true, true, true, true, true, true, true, true, true, true, true, true, true, true, true, true, true, true, true, true, true, true, true, true, false, false, false, false] rfl rfl (any_of HT_.out (by kernel_rfl)) (fun _ _ _ h => h) (Or.inr ⟨by rfl, rfl⟩) ?_ ?_
        rotate_left
        ·
         simp only [Act.put, List.setIfInBounds_toArray, List.set_cons_zero, List.set_cons_succ, i64_w, i32_w]
         rfl
        refine pure_ (i := 29) (N := some 41) (v := undef) (a' := ?_) #[true, true, true, true, true, true, true, true, true, true, true, true, true, true, true, true, true, true, true, true, true, true, true, true, true, true, true, true, true, true, false, false, false] rfl rfl (any_of HT_.out (by kernel_rfl)) (fun _ _ _ h => h) (Or.inr ⟨by rfl, rfl⟩) ?_ ?_
        rotate_left
        ·
         simp only [Act.put, List.setIfInBounds_toArray, List.set_cons_zero, List.set_cons_succ, i64_w, i32_w]
         rfl
        refine pure_ (i := 30) (N := some 42) (v := undef) (a' := ?_) #[true, true, true, true, true, true, true, true, true, true, true, true, true, true, true, true, true, true, true, true, true, true, true, true, true, true, true, true, true, true, true, false, false] rfl rfl (any_of HT_.out (by kernel_rfl)) (fun _ _ _ h => h) (Or.inr ⟨by rfl, rfl⟩) ?_ ?_
        rotate_left
        ·
         simp only [Act.put, List.setIfInBounds_toArray, List.set_cons_zero, List.set_cons_succ, i64_w, i32_w]
         rfl
        refine pure_ (i := 31) (N := some 43) (v := undef) (a' := ?_) #[true, true, true, true, true, true, true, true, true, true, true, true, true, true, true, true, true, true, true, true, true, true, true, true, true, true, true, true, true, true, true, true, false] rfl rfl (any_of HT_.out (by kernel_rfl)) (fun _ _ _ h => h) (Or.inr ⟨by rfl, rfl⟩) ?_ ?_
        rotate_left
        ·
         simp only [Act.put, List.setIfInBounds_toArray, List.set_cons_zero, List.set_cons_succ, i64_w, i32_w]
         rfl
        refine pure_ (i := 32) (N := some 44) (v := ?_) (a' := ?_) #[true, true, true, true, true, true, true, true, true, true, true, true, true, true, true, true, true, true, true, true, true, true, true, true, true, true, true, true, true, true, true, true, true] rfl rfl (any_of HT_.out (by kernel_rfl)) (fun _ _ _ h => h) (Or.inl ⟨by rfl, ?_⟩) ?_ ?_
        rotate_left
        ·
         intro w'
         go_simp
         with_reducible rfl
        rotate_left
        ·
         simp only [Act.put, List.setIfInBounds_toArray, List.set_cons_zero, List.set_cons_succ, i64_w, i32_w]
         rfl
        refine done_ (done_of HT_.out (by kernel_rfl)) ?_
        try go_wp2
        go_ret
        exact ⟨by first | rfl | (simp [errW_none, errW_some] <;> rfl) | (simp [*, errW_none, errW_some] <;> rfl), by repeat (first | (with_reducible first | exact HB.out | apply below_alloc | apply pw_below_drewN | apply below_drew1 | refine below_set ?_ GE324.out) | exact HB.out)⟩
      ·
       replace c6 := Bool.eq_false_iff.mpr c6
       subst c6
       have H1 : (some false) = some r := by rw [if_neg (show ¬ (false = true) by decide)] at H; exact H
       clear H
       have H := H1
       clear H1
       obtain rfl := Option.some.inj H
       have p323 : 0 ≤ (x7_1 : Int) := of_decide_eq_true (by first | (with_reducible assumption) | assumption)
       have q323 : x7_1 < (l0.length : Int) := of_decide_eq_true (by first | (with_reducible assumption) | assumption)
       obtain ⟨ad323, e323, hx323_0, hx323_1⟩ := at_T23 HR0.out x7_1 p323 q323
       cases e323
       replace hx323_0 := (HB.out.cell (World.block_lt_of_cell? w _ hx323_0)).trans hx323_0
       replace hx323_1 := (HB.out.cell (World.block_lt_of_cell? w _ hx323_1)).trans hx323_1
       replace p323 := eq_true p323
       replace q323 := eq_true q323
       try go_wp2_with (first | ((with_reducible refine gate_dst (N := 4) rfl ?_); refine box_event ?hg (N := 4) ?hd (cs := #[.int .i64 0, .int .i64 0]) (t := 23) ?hr ?_; (case hd => rfl); (case hg => rfl); (case hr => first | (go_simp; done) | (go_simp; rfl)); intro gb324 hg w35 hbox hb; have n0_ := Aside0.mk (below_step (by repeat (first | (with_reducible first | exact HB.out | apply below_alloc | apply pw_below_drewN | apply below_drew1) | exact HB.out)) hb); have n1_ := Aside0.mk (hbox); have n2_ := Aside0.mk ((by rw [hg]; exact (below_size (by repeat (first | (with_reducible first | exact HB.out | apply below_alloc | apply pw_below_drewN | apply below_drew1) | exact HB.out))) : w.heap.size ≤ gb324)); have n3_ := Aside0.mk ((by rw [hg]; exact (below_size (by repeat (first | (with_reducible first | exact HB.out | apply below_alloc | apply pw_below_drewN | apply below_drew1) | exact HB.out))) : w.heap.size ≤ gb324)); clear HB; have HB := n0_; have BK324 := n1_; have GW324 := n2_; have GE324 := n3_; clear n0_ n1_ n2_ n3_; clear hb hbox hg; have hcz36_0 : w35.cell? ⟨gb324, 0, none⟩ = some (.int .i64 0) := (blk_cell BK324.out 0).trans rfl; have hcz36_1 : w35.cell? ⟨gb324, 1, none⟩ = some (.int .i64 0) := (blk_cell BK324.out 1).trans rfl; have hfz36_0 := blk_frozen BK324.out 0; have hfz36_1 := blk_frozen BK324.out 1))
       have n0_ : Aside0 (((w35.setCell ⟨gb324, 0, none⟩ (.int .i64 ((rd_T23 l0 x7_1).f0))).setCell ⟨gb324, 1, none⟩ (.int .i64 ((rd_T23 l0 x7_1).f1))).heap[gb324]? = some (.cells #[.int .i64 ((rd_T23 l0 x7_1).f0), .int .i64 ((rd_T23 l0 x7_1).f1)] 23 (0, 0))) := ⟨by (with_reducible repeat (first | refine blk_drewN ?_ _ | refine blk_drew ?_ | refine blk_alloc ?_ _)); refine blk_put (cs := #[.int .i64 ((rd_T23 l0 x7_1).f0), .int .i64 0]) ?_ 1 _ rfl; (with_reducible repeat (first | refine blk_drewN ?_ _ | refine blk_drew ?_ | refine blk_alloc ?_ _)); refine blk_put (cs := #[.int .i64 0, .int .i64 0]) ?_ 0 _ rfl; (with_reducible repeat (first | refine blk_drewN ?_ _ | refine blk_drew ?_ | refine blk_alloc ?_ _)); exact BK324.out⟩
       have n1_ : Aside0 (Below w.heap.size w ((w35.setCell ⟨gb324, 0, none⟩ (.int .i64 ((rd_T23 l0 x7_1).f0))).setCell ⟨gb324, 1, none⟩ (.int .i64 ((rd_T23 l0 x7_1).f1)))) := ⟨by repeat (first | (with_reducible first | exact HB.out | apply below_alloc | apply pw_below_drewN | apply below_drew1 | refine below_set ?_ GE324.out) | exact HB.out)⟩
       (try clear BK324)
       (try clear HB)
       generalize ((w35.setCell ⟨gb324, 0, none⟩ (.int .i64 ((rd_T23 l0 x7_1).f0))).setCell ⟨gb324, 1, none⟩ (.int .i64 ((rd_T23 l0 x7_1).f1))) = w37 at n0_ n1_ ⊢
       have BK324 := n0_
       have HB := n1_
       clear n0_ n1_
       have n0_ := Aside0.mk (blk_drew BK324.out)
       have n1_ := Aside0.mk (below_drew1 HB.out)
       clear BK324
       clear HB
       have BK324 := n0_
       have HB := n1_
       clear n0_ n1_
       refine start_ (n := 33) (S := fun w' => w'.cell? ⟨gb324, 0, none⟩ = some (.int .i64 ((rd_T23 l0 x7_1).f0)) ∧ w'.cell? ⟨gb324, 1, none⟩ = some (.int .i64 ((rd_T23 l0 x7_1).f1))) (ds := []) #[false, false, false, false, false, false, false, false, false, false, false, false, false, false, false, false, false, false, false, false, false, false, false, false, false, false, false, false, false, false, false, false, false] (by kernel_rfl) rfl rfl ⟨(blk_cell BK324.out 0).trans rfl, (blk_cell BK324.out 1).trans rfl⟩ (fun hHeld => ?_); refine with_tabW spans_Right.tab4 spans_Right.bits4 (fun HT_ HW_ => ?_)
       generalize w37.drew = w38 at BK324 HB hHeld ⊢
       refine pure_ (i := 0) (N := some 12) (v := ?_) (a' := ?_) #[true, false, false, false, false, false, false, false, false, false, false, false, false, false, false, false, false, false, false, false, false, false, false, false, false, false, false, false, false, false, false, false, false] rfl rfl (any_of HT_.out (by kernel_rfl)) (fun _ _ _ h => h) (Or.inl ⟨by rfl, ?_⟩) ?_ ?_
       rotate_left
       ·
        intro w'
        go_simp
        with_reducible rfl
       rotate_left
       ·
        simp only [Act.put, List.setIfInBounds_toArray, List.set_cons_zero, List.set_cons_succ, i64_w, i32_w]
        rfl
       refine take_ (i := 1) (N := some 13) (v := ?_) (a' := ?_) #[true, true, false, false, false, false, false, false, false, false, false, false, false, false, false, false, false, false, false, false, false, false, false, false, false, false, false, false, false, false, false, false, false] rfl rfl (take_ofW HT_.out HW_.out (by kernel_rfl)) (fun _ _ _ h => h) (Or.inl ⟨by rfl, ?_⟩) hHeld ?_ ?_
       rotate_left
       ·
        rintro w' ⟨s0, s1⟩
        go_simp
        with_reducible rfl
       rotate_left
       ·
        simp only [Act.put, List.setIfInBounds_toArray, List.set_cons_zero, List.set_cons_succ, i64_w, i32_w]
        rfl
       refine one_ (i := 2) (N := some 14) #[true, true, true, false, false, false, false, false, false, false, false, false, false, false, false, false, false, false, false, false, false, false, false, false, false, false, false, false, false, false, false, false, false] rfl rfl (one_of HT_.out (by kernel_rfl)) (by decide) (fun K hK => ?_)
       refine goes_ Try.func66 (by kernel_rfl) rfl #[.int .i64 ((rd_T23 l0 x7_1).f0)] (by rfl) rfl rfl (by (try simp only [List.map_toArray, List.map_cons, List.map_nil]); first | done | rfl | (simp only [List.length_drop, List.length_take]; rfl)) ?_
       with_reducible refine (spans_tick.calls ((rd_T23 l0 x7_1).f0) false _ A5.out).mono ?_
       rintro e w' ⟨rfl, ⟨nd, rfl⟩⟩
       refine ⟨_, rfl, ?_⟩
       refine hK.out _ _ ⟨(blk_cell BK324.out 0).trans rfl, (blk_cell BK324.out 1).trans rfl⟩ (fun hHeld => ?_)
       clear hK K
       refine norm_ (a' := ?_) ?_ ?_
       rotate_left
       ·
        show Act.put _ (some 14) _ = _
        simp only [Act.put, List.setIfInBounds_toArray, List.set_cons_zero, List.set_cons_succ, i64_w, i32_w]
        rfl
       refine pure_ (i := 3) (N := some 15) (v := ?_) (a' := ?_) #[true, true, true, true, false, false, false, false, false, false, false, false, false, false, false, false, false, false, false, false, false, false, false, false, false, false, false, false, false, false, false, false, false] rfl rfl (any_of HT_.out (by kernel_rfl)) (fun _ _ _ h => h) (Or.inl ⟨by rfl, ?_⟩) ?_ ?_
       rotate_left
       ·
        intro w'
        go_simp
        with_reducible rfl
       rotate_left
       ·
        simp only [Act.put, List.setIfInBounds_toArray, List.set_cons_zero, List.set_cons_succ, i64_w, i32_w]
        rfl
       refine pure_ (i := 4) (N := some 16) (v := ?_) (a' := ?_) #[true, true, true, true, true, false, false, false, false, false, false, false, false, false, false, false, false, false, false, false, false, false, false, false, false, false, false, false, false, false, false, false, false] rfl rfl (any_of HT_.out (by kernel_rfl)) (fun _ _ _ h => h) (Or.inl ⟨by rfl, ?_⟩) ?_ ?_
       rotate_left
       ·
        intro w'
        go_simp
        with_reducible rfl
       rotate_left
       ·
        simp only [Act.put, List.setIfInBounds_toArray, List.set_cons_zero, List.set_cons_succ, i64_w, i32_w]
        rfl
       refine pure_ (i := 5) (N := some 17) (v := undef) (a' := ?_) #[true, true, true, true, true, true, false, false, false, false, false, false, false, false, false, false, false, false, false, false, false, false, false, false, false, false, false, false, false, false, false, false, false] rfl rfl (any_of HT_.out (by kernel_rfl)) (fun _ _ _ h => h) (Or.inr ⟨by rfl, rfl⟩) ?_ ?_
       rotate_left
       ·
        simp only [Act.put, List.setIfInBounds_toArray, List.set_cons_zero, List.set_cons_succ, i64_w, i32_w]
        rfl
       refine pure_ (i := 6) (N := some 18) (v := undef) (a' := ?_) #[true, true, true, true, true, true, true, false, false, false, false, false, false, false, false, false, false, false, false, false, false, false, false, false, false, false, false, false, false, false, false, false, false] rfl rfl (any_of HT_.out (by kernel_rfl)) (fun _ _ _ h => h) (Or.inr ⟨by rfl, rfl⟩) ?_ ?_
       rotate_left
       ·
        simp only [Act.put, List.setIfInBounds_toArray, List.set_cons_zero, List.set_cons_succ, i64_w, i32_w]
        rfl
       refine pure_ (i := 7) (N := some 19) (v := undef) (a' := ?_) #[true, true, true, true, true, true, true, true, false, false, false, false, false, false, false, false, false, false, false, false, false, false, false, false, false, false, false, false, false, false, false, false, false] rfl rfl (any_of HT_.out (by kernel_rfl)) (fun _ _ _ h => h) (Or.inr ⟨by rfl, rfl⟩) ?_ ?_
       rotate_left
       ·
        simp only [Act.put, List.setIfInBounds_toArray, List.set_cons_zero, List.set_cons_succ, i64_w, i32_w]
        rfl
       refine pure_ (i := 8) (N := some 20) (v := undef) (a' := ?_) #[true, true, true, true, true, true, true, true, true, false, false, false, false, false, false, false, false, false, false, false, false, false, false, false, false, false, false, false, false, false, false, false, false] rfl rfl (any_of HT_.out (by kernel_rfl)) (fun _ _ _ h => h) (Or.inr ⟨by rfl, rfl⟩) ?_ ?_
       rotate_left
       ·
        simp only [Act.put, List.setIfInBounds_toArray, List.set_cons_zero, List.set_cons_succ, i64_w, i32_w]
        rfl
       refine pure_ (i := 9) (N := some 21) (v := ?_) (a' := ?_) #[true, true, true, true, true, true, true, true, true, true, false, false, false, false, false, false, false, false, false, false, false, false, false, false, false, false, false, false, false, false, false, false, false] rfl rfl (any_of HT_.out (by kernel_rfl)) (fun _ _ _ h => h) (Or.inl ⟨by rfl, ?_⟩) ?_ ?_
       rotate_left
       ·
        intro w'
        go_simp
        with_reducible rfl
       rotate_left
       ·
        simp only [Act.put, List.setIfInBounds_toArray, List.set_cons_zero, List.set_cons_succ, i64_w, i32_w]
        rfl
       refine pure_ (i := 10) (N := some 22) (v := ?_) (a' := ?_) #[true, true, true, true, true, true, true, true, true, true, true, false, false, false, false, false, false, false, false, false, false, false, false, false, false, false, false, false, false, false, false, false, false] rfl rfl (any_of HT_.out (by kernel_rfl)) (fun _ _ _ h => h) (Or.inl ⟨by rfl, ?_⟩) ?_ ?_
       rotate_left
       ·
        intro w'
        go_simp
        with_reducible rfl
       rotate_left
       ·
        simp only [Act.put, List.setIfInBounds_toArray, List.set_cons_zero, List.set_cons_succ, i64_w, i32_w]
        rfl
       refine pure_ (i := 11) (N := some 23) (v := undef) (a' := ?_) #[true, true, true, true, true, true, true, true, true, true, true, true, false, false, false, false, false, false, false, false, false, false, false, false, false, false, false, false, false, false, false, false, false] rfl rfl (any_of HT_.out (by kernel_rfl)) (fun _ _ _ h => h) (Or.inr ⟨by rfl, rfl⟩) ?_ ?_
       rotate_left
       ·
        simp only [Act.put, List.setIfInBounds_toArray, List.set_cons_zero, List.set_cons_succ, i64_w, i32_w]
        rfl
       refine pure_ (i := 12) (N := some 24) (v := undef) (a' := ?_) #[true, true, true, true, true, true, true, true, true, true, true, true, true, false, false, false, false, false, false, false, false, false, false, false, false, false, false, false, false, false, false, false, false] rfl rfl (any_of HT_.out (by kernel_rfl)) (fun _ _ _ h => h) (Or.inr ⟨by rfl, rfl⟩) ?_ ?_
       rotate_left
       ·
        simp only [Act.put, List.setIfInBounds_toArray, List.set_cons_zero, List.set_cons_succ, i64_w, i32_w]
        rfl
       refine pure_ (i := 13) (N := some 25) (v := undef) (a' := ?_) #[true, true, true, true, true, true, true, true, true, true, true, true, true, true, false, false, false, false, false, false, false, false, false, false, false, false, false, false, false, false, false, false, false] rfl rfl (any_of HT_.out (by kernel_rfl)) (fun _ _ _ h => h) (Or.inr ⟨by rfl, rfl⟩) ?_ ?_
       rotate_left
       ·
        simp only [Act.put, List.setIfInBounds_toArray, List.set_cons_zero, List.set_cons_succ, i64_w, i32_w]
        rfl
       refine pure_ (i := 14) (N := some 26) (v := undef) (a' := ?_) #[true, true, true, true, true, true, true, true, true, true, true, true, true, true, true, false, false, false, false, false, false, false, false, false, false, false, false, false, false, false, false, false, false] rfl rfl (any_of HT_.out (by kernel_rfl)) (fun _ _ _ h => h) (Or.inr ⟨by rfl, rfl⟩) ?_ ?_
       rotate_left
       ·
        simp only [Act.put, List.setIfInBounds_toArray, List.set_cons_zero, List.set_cons_succ, i64_w, i32_w]
        rfl
       refine pure_ (i := 15) (N := some 27) (v := undef) (a' := ?_) #[true, true, true, true, true, true, true, true, true, true, true, true, true, true, true, true, false, false, false, false, false, false, false, false, false, false, false, false, false, false, false, false, false] rfl rfl (any_of HT_.out (by kernel_rfl)) (fun _ _ _ h => h) (Or.inr ⟨by rfl, rfl⟩) ?_ ?_
       rotate_left
       ·
        simp only [Act.put, List.setIfInBounds_toArray, List.set_cons_zero, List.set_cons_succ, i64_w, i32_w]
        rfl
       refine pure_ (i := 16) (N := some 28) (v := ?_) (a' := ?_) #[true, true, true, true, true, true, true, true, true, true, true, true, true, true, true, true, true, false, false, false, false, false, false, false, false, false, false, false, false, false, false, false, false] rfl rfl (any_of HT_.out (by kernel_rfl)) (fun _ _ _ h => h) (Or.inl ⟨by rfl, ?_⟩) ?_ ?_
       rotate_left
       ·
        intro w'
        go_simp
        with_reducible rfl
       rotate_left
       ·
        simp only [Act.put, List.setIfInBounds_toArray, List.set_cons_zero, List.set_cons_succ, i64_w, i32_w]
        rfl
       refine pure_ (i := 17) (N := some 29) (v := ?_) (a' := ?_) #[true, true, true, true, true, true, true, true, true, true, true, true, true, true, true, true, true, true, false, false, false, false, false, false, false, false, false, false, false, false, false, false, false] rfl rfl (any_of HT_.out (by kernel_rfl)) (fun _ _ _ h => h) (Or.inl ⟨by rfl, ?_⟩) ?_ ?_
       rotate_left
       ·
        intro w'
        go_simp
        with_reducible rfl
       rotate_left
       ·
        simp only [Act.put, List.setIfInBounds_toArray, List.set_cons_zero, List.set_cons_succ, i64_w, i32_w]
        rfl
       refine pure_ (i := 18) (N := some 30) (v := undef) (a' := ?_) #[true, true, true, true, true, true, true, true, true, true, true, true, true, true, true, true, true, true, true, false, false, false, false, false, false, false, false, false, false, false, false, false, false] rfl rfl (any_of HT_.out (by kernel_rfl)) (fun _ _ _ h => h) (Or.inr ⟨by rfl, rfl⟩) ?_ ?_
       rotate_left
       ·
        simp only [Act.put, List.setIfInBounds_toArray, List.set_cons_zero, List.set_cons_succ, i64_w, i32_w]
        rfl
       refine pure_ (i := 19) (N := some 31) (v := undef) (a' := ?_) #[true, true, true, true, true, true, true, true, true, true, true, true, true, true, true, true, true, true, true, true, false, false, false, false, false, false, false, false, false, false, false, false, false] rfl rfl (any_of HT_.out (by kernel_rfl)) (fun _ _ _ h => h) (Or.inr ⟨by rfl, rfl⟩) ?_ ?_
       rotate_left
       ·
        simp only [Act.put, List.setIfInBounds_toArray, List.set_cons_zero, List.set_cons_succ, i64_w, i32_w]
        rfl
       refine pure_ (i := 20) (N := some 32) (v := undef) (a' := ?_) #[true, true, true, true, true, true, true, true, true, true, true, true, true, true, true, true, true, true, true, true, true, false, false, false, false, false, false, false, false, false, false, false, false] rfl rfl (any_of HT_.out (by kernel_rfl)) (fun _ _ _ h => h) (Or.inr ⟨by rfl, rfl⟩) ?_ ?_
       rotate_left
       ·
        simp only [Act.put, List.setIfInBounds_toArray, List.set_cons_zero, List.set_cons_succ, i64_w, i32_w]
        rfl
       refine pure_ (i := 21) (N := some 33) (v := undef) (a' := ?_) #[true, true, true, true, true, true, true, true, true, true, true, true, true, true, true, true, true, true, true, true, true, true, false, false, false, false, false, false, false, false, false, false, false] rfl rfl (any_of HT_.out (by kernel_rfl)) (fun _ _ _ h => h) (Or.inr ⟨by rfl, rfl⟩) ?_ ?_
       rotate_left
       ·
        simp only [Act.put, List.setIfInBounds_toArray, List.set_cons_zero, List.set_cons_succ, i64_w, i32_w]
        rfl
       refine pure_ (i := 22) (N := some 34) (v := undef) (a' := ?_) #[true, true, true, true, true, true, true, true, true, true, true, true, true, true, true, true, true, true, true, true, true, true, true, false, false, false, false, false, false, false, false, false, false] rfl rfl (any_of HT_.out (by kernel_rfl)) (fun _ _ _ h => h) (Or.inr ⟨by rfl, rfl⟩) ?_ ?_
       rotate_left
       ·
        simp only [Act.put, List.setIfInBounds_toArray, List.set_cons_zero, List.set_cons_succ, i64_w, i32_w]
        rfl
       refine pure_ (i := 23) (N := some 35) (v := undef) (a' := ?_) #[true, true, true, true, true, true, true, true, true, true, true, true, true, true, true, true, true, true, true, true, true, true, true, true, false, false, false, false, false, false, false, false, false] rfl rfl (any_of HT_.out (by kernel_rfl)) (fun _ _ _ h => h) (Or.inr ⟨by rfl, rfl⟩) ?_ ?_
       rotate_left
       ·
        simp only [Act.put, List.setIfInBounds_toArray, List.set_cons_zero, List.set_cons_succ, i64_w, i32_w]
        rfl
       refine pure_ (i := 24) (N := some 36) (v := undef) (a' := ?_) #[true, true, true, true, true, true, true, true, true, true, true, true, true, true, true, true, true, true, true, true, true, true, true, true, true, false, false, false, false, false, false, false, false] rfl rfl (any_of HT_.out (by kernel_rfl)) (fun _ _ _ h => h) (Or.inr ⟨by rfl, rfl⟩) ?_ ?_
       rotate_left
       ·
        simp only [Act.put, List.setIfInBounds_toArray, List.set_cons_zero, List.set_cons_succ, i64_w, i32_w]
        rfl
       refine pure_ (i := 25) (N := some 37) (v := undef) (a' := ?_) #[true, true, true, true, true, true, true, true, true, true, true, true, true, true, true, true, true, true, true, true, true, true, true, true, true, true, false, false, false, false, false, false, false] rfl rfl (any_of HT_.out (by kernel_rfl)) (fun _ _ _ h => h) (Or.inr ⟨by rfl, rfl⟩) ?_ ?_
       rotate_left
       ·
        simp only [Act.put, List.setIfInBounds_toArray, List.set_cons_zero, List.set_cons_succ, i64_w, i32_w]
        rfl
       refine pure_ (i := 26) (N := some 38) (v := undef) (a' := ?_) #[true, true, true, true, true, true, true, true, true, true, true, true, true, true, true, true, true, true, true, true, true, true, true, true, true, true, true, false, false, false, false, false, false] rfl rfl (any_of HT_.out (by kernel_rfl)) (fun _ _ _ h => h) (Or.inr ⟨by rfl, rfl⟩) ?_ ?_
       rotate_left
       ·
        simp only [Act.put, List.setIfInBounds_toArray, List.set_cons_zero, List.set_cons_succ, i64_w, i32_w]
        rfl
       refine pure_ (i := 27) (N := some 39) (v := undef) (a' := ?_) #[true, true, true, true, true, true, true, true, true, true, true, true, true, true, true, true, true, true, true, true, true, true, true, true, true, true, true, true, false, false, false, false, false] rfl rfl (any_of HT_.out (by kernel_rfl)) (fun _ _ _ h => h) (Or.inr ⟨by rfl, rfl⟩) ?_ ?_
       rotate_left
       ·
        simp only [Act.put, List.setIfInBounds_toArray, List.set_cons_zero, List.set_cons_succ, i64_w, i32_w]
        rfl
       refine pure_ (i := 28) (N := some 40) (v := undef) (a' := ?_) #[true, true, true, true, true, true, true, true, true, true, true, true, true, true, true, true, true, true, true, true, true, true, true, true, true, true, true, true, true, false, false, false, false] rfl rfl (any_of HT_.out (by kernel_rfl)) (fun _ _ _ h => h) (Or.inr ⟨by rfl, rfl⟩) ?_ ?_
       rotate_left
       ·
        simp only [Act.put, List.setIfInBounds_toArray, List.set_cons_zero, List.set_cons_succ, i64_w, i32_w]
        rfl
       refine pure_ (i := 29) (N := some 41) (v := undef) (a' := ?_) #[true, true, true, true, true, true, true, true, true, true, true, true, true, true, true, true, true, true, true, true, true, true, true, true, true, true, true, true, true, true, false, false, false] rfl rfl (any_of HT_.out (by kernel_rfl)) (fun _ _ _ h => h) (Or.inr ⟨by rfl, rfl⟩) ?_ ?_
       rotate_left
       ·
        simp only [Act.put, List.setIfInBounds_toArray, List.set_cons_zero, List.set_cons_succ, i64_w, i32_w]
        rfl
       refine pure_ (i := 30) (N := some 42) (v := undef) (a' := ?_) #[true, true, true, true, true, true, true, true, true, true, true, true, true, true, true, true, true, true, true, true, true, true, true, true, true, true, true, true, true, true, true, false, false] rfl rfl (any_of HT_.out (by kernel_rfl)) (fun _ _ _ h => h) (Or.inr ⟨by rfl, rfl⟩) ?_ ?_
       rotate_left
       ·
        simp only [Act.put, List.setIfInBounds_toArray, List.set_cons_zero, List.set_cons_succ, i64_w, i32_w]
        rfl
       refine pure_ (i := 31) (N := some 43) (v := undef) (a' := ?_) #[true, true, true, true, true, true, true, true, true, true, true, true, true, true, true, true, true, true, true, true, true, true, true, true, true, true, true, true, true, true, true, true, false] rfl rfl (any_of HT_.out (by kernel_rfl)) (fun _ _ _ h => h) (Or.inr ⟨by rfl, rfl⟩) ?_ ?_
       rotate_left
       ·
        simp only [Act.put, List.setIfInBounds_toArray, List.set_cons_zero, List.set_cons_succ, i64_w, i32_w]
        rfl
       refine pure_ (i := 32) (N := some 44) (v := ?_) (a' := ?_) #[true, true, true, true, true, true, true, true, true, true, true, true, true, true, true, true, true, true, true, true, true, true, true, true, true, true, true, true, true, true, true, true, true] rfl rfl (any_of HT_.out (by kernel_rfl)) (fun _ _ _ h => h) (Or.inl ⟨by rfl, ?_⟩) ?_ ?_
       rotate_left
       ·
        intro w'
        go_simp
        with_reducible rfl
       rotate_left
       ·
        simp only [Act.put, List.setIfInBounds_toArray, List.set_cons_zero, List.set_cons_succ, i64_w, i32_w]
        rfl
       refine done_ (done_of HT_.out (by kernel_rfl)) ?_
       try go_wp2
       go_ret
       exact ⟨by first | rfl | (simp [errW_none, errW_some] <;> rfl) | (simp [*, errW_none, errW_some] <;> rfl), by repeat (first | (with_reducible first | exact HB.out | apply below_alloc | apply pw_below_drewN | apply below_drew1 | refine below_set ?_ GE324.out) | exact HB.out)⟩
     ·
      rw [if_neg c4] at H
      exact absurd H (by simp)
    ·
     rw [if_neg c3] at H
     exact absurd H (by simp)
   ·
    rw [if_neg c2] at H
    have c2b0 : decide (x7_1 < (l0.length : Int)) = false := decide_eq_false c2
    clear c2
    obtain rfl := Option.some.inj H
    go_wp2
    go_ret
    exact ⟨by first | rfl | (simp [errW_none, errW_some] <;> rfl) | (simp [*, errW_none, errW_some] <;> rfl), by repeat (first | (with_reducible first | exact HB.out | apply below_alloc | apply pw_below_drewN | apply below_drew1) | exact HB.out)⟩

end Go.Proofs.Ytmbmalkpmanaaaa.P

namespace Go.Proofs.Ytmbmalkpmanaaaa.P
open Go.RowKit Go.Proofs.YtmbmalkpmanaaaaW.PrintWords Go.Proofs.YtmbmalkpmanaaaaW.PrintLast Go.Proofs.YtmbmalkpmanaaaaW.PrintMore
attribute [local go_sem] max2_int min2_int max_two min_two max_three min_three max_four min_four   -- for this text's walks alone
set_option linter.unusedVariables false
set_option linter.unusedSimpArgs false

mutual
def epactref02_Right.l0 : Nat → List (S23) → Int → Option (Bool)
 | 0, _, _ => none
 | k + 1, x0, x3 => if x3 < (x0.length : Int) then (if 0 ≤ x3 then (if ((rd_T23 x0 x3).f0) > ((rd_T23 x0 x3).f1) then (epactref02_Right.j1 k x0 x3 true) else (if ((rd_T23 x0 x3).f0) < (-1099511627776) then (epactref02_Right.j1 k x0 x3 true) else (epactref02_Right.j1 k x0 x3 (decide (((rd_T23 x0 x3).f1) > 1099511627776))))) else (none)) else (some true)
def epactref02_Right.j1 : Nat → List (S23) → Int → Bool → Option (Bool)
 | 0, _, _, _ => none
 | k + 1, x0, x3, x36 => if x36 = true then (some false) else (if x3 > 0 then (if 0 ≤ x3 then (if x3 < (x0.length : Int) then (if 0 ≤ (wrap64 (x3 - 1)) then (if (wrap64 (x3 - 1)) < (x0.length : Int) then (if ((rd_T23 x0 x3).f0) ≤ ((rd_T23 x0 (wrap64 (x3 - 1))).f1) then (some false) else (if x3 ≤ (x0.length : Int) then ((epactref02_Has.f k (x0.take (x3 : Int).toNat) (wrap64 (((rd_T23 x0 x3).f0) - 1))).bind fun t339 => (if t339 = true then (some false) else (epactref02_Right.l0 k x0 (wrap64 (x3 + 1))))) else (none))) else (none)) else (none)) else (none)) else (none)) else (epactref02_Right.l0 k x0 (wrap64 (x3 + 1))))
end
def epactref02_Right.f (k : Nat) (l0 : List (S23)) : Option (Bool) := epactref02_Right.l0 k l0 0
theorem epactref02_Right.mono_l : ∀ k, (∀ y0 y1, LeO (epactref02_Right.l0 k y0 y1) (epactref02_Right.l0 (k + 1) y0 y1)) ∧ (∀ y0 y1 y2, LeO (epactref02_Right.j1 k y0 y1 y2) (epactref02_Right.j1 (k + 1) y0 y1 y2))
 | 0 => ⟨fun _ _ r h => by simp [epactref02_Right.l0] at h, fun _ _ _ r h => by simp [epactref02_Right.j1] at h⟩
 | k + 1 => by
  obtain ⟨ih0, ih1⟩ := epactref02_Right.mono_l k
  refine ⟨?_, ?_⟩
  ·
   intro y0 y1
   unfold epactref02_Right.l0
   repeat' first
   | (with_reducible exact ih0 _ _)
   | (with_reducible exact ih1 _ _ _)
   | (with_reducible exact epactref02_Has.mono _ _ _)
   | (with_reducible exact LeO.refl _)
   | (with_reducible exact LeO.none _)
   | (with_reducible refine LeO.ite ?_ ?_)
   | (with_reducible refine LeO.bind ?_ (fun _ => ?_))
   | exact ih0 _ _
   | exact ih1 _ _ _
   | exact epactref02_Has.mono _ _ _
   | exact LeO.none _
   | refine LeO.ite ?_ ?_
   | refine LeO.bind ?_ (fun _ => ?_)
  ·
   intro y0 y1 y2
   unfold epactref02_Right.j1
   repeat' first
   | (with_reducible exact ih0 _ _)
   | (with_reducible exact ih1 _ _ _)
   | (with_reducible exact epactref02_Has.mono _ _ _)
   | (with_reducible exact LeO.refl _)
   | (with_reducible exact LeO.none _)
   | (with_reducible refine LeO.ite ?_ ?_)
   | (with_reducible refine LeO.bind ?_ (fun _ => ?_))
   | exact ih0 _ _
   | exact ih1 _ _ _
   | exact epactref02_Has.mono _ _ _
   | exact LeO.none _
   | refine LeO.ite ?_ ?_
   | refine LeO.bind ?_ (fun _ => ?_)
theorem epactref02_Right.mono : ∀ a0 k, LeO (epactref02_Right.f k a0) (epactref02_Right.f (k + 1) a0) := by
 intro a0 k
 obtain ⟨ih0, ih1⟩ := epactref02_Right.mono_l k
 unfold epactref02_Right.f
 repeat' first
   | (with_reducible exact ih0 _ _)
   | (with_reducible exact ih1 _ _ _)
   | (with_reducible exact epactref02_Has.mono _ _ _)
   | (with_reducible exact LeO.refl _)
   | (with_reducible exact LeO.none _)
   | (with_reducible refine LeO.ite ?_ ?_)
   | (with_reducible refine LeO.bind ?_ (fun _ => ?_))
   | exact ih0 _ _
   | exact ih1 _ _ _
   | exact epactref02_Has.mono _ _ _
   | exact LeO.none _
   | refine LeO.ite ?_ ?_
   | refine LeO.bind ?_ (fun _ => ?_)
set_option maxHeartbeats 8000000 in
set_option maxRecDepth 100000 in
theorem epactref02_Right.calls (k : Nat) (A0 : Option Addr) (c0 : Nat) (l0 : List (S23)) (r : Bool) (w : World) (hr0 : Kd.C k23 w A0 l0.length l0) (hc0 : l0.length ≤ c0) (h : epactref02_Right.f k l0 = some r) :
  Calls Try.prog 32 #[.slice A0 l0.length c0] w fun e w' => e = .returned (.bool r) ∧ Drawn0 w w' := by
 have HR0 := Aside0.mk hr0
 have HC0 := Aside0.mk hc0
 clear hr0 hc0
 have H : (epactref02_Right.l0 k l0 0) = some r := h
 clear h
 have H' := Aside0.mk H
 clear H
 go_enter Try.func32, Try.ntmps32
 go_wp2
 repeat (go_quiet (fail); try go_wp2)
 go_loopg [3] k (fun kq v3 w' => ∃ (x3_1 : Int), v3 = .int .i64 x3_1 ∧ Aside0 (epactref02_Right.l0 kq l0 x3_1 = some r) ∧ Aside0 (kq ≤ k) ∧ Drawn0 w w')
 case atStart => exact ⟨(0), (by first | rfl | (simp; done) | (simp [*]; done)), H', ⟨Nat.le_refl _⟩, by repeat (first | exact Drawn0.refl _ | apply Drawn0.step)⟩
 case round =>
  clear H'
  obtain ⟨x3_1, rfl, HA, HK1, ⟨m1, rfl⟩⟩ := hrel
  cases gk with
  | zero => exact absurd HA.out (by simp [epactref02_Right.l0])
  | succ k1 =>
   have H := HA.out
   clear HA
   simp only [epactref02_Right.l0] at H
   by_cases c2 : x3_1 < (l0.length : Int)
   ·
    rw [if_pos c2] at H
    have c2b0 : decide (x3_1 < (l0.length : Int)) = true := decide_eq_true c2
    clear c2
    have HC3 := Aside0.mk H
    clear H
    go_upto_region 4 with (fail)
    repeat (go_quiet (fail); go_upto_region 4 with (fail))
    go_cut [36] (fun v36 wc => ∃ (kq : Nat) (x36_2 : Bool), v36 = .bool x36_2 ∧ Aside0 (epactref02_Right.j1 kq l0 x3_1 x36_2 = some r) ∧ Aside0 (kq ≤ k1) ∧ Drawn0 w wc)
    case first =>
     have H := HC3.out
     clear HC3
     by_cases c4 : 0 ≤ x3_1
     ·
      rw [if_pos c4] at H
      have c4b0 : decide (0 ≤ x3_1) = true := decide_eq_true c4
      clear c4
      (first | rw [c4b0] | (simp only [i64_w, i32_w]; rw [c4b0]) | skip)
      by_cases c5 : ((rd_T23 l0 x3_1).f0) > ((rd_T23 l0 x3_1).f1)
      ·
       rw [if_pos c5] at H
       have c5b0 : decide (((rd_T23 l0 x3_1).f1) < ((rd_T23 l0 x3_1).f0)) = true := decide_eq_true c5
       clear c5
       have H' := Aside0.mk H
       clear H
       have p328 : 0 ≤ (x3_1 : Int) := of_decide_eq_true (by first | (with_reducible assumption) | assumption)
       have q328 : x3_1 < (l0.length : Int) := of_decide_eq_true (by first | (with_reducible assumption) | assumption)
       obtain ⟨ad328, e328, hx328_0, hx328_1⟩ := at_T23 HR0.out x3_1 p328 q328
       cases e328
       replace p328 := eq_true p328
       replace q328 := eq_true q328
       have p329 : 0 ≤ (x3_1 : Int) := of_decide_eq_true (by first | (with_reducible assumption) | assumption)
       have q329 : x3_1 < (l0.length : Int) := of_decide_eq_true (by first | (with_reducible assumption) | assumption)
       obtain ⟨ad329, e329, hx329_0, hx329_1⟩ := at_T23 HR0.out x3_1 p329 q329
       obtain rfl : ad328 = ad329 := (by injection e329)
       replace p329 := eq_true p329
       replace q329 := eq_true q329
       go_wp2
       repeat (go_quiet (fail); try go_wp2)
       go_meet
       case rel => exact ⟨_, (true), (by first | rfl | (simp; done) | (simp [*]; done)), H', ⟨by have := HK1.out; first | omega | exact Nat.le_refl _⟩, by repeat (first | exact Drawn0.refl _ | apply Drawn0.step)⟩
      ·
       rw [if_neg c5] at H
       have c5b0 : decide (((rd_T23 l0 x3_1).f1) < ((rd_T23 l0 x3_1).f0)) = false := decide_eq_false c5
       clear c5
       by_cases c6 : ((rd_T23 l0 x3_1).f0) < (-1099511627776)
       ·
        rw [if_pos c6] at H
        have c6b0 : decide (((rd_T23 l0 x3_1).f0) < (-1099511627776)) = true := decide_eq_true c6
        clear c6
        have H' := Aside0.mk H
        clear H
        have p328 : 0 ≤ (x3_1 : Int) := of_decide_eq_true (by first | (with_reducible assumption) | assumption)
        have q328 : x3_1 < (l0.length : Int) := of_decide_eq_true (by first | (with_reducible assumption) | assumption)
        obtain ⟨ad328, e328, hx328_0, hx328_1⟩ := at_T23 HR0.out x3_1 p328 q328
        cases e328
        replace p328 := eq_true p328
        replace q328 := eq_true q328
        have p329 : 0 ≤ (x3_1 : Int) := of_decide_eq_true (by first | (with_reducible assumption) | assumption)
        have q329 : x3_1 < (l0.length : Int) := of_decide_eq_true (by first | (with_reducible assumption) | assumption)
        obtain ⟨ad329, e329, hx329_0, hx329_1⟩ := at_T23 HR0.out x3_1 p329 q329
        obtain rfl : ad328 = ad329 := (by injection e329)
        replace p329 := eq_true p329
        replace q329 := eq_true q329
        have p330 : 0 ≤ (x3_1 : Int) := of_decide_eq_true (by first | (with_reducible assumption) | assumption)
        have q330 : x3_1 < (l0.length : Int) := of_decide_eq_true (by first | (with_reducible assumption) | assumption)
        obtain ⟨ad330, e330, hx330_0, hx330_1⟩ := at_T23 HR0.out x3_1 p330 q330
        obtain rfl : ad328 = ad330 := (by injection e330)
        replace p330 := eq_true p330
        replace q330 := eq_true q330
        go_wp2
        repeat (go_quiet (fail); try go_wp2)
        go_meet
        case rel => exact ⟨_, (true), (by first | rfl | (simp; done) | (simp [*]; done)), H', ⟨by have := HK1.out; first | omega | exact Nat.le_refl _⟩, by repeat (first | exact Drawn0.refl _ | apply Drawn0.step)⟩
       ·
        rw [if_neg c6] at H
        have c6b0 : decide (((rd_T23 l0 x3_1).f0) < (-1099511627776)) = false := decide_eq_false c6
        clear c6
        have H' := Aside0.mk H
        clear H
        have p328 : 0 ≤ (x3_1 : Int) := of_decide_eq_true (by first | (with_reducible assumption) | assumption)
        have q328 : x3_1 < (l0.length : Int) := of_decide_eq_true (by first | (with_reducible assumption) | assumption)
        obtain ⟨ad328, e328, hx328_0, hx328_1⟩ := at_T23 HR0.out x3_1 p328 q328
        cases e328
        replace p328 := eq_true p328
        replace q328 := eq_true q328
        have p329 : 0 ≤ (x3_1 : Int) := of_decide_eq_true (by first | (with_reducible assumption) | assumption)
        have q329 : x3_1 < (l0.length : Int) := of_decide_eq_true (by first | (with_reducible assumption) | assumption)
        obtain ⟨ad329, e329, hx329_0, hx329_1⟩ := at_T23 HR0.out x3_1 p329 q329
        obtain rfl : ad328 = ad329 := (by injection e329)
        replace p329 := eq_true p329
        replace q329 := eq_true q329
        have p330 : 0 ≤ (x3_1 : Int) := of_decide_eq_true (by first | (with_reducible assumption) | assumption)
        have q330 : x3_1 < (l0.length : Int) := of_decide_eq_true (by first | (with_reducible assumption) | assumption)
        obtain ⟨ad330, e330, hx330_0, hx330_1⟩ := at_T23 HR0.out x3_1 p330 q330
        obtain rfl : ad328 = ad330 := (by injection e330)
        replace p330 := eq_true p330
        replace q330 := eq_true q330
        have p331 : 0 ≤ (x3_1 : Int) := of_decide_eq_true (by first | (with_reducible assumption) | assumption)
        have q331 : x3_1 < (l0.length : Int) := of_decide_eq_true (by first | (with_reducible assumption) | assumption)
        obtain ⟨ad331, e331, hx331_0, hx331_1⟩ := at_T23 HR0.out x3_1 p331 q331
        obtain rfl : ad328 = ad331 := (by injection e331)
        replace p331 := eq_true p331
        replace q331 := eq_true q331
        go_wp2
        repeat (go_quiet (fail); try go_wp2)
        go_meet
        case rel => exact ⟨_, (decide (((rd_T23 l0 x3_1).f1) > 1099511627776)), (by first | rfl | (simp; done) | (simp [*]; done)), H', ⟨by have := HK1.out; first | omega | exact Nat.le_refl _⟩, by repeat (first | exact Drawn0.refl _ | apply Drawn0.step)⟩
     ·
      rw [if_neg c4] at H
      exact absurd H (by simp)
    case rest =>
     clear HC3
     try clear c2
     try clear c2b0
     try clear p2
     try clear c3
     try clear p3
     try clear q3
     try clear hx3
     try clear c4
     try clear c4b0
     try clear c5
     try clear c5b0
     try clear c6
     try clear c6b0
     try clear hx328_0
     try clear hx328_1
     try clear hx329_0
     try clear hx329_1
     try clear hx330_0
     try clear hx330_1
     try clear hx331_0
     try clear hx331_1
     try clear p328
     try clear p329
     try clear p330
     try clear p331
     try clear q328
     try clear q329
     try clear q330
     try clear q331
     obtain ⟨kq, x36_2, rfl, HA, HJ2, ⟨mc2, rfl⟩⟩ := hcut
     cases kq with
     | zero => exact absurd HA.out (by simp [epactref02_Right.j1])
     | succ kj2 =>
      have H := HA.out
      clear HA
      simp only [epactref02_Right.j1] at H
      by_cases c7 : x36_2 = true
      ·
       subst c7
       have H1 : (some false) = some r := by rw [if_pos rfl] at H; exact H
       clear H
       have H := H1
       clear H1
       obtain rfl := Option.some.inj H
       go_wp2
       repeat (go_quiet (fail); try go_wp2)
       go_ret
       exact ⟨by first | rfl | (simp; done) | (simp [*]; done), by repeat (first | exact Drawn0.refl _ | apply Drawn0.step)⟩
      ·
       replace c7 := Bool.eq_false_iff.mpr c7
       subst c7
       have H1 : (if x3_1 > 0 then (if 0 ≤ x3_1 then (if x3_1 < (l0.length : Int) then (if 0 ≤ (wrap64 (x3_1 - 1)) then (if (wrap64 (x3_1 - 1)) < (l0.length : Int) then (if ((rd_T23 l0 x3_1).f0) ≤ ((rd_T23 l0 (wrap64 (x3_1 - 1))).f1) then (some false) else (if x3_1 ≤ (l0.length : Int) then ((epactref02_Has.f kj2 (l0.take (x3_1 : Int).toNat) (wrap64 (((rd_T23 l0 x3_1).f0) - 1))).bind fun t339 => (if t339 = true then (some false) else (epactref02_Right.l0 kj2 l0 (wrap64 (x3_1 + 1))))) else (none))) else (none)) else (none)) else (none)) else (none)) else (epactref02_Right.l0 kj2 l0 (wrap64 (x3_1 + 1)))) = some r := by rw [if_neg (show ¬ (false = true) by decide)] at H; exact H
       clear H
       have H := H1
       clear H1
       by_cases c8 : x3_1 > 0
       ·
        rw [if_pos c8] at H
        have c8b0 : decide (0 < x3_1) = true := decide_eq_true c8
        clear c8
        by_cases c9 : 0 ≤ x3_1
        ·
         rw [if_pos c9] at H
         have c9b0 : decide (0 ≤ x3_1) = true := decide_eq_true c9
         clear c9
         by_cases c10 : x3_1 < (l0.length : Int)
         ·
          rw [if_pos c10] at H
          have c10b0 : decide (x3_1 < (l0.length : Int)) = true := decide_eq_true c10
          clear c10
          obtain ⟨ji11, hji11⟩ : ∃ j_ : Int, (wrap64 (x3_1 - 1)) = j_ := ⟨_, rfl⟩
          replace H : (if 0 ≤ (ji11) then (if (ji11) < (l0.length : Int) then (if ((rd_T23 l0 x3_1).f0) ≤ ((rd_T23 l0 (ji11)).f1) then (some false) else (if x3_1 ≤ (l0.length : Int) then ((epactref02_Has.f kj2 (l0.take (x3_1 : Int).toNat) (wrap64 (((rd_T23 l0 x3_1).f0) - 1))).bind fun t339 => (if t339 = true then (some false) else (epactref02_Right.l0 kj2 l0 (wrap64 (x3_1 + 1))))) else (none))) else (none)) else (none)) = some r := by first | (rw [hji11] at H; exact H) | (simp only [hji11] at H ⊢; exact H)
          have hji11w : (IntKind.i64.wrap (x3_1 - 1)) = ji11 := (i64_w _).trans hji11
          by_cases c12 : 0 ≤ (ji11)
          ·
           rw [if_pos c12] at H
           have c12b0 : decide (0 ≤ (ji11)) = true := decide_eq_true c12
           clear c12
           by_cases c13 : (ji11) < (l0.length : Int)
           ·
            rw [if_pos c13] at H
            have c13b0 : decide ((ji11) < (l0.length : Int)) = true := decide_eq_true c13
            clear c13
            by_cases c14 : ((rd_T23 l0 x3_1).f0) ≤ ((rd_T23 l0 (ji11)).f1)
            ·
             rw [if_pos c14] at H
             have c14b0 : decide (((rd_T23 l0 x3_1).f0) ≤ ((rd_T23 l0 (ji11)).f1)) = true := decide_eq_true c14
             clear c14
             obtain rfl := Option.some.inj H
             have p332 : 0 ≤ (x3_1 : Int) := of_decide_eq_true (by first | (with_reducible assumption) | assumption)
             have q332 : x3_1 < (l0.length : Int) := of_decide_eq_true (by first | (with_reducible assumption) | assumption)
             obtain ⟨ad332, e332, hx332_0, hx332_1⟩ := at_T23 HR0.out x3_1 p332 q332
             cases e332
             replace p332 := eq_true p332
             replace q332 := eq_true q332
             have p333 : 0 ≤ ((ji11) : Int) := of_decide_eq_true (by first | (with_reducible assumption) | assumption)
             have q333 : (ji11) < (l0.length : Int) := of_decide_eq_true (by first | (with_reducible assumption) | assumption)
             obtain ⟨ad333, e333, hx333_0, hx333_1⟩ := at_T23 HR0.out (ji11) p333 q333
             obtain rfl : ad332 = ad333 := (by injection e333)
             replace p333 := eq_true p333
             replace q333 := eq_true q333
             go_wp2
             repeat (go_quiet (fail); try go_wp2)
             go_ret
             exact ⟨by first | rfl | (simp; done) | (simp only [← hji11] <;> (first | rfl | simp)) | (simp [*]; done), by repeat (first | exact Drawn0.refl _ | apply Drawn0.step)⟩
            ·
             rw [if_neg c14] at H
             have c14b0 : decide (((rd_T23 l0 x3_1).f0) ≤ ((rd_T23 l0 (ji11)).f1)) = false := decide_eq_false c14
             clear c14
             have c15b0 := eq_true (of_decide_eq_true (by first | (with_reducible assumption) | assumption) : 0 ≤ x3_1)
             by_cases c16 : x3_1 ≤ (l0.length : Int)
             ·
              rw [if_pos c16] at H
              have c16b0 := eq_true c16
              have c16b1 : decide (x3_1 ≤ (l0.length : Int)) = true := decide_eq_true c16
              clear c16
              obtain ⟨y334, hy334⟩ : ∃ y_ : List (S23), y_ = (l0.take (x3_1 : Int).toNat) := ⟨_, rfl⟩
              replace H : ((epactref02_Has.f kj2 y334 (wrap64 (((rd_T23 l0 x3_1).f0) - 1))).bind fun t339 => (if t339 = true then (some false) else (epactref02_Right.l0 kj2 l0 (wrap64 (x3_1 + 1))))) = some r := by first | (rw [hy334]; with_reducible exact H) | (have H2_ := (Option.bind_some _ _).symm.trans H; rw [hy334]; with_reducible exact H2_) | (have H2_ := (Option.bind_some _ _).symm.trans H; with_reducible exact H2_) | with_reducible exact H | (rw [hy334]; exact H) | exact H
              have Ny334 := Aside0.mk hy334
              clear hy334
              replace H := Option.bind_eq_some_iff.mp H
              obtain ⟨t339, A170, H⟩ := H
              replace H : (if t339 = true then (some false) else (epactref02_Right.l0 kj2 l0 (wrap64 (x3_1 + 1)))) = some r := H
              have A17 := Aside0.mk A170
              clear A170
              by_cases c18 : t339 = true
              ·
               subst c18
               have H1 : (some false) = some r := by rw [if_pos rfl] at H; exact H
               clear H
               have H := H1
               clear H1
               obtain rfl := Option.some.inj H
               have p332 : 0 ≤ (x3_1 : Int) := of_decide_eq_true (by first | (with_reducible assumption) | assumption)
               have q332 : x3_1 < (l0.length : Int) := of_decide_eq_true (by first | (with_reducible assumption) | assumption)
               obtain ⟨ad332, e332, hx332_0, hx332_1⟩ := at_T23 HR0.out x3_1 p332 q332
               cases e332
               replace p332 := eq_true p332
               replace q332 := eq_true q332
               have p333 : 0 ≤ ((ji11) : Int) := of_decide_eq_true (by first | (with_reducible assumption) | assumption)
               have q333 : (ji11) < (l0.length : Int) := of_decide_eq_true (by first | (with_reducible assumption) | assumption)
               obtain ⟨ad333, e333, hx333_0, hx333_1⟩ := at_T23 HR0.out (ji11) p333 q333
               obtain rfl : ad332 = ad333 := (by injection e333)
               replace p333 := eq_true p333
               replace q333 := eq_true q333
               have q19 : (x3_1 : Int) ≤ ((l0.length : Int) : Int) := of_decide_eq_true (by first | (with_reducible assumption) | assumption)
               obtain ⟨i019, hi019, _, hsz19, _⟩ := info_parts info23
               have hroom19 : l0.length ≤ c0 := HC0.out
               have hC19 : Kd.C k23 _ (some ad332) l0.length l0 := HR0.out
               have hcut19 := cut_to (P := Try.prog) 24 23 .i64 Try.underlying24 hi019 (some ad332) l0.length c0 x3_1 (of_decide_eq_true (by first | (with_reducible assumption) | assumption)) q19 hroom19
               have hr19 := Kd.C_take (m := (x3_1 : Int).toNat) hC19 (by omega)
               have hy19 : y334.length = (x3_1 : Int).toNat := (by rw [Ny334.out, List.length_take]; omega)
               rw [← Ny334.out] at hr19
               rw [← hy19] at hcut19
               have HR337 := Aside0.mk hr19
               have HC337 := Aside0.mk (show y334.length ≤ c0 from by omega)
               clear hr19 hC19 hroom19 hi019 hsz19
               have KY19 := Aside0.mk hy19
               clear hy19
               replace q19 := eq_true q19
               have p338 : 0 ≤ (x3_1 : Int) := of_decide_eq_true (by first | (with_reducible assumption) | assumption)
               have q338 : x3_1 < (l0.length : Int) := of_decide_eq_true (by first | (with_reducible assumption) | assumption)
               obtain ⟨ad338, e338, hx338_0, hx338_1⟩ := at_T23 HR0.out x3_1 p338 q338
               obtain rfl : ad332 = ad338 := (by injection e338)
               replace p338 := eq_true p338
               replace q338 := eq_true q338
               go_wp2_with (first | (go_at_call 46; (with_reducible refine (epactref02_Has.calls kj2 _ _ y334 (wrap64 (((rd_T23 l0 x3_1).f0) - 1)) true _ ?side1 ?side2 A17.out).mono ?_); (case side1 => repeat (first | exact HR337.out | (with_reducible refine Kd.C_alloc ?_ _) | (with_reducible refine Kd.C_drewN ?_ _) | (with_reducible refine Kd.C_drew ?_))); (case side2 => exact HC337.out); rintro e w' ⟨rfl, ⟨nd, rfl⟩⟩; (try first | exact ⟨rfl, _, World.drewN_drewN _ _ _⟩ | exact ⟨rfl, _, Eq.trans (World.drewN_drewN _ _ _) (congrArg (World.drewN _) (Nat.add_assoc _ _ _))⟩)))
               repeat (go_quiet (first | (go_at_call 46; (with_reducible refine (epactref02_Has.calls kj2 _ _ y334 (wrap64 (((rd_T23 l0 x3_1).f0) - 1)) true _ ?side1 ?side2 A17.out).mono ?_); (case side1 => repeat (first | exact HR337.out | (with_reducible refine Kd.C_alloc ?_ _) | (with_reducible refine Kd.C_drewN ?_ _) | (with_reducible refine Kd.C_drew ?_))); (case side2 => exact HC337.out); rintro e w' ⟨rfl, ⟨nd, rfl⟩⟩; (try first | exact ⟨rfl, _, World.drewN_drewN _ _ _⟩ | exact ⟨rfl, _, Eq.trans (World.drewN_drewN _ _ _) (congrArg (World.drewN _) (Nat.add_assoc _ _ _))⟩))); try go_wp2_with (first | (go_at_call 46; (with_reducible refine (epactref02_Has.calls kj2 _ _ y334 (wrap64 (((rd_T23 l0 x3_1).f0) - 1)) true _ ?side1 ?side2 A17.out).mono ?_); (case side1 => repeat (first | exact HR337.out | (with_reducible refine Kd.C_alloc ?_ _) | (with_reducible refine Kd.C_drewN ?_ _) | (with_reducible refine Kd.C_drew ?_))); (case side2 => exact HC337.out); rintro e w' ⟨rfl, ⟨nd, rfl⟩⟩; (try first | exact ⟨rfl, _, World.drewN_drewN _ _ _⟩ | exact ⟨rfl, _, Eq.trans (World.drewN_drewN _ _ _) (congrArg (World.drewN _) (Nat.add_assoc _ _ _))⟩))))
               go_ret
               exact ⟨by first | rfl | (simp; done) | (simp only [← hji11] <;> (first | rfl | simp)) | (simp [*]; done), by repeat (first | exact Drawn0.refl _ | apply Drawn0.step)⟩
              ·
               replace c18 := Bool.eq_false_iff.mpr c18
               subst c18
               have H1 : (epactref02_Right.l0 kj2 l0 (wrap64 (x3_1 + 1))) = some r := by rw [if_neg (show ¬ (false = true) by decide)] at H; exact H
               clear H
               have H := H1
               clear H1
               have H' := Aside0.mk H
               clear H
               have p332 : 0 ≤ (x3_1 : Int) := of_decide_eq_true (by first | (with_reducible assumption) | assumption)
               have q332 : x3_1 < (l0.length : Int) := of_decide_eq_true (by first | (with_reducible assumption) | assumption)
               obtain ⟨ad332, e332, hx332_0, hx332_1⟩ := at_T23 HR0.out x3_1 p332 q332
               cases e332
               replace p332 := eq_true p332
               replace q332 := eq_true q332
               have p333 : 0 ≤ ((ji11) : Int) := of_decide_eq_true (by first | (with_reducible assumption) | assumption)
               have q333 : (ji11) < (l0.length : Int) := of_decide_eq_true (by first | (with_reducible assumption) | assumption)
               obtain ⟨ad333, e333, hx333_0, hx333_1⟩ := at_T23 HR0.out (ji11) p333 q333
               obtain rfl : ad332 = ad333 := (by injection e333)
               replace p333 := eq_true p333
               replace q333 := eq_true q333
               have q20 : (x3_1 : Int) ≤ ((l0.length : Int) : Int) := of_decide_eq_true (by first | (with_reducible assumption) | assumption)
               obtain ⟨i020, hi020, _, hsz20, _⟩ := info_parts info23
               have hroom20 : l0.length ≤ c0 := HC0.out
               have hC20 : Kd.C k23 _ (some ad332) l0.length l0 := HR0.out
               have hcut20 := cut_to (P := Try.prog) 24 23 .i64 Try.underlying24 hi020 (some ad332) l0.length c0 x3_1 (of_decide_eq_true (by first | (with_reducible assumption) | assumption)) q20 hroom20
               have hr20 := Kd.C_take (m := (x3_1 : Int).toNat) hC20 (by omega)
               have hy20 : y334.length = (x3_1 : Int).toNat := (by rw [Ny334.out, List.length_take]; omega)
               rw [← Ny334.out] at hr20
               rw [← hy20] at hcut20
               have HR337 := Aside0.mk hr20
               have HC337 := Aside0.mk (show y334.length ≤ c0 from by omega)
               clear hr20 hC20 hroom20 hi020 hsz20
               have KY20 := Aside0.mk hy20
               clear hy20
               replace q20 := eq_true q20
               have p338 : 0 ≤ (x3_1 : Int) := of_decide_eq_true (by first | (with_reducible assumption) | assumption)
               have q338 : x3_1 < (l0.length : Int) := of_decide_eq_true (by first | (with_reducible assumption) | assumption)
               obtain ⟨ad338, e338, hx338_0, hx338_1⟩ := at_T23 HR0.out x3_1 p338 q338
               obtain rfl : ad332 = ad338 := (by injection e338)
               replace p338 := eq_true p338
               replace q338 := eq_true q338
               go_wp2_with (first | (go_at_call 46; (with_reducible refine (epactref02_Has.calls kj2 _ _ y334 (wrap64 (((rd_T23 l0 x3_1).f0) - 1)) false _ ?side1 ?side2 A17.out).mono ?_); (case side1 => repeat (first | exact HR337.out | (with_reducible refine Kd.C_alloc ?_ _) | (with_reducible refine Kd.C_drewN ?_ _) | (with_reducible refine Kd.C_drew ?_))); (case side2 => exact HC337.out); rintro e w' ⟨rfl, ⟨nd, rfl⟩⟩; (try first | exact ⟨rfl, _, World.drewN_drewN _ _ _⟩ | exact ⟨rfl, _, Eq.trans (World.drewN_drewN _ _ _) (congrArg (World.drewN _) (Nat.add_assoc _ _ _))⟩)))
               repeat (go_quiet (first | (go_at_call 46; (with_reducible refine (epactref02_Has.calls kj2 _ _ y334 (wrap64 (((rd_T23 l0 x3_1).f0) - 1)) false _ ?side1 ?side2 A17.out).mono ?_); (case side1 => repeat (first | exact HR337.out | (with_reducible refine Kd.C_alloc ?_ _) | (with_reducible refine Kd.C_drewN ?_ _) | (with_reducible refine Kd.C_drew ?_))); (case side2 => exact HC337.out); rintro e w' ⟨rfl, ⟨nd, rfl⟩⟩; (try first | exact ⟨rfl, _, World.drewN_drewN _ _ _⟩ | exact ⟨rfl, _, Eq.trans (World.drewN_drewN _ _ _) (congrArg (World.drewN _) (Nat.add_assoc _ _ _))⟩))); try go_wp2_with (first | (go_at_call 46; (with_reducible refine (epactref02_Has.calls kj2 _ _ y334 (wrap64 (((rd_T23 l0 x3_1).f0) - 1)) false _ ?side1 ?side2 A17.out).mono ?_); (case side1 => repeat (first | exact HR337.out | (with_reducible refine Kd.C_alloc ?_ _) | (with_reducible refine Kd.C_drewN ?_ _) | (with_reducible refine Kd.C_drew ?_))); (case side2 => exact HC337.out); rintro e w' ⟨rfl, ⟨nd, rfl⟩⟩; (try first | exact ⟨rfl, _, World.drewN_drewN _ _ _⟩ | exact ⟨rfl, _, Eq.trans (World.drewN_drewN _ _ _) (congrArg (World.drewN _) (Nat.add_assoc _ _ _))⟩))))
               go_roundg kj2
               case measure => have := HK1.out; have := HJ2.out; omega
               case rel => exact ⟨(wrap64 (x3_1 + 1)), (by first | rfl | (simp; done) | (simp [*]; done)), H', ⟨by have := HK1.out; have := HJ2.out; omega⟩, by repeat (first | exact Drawn0.refl _ | apply Drawn0.step)⟩
             ·
              rw [if_neg c16] at H
              exact absurd H (by simp)
           ·
            rw [if_neg c13] at H
            exact absurd H (by simp)
          ·
           rw [if_neg c12] at H
           exact absurd H (by simp)
         ·
          rw [if_neg c10] at H
          exact absurd H (by simp)
        ·
         rw [if_neg c9] at H
         exact absurd H (by simp)
       ·
        rw [if_neg c8] at H
        have c8b0 : decide (0 < x3_1) = false := decide_eq_false c8
        clear c8
        have H' := Aside0.mk H
        clear H
        go_wp2
        repeat (go_quiet (fail); try go_wp2)
        go_roundg kj2
        case measure => have := HK1.out; have := HJ2.out; omega
        case rel => exact ⟨(wrap64 (x3_1 + 1)), (by first | rfl | (simp; done) | (simp [*]; done)), H', ⟨by have := HK1.out; have := HJ2.out; omega⟩, by repeat (first | exact Drawn0.refl _ | apply Drawn0.step)⟩
   ·
    rw [if_neg c2] at H
    have c2b0 : decide (x3_1 < (l0.length : Int)) = false := decide_eq_false c2
    clear c2
    obtain rfl := Option.some.inj H
    go_wp2
    repeat (go_quiet (fail); try go_wp2)
    go_ret
    exact ⟨by first | rfl | (simp; done) | (simp [*]; done), by repeat (first | exact Drawn0.refl _ | apply Drawn0.step)⟩

end Go.Proofs.Ytmbmalkpmanaaaa.P

namespace Go.Proofs.Ytmbmalkpmanaaaa.P
set_option linter.unusedVariables false
set_option linter.unusedSimpArgs false
open Go.RowKit Go.Proofs.YtmbmalkpmanaaaaW.PrintWords

theorem rd_mid (pre r : List Sp) (s : Sp) : rd_T23 (pre ++ s :: r) (pre.length : Int) = s := by simp [rd_T23]
theorem wrap_len {α : Type} (pre : List α) (s : α) (n : Nat) (h : pre.length + 1 ≤ n) (hn : n ≤ 9223372036854775807) : wrap64 ((pre.length : Int) + 1) = ((pre ++ [s]).length : Int) := by
  rw [wrap_ok (by omega) (by omega)]; simp
theorem wrap_pred {α : Type} (pre : List α) (s : α) (n : Nat) (h : pre.length + 1 ≤ n) (hn : n ≤ 9223372036854775807) : wrap64 (((pre ++ [s]).length : Int) - 1) = (pre.length : Int) := by
  rw [wrap_ok (by simp only [List.length_append, List.length_singleton]; omega) (by simp only [List.length_append, List.length_singleton]; omega)]; simp

theorem tick_f (a : Int) : spans_tick.f a = some (decide (-1099511627776 ≤ a) && decide (a ≤ 1099511627776)) := by
  unfold spans_tick.f
  by_cases h : a ≥ -1099511627776
  · have h2 : -1099511627776 ≤ a := h
    rw [if_pos h]; simp [h2]
  · have h2 : ¬ -1099511627776 ≤ a := h
    rw [if_neg h]; simp [h2]

theorem refhas_ev (l : List Sp) (x : Int) (hl : l.length ≤ 9223372036854775807) : Ev (fun k => epactref02_Has.f k l x) (hasL l x) := by
  have key : ∀ (rest pre : List Sp), l = pre ++ rest → Ev (fun k => epactref02_Has.l0 k l x (pre.length : Int)) (hasL rest x) := by
    intro rest
    induction rest with
    | nil =>
      intro pre hp
      refine Ev.step (f := fun _ => some false) (fun k => ?_) (Ev.now _)
      rw [epactref02_Has.l0, if_neg (by rw [hp]; simp)]
    | cons s r ih =>
      intro pre hp
      have hlen : pre.length + 1 ≤ l.length := by rw [hp]; simp
      have hrd : rd_T23 l (pre.length : Int) = s := by rw [hp]; exact rd_mid _ _ _
      have hw := wrap_len pre s l.length hlen hl
      have c1 : (pre.length : Int) < (l.length : Int) := by omega
      have c2 : (0 : Int) ≤ (pre.length : Int) := by omega
      have hi := ih (pre ++ [s]) (by rw [hp]; simp)
      by_cases t0 : s.f0 ≤ x
      · by_cases t1 : x ≤ s.f1
        · refine Ev.step (f := fun _ => some (hasL (s :: r) x)) (fun k => ?_) (Ev.now _)
          rw [epactref02_Has.l0, if_pos c1, if_pos c2, hrd, if_pos t0, if_pos t1, hasL_cons]
          simp [t0, t1]
        · have : hasL (s :: r) x = hasL r x := by rw [hasL_cons]; simp [t1]
          rw [this]
          refine Ev.step (fun k => ?_) hi
          rw [epactref02_Has.l0, if_pos c1, if_pos c2, hrd, if_pos t0, if_neg t1, hw]
      · have : hasL (s :: r) x = hasL r x := by rw [hasL_cons]; simp [t0]
        rw [this]
        refine Ev.step (fun k => ?_) hi
        rw [epactref02_Has.l0, if_pos c1, if_pos c2, hrd, if_neg t0, hw]
  exact key l [] rfl

def alikeB : List Sp → List Sp → Bool
  | [], [] => true
  | s :: r, t :: q => ((s.f0 == t.f0) && (s.f1 == t.f1)) && alikeB r q
  | _, _ => false
theorem alikeB_iff : ∀ {l m : List Sp}, alikeB l m = true ↔ l = m
  | [], [] => by simp [alikeB]
  | s :: r, t :: q => by
    simp only [alikeB, Bool.and_eq_true, beq_iff_eq, alikeB_iff (l := r) (m := q), List.cons.injEq]
    constructor
    · rintro ⟨⟨h1, h2⟩, h3⟩; exact ⟨by cases s; cases t; simp only at h1 h2; rw [h1, h2], h3⟩
    · rintro ⟨rfl, h3⟩; exact ⟨⟨rfl, rfl⟩, h3⟩
  | [], _ :: _ => by simp [alikeB]
  | _ :: _, [] => by simp [alikeB]
theorem alikeB_len : ∀ {l m : List Sp}, l.length ≠ m.length → alikeB l m = false
  | l, m, h => by rw [Bool.eq_false_iff]; intro e; exact h (by rw [alikeB_iff.1 e])

theorem alike_ev (l m : List Sp) (hl : l.length ≤ 9223372036854775807) : Ev (fun k => epactlow_Alike.f k l m) (alikeB l m) := by
  by_cases hlm : l.length = m.length
  · have key : ∀ (r q p u : List Sp), l = p ++ r → m = u ++ q → p.length = u.length → Ev (fun k => epactlow_Alike.l0 k m l (l.length : Int) (p.length : Int)) (alikeB r q) := by
      intro r
      induction r with
      | nil =>
        intro q p u h1 h2 h3
        have hq : q = [] := by
          have : q.length = 0 := by have a := congrArg List.length h1; have b := congrArg List.length h2; simp at a b; omega
          exact List.eq_nil_of_length_eq_zero this
        subst hq
        refine Ev.step (f := fun _ => some true) (fun k => ?_) (Ev.now _)
        rw [epactlow_Alike.l0, if_neg (by rw [h1]; simp)]
      | cons s r ih =>
        intro q p u h1 h2 h3
        cases q with
        | nil => have a := congrArg List.length h1; have b := congrArg List.length h2; simp at a b; omega
        | cons t q =>
          have hlen : p.length + 1 ≤ l.length := by rw [h1]; simp
          have hrd : rd_T23 l (p.length : Int) = s := by rw [h1]; exact rd_mid _ _ _
          have hrm : rd_T23 m (p.length : Int) = t := by rw [h2, h3]; exact rd_mid _ _ _
          have hw := wrap_len p s l.length hlen hl
          have c1 : (p.length : Int) < (l.length : Int) := by omega
          have c2 : (0 : Int) ≤ (p.length : Int) := by omega
          have c3 : (p.length : Int) < (m.length : Int) := by omega
          by_cases e : s.f0 = t.f0 ∧ s.f1 = t.f1
          · have : alikeB (s :: r) (t :: q) = alikeB r q := by simp [alikeB, e]
            rw [this]
            refine Ev.step (fun k => ?_) (ih q (p ++ [s]) (u ++ [t]) (by rw [h1]; simp) (by rw [h2]; simp) (by simp [h3]))
            rw [epactlow_Alike.l0, if_pos c1, if_pos c2, if_pos c1, if_pos c3, hrd, hrm, if_neg (by simp [e]), hw]
          · refine Ev.step (f := fun _ => some (alikeB (s :: r) (t :: q))) (fun k => ?_) (Ev.now _)
            rw [epactlow_Alike.l0, if_pos c1, if_pos c2, if_pos c1, if_pos c3, hrd, hrm]
            have e2 : alikeB (s :: r) (t :: q) = false := by
              rw [Bool.eq_false_iff]; intro h; simp [alikeB] at h; exact e h.1
            rw [if_pos (by by_cases a : t.f0 = s.f0 <;> by_cases b : t.f1 = s.f1 <;> simp [a, b] <;> exact e ⟨a.symm, b.symm⟩), e2]
    refine Ev.congr (fun k => ?_) (key l m [] [] rfl rfl rfl)
    simp only [epactlow_Alike.f]
    rw [if_pos (by omega)]
    rfl
  · rw [alikeB_len hlm]
    refine Ev.congr (fun k => ?_) (Ev.now _)
    simp only [epactlow_Alike.f]
    rw [if_neg (by omega)]
end Go.Proofs.Ytmbmalkpmanaaaa.P

namespace Go.Proofs.Ytmbmalkpmanaaaa.P
set_option linter.unusedVariables false
set_option linter.unusedSimpArgs false
open Go.RowKit Go.Proofs.YtmbmalkpmanaaaaW.PrintWords

theorem rdi_mid (pre r : List Int) (s : Int) : rd (pre ++ s :: r) (pre.length : Int) = s := by simp [rd]
theorem insert_ev (l : List Int) (x : Int) (hl : l.length ≤ 1000000000) : Ev (fun k => epactref02_insert.f k l x) (ins l x) := by
  have done : ∀ (rest pre out : List Int), l = pre ++ rest → out.length + rest.length ≤ 1000000001 → Ev (fun k => epactref02_insert.l0 k l x out true (pre.length : Int)) (out ++ rest) := by
    intro rest
    induction rest with
    | nil =>
      intro pre out hp hb
      rw [List.append_nil]
      refine Ev.step (f := fun _ => some out) (fun k => ?_) (Ev.now _)
      rw [epactref02_insert.l0, if_neg (by rw [hp]; simp), if_pos rfl]
    | cons y r ih =>
      intro pre out hp hb
      have hlen : pre.length + 1 ≤ l.length := by rw [hp]; simp
      have hrd : rd l (pre.length : Int) = y := by rw [hp]; exact rdi_mid _ _ _
      have hw := wrap_len pre y l.length hlen (by omega)
      have c1 : (pre.length : Int) < (l.length : Int) := by omega
      have c2 : (0 : Int) ≤ (pre.length : Int) := by omega
      have c3 : out.length < 17592186044416 := by simp at hb; omega
      have hi := ih (pre ++ [y]) (out ++ [y]) (by rw [hp]; simp) (by simp at hb ⊢; omega)
      rw [List.append_assoc, List.singleton_append] at hi
      refine Ev.step (fun k => ?_) hi
      rw [epactref02_insert.l0, if_pos c1, if_pos c2, hrd]
      by_cases e : y = x
      · rw [if_pos e, if_pos c3, hw]
      · rw [if_neg e, if_pos rfl, if_pos c3, hw]
  have key : ∀ (rest pre out : List Int), l = pre ++ rest → out.length + rest.length ≤ 1000000000 → Ev (fun k => epactref02_insert.l0 k l x out false (pre.length : Int)) (out ++ ins rest x) := by
    intro rest
    induction rest with
    | nil =>
      intro pre out hp hb
      refine Ev.step (f := fun _ => some (out ++ [x])) (fun k => ?_) (Ev.now _)
      have c3 : out.length < 17592186044416 := by simp at hb; omega
      rw [epactref02_insert.l0, if_neg (by rw [hp]; simp), if_neg (by simp), if_pos c3]
    | cons y r ih =>
      intro pre out hp hb
      have hlen : pre.length + 1 ≤ l.length := by rw [hp]; simp
      have hrd : rd l (pre.length : Int) = y := by rw [hp]; exact rdi_mid _ _ _
      have hw := wrap_len pre y l.length hlen (by omega)
      have c1 : (pre.length : Int) < (l.length : Int) := by omega
      have c2 : (0 : Int) ≤ (pre.length : Int) := by omega
      have c3 : out.length < 17592186044416 := by simp at hb; omega
      have hp2 : l = (pre ++ [y]) ++ r := by rw [hp]; simp
      simp only [ins]
      by_cases e : y = x
      · rw [if_pos e]
        have hi := done r (pre ++ [y]) (out ++ [y]) hp2 (by simp at hb ⊢; omega)
        rw [List.append_assoc, List.singleton_append] at hi
        refine Ev.step (fun k => ?_) hi
        rw [epactref02_insert.l0, if_pos c1, if_pos c2, hrd, if_pos e, if_pos c3, hw]
      · rw [if_neg e]
        by_cases e2 : y > x
        · rw [if_pos e2]
          have hi := done r (pre ++ [y]) (out ++ [x] ++ [y]) hp2 (by simp at hb ⊢; omega)
          have ea : out ++ [x] ++ [y] ++ r = out ++ x :: y :: r := by simp
          rw [ea] at hi
          refine Ev.step (fun k => ?_) hi
          have c4 : (out ++ [x]).length < 17592186044416 := by simp at hb ⊢; omega
          rw [epactref02_insert.l0, if_pos c1, if_pos c2, hrd, if_neg e, if_neg (by simp), if_pos e2, if_pos c3]
          simp only [Option.bind_some]
          rw [if_pos c4, hw]
        · rw [if_neg e2]
          have hi := ih (pre ++ [y]) (out ++ [y]) hp2 (by simp at hb ⊢; omega)
          rw [List.append_assoc, List.singleton_append] at hi
          refine Ev.step (fun k => ?_) hi
          rw [epactref02_insert.l0, if_pos c1, if_pos c2, hrd, if_neg e, if_neg (by simp), if_neg e2, if_pos c3, hw]
  exact key l [] [] rfl (by simpa using hl)

def endsOk (l : List Sp) : Prop := ∀ s ∈ l, -4611686018427387904 ≤ s.f1 ∧ s.f1 ≤ 4611686018427387904
theorem places_ev (a b : List Sp) (ha : endsOk a) (hb : endsOk b) (hl : a.length + b.length ≤ 100000000) : Ev (fun k => epactref02_places.f k a b) (plc b (plc a [])) := by
  have kb : ∀ (rest pre : List Sp) (p : List Int), b = pre ++ rest → p.length + 2 * rest.length ≤ 900000000 → Ev (fun k => epactref02_places.l1 k b p (pre.length : Int)) (plc rest p) := by
    intro rest
    induction rest with
    | nil =>
      intro pre p hp hn
      refine Ev.step (f := fun _ => some p) (fun k => ?_) (Ev.now _)
      rw [epactref02_places.l1, if_neg (by rw [hp]; simp)]
    | cons s r ih =>
      intro pre p hp hn
      have hlen : pre.length + 1 ≤ b.length := by rw [hp]; simp
      have hrd : rd_T23 b (pre.length : Int) = s := by rw [hp]; exact rd_mid _ _ _
      have hw := wrap_len pre s b.length hlen (by omega)
      have c1 : (pre.length : Int) < (b.length : Int) := by omega
      have c2 : (0 : Int) ≤ (pre.length : Int) := by omega
      have hs := hb s (by rw [hp]; simp)
      have hw2 : wrap64 (s.f1 + 1) = s.f1 + 1 := wrap_ok (by omega) (by omega)
      have l1 := ins_len p s.f0
      have l2 := ins_len (ins p s.f0) (s.f1 + 1)
      simp only [List.length_cons] at hn
      refine Ev.step (f := fun k => (epactref02_insert.f k p s.f0).bind fun t => (epactref02_insert.f k t (s.f1 + 1)).bind fun u => epactref02_places.l1 k b u ((pre ++ [s]).length : Int)) (fun k => ?_) ?_
      · rw [epactref02_places.l1, if_pos c1, if_pos c2, hrd, hw2, hw]
      · refine Ev.bind (insert_ev p s.f0 (by omega)) (Ev.bind (insert_ev _ _ (by omega)) (ih (pre ++ [s]) _ (by rw [hp]; simp) (by omega)))
  have ka : ∀ (rest pre : List Sp) (p : List Int), a = pre ++ rest → p.length + 2 * rest.length + 2 * b.length ≤ 900000000 → Ev (fun k => epactref02_places.l0 k a b p (pre.length : Int)) (plc b (plc rest p)) := by
    intro rest
    induction rest with
    | nil =>
      intro pre p hp hn
      refine Ev.step (fun k => ?_) (kb b [] p rfl (by simp at hn ⊢; omega))
      rw [epactref02_places.l0, if_neg (by rw [hp]; simp)]
      rfl
    | cons s r ih =>
      intro pre p hp hn
      have hlen : pre.length + 1 ≤ a.length := by rw [hp]; simp
      have hrd : rd_T23 a (pre.length : Int) = s := by rw [hp]; exact rd_mid _ _ _
      have hw := wrap_len pre s a.length hlen (by omega)
      have c1 : (pre.length : Int) < (a.length : Int) := by omega
      have c2 : (0 : Int) ≤ (pre.length : Int) := by omega
      have hs := ha s (by rw [hp]; simp)
      have hw2 : wrap64 (s.f1 + 1) = s.f1 + 1 := wrap_ok (by omega) (by omega)
      have l1 := ins_len p s.f0
      have l2 := ins_len (ins p s.f0) (s.f1 + 1)
      simp only [List.length_cons] at hn
      refine Ev.step (f := fun k => (epactref02_insert.f k p s.f0).bind fun t => (epactref02_insert.f k t (s.f1 + 1)).bind fun u => epactref02_places.l0 k a b u ((pre ++ [s]).length : Int)) (fun k => ?_) ?_
      · rw [epactref02_places.l0, if_pos c1, if_pos c2, hrd, hw2, hw]
      · refine Ev.bind (insert_ev p s.f0 (by omega)) (Ev.bind (insert_ev _ _ (by omega)) (ih (pre ++ [s]) _ (by rw [hp]; simp) (by omega)))
  exact ka a [] [] rfl (by simp; omega)

def kindOf (kind : Int) (x y : Bool) : Bool := if kind = 1 then x || y else if kind = 2 then x && y else x && !y
theorem in_f (kind : Int) (x y : Bool) : epactref02_in.f kind x y = some (kindOf kind x y) := by
  unfold epactref02_in.f kindOf
  by_cases h1 : kind = 1
  · rw [if_pos h1, if_pos h1]; cases x <;> cases y <;> rfl
  · rw [if_neg h1, if_neg h1]
    by_cases h2 : kind = 2
    · rw [if_pos h2, if_pos h2]; cases x <;> cases y <;> rfl
    · rw [if_neg h2, if_neg h2]; cases x <;> cases y <;> rfl

theorem setgo_ev (kind : Int) (a b : List Sp) (ha : a.length ≤ 100000000) (hb : b.length ≤ 100000000) (p : List Int) (hp : p.length ≤ 900000000) (hr : ∀ z ∈ p, -4611686018427387904 ≤ z ∧ z ≤ 4611686018427387905) :
    ∀ (rest pre : List Int) (out : List Sp), p = pre ++ rest → out.length ≤ pre.length → Ev (fun k => epactref02_Set.l0 k kind a b p out (pre.length : Int)) (setGo (fun x => kindOf kind (hasL a x) (hasL b x)) out rest) := by
  intro rest
  induction rest with
  | nil =>
    intro pre out h hn
    refine Ev.step (f := fun _ => some out) (fun k => ?_) (Ev.now _)
    have hpl : pre.length = p.length := by rw [h]; simp
    have hw : wrap64 ((pre.length : Int) + 1) = (pre.length : Int) + 1 := wrap_ok (by omega) (by omega)
    rw [epactref02_Set.l0, hw, if_neg (by rw [h]; simp; omega)]
  | cons x r ih =>
    intro pre out h hn
    have hlen : pre.length + 1 ≤ p.length := by rw [h]; simp
    have hw := wrap_len pre x p.length hlen (by omega)
    cases r with
    | nil =>
      refine Ev.step (f := fun _ => some out) (fun k => ?_) (Ev.now _)
      rw [epactref02_Set.l0, hw, if_neg (by rw [h]; simp)]
    | cons y r =>
      have c0 : ((pre ++ [x]).length : Int) < (p.length : Int) := by rw [h]; simp; omega
      have c1 : (pre.length : Int) < (p.length : Int) := by omega
      have c2 : (0 : Int) ≤ (pre.length : Int) := by omega
      have c20 : (0 : Int) ≤ ((pre ++ [x]).length : Int) := by omega
      have hrx : rd p (pre.length : Int) = x := by rw [h]; exact rdi_mid _ _ _
      have hry : rd p ((pre ++ [x]).length : Int) = y := by rw [h, show pre ++ x :: y :: r = (pre ++ [x]) ++ y :: r by simp]; exact rdi_mid _ _ _
      have bx := hr x (by rw [h]; simp)
      have by_ := hr y (by rw [h]; simp)
      have wx : wrap64 (x - 1) = x - 1 := wrap_ok (by omega) (by omega)
      have wy : wrap64 (y - 1) = y - 1 := wrap_ok (by omega) (by omega)
      have h2 : p = (pre ++ [x]) ++ y :: r := by rw [h]; simp
      have c3 : out.length < 8796093022208 := by omega
      refine Ev.step (f := fun k => (epactref02_Has.f k a x).bind fun t => (epactref02_Has.f k b x).bind fun u => if kindOf kind t u = true then epactref02_Set.l0 k kind a b p (join out x y) ((pre ++ [x]).length : Int) else epactref02_Set.l0 k kind a b p out ((pre ++ [x]).length : Int)) (fun k => ?_) ?_
      · rw [epactref02_Set.l0, hw, if_pos c0, if_pos c2, if_pos c1, hrx]
        congr 1; funext t; congr 1; funext u
        rw [in_f]
        simp only [Option.bind_some]
        by_cases hk : kindOf kind t u = true
        · rw [if_pos hk, if_pos hk]
          rcases List.eq_nil_or_concat out with rfl | ⟨o, z, rfl⟩
          · rw [if_neg (by simp), if_pos c20, if_pos c3, hry, wy, join_nil]; rfl
          · rw [List.concat_eq_append] at *
            have hwp := wrap_pred o z (o.length + 1) (Nat.le_refl _) (by simp at c3; omega)
            have hz : rd_T23 (o ++ [z]) (o.length : Int) = z := rd_mid _ _ _
            rw [if_pos (by simp only [List.length_append, List.length_singleton]; omega), hwp, if_pos (by omega), if_pos (by simp only [List.length_append, List.length_singleton]; omega), hz, wx, join_snoc]
            by_cases e : z.f1 = x - 1
            · rw [if_pos e, if_pos e, if_pos c20, hry, wy]
              congr 1
              simp
            · rw [if_neg e, if_neg e, if_pos c20, if_pos c3, hry, wy]
        · rw [if_neg hk, if_neg hk]
      · refine Ev.bind (refhas_ev a x (by omega)) (Ev.bind (refhas_ev b x (by omega)) ?_)
        simp only [setGo]
        by_cases hk : kindOf kind (hasL a x) (hasL b x) = true
        · simp only [hk, if_true]
          refine ih (pre ++ [x]) (join out x y) h2 ?_
          have : (join out x y).length ≤ out.length + 1 := by
            rcases List.eq_nil_or_concat out with rfl | ⟨o, z, rfl⟩
            · simp [join_nil]
            · rw [List.concat_eq_append, join_snoc]; split <;> simp
          simp; omega
        · simp only [hk]
          exact ih (pre ++ [x]) out h2 (by simp; omega)

theorem refset_ev (kind : Int) (lo hi : Int) (hlo : -4611686018427387904 ≤ lo) (hh : hi ≤ 4611686018427387904) (a b : List Sp) (ha : ∀ s ∈ a, lo ≤ s.f0 ∧ s.f0 ≤ s.f1 ∧ s.f1 ≤ hi) (hb : ∀ s ∈ b, lo ≤ s.f0 ∧ s.f0 ≤ s.f1 ∧ s.f1 ≤ hi) (hl : a.length + b.length ≤ 100000000) :
    ∃ r, Ev (fun k => epactref02_Set.f k kind a b) r ∧ SL lo hi r ∧ ∀ x, hasL r x = kindOf kind (hasL a x) (hasL b x) := by
  have hy : kindOf kind false false = false := by unfold kindOf; split <;> simp
  obtain ⟨h1, h2⟩ := setRef_spec (kindOf kind) hy ha hb
  refine ⟨_, ?_, h1, h2⟩
  have hpl := plc_len b (plc a [])
  have hpl2 := plc_len a []
  simp at hpl2
  have hr : ∀ z ∈ plc b (plc a []), -4611686018427387904 ≤ z ∧ z ≤ 4611686018427387905 := by
    intro z hz
    rw [plc_mem, plc_mem] at hz
    rcases hz with (hz | ⟨s, hs, h⟩) | ⟨s, hs, h⟩
    · simp at hz
    · have := ha s hs; rcases h with rfl | rfl <;> omega
    · have := hb s hs; rcases h with rfl | rfl <;> omega
  exact Ev.bind (places_ev a b (fun s hs => by have := ha s hs; omega) (fun s hs => by have := hb s hs; omega) hl) (setgo_ev kind a b (by omega) (by omega) _ (by omega) hr _ [] [] rfl (by simp))
end Go.Proofs.Ytmbmalkpmanaaaa.P

namespace Go.Proofs.Ytmbmalkpmanaaaa.P
set_option linter.unusedVariables false
set_option linter.unusedSimpArgs false
open Go.RowKit Go.Proofs.YtmbmalkpmanaaaaW.PrintWords Go.Proofs.YtmbmalkpmanaaaaW.PrintMore

def badA (l : List Sp) : Bool := l.any fun s => decide (s.f0 > s.f1)
def tickB (a : Int) : Bool := decide (-1099511627776 ≤ a) && decide (a ≤ 1099511627776)
def badB (l : List Sp) : Bool := l.any fun s => !(tickB s.f0 && tickB s.f1)
def makeS (l : List Sp) : List Sp × Int := if badA l then ([], 2) else if badB l then ([], 20) else ((sortSp l).foldl glue [], 0)
theorem good_of {l : List Sp} (h1 : badA l = false) (h2 : badB l = false) : ∀ s ∈ l, -1099511627776 ≤ s.f0 ∧ s.f0 ≤ s.f1 ∧ s.f1 ≤ 1099511627776 := by
  intro s hs
  have a := List.any_eq_false.1 h1 s hs
  have b := List.any_eq_false.1 h2 s hs
  simp [tickB] at a b
  omega
theorem mx_max (a b : Int) : mx a b = max a b := by unfold mx; split <;> omega

theorem glue_ev (S : List Sp) (n : Nat) (hS : S.length ≤ 100000000) (hb : ∀ s ∈ S, -4611686018427387904 ≤ s.f1 ∧ s.f1 ≤ 4611686018427387904) :
    ∀ (rest pre out : List Sp), S = pre ++ rest → out.length ≤ pre.length → (∀ s ∈ out, -4611686018427387904 ≤ s.f1 ∧ s.f1 ≤ 4611686018427387904) → Ev (fun k => spans_Make.l2 k out S (S.length : Int) (pre.length : Int)) (rest.foldl glue out, 0) := by
  intro rest
  induction rest with
  | nil =>
    intro pre out h hn ho
    refine Ev.step (f := fun _ => some (out, 0)) (fun k => ?_) (Ev.now _)
    rw [spans_Make.l2, if_neg (by rw [h]; simp)]
  | cons s r ih =>
    intro pre out h hn ho
    have hlen : pre.length + 1 ≤ S.length := by rw [h]; simp
    have hrd : rd_T23 S (pre.length : Int) = s := by rw [h]; exact rd_mid _ _ _
    have hw := wrap_len pre s S.length hlen (by omega)
    have c1 : (pre.length : Int) < (S.length : Int) := by omega
    have c2 : (0 : Int) ≤ (pre.length : Int) := by omega
    have c3 : out.length < 8796093022208 := by omega
    have h2 : S = (pre ++ [s]) ++ r := by rw [h]; simp
    have hs := hb s (by rw [h]; simp)
    have hg : ∀ t ∈ glue out s, -4611686018427387904 ≤ t.f1 ∧ t.f1 ≤ 4611686018427387904 := by
      intro t ht
      rcases List.eq_nil_or_concat out with rfl | ⟨o, z, rfl⟩
      · rw [glue_nil] at ht; simp at ht; subst ht; exact hs
      · rw [List.concat_eq_append] at *
        rw [glue_snoc] at ht
        have hz := ho z (by simp)
        split at ht
        · simp at ht
          rcases ht with ht | rfl
          · exact ho t (by simp [ht])
          · show _ ≤ max z.f1 s.f1 ∧ max z.f1 s.f1 ≤ _; omega
        · simp at ht
          rcases ht with ht | rfl | rfl
          · exact ho t (by simp [ht])
          · exact hz
          · exact hs
    refine Ev.step (fun k => ?_) (ih (pre ++ [s]) (glue out s) h2 (by have := glue_len out s; simp; omega) hg)
    rw [spans_Make.l2, if_pos c1, if_pos c2, if_pos c1, hrd]
    rcases List.eq_nil_or_concat out with rfl | ⟨o, z, rfl⟩
    · have hwm : wrap64 ((([] : List Sp).length : Int) - 1) = -1 := by simpa using wrap_ok (n := -1) (by omega) (by omega)
      rw [hwm, if_neg (by omega), if_pos c3, hw]
      rfl
    · rw [List.concat_eq_append] at *
      have hwp := wrap_pred o z (o.length + 1) (Nat.le_refl _) (by simp at c3; omega)
      have hz : rd_T23 (o ++ [z]) (o.length : Int) = z := rd_mid _ _ _
      have hzb := ho z (by simp)
      have hz1 : wrap64 (z.f1 + 1) = z.f1 + 1 := wrap_ok (by omega) (by omega)
      rw [hwp, if_pos (by omega), if_pos (by omega), if_pos (by simp only [List.length_append, List.length_singleton]; omega), hz, hz1, glue_snoc]
      by_cases e : s.f0 ≤ z.f1 + 1
      · rw [if_pos e, if_pos e, hw, mx_max]
        congr 1
        simp
      · rw [if_neg e, if_neg e, if_pos c3, hw]

theorem make_ev (l : List Sp) (hl : l.length ≤ 100000000) : Ev (fun k => spans_Make.f k l) (makeS l) := by
  have k1 : badA l = false → ∀ (rest pre : List Sp), l = pre ++ rest → badB pre = false → Ev (fun k => spans_Make.l1 k l l (l.length : Int) (pre.length : Int)) (makeS l) := by
    intro hA rest
    induction rest with
    | nil =>
      intro pre h hB
      have hlp : l = pre := by rw [h]; simp
      rw [← hlp] at hB
      have hms : makeS l = ((sortSp l).foldl glue [], 0) := by simp [makeS, hA, hB]
      rw [hms]
      have hgood := good_of hA hB
      have hg := glue_ev (sortSp l) l.length (by rw [sortSp_len]; exact hl) (fun s hs => by have := hgood s ((sortSp_perm l).mem_iff.1 hs); omega) (sortSp l) [] [] rfl (by simp) (by simp)
      rw [sortSp_len] at hg
      refine Ev.step (fun k => ?_) hg
      rw [spans_Make.l1, if_neg (by rw [h]; simp)]
      simp only [clone_sp.f, sort_sp.f]
      rw [if_pos (by unfold many; omega)]
      simp only [Option.bind_some]
      rw [if_pos (by unfold many; omega)]
      rfl
    | cons s r ih =>
      intro pre h hB
      have hlen : pre.length + 1 ≤ l.length := by rw [h]; simp
      have hrd : rd_T23 l (pre.length : Int) = s := by rw [h]; exact rd_mid _ _ _
      have hw := wrap_len pre s l.length hlen (by omega)
      have c1 : (pre.length : Int) < (l.length : Int) := by omega
      have c2 : (0 : Int) ≤ (pre.length : Int) := by omega
      have bad : (tickB s.f0 && tickB s.f1) = false → makeS l = ([], 20) := by
        intro hb
        have : badB l = true := by rw [h]; simp only [badB, List.any_append, List.any_cons, hb]; simp
        simp [makeS, hA, this]
      by_cases t0 : tickB s.f0 = true
      · by_cases t1 : tickB s.f1 = true
        · refine Ev.step (fun k => ?_) (ih (pre ++ [s]) (by rw [h]; simp) (by simp only [badB, List.any_append, List.any_cons, List.any_nil, t0, t1] at hB ⊢; simpa using hB))
          rw [spans_Make.l1, if_pos c1, if_pos c2, if_pos c1, hrd, tick_f, tick_f]
          unfold tickB at t0 t1
          simp only [t0, t1, Option.bind_some, if_true, hw]
        · have t1' : tickB s.f1 = false := by simpa using t1
          rw [bad (by simp [t1'])]
          refine Ev.step (f := fun _ => some ([], 20)) (fun k => ?_) (Ev.now _)
          rw [spans_Make.l1, if_pos c1, if_pos c2, if_pos c1, hrd, tick_f, tick_f]
          unfold tickB at t0 t1'
          simp [t0, t1']
      · have t0' : tickB s.f0 = false := by simpa using t0
        rw [bad (by simp [t0'])]
        refine Ev.step (f := fun _ => some ([], 20)) (fun k => ?_) (Ev.now _)
        rw [spans_Make.l1, if_pos c1, if_pos c2, if_pos c1, hrd, tick_f]
        unfold tickB at t0'
        simp [t0']
  have k0 : ∀ (rest pre : List Sp), l = pre ++ rest → badA pre = false → Ev (fun k => spans_Make.l0 k l l (l.length : Int) (pre.length : Int)) (makeS l) := by
    intro rest
    induction rest with
    | nil =>
      intro pre h hA
      have hlp : l = pre := by rw [h]; simp
      rw [← hlp] at hA
      refine Ev.step (fun k => ?_) (k1 hA l [] rfl rfl)
      rw [spans_Make.l0, if_neg (by rw [h]; simp)]
      rfl
    | cons s r ih =>
      intro pre h hA
      have hlen : pre.length + 1 ≤ l.length := by rw [h]; simp
      have hrd : rd_T23 l (pre.length : Int) = s := by rw [h]; exact rd_mid _ _ _
      have hw := wrap_len pre s l.length hlen (by omega)
      have c1 : (pre.length : Int) < (l.length : Int) := by omega
      have c2 : (0 : Int) ≤ (pre.length : Int) := by omega
      by_cases e : s.f0 > s.f1
      · have : badA l = true := by rw [h]; simp [badA]; exact .inr (.inl e)
        have hms : makeS l = ([], 2) := by simp [makeS, this]
        rw [hms]
        refine Ev.step (f := fun _ => some ([], 2)) (fun k => ?_) (Ev.now _)
        rw [spans_Make.l0, if_pos c1, if_pos c2, if_pos c1, hrd, if_pos e]
      · refine Ev.step (fun k => ?_) (ih (pre ++ [s]) (by rw [h]; simp) (by have e2 : s.f0 ≤ s.f1 := by omega
                                                                            simp only [badA, List.any_append, List.any_cons, List.any_nil] at hA ⊢; simp [hA, e2]))
        rw [spans_Make.l0, if_pos c1, if_pos c2, if_pos c1, hrd, if_neg e, hw]
  exact k0 l [] rfl rfl

theorem makeS_spec (l : List Sp) : SL (-1099511627776) 1099511627776 (makeS l).1 ∧ ((makeS l).2 = 0 → ∀ x, hasL (makeS l).1 x = hasL l x) := by
  unfold makeS
  by_cases hA : badA l = true
  · rw [if_pos hA]; exact ⟨trivial, fun h => by simp at h⟩
  · rw [if_neg hA]
    have hA' : badA l = false := by simpa using hA
    by_cases hB : badB l = true
    · rw [if_pos hB]; exact ⟨trivial, fun h => by simp at h⟩
    · rw [if_neg hB]
      have hB' : badB l = false := by simpa using hB
      have hgood := good_of hA' hB'
      obtain ⟨h1, h2⟩ := glueAll_spec (lo := -1099511627776) (hi := 1099511627776) (sortSp l) [] trivial (fun s hs => hgood s ((sortSp_perm l).mem_iff.1 hs)) (by simp) (sortSp_sorted l)
      exact ⟨h1, fun _ x => by rw [h2, hasL_perm (sortSp_perm l)]; simp [hasL_nil]⟩

theorem refmake_ev (l : List Sp) (hl : l.length ≤ 100000000) : Ev (fun k => epactref02_Make.f k l) (makeS l) := by
  have k1 : badA l = false → ∀ (rest pre : List Sp), l = pre ++ rest → badB pre = false → Ev (fun k => epactref02_Make.l1 k l (pre.length : Int)) (makeS l) := by
    intro hA rest
    induction rest with
    | nil =>
      intro pre h hB
      have hlp : l = pre := by rw [h]; simp
      rw [← hlp] at hB
      have hgood := good_of hA hB
      obtain ⟨r, r1, r2, r3⟩ := refset_ev 1 (-1099511627776) 1099511627776 (by omega) (by omega) l [] hgood (by simp) (by simp; omega)
      obtain ⟨m1, m2⟩ := makeS_spec l
      have hms : (makeS l).2 = 0 := by simp [makeS, hA, hB]
      have hr : r = (makeS l).1 := SL.uniq r2 m1 (fun x => by rw [r3, m2 hms]; simp [kindOf, hasL_nil])
      have hpair : makeS l = (r, 0) := by rw [hr, ← hms]
      rw [hpair]
      refine Ev.step (f := fun k => (epactref02_Set.f k 1 l []).bind fun t => some (t, 0)) (fun k => ?_) (Ev.bind r1 (Ev.now _))
      rw [epactref02_Make.l1, if_neg (by rw [h]; simp)]
    | cons s r ih =>
      intro pre h hB
      have hlen : pre.length + 1 ≤ l.length := by rw [h]; simp
      have hrd : rd_T23 l (pre.length : Int) = s := by rw [h]; exact rd_mid _ _ _
      have hw := wrap_len pre s l.length hlen (by omega)
      have c1 : (pre.length : Int) < (l.length : Int) := by omega
      have c2 : (0 : Int) ≤ (pre.length : Int) := by omega
      have bad : (tickB s.f0 && tickB s.f1) = false → makeS l = ([], 20) := by
        intro hb
        have : badB l = true := by rw [h]; simp only [badB, List.any_append, List.any_cons, hb]; simp
        simp [makeS, hA, this]
      by_cases t : (tickB s.f0 && tickB s.f1) = true
      · refine Ev.step (fun k => ?_) (ih (pre ++ [s]) (by rw [h]; simp) (by simp only [badB, List.any_append, List.any_cons, List.any_nil, t] at hB ⊢; simpa using hB))
        simp [tickB] at t
        rw [epactref02_Make.l1, if_pos c1, if_pos c2, hrd, if_neg (by omega), if_neg (by omega), if_neg (by omega), if_neg (by omega), hw]
      · have t' : (tickB s.f0 && tickB s.f1) = false := by simpa using t
        rw [bad t']
        refine Ev.step (f := fun _ => some ([], 20)) (fun k => ?_) (Ev.now _)
        rw [epactref02_Make.l1, if_pos c1, if_pos c2, hrd]
        by_cases a1 : s.f0 < -1099511627776
        · rw [if_pos a1]
        · rw [if_neg a1]
          by_cases a2 : s.f1 > 1099511627776
          · rw [if_pos a2]
          · rw [if_neg a2]
            by_cases a3 : s.f0 > 1099511627776
            · rw [if_pos a3]
            · rw [if_neg a3]
              by_cases a4 : s.f1 < -1099511627776
              · rw [if_pos a4]
              · simp [tickB] at t; omega
  have k0 : ∀ (rest pre : List Sp), l = pre ++ rest → badA pre = false → Ev (fun k => epactref02_Make.l0 k l (pre.length : Int)) (makeS l) := by
    intro rest
    induction rest with
    | nil =>
      intro pre h hA
      have hlp : l = pre := by rw [h]; simp
      rw [← hlp] at hA
      refine Ev.step (fun k => ?_) (k1 hA l [] rfl rfl)
      rw [epactref02_Make.l0, if_neg (by rw [h]; simp)]
      rfl
    | cons s r ih =>
      intro pre h hA
      have hlen : pre.length + 1 ≤ l.length := by rw [h]; simp
      have hrd : rd_T23 l (pre.length : Int) = s := by rw [h]; exact rd_mid _ _ _
      have hw := wrap_len pre s l.length hlen (by omega)
      have c1 : (pre.length : Int) < (l.length : Int) := by omega
      have c2 : (0 : Int) ≤ (pre.length : Int) := by omega
      by_cases e : s.f0 > s.f1
      · have : badA l = true := by rw [h]; simp [badA]; exact .inr (.inl e)
        have hms : makeS l = ([], 2) := by simp [makeS, this]
        rw [hms]
        refine Ev.step (f := fun _ => some ([], 2)) (fun k => ?_) (Ev.now _)
        rw [epactref02_Make.l0, if_pos c1, if_pos c2, hrd, if_pos e]
      · refine Ev.step (fun k => ?_) (ih (pre ++ [s]) (by rw [h]; simp) (by have e2 : s.f0 ≤ s.f1 := by omega
                                                                            simp only [badA, List.any_append, List.any_cons, List.any_nil] at hA ⊢; simp [hA, e2]))
        rw [epactref02_Make.l0, if_pos c1, if_pos c2, hrd, if_neg e, hw]
  exact k0 l [] rfl rfl

end Go.Proofs.Ytmbmalkpmanaaaa.P

namespace Go.Proofs.Ytmbmalkpmanaaaa.P
set_option linter.unusedVariables false
set_option linter.unusedSimpArgs false
open Go.RowKit Go.Proofs.YtmbmalkpmanaaaaW.PrintWords

theorem ex_make : makeS [⟨5, 7⟩, ⟨1, 2⟩, ⟨3, 3⟩] = ([⟨1, 3⟩, ⟨5, 7⟩], 0) := by
  obtain ⟨h1, h2⟩ := makeS_spec [⟨5, 7⟩, ⟨1, 2⟩, ⟨3, 3⟩]
  have e : (makeS [⟨5, 7⟩, ⟨1, 2⟩, ⟨3, 3⟩]).2 = 0 := by simp [makeS, badA, badB, tickB]
  have e1 : (makeS [⟨5, 7⟩, ⟨1, 2⟩, ⟨3, 3⟩]).1 = [⟨1, 3⟩, ⟨5, 7⟩] := SL.uniq h1 (show SL 1 7 _ by simp [SL]) (fun x => by
    rw [h2 e, Bool.eq_iff_iff]; simp [hasL]; omega)
  exact Prod.ext e1 e
theorem ex_bad : makeS [⟨3, 2⟩] = ([], 2) := by simp [makeS, badA]
theorem ex_union : spans_Union.f [⟨1, 3⟩] [⟨4, 5⟩] = some [⟨1, 5⟩] := by
  obtain ⟨h1, h2⟩ := keptL_spec (fun a b => a || b) rfl (lo := 0) (hi := 100) (by omega) (by omega) (a := [⟨1, 3⟩]) (b := [⟨4, 5⟩]) (by simp [SL]) (by simp [SL])
  have : keptL (fun a b => a || b) [⟨1, 3⟩] [⟨4, 5⟩] = [⟨1, 5⟩] := SL.uniq h1 (show SL 0 100 _ by simp [SL]) (fun x => by
    rw [h2, Bool.eq_iff_iff]; simp [hasL]; omega)
  unfold spans_Union.f; rw [if_pos (by simp [many]), this]
theorem ex_cut : spans_Cut.f [⟨1, 9⟩] [⟨0, 2⟩, ⟨8, 12⟩] = some [⟨1, 2⟩, ⟨8, 9⟩] := by
  obtain ⟨h1, h2⟩ := keptL_spec (fun a b => a && b) rfl (lo := 0) (hi := 100) (by omega) (by omega) (a := [⟨1, 9⟩]) (b := [⟨0, 2⟩, ⟨8, 12⟩]) (by simp [SL]) (by simp [SL])
  have : keptL (fun a b => a && b) [⟨1, 9⟩] [⟨0, 2⟩, ⟨8, 12⟩] = [⟨1, 2⟩, ⟨8, 9⟩] := SL.uniq h1 (show SL 0 100 _ by simp [SL]) (fun x => by
    rw [h2, Bool.eq_iff_iff]; simp [hasL]; omega)
  unfold spans_Cut.f; rw [if_pos (by simp [many]), this]
theorem ex_less : spans_Less.f [⟨1, 9⟩] [⟨0, 2⟩, ⟨8, 12⟩] = some [⟨3, 7⟩] := by
  obtain ⟨h1, h2⟩ := keptL_spec (fun a b => a && !b) rfl (lo := 0) (hi := 100) (by omega) (by omega) (a := [⟨1, 9⟩]) (b := [⟨0, 2⟩, ⟨8, 12⟩]) (by simp [SL]) (by simp [SL])
  have : keptL (fun a b => a && !b) [⟨1, 9⟩] [⟨0, 2⟩, ⟨8, 12⟩] = [⟨3, 7⟩] := SL.uniq h1 (show SL 0 100 _ by simp [SL]) (fun x => by
    rw [h2, Bool.eq_iff_iff]; simp [hasL]; omega)
  unfold spans_Less.f; rw [if_pos (by simp [many]), this]
theorem of_at {l : List Int} {r : List Sp} (h : epactlaw02_of.f 20 l = some r) : Ev (fun k => epactlaw02_of.f k l) r := Ev.of (epactlaw02_of.mono l) h
theorem is_at {l : List Sp} {m : List Int} {r : Bool} (h : epactlaw02_is.f 20 l m = some r) : Ev (fun k => epactlaw02_is.f k l m) r := Ev.of (epactlaw02_is.mono l m) h
theorem Ev.yes {α : Type} {c : Prop} [Decidable c] {g f : Nat → Option α} {r : α} (h : c) (k : Ev g r) : Ev (fun n => if c then g n else f n) r := Ev.congr (fun n => if_pos h) k
theorem Ev.no {α : Type} {c : Prop} [Decidable c] {g f : Nat → Option α} {r : α} (h : ¬ c) (k : Ev f r) : Ev (fun n => if c then g n else f n) r := Ev.congr (fun n => if_neg h) k
theorem Ev.val {α : Type} {g : Option α} {r : α} (h : g = some r) : Ev (fun _ => g) r := ⟨0, fun _ _ => h⟩

theorem SL.len2 {hi : Int} : ∀ {l : List Sp} {lo : Int}, lo ≤ hi + 2 → SL lo hi l → 2 * (l.length : Int) ≤ hi + 2 - lo
  | [], lo, h, _ => by simp; omega
  | s :: r, lo, h, hs => by
    obtain ⟨h1, h2, h3, h4⟩ := hs
    have := SL.len2 (by omega) h4
    simp only [List.length_cons]; omega
theorem SL.len_le {l : List Sp} (h : SL (-1099511627776) 1099511627776 l) : l.length ≤ 2199023255552 := by have := SL.len2 (by omega) h; omega

theorem awake2_ev : Ev (fun k => epactlaw02_awake.f k) true := by
  unfold epactlaw02_awake.f
  refine Ev.bind (of_at (r := [⟨5, 7⟩, ⟨1, 2⟩, ⟨3, 3⟩]) (by with_unfolding_all rfl)) ?_
  refine Ev.bind (a := ([⟨1, 3⟩, ⟨5, 7⟩], 0)) (by have := make_ev [⟨5, 7⟩, ⟨1, 2⟩, ⟨3, 3⟩] (by simp); rwa [ex_make] at this) ?_
  refine Ev.bind (of_at (r := [⟨3, 2⟩]) (by with_unfolding_all rfl)) ?_
  refine Ev.bind (a := ([], 2)) (by have := make_ev [⟨3, 2⟩] (by simp); rwa [ex_bad] at this) ?_
  refine Ev.bind (of_at (r := [⟨1, 9⟩]) (by with_unfolding_all rfl)) ?_
  refine Ev.bind (of_at (r := [⟨0, 2⟩, ⟨8, 12⟩]) (by with_unfolding_all rfl)) ?_
  refine Ev.bind (of_at (r := [⟨1, 2⟩, ⟨5, 7⟩]) (by with_unfolding_all rfl)) ?_
  refine Ev.bind (a := (1, 7, true)) (Ev.val (by with_unfolding_all rfl)) ?_
  refine Ev.bind (of_at (r := [⟨5, 7⟩]) (by with_unfolding_all rfl)) ?_
  refine Ev.bind (a := ([⟨0, 2⟩], 0)) (Ev.of (spans_Move.mono _ _) (k := 20) (by with_unfolding_all rfl)) ?_
  refine Ev.yes rfl (Ev.yes rfl (Ev.yes rfl (Ev.yes rfl ?_)))
  refine Ev.bind (is_at (r := true) (by with_unfolding_all rfl)) (Ev.yes rfl ?_)
  refine Ev.bind (of_at (r := [⟨1, 3⟩]) (by with_unfolding_all rfl)) ?_
  refine Ev.bind (of_at (r := [⟨4, 5⟩]) (by with_unfolding_all rfl)) ?_
  refine Ev.bind (Ev.val ex_union) ?_
  refine Ev.bind (is_at (r := true) (by with_unfolding_all rfl)) (Ev.yes rfl ?_)
  refine Ev.bind (Ev.val ex_cut) ?_
  refine Ev.bind (is_at (r := true) (by with_unfolding_all rfl)) (Ev.yes rfl ?_)
  refine Ev.bind (Ev.val ex_less) ?_
  refine Ev.bind (is_at (r := true) (by with_unfolding_all rfl)) (Ev.yes rfl ?_)
  refine Ev.yes rfl ?_
  refine Ev.bind (of_at (r := [⟨1, 2⟩, ⟨5, 7⟩]) (by with_unfolding_all rfl)) ?_
  refine Ev.bind (a := 5) (Ev.of (spans_Count.mono _) (k := 20) (by with_unfolding_all rfl)) (Ev.yes rfl ?_)
  exact Ev.bind (is_at (r := true) (by with_unfolding_all rfl)) (Ev.now _)
end Go.Proofs.Ytmbmalkpmanaaaa.P

namespace Go.Proofs.Ytmbmalkpmanaaaa.P
open Go.RowKit Go.Proofs.YtmbmalkpmanaaaaW.PrintWords Go.Proofs.YtmbmalkpmanaaaaW.PrintLast Go.Proofs.YtmbmalkpmanaaaaW.PrintMore
attribute [local go_sem] max2_int min2_int max_two min_two max_three min_three max_four min_four   -- for this text's walks alone
set_option linter.unusedVariables false
set_option linter.unusedSimpArgs false

def epactlaw02_made.f (k : Nat) (l0 : List (S23)) : Option ((List (S23))) := if 0 ≤ (mn (l0.length : Int) 40) then (if (mn (l0.length : Int) 40) ≤ (l0.length : Int) then ((spans_Make.f k (l0.take ((mn (l0.length : Int) 40) : Int).toNat)).bind fun bt377 => (some bt377.1)) else (none)) else (none)
theorem epactlaw02_made.mono : ∀ a0 k, LeO (epactlaw02_made.f k a0) (epactlaw02_made.f (k + 1) a0) := by
 intro a0 k
 unfold epactlaw02_made.f
 repeat' first
   | (with_reducible exact spans_Make.mono _ _)
   | (with_reducible exact LeO.refl _)
   | (with_reducible exact LeO.none _)
   | (with_reducible refine LeO.ite ?_ ?_)
   | (with_reducible refine LeO.bind ?_ (fun _ => ?_))
   | exact spans_Make.mono _ _
   | exact LeO.none _
   | refine LeO.ite ?_ ?_
   | refine LeO.bind ?_ (fun _ => ?_)
set_option maxHeartbeats 8000000 in
set_option maxRecDepth 100000 in
theorem epactlaw02_made.calls (k : Nat) (A0 : Option Addr) (c0 : Nat) (l0 : List (S23)) (r : List (S23)) (w : World) (hr0 : Kd.C k23 w A0 l0.length l0) (hc0 : l0.length ≤ c0) (h : epactlaw02_made.f k l0 = some r) :
  Calls Try.prog 33 #[.slice A0 l0.length c0] w fun e w' => ∃ v0_ : Value, e = .returned (v0_) ∧ Kd.R k23 23 w' w.heap.size (fun _ => True) v0_ r ∧ Below w.heap.size w w' := by
 have HR0 := Aside0.mk hr0
 have HC0 := Aside0.mk hc0
 clear hr0 hc0
 have HB := Aside0.mk (Below.refl w.heap.size w)
 have H : (if 0 ≤ (mn (l0.length : Int) 40) then (if (mn (l0.length : Int) 40) ≤ (l0.length : Int) then ((spans_Make.f k (l0.take ((mn (l0.length : Int) 40) : Int).toNat)).bind fun bt377 => (some bt377.1)) else (none)) else (none)) = some r := h
 clear h
 obtain ⟨ji2, hji2⟩ : ∃ j_ : Int, (mn (l0.length : Int) 40) = j_ := ⟨_, rfl⟩
 replace H : (if 0 ≤ (ji2) then (if (ji2) ≤ (l0.length : Int) then ((spans_Make.f k (l0.take ((ji2) : Int).toNat)).bind fun bt377 => (some bt377.1)) else (none)) else (none)) = some r := by first | (rw [hji2] at H; exact H) | (simp only [hji2] at H ⊢; exact H)
 (try (have hji2h : ji2 ≤ 40 := by (rw [← hji2]; unfold mn; (repeat' split) <;> omega)))
 (try (have hji2g : ji2 ≤ 64 := by omega))
 (try (have hji2l : 0 ≤ ji2 := by (rw [← hji2]; unfold mn; (repeat' split) <;> omega)))
 (try (have hji2m : 0 ≤ ji2 := by omega))
 have hji2_ : (if 40 < (l0.length : Int) then 40 else (l0.length : Int)) = ji2 := hji2
 by_cases c3 : 0 ≤ (ji2)
 ·
  rw [if_pos c3] at H
  have c3b0 := eq_true c3
  have c3b1 : decide (0 ≤ (ji2)) = true := decide_eq_true c3
  clear c3
  by_cases c4 : (ji2) ≤ (l0.length : Int)
  ·
   rw [if_pos c4] at H
   have c4b0 := eq_true c4
   have c4b1 : decide ((ji2) ≤ (l0.length : Int)) = true := decide_eq_true c4
   clear c4
   obtain ⟨y373, hy373⟩ : ∃ y_ : List (S23), y_ = (l0.take ((ji2) : Int).toNat) := ⟨_, rfl⟩
   replace H : ((spans_Make.f k y373).bind fun bt377 => (some bt377.1)) = some r := by first | (rw [hy373]; with_reducible exact H) | (have H2_ := (Option.bind_some _ _).symm.trans H; rw [hy373]; with_reducible exact H2_) | (have H2_ := (Option.bind_some _ _).symm.trans H; with_reducible exact H2_) | with_reducible exact H | (rw [hy373]; exact H) | exact H
   have Ny373 := Aside0.mk hy373
   clear hy373
   replace H := Option.bind_eq_some_iff.mp H
   obtain ⟨⟨t377, t378⟩, A50, H⟩ := H
   replace H : (some t377) = some r := H
   have A5 := Aside0.mk A50
   clear A50
   obtain rfl := Option.some.inj H
   have q6 : ((ji2) : Int) ≤ ((l0.length : Int) : Int) := of_decide_eq_true (by first | (with_reducible assumption) | assumption)
   obtain ⟨i06, hi06, _, hsz6, _⟩ := info_parts info23
   have hroom6 : l0.length ≤ c0 := HC0.out
   have hC6 : Kd.C k23 _ A0 l0.length l0 := HR0.out
   have hcut6 := cut_to (P := Try.prog) 24 23 .i64 Try.underlying24 hi06 A0 l0.length c0 (ji2) (of_decide_eq_true (by first | (with_reducible assumption) | assumption)) q6 hroom6
   have hr6 := Kd.C_take (m := ((ji2) : Int).toNat) hC6 (by omega)
   have hy6 : y373.length = ((ji2) : Int).toNat := (by rw [Ny373.out, List.length_take]; omega)
   rw [← Ny373.out] at hr6
   rw [← hy6] at hcut6
   have HR376 := Aside0.mk hr6
   have HC376 := Aside0.mk (show y373.length ≤ c0 from by omega)
   clear hr6 hC6 hroom6 hi06 hsz6
   have KY6 := Aside0.mk hy6
   clear hy6
   replace q6 := eq_true q6
   go_enter Try.func33, Try.ntmps33
   go_wp2_with (first | ((with_reducible refine gate_callee (f := 28) rfl ?_); refine goesL_ (some 11) rfl rfl Try.func28 (by kernel_rfl) rfl #[.slice A0 y373.length c0] rfl (by (try simp only [List.map_toArray, List.map_cons, List.map_nil]); first | done | rfl | (simp only [List.length_drop, List.length_take]; rfl)) ?_; (with_reducible refine (spans_Make.calls k _ _ y373 t377 t378 _ ?side1 ?side2 A5.out).mono ?_); (case side1 => repeat (first | exact HR376.out | (with_reducible refine Kd.C_alloc ?_ _) | (with_reducible refine Kd.C_drewN ?_ _) | (with_reducible refine Kd.C_drew ?_))); (case side2 => exact HC376.out); rintro e w7 ⟨v379, rfl, ho0, hb⟩; refine ⟨_, rfl, ?_⟩; have n0_ := Aside0.mk (Kd.R_lower ho0 (below_size (by repeat (first | (with_reducible first | exact HB.out | apply below_alloc | apply pw_below_drewN | apply below_drew1) | exact HB.out)))); have n1_ := Aside0.mk (below_step (by repeat (first | (with_reducible first | exact HB.out | apply below_alloc | apply pw_below_drewN | apply below_drew1) | exact HB.out)) hb); clear HB; have HO380 := n0_; have HB := n1_; clear n0_ n1_; (try clear hb); (try clear hb2); (try clear hk); (try clear hi); (try clear ho0)))
   go_ret
   exact ⟨_, by first | rfl | (simp [errW_none, errW_some] <;> rfl) | (simp only [← hji2]; first | rfl | (simp [errW_none, errW_some] <;> rfl)) | (simp [*, errW_none, errW_some] <;> rfl), by (with_reducible repeat (first | apply Kd.R_alloc | apply Kd.R_drewN | apply Kd.R_drew)); exact HO380.out, by repeat (first | (with_reducible first | exact HB.out | apply below_alloc | apply pw_below_drewN | apply below_drew1) | exact HB.out)⟩
  ·
   rw [if_neg c4] at H
   exact absurd H (by simp)
 ·
  rw [if_neg c3] at H
  exact absurd H (by simp)

end Go.Proofs.Ytmbmalkpmanaaaa.P

namespace Go.Proofs.Ytmbmalkpmanaaaa.P
set_option linter.unusedVariables false
set_option linter.unusedSimpArgs false
open Go.RowKit Go.Proofs.YtmbmalkpmanaaaaW.PrintWords

theorem rd_get (l : List Sp) (j : Nat) (h : j < l.length) : rd_T23 l (j : Int) = l[j] := by simp [rd_T23, h]

def hullS (l : List Sp) : Int × Int × Bool :=
  match l.head?, l.getLast? with
  | some s, some z => (s.f0, z.f1, true)
  | _, _ => (0, 0, false)
def aheadS (a b : List Sp) : Bool :=
  match a.getLast?, b.head? with
  | some z, some s => decide (z.f1 < s.f0)
  | _, _ => true

theorem rd_last (p : List Sp) (z : Sp) (h : (p ++ [z]).length ≤ 4611686018427387904) : wrap64 (((p ++ [z]).length : Int) - 1) = (p.length : Int) ∧ rd_T23 (p ++ [z]) (p.length : Int) = z := by
  refine ⟨wrap_pred p z _ (by simp) (by omega : (p ++ [z]).length ≤ 9223372036854775807), rd_mid p [] z⟩

theorem hull_f (l : List Sp) (h : l.length ≤ 4611686018427387904) : spans_Hull.f l = some (hullS l) := by
  rcases List.eq_nil_or_concat l with rfl | ⟨p, z, rfl⟩
  · simp [spans_Hull.f, hullS]
  · have e : p.concat z = p ++ [z] := by simp
    rw [e] at h ⊢
    obtain ⟨w, r⟩ := rd_last p z h
    unfold spans_Hull.f
    rw [if_neg (by simp only [List.length_append, List.length_singleton]; omega), if_pos (by simp only [List.length_append, List.length_singleton]; omega), w, if_pos (by omega), if_pos (by simp only [List.length_append, List.length_singleton]; omega), r]
    have hg : (p ++ [z]).getLast? = some z := by simp
    unfold hullS; rw [hg]
    cases p <;> simp [rd_T23]

theorem ahead_f (a b : List Sp) (h : a.length ≤ 4611686018427387904) : spans_Ahead.f a b = some (aheadS a b) := by
  rcases List.eq_nil_or_concat a with rfl | ⟨p, z, rfl⟩
  · simp [spans_Ahead.f, aheadS]
  · have e : p.concat z = p ++ [z] := by simp
    rw [e] at h ⊢
    obtain ⟨w, r⟩ := rd_last p z h
    unfold spans_Ahead.f
    rw [if_neg (by simp only [List.length_append, List.length_singleton]; omega)]
    cases b with
    | nil => simp [aheadS]
    | cons s q =>
      rw [if_neg (by simp; omega), w, if_pos (by omega), if_pos (by simp only [List.length_append, List.length_singleton]; omega), if_pos (by simp), r]
      simp [aheadS, rd_T23]

theorem SL.rise {hi : Int} : ∀ {l : List Sp} {lo : Int}, SL lo hi l → ∀ i j (hj : j < l.length) (hij : i < j), (l[i]'(by omega)).f1 + 2 ≤ l[j].f0
  | [], _, _, _, _, hj, _ => by simp at hj
  | s :: r, lo, h, 0, j + 1, hj, _ => by
    have := (SL.ticks h.2.2.2 (List.getElem_mem (by simpa using hj : j < r.length))).1
    simpa using this
  | s :: r, lo, h, i + 1, j + 1, hj, hij => by
    have := SL.rise h.2.2.2 i j (by simpa using hj) (by omega)
    simpa using this
theorem SL.get {lo hi : Int} {l : List Sp} (h : SL lo hi l) (j : Nat) (hj : j < l.length) : lo ≤ l[j].f0 ∧ l[j].f0 ≤ l[j].f1 ∧ l[j].f1 ≤ hi := SL.ticks h (List.getElem_mem hj)

theorem mid_of (lo hi : Nat) (h : hi ≤ 4611686018427387903) (hl : lo ≤ hi) : wrap64 ((IntKind.u64.wrap (wrap64 ((lo : Int) + (hi : Int)))) / 2) = (((lo + hi) / 2 : Nat) : Int) := by
  rw [wrap_ok (n := (lo : Int) + hi) (by omega) (by omega)]
  have : IntKind.u64.wrap ((lo : Int) + hi) = (lo : Int) + hi := by
    simp only [IntKind.wrap, IntKind.bits, IntKind.signed]
    simp
    omega
  rw [this, wrap_ok (by omega) (by omega)]
  omega

theorem has1_f (a b x : Int) : spans_Has_1.f a b x = some (if b < x then -1 else if a > x then 1 else 0) := by
  unfold spans_Has_1.f
  split
  · rfl
  · split <;> rfl

theorem search_ev {lb ub : Int} (l : List Sp) (x : Int) (hs : SL lb ub l) (hn : l.length ≤ 4611686018427387903) : ∃ r, Ev (fun k => api_Span_int.f k l x) r ∧ (decide (r.1 < (l.length : Int)) && r.2) = hasL l x := by
  have key : ∀ (d lo hi : Nat), hi - lo = d → lo ≤ hi → hi ≤ l.length → (∀ j (hj : j < l.length), j < lo → l[j].f1 < x) → (∀ j (hj : j < l.length), hi ≤ j → x ≤ l[j].f1) →
      ∃ r, Ev (fun k => api_Span_int.l0 k l x (l.length : Int) (lo : Int) (hi : Int)) r ∧ (decide (r.1 < (l.length : Int)) && r.2) = hasL l x := by
    intro d
    induction d using Nat.strongRecOn with
    | ind d ih =>
      intro lo hi hd hle hhn hlow hhigh
      by_cases hlt : lo < hi
      · have c1 : (lo : Int) < (hi : Int) := by omega
        have hm := mid_of lo hi (by omega) hle
        have hmid : (lo + hi) / 2 < l.length := by omega
        have hrd := rd_get l ((lo + hi) / 2) hmid
        by_cases t : l[(lo + hi) / 2].f1 < x
        · obtain ⟨r, r1, r2⟩ := ih (hi - ((lo + hi) / 2 + 1)) (by omega) ((lo + hi) / 2 + 1) hi rfl (by omega) hhn (fun j hj h => by
            rcases Nat.lt_or_ge j ((lo + hi) / 2) with g | g
            · have := SL.rise hs j _ hmid g
              have := (SL.get hs _ hmid).2.1
              omega
            · have : j = (lo + hi) / 2 := by omega
              subst this; exact t) hhigh
          refine ⟨r, Ev.step (fun k => ?_) r1, r2⟩
          have hw : wrap64 ((((lo + hi) / 2 : Nat) : Int) + 1) = (((lo + hi) / 2 + 1 : Nat) : Int) := by rw [wrap_ok (by omega) (by omega)]; simp
          rw [api_Span_int.l0, if_pos c1, hm, if_pos (by omega), if_pos (by omega), hrd, has1_f, if_pos t, Option.bind_some, if_pos (by omega), hw]
        · obtain ⟨r, r1, r2⟩ := ih ((lo + hi) / 2 - lo) (by omega) lo ((lo + hi) / 2) rfl (by omega) (by omega) hlow (fun j hj h => by
            rcases Nat.lt_or_ge ((lo + hi) / 2) j with g | g
            · have := SL.rise hs _ j hj g
              have := (SL.get hs _ hj).2.1
              omega
            · have : j = (lo + hi) / 2 := by omega
              subst this; omega)
          refine ⟨r, Ev.step (fun k => ?_) r1, r2⟩
          have hneg : ¬ (if l[(lo + hi) / 2].f1 < x then (-1 : Int) else if l[(lo + hi) / 2].f0 > x then 1 else 0) < 0 := by rw [if_neg t]; split <;> omega
          rw [api_Span_int.l0, if_pos c1, hm, if_pos (by omega), if_pos (by omega), hrd, has1_f, Option.bind_some, if_neg hneg]
      · have he : lo = hi := by omega
        subst he
        by_cases hlast : lo < l.length
        · refine ⟨((lo : Int), decide (¬ (l[lo].f0 > x))), Ev.step (f := fun _ => some ((lo : Int), decide (¬ (l[lo].f0 > x)))) (fun k => ?_) (Ev.now _), ?_⟩
          · have hx := hhigh lo hlast (by omega)
            rw [api_Span_int.l0, if_neg (by omega), if_pos (by omega), if_pos (by omega), if_pos (by omega), rd_get l lo hlast, has1_f, if_neg (by omega), Option.bind_some]
            by_cases g : l[lo].f0 > x
            · simp [g]
            · simp [g]
          · have hx := hhigh lo hlast (by omega)
            rw [Bool.eq_iff_iff]
            simp only [Bool.and_eq_true, decide_eq_true_eq, hasL_true]
            constructor
            · rintro ⟨_, h⟩
              exact ⟨l[lo], List.getElem_mem hlast, by omega, hx⟩
            · rintro ⟨s, hmem, h1, h2⟩
              obtain ⟨j, hj, rfl⟩ := List.getElem_of_mem hmem
              refine ⟨by omega, ?_⟩
              rcases Nat.lt_or_ge j lo with g | g
              · have := hlow j hj g; omega
              · rcases Nat.lt_or_ge lo j with g2 | g2
                · have := SL.rise hs _ j hj g2
                  have := (SL.get hs _ hlast).2.1
                  omega
                · have : j = lo := by omega
                  subst this; omega
        · have hl : lo = l.length := by omega
          refine ⟨((lo : Int), false), Ev.step (f := fun _ => some ((lo : Int), false)) (fun k => ?_) (Ev.now _), ?_⟩
          · rw [api_Span_int.l0, if_neg (by omega), if_neg (by omega)]
          · rw [Bool.and_false, eq_comm, Bool.eq_false_iff]
            intro h
            obtain ⟨s, hmem, h1, h2⟩ := hasL_true.1 h
            obtain ⟨j, hj, rfl⟩ := List.getElem_of_mem hmem
            have := hlow j hj (by omega)
            omega
  exact key _ 0 l.length rfl (by omega) (by omega) (by intro j _ h; omega) (by intro j hj h; omega)

theorem has_ev {lb ub : Int} (l : List Sp) (x : Int) (hs : SL lb ub l) (hn : l.length ≤ 4611686018427387903) : Ev (fun k => spans_Has.f k l x) (hasL l x) := by
  obtain ⟨r, r1, r2⟩ := search_ev l x hs hn
  refine Ev.bind r1 ?_
  rw [← r2]
  by_cases h : r.2 = true
  · refine Ev.yes h ?_
    rw [h, Bool.and_true]; exact Ev.now _
  · refine Ev.no h ?_
    rw [Bool.eq_false_iff.2 h, Bool.and_false]; exact Ev.now _

theorem glueAll_len : ∀ (l out : List Sp), (l.foldl glue out).length ≤ out.length + l.length
  | [], out => by simp
  | s :: r, out => by
    have h1 := glueAll_len r (glue out s)
    have h2 := glue_len out s
    simp only [List.foldl_cons, List.length_cons]; omega
theorem makeS_len (l : List Sp) : (makeS l).1.length ≤ l.length := by
  unfold makeS
  split
  · simp
  · split
    · simp
    · have := glueAll_len (sortSp l) []
      rw [sortSp_len] at this; simpa using this

theorem kept_SL (yes : Bool → Bool → Bool) (hy : yes false false = false) {a b : List Sp} (ha : SL (-1099511627776) 1099511627776 a) (hb : SL (-1099511627776) 1099511627776 b) :
    SL (-1099511627776) 1099511627776 (keptL yes a b) ∧ ∀ x, hasL (keptL yes a b) x = yes (hasL a x) (hasL b x) := keptL_spec yes hy (by omega) (by omega) ha hb
end Go.Proofs.Ytmbmalkpmanaaaa.P

namespace Go.Proofs.Ytmbmalkpmanaaaa.P
set_option linter.unusedVariables false
set_option linter.unusedSimpArgs false
open Go.RowKit Go.Proofs.YtmbmalkpmanaaaaW.PrintWords

theorem same_ev (l m : List Sp) (hl : l.length ≤ 4611686018427387904) : Ev (fun k => spans_Same.f k l m) (alikeB l m) := by
  have fin : Ev (fun k => api_Span.f k l m) (alikeB l m) := by
    by_cases hlm : l.length = m.length
    · have key : ∀ (r q p u : List Sp), l = p ++ r → m = u ++ q → p.length = u.length → Ev (fun k => api_Span.l0 k l m (l.length : Int) (p.length : Int)) (alikeB r q) := by
        intro r
        induction r with
        | nil =>
          intro q p u h1 h2 h3
          have hq : q = [] := by
            have : q.length = 0 := by have a := congrArg List.length h1; have b := congrArg List.length h2; simp at a b; omega
            exact List.eq_nil_of_length_eq_zero this
          subst hq
          refine Ev.step (f := fun _ => some true) (fun k => ?_) (Ev.now _)
          rw [api_Span.l0, if_neg (by rw [h1]; simp)]
        | cons s r ih =>
          intro q p u h1 h2 h3
          cases q with
          | nil => have a := congrArg List.length h1; have b := congrArg List.length h2; simp at a b; omega
          | cons t q =>
            have hlen : p.length + 1 ≤ l.length := by rw [h1]; simp
            have hrd : rd_T23 l (p.length : Int) = s := by rw [h1]; exact rd_mid _ _ _
            have hrm : rd_T23 m (p.length : Int) = t := by rw [h2, h3]; exact rd_mid _ _ _
            have hw := wrap_len p s l.length hlen (by omega)
            have c1 : (p.length : Int) < (l.length : Int) := by omega
            have c2 : (0 : Int) ≤ (p.length : Int) := by omega
            have c3 : (p.length : Int) < (m.length : Int) := by omega
            by_cases e : s.f0 = t.f0 ∧ s.f1 = t.f1
            · have : alikeB (s :: r) (t :: q) = alikeB r q := by simp [alikeB, e]
              rw [this]
              refine Ev.step (fun k => ?_) (ih q (p ++ [s]) (u ++ [t]) (by rw [h1]; simp) (by rw [h2]; simp) (by simp [h3]))
              rw [api_Span.l0, if_pos c1, if_pos c2, if_pos c1, if_pos c3, hrd, hrm, if_neg (by simp [e]), hw]
            · refine Ev.step (f := fun _ => some (alikeB (s :: r) (t :: q))) (fun k => ?_) (Ev.now _)
              rw [api_Span.l0, if_pos c1, if_pos c2, if_pos c1, if_pos c3, hrd, hrm]
              have e2 : alikeB (s :: r) (t :: q) = false := by
                rw [Bool.eq_false_iff]; intro h; simp [alikeB] at h; exact e h.1
              rw [if_pos (by by_cases a : s.f0 = t.f0 <;> by_cases b : s.f1 = t.f1 <;> simp [a, b] <;> exact e ⟨a, b⟩), e2]
      refine Ev.congr (fun k => ?_) (key l m [] [] rfl rfl rfl)
      simp only [api_Span.f]
      rw [if_pos (by omega)]
      rfl
    · rw [alikeB_len hlm]
      refine Ev.congr (fun k => ?_) (Ev.now _)
      simp only [api_Span.f]
      rw [if_neg (by omega)]
  unfold spans_Same.f
  exact Ev.bind fin (Ev.now _)

def cntL : List Sp → Int
  | [] => 0
  | s :: r => (s.f1 - s.f0 + 1) + cntL r
theorem cntL_append (a b : List Sp) : cntL (a ++ b) = cntL a + cntL b := by
  induction a with
  | nil => simp [cntL]
  | cons s r ih => simp [cntL, ih]; omega
theorem cntL_le {hi : Int} : ∀ {l : List Sp} {lo : Int}, lo ≤ hi + 2 → SL lo hi l → 0 ≤ cntL l ∧ cntL l ≤ hi + 2 - lo
  | [], lo, h, _ => by simp [cntL]; omega
  | s :: r, lo, h, hs => by
    obtain ⟨h1, h2, h3, h4⟩ := hs
    have := cntL_le (by omega) h4
    simp only [cntL]; omega
theorem SL.front {lo hi : Int} {p r : List Sp} (h : SL lo hi (p ++ r)) : SL lo hi p := by
  induction p generalizing lo with
  | nil => trivial
  | cons s p ih => exact ⟨h.1, h.2.1, h.2.2.1, ih h.2.2.2⟩

theorem count_ev (l : List Sp) (hs : SL (-1099511627776) 1099511627776 l) : Ev (fun k => spans_Count.f k l) (cntL l) := by
  have hl := SL.len_le hs
  have key : ∀ (rest pre : List Sp), l = pre ++ rest → Ev (fun k => spans_Count.l0 k (cntL pre) l (l.length : Int) (pre.length : Int)) (cntL l) := by
    intro rest
    induction rest with
    | nil =>
      intro pre hp
      have : l = pre := by rw [hp]; simp
      refine Ev.step (f := fun _ => some (cntL l)) (fun k => ?_) (Ev.now _)
      rw [spans_Count.l0, if_neg (by rw [hp]; simp), this]
    | cons s r ih =>
      intro pre hp
      have hlen : pre.length + 1 ≤ l.length := by rw [hp]; simp
      have hrd : rd_T23 l (pre.length : Int) = s := by rw [hp]; exact rd_mid _ _ _
      have hw := wrap_len pre s l.length hlen (by omega)
      have c1 : (pre.length : Int) < (l.length : Int) := by omega
      have c2 : (0 : Int) ≤ (pre.length : Int) := by omega
      have hp2 : l = (pre ++ [s]) ++ r := by rw [hp]; simp
      have hc := cntL_le (by omega) (SL.front (hp ▸ hs) : SL _ _ pre)
      have hc2 := cntL_le (by omega) (SL.front (hp2 ▸ hs) : SL _ _ (pre ++ [s]))
      have ht := SL.ticks hs (s := s) (by rw [hp]; simp)
      have hcs : cntL (pre ++ [s]) = cntL pre + (s.f1 - s.f0 + 1) := by rw [cntL_append]; simp [cntL]
      have hw1 : wrap64 (cntL pre + wrap64 (wrap64 (s.f1 - s.f0) + 1)) = cntL (pre ++ [s]) := by
        rw [wrap_ok (n := s.f1 - s.f0) (by omega) (by omega), wrap_ok (n := s.f1 - s.f0 + 1) (by omega) (by omega), wrap_ok (by omega) (by omega), hcs]
      refine Ev.step (fun k => ?_) (ih (pre ++ [s]) hp2)
      rw [spans_Count.l0, if_pos c1, if_pos c2, if_pos c1, hrd, hw1, hw]
  exact key l [] rfl

theorem kept_len (yes : Bool → Bool → Bool) (a b : List Sp) : (keptL yes a b).length ≤ 2 * a.length + 2 * b.length := by
  have h1 := kfold_len yes (bords a false b false)
  have h2 := bords_len _ a false b false (Nat.le_refl _)
  unfold keptL
  have h3 : msr a false + msr b false ≤ 2 * a.length + 2 * b.length := by unfold msr; simp
  omega
theorem union_f (a b : List Sp) (h : a.length + b.length ≤ 1000000) : spans_Union.f a b = some (keptL (fun a b => a || b) a b) := by unfold spans_Union.f; rw [if_pos (by unfold many; omega)]
theorem cut_f (a b : List Sp) (h : a.length + b.length ≤ 1000000) : spans_Cut.f a b = some (keptL (fun a b => a && b) a b) := by unfold spans_Cut.f; rw [if_pos (by unfold many; omega)]
theorem less_f (a b : List Sp) (h : a.length + b.length ≤ 1000000) : spans_Less.f a b = some (keptL (fun a b => a && !b) a b) := by unfold spans_Less.f; rw [if_pos (by unfold many; omega)]
theorem meet_f2 (a b : List Sp) (h : a.length + b.length ≤ 1000000) : spans_Meet.f a b = some (decide ((keptL (fun a b => a && b) a b) ≠ [])) := by
  unfold spans_Meet.f; rw [cut_f a b h, Option.bind_some]
  cases keptL (fun a b => a && b) a b with
  | nil => rfl
  | cons x r => simp
theorem within_f (a b : List Sp) (h : a.length + b.length ≤ 1000000) : spans_Within.f a b = some (decide ((keptL (fun a b => a && !b) a b) = [])) := by
  unfold spans_Within.f; rw [less_f a b h, Option.bind_some]
  cases keptL (fun a b => a && !b) a b with
  | nil => rfl
  | cons x r =>
    have : ¬ ((r.length : Int) + 1 = 0) := by omega
    simp [this]
end Go.Proofs.Ytmbmalkpmanaaaa.P

namespace Go.Proofs.Ytmbmalkpmanaaaa.P
set_option linter.unusedVariables false
set_option linter.unusedSimpArgs false
open Go.RowKit Go.Proofs.YtmbmalkpmanaaaaW.PrintWords

def shiftS (n : Int) (s : Sp) : Sp := ⟨s.f0 + n, s.f1 + n⟩
def okT (x : Int) : Bool := decide (-1099511627776 ≤ x) && decide (x ≤ 1099511627776)
def okM (n : Int) (s : Sp) : Bool := okT (s.f0 + n) && okT (s.f1 + n)
def moveS (n : Int) (l : List Sp) : List Sp × Int := if l.all (okM n) then (l.map (shiftS n), 0) else ([], 20)

theorem add_fits (a n : Int) (h1 : -9223372036854775808 ≤ a + n) (h2 : a + n ≤ 9223372036854775807) : safe_Add.f a n = some (a + n, 0) := by
  unfold safe_Add.f
  rw [wrap_ok h1 h2]
  have e : ((decide ((a + n) > a)) != (decide (n > 0))) = false := by
    by_cases h : n > 0
    · have : a < a + n := by omega
      simp [h, this]
    · have : a + n ≤ a := by omega
      simp [h, this]
  rw [e]; rfl
theorem add_not (a n : Int) (ha : -1099511627776 ≤ a ∧ a ≤ 1099511627776) (hn : -9223372036854775808 ≤ n ∧ n ≤ 9223372036854775807) (h : ¬ (-9223372036854775808 ≤ a + n ∧ a + n ≤ 9223372036854775807)) : safe_Add.f a n = some (0, 10) := by
  unfold safe_Add.f
  have e : ((decide (wrap64 (a + n) > a)) != (decide (n > 0))) = true := by
    by_cases g : n > 0
    · have : ¬ wrap64 (a + n) > a := by unfold wrap64; omega
      simp [g, this]
    · have : wrap64 (a + n) > a := by unfold wrap64; omega
      simp [g, this]
  rw [e, if_pos rfl, if_neg (by omega)]

theorem move_ev (l : List Sp) (n : Int) (hs : SL (-1099511627776) 1099511627776 l) (hn : -9223372036854775808 ≤ n ∧ n ≤ 9223372036854775807) : Ev (fun k => spans_Move.f k l n) (moveS n l) := by
  have hl := SL.len_le hs
  have key : ∀ (rest pre : List Sp), l = pre ++ rest → pre.all (okM n) = true → Ev (fun k => spans_Move.l0 k n (pre.map (shiftS n)) l (l.length : Int) (pre.length : Int)) (moveS n l) := by
    intro rest
    induction rest with
    | nil =>
      intro pre hp hok
      have e : l = pre := by rw [hp]; simp
      refine Ev.step (f := fun _ => some (pre.map (shiftS n), 0)) (fun k => ?_) ?_
      · rw [spans_Move.l0, if_neg (by rw [hp]; simp)]
      · rw [e]; unfold moveS; rw [if_pos hok]; exact Ev.now _
    | cons s r ih =>
      intro pre hp hok
      have hlen : pre.length + 1 ≤ l.length := by rw [hp]; simp
      have hrd : rd_T23 l (pre.length : Int) = s := by rw [hp]; exact rd_mid _ _ _
      have hw := wrap_len pre s l.length hlen (by omega)
      have c1 : (pre.length : Int) < (l.length : Int) := by omega
      have c2 : (0 : Int) ≤ (pre.length : Int) := by omega
      have c3 : (pre.map (shiftS n)).length < 8796093022208 := by rw [List.length_map]; omega
      have ht := SL.ticks hs (s := s) (by rw [hp]; simp)
      have bad : okM n s = false → moveS n l = ([], 20) := fun h => by
        unfold moveS; rw [if_neg (by rw [hp, List.all_append, List.all_cons, h]; simp)]
      by_cases g0 : -9223372036854775808 ≤ s.f0 + n ∧ s.f0 + n ≤ 9223372036854775807
      · by_cases g1 : -9223372036854775808 ≤ s.f1 + n ∧ s.f1 + n ≤ 9223372036854775807
        · by_cases t0 : okT (s.f0 + n) = true
          · by_cases t1 : okT (s.f1 + n) = true
            · refine Ev.step (fun k => ?_) (ih (pre ++ [s]) (by rw [hp]; simp) (by rw [List.all_append, hok]; simp [okM, t0, t1]))
              rw [spans_Move.l0, if_pos c1, if_pos c2, if_pos c1, hrd, add_fits _ _ g0.1 g0.2, add_fits _ _ g1.1 g1.2, Option.bind_some, Option.bind_some, if_pos rfl, if_pos rfl, tick_f, tick_f]
              unfold okT at t0 t1
              rw [Option.bind_some, if_pos t0, Option.bind_some, if_pos t1, if_pos c3, hw, List.map_append]
              rfl
            · have t1' : okT (s.f1 + n) = false := by simpa using t1
              rw [bad (by simp [okM, t1'])]
              refine Ev.step (f := fun _ => some ([], 20)) (fun k => ?_) (Ev.now _)
              rw [spans_Move.l0, if_pos c1, if_pos c2, if_pos c1, hrd, add_fits _ _ g0.1 g0.2, add_fits _ _ g1.1 g1.2, Option.bind_some, Option.bind_some, if_pos rfl, if_pos rfl, tick_f, tick_f]
              unfold okT at t0 t1
              rw [Option.bind_some, if_pos t0, Option.bind_some, if_neg t1]
          · have t0' : okT (s.f0 + n) = false := by simpa using t0
            rw [bad (by simp [okM, t0'])]
            refine Ev.step (f := fun _ => some ([], 20)) (fun k => ?_) (Ev.now _)
            rw [spans_Move.l0, if_pos c1, if_pos c2, if_pos c1, hrd, add_fits _ _ g0.1 g0.2, add_fits _ _ g1.1 g1.2, Option.bind_some, Option.bind_some, if_pos rfl, if_pos rfl, tick_f]
            unfold okT at t0
            rw [Option.bind_some, if_neg t0]
        · have : okT (s.f1 + n) = false := by unfold okT; simp; omega
          rw [bad (by simp [okM, this])]
          refine Ev.step (f := fun _ => some ([], 20)) (fun k => ?_) (Ev.now _)
          rw [spans_Move.l0, if_pos c1, if_pos c2, if_pos c1, hrd, add_fits _ _ g0.1 g0.2, add_not _ _ (by omega) hn g1, Option.bind_some, Option.bind_some, if_pos rfl, if_neg (by simp)]
      · have : okT (s.f0 + n) = false := by unfold okT; simp; omega
        rw [bad (by simp [okM, this])]
        refine Ev.step (f := fun _ => some ([], 20)) (fun k => ?_) (Ev.now _)
        by_cases g1 : -9223372036854775808 ≤ s.f1 + n ∧ s.f1 + n ≤ 9223372036854775807
        · rw [spans_Move.l0, if_pos c1, if_pos c2, if_pos c1, hrd, add_not _ _ (by omega) hn g0, add_fits _ _ g1.1 g1.2, Option.bind_some, Option.bind_some, if_neg (by simp)]
        · rw [spans_Move.l0, if_pos c1, if_pos c2, if_pos c1, hrd, add_not _ _ (by omega) hn g0, add_not _ _ (by omega) hn g1, Option.bind_some, Option.bind_some, if_neg (by simp)]
  have := key l [] rfl rfl
  exact this

theorem okT_iff {x : Int} : okT x = true ↔ -1099511627776 ≤ x ∧ x ≤ 1099511627776 := by simp [okT]
theorem okM_iff {n : Int} {s : Sp} : okM n s = true ↔ (-1099511627776 ≤ s.f0 + n ∧ s.f0 + n ≤ 1099511627776) ∧ (-1099511627776 ≤ s.f1 + n ∧ s.f1 + n ≤ 1099511627776) := by simp [okM, okT_iff]
end Go.Proofs.Ytmbmalkpmanaaaa.P

namespace Go.Proofs.Ytmbmalkpmanaaaa.P
set_option linter.unusedVariables false
set_option linter.unusedSimpArgs false
open Go.RowKit Go.Proofs.YtmbmalkpmanaaaaW.PrintWords

theorem refcount_ev (l : List Sp) (hs : SL (-1099511627776) 1099511627776 l) : Ev (fun k => epactref02_Count.f k l) (cntL l) := by
  have hl := SL.len_le hs
  have key : ∀ (rest pre : List Sp), l = pre ++ rest → Ev (fun k => epactref02_Count.l0 k l (cntL pre) (pre.length : Int)) (cntL l) := by
    intro rest
    induction rest with
    | nil =>
      intro pre hp
      have : l = pre := by rw [hp]; simp
      refine Ev.step (f := fun _ => some (cntL l)) (fun k => ?_) (Ev.now _)
      rw [epactref02_Count.l0, if_neg (by rw [hp]; simp), this]
    | cons s r ih =>
      intro pre hp
      have hlen : pre.length + 1 ≤ l.length := by rw [hp]; simp
      have hrd : rd_T23 l (pre.length : Int) = s := by rw [hp]; exact rd_mid _ _ _
      have hw := wrap_len pre s l.length hlen (by omega)
      have c1 : (pre.length : Int) < (l.length : Int) := by omega
      have c2 : (0 : Int) ≤ (pre.length : Int) := by omega
      have hp2 : l = (pre ++ [s]) ++ r := by rw [hp]; simp
      have hc := cntL_le (by omega) (SL.front (hp ▸ hs) : SL _ _ pre)
      have ht := SL.ticks hs (s := s) (by rw [hp]; simp)
      have hcs : cntL (pre ++ [s]) = cntL pre + (s.f1 - s.f0 + 1) := by rw [cntL_append]; simp [cntL]
      have hw1 : wrap64 (wrap64 (wrap64 (cntL pre + s.f1) - s.f0) + 1) = cntL (pre ++ [s]) := by
        rw [wrap_ok (n := cntL pre + s.f1) (by omega) (by omega), wrap_ok (n := cntL pre + s.f1 - s.f0) (by omega) (by omega), wrap_ok (by omega) (by omega), hcs]; omega
      refine Ev.step (fun k => ?_) (ih (pre ++ [s]) hp2)
      rw [epactref02_Count.l0, if_pos c1, if_pos c2, hrd, hw1, hw]
  exact key l [] rfl

theorem refmove_ev (l : List Sp) (n : Int) (hs : SL (-1099511627776) 1099511627776 l) (hn : -9223372036854775808 ≤ n ∧ n ≤ 9223372036854775807) : Ev (fun k => epactref02_Move.f k l n) (moveS n l) := by
  have hl := SL.len_le hs
  have key : ∀ (rest pre : List Sp), l = pre ++ rest → pre.all (okM n) = true → Ev (fun k => epactref02_Move.l0 k l n (pre.map (shiftS n)) (pre.length : Int)) (moveS n l) := by
    intro rest
    induction rest with
    | nil =>
      intro pre hp hok
      have e : l = pre := by rw [hp]; simp
      refine Ev.step (f := fun _ => some (pre.map (shiftS n), 0)) (fun k => ?_) ?_
      · rw [epactref02_Move.l0, if_neg (by rw [hp]; simp)]
      · rw [e]; unfold moveS; rw [if_pos hok]; exact Ev.now _
    | cons s r ih =>
      intro pre hp hok
      have hlen : pre.length + 1 ≤ l.length := by rw [hp]; simp
      have hrd : rd_T23 l (pre.length : Int) = s := by rw [hp]; exact rd_mid _ _ _
      have hw := wrap_len pre s l.length hlen (by omega)
      have c1 : (pre.length : Int) < (l.length : Int) := by omega
      have c2 : (0 : Int) ≤ (pre.length : Int) := by omega
      have c3 : (pre.map (shiftS n)).length < 8796093022208 := by rw [List.length_map]; omega
      have ht := SL.ticks hs (s := s) (by rw [hp]; simp)
      have w1 : wrap64 (1099511627776 - s.f1) = 1099511627776 - s.f1 := wrap_ok (by omega) (by omega)
      have w2 : wrap64 (-1099511627776 - s.f0) = -1099511627776 - s.f0 := wrap_ok (by omega) (by omega)
      have bad : okM n s = false → moveS n l = ([], 20) := fun h => by
        unfold moveS; rw [if_neg (by rw [hp, List.all_append, List.all_cons, h]; simp)]
      by_cases g1 : n > 1099511627776 - s.f1
      · rw [bad (by rw [Bool.eq_false_iff]; intro e; have := okM_iff.1 e; omega)]
        refine Ev.step (f := fun _ => some ([], 20)) (fun k => ?_) (Ev.now _)
        rw [epactref02_Move.l0, if_pos c1, if_pos c2, hrd, w1, if_pos g1]
      · by_cases g2 : n < -1099511627776 - s.f0
        · rw [bad (by rw [Bool.eq_false_iff]; intro e; have := okM_iff.1 e; omega)]
          refine Ev.step (f := fun _ => some ([], 20)) (fun k => ?_) (Ev.now _)
          rw [epactref02_Move.l0, if_pos c1, if_pos c2, hrd, w1, w2, if_neg g1, if_pos g2]
        · refine Ev.step (fun k => ?_) (ih (pre ++ [s]) (by rw [hp]; simp) (by
            have : okM n s = true := okM_iff.2 (by omega)
            rw [List.all_append, hok]; simp [this]))
          rw [epactref02_Move.l0, if_pos c1, if_pos c2, hrd, w1, w2, if_neg g1, if_neg g2, if_pos c3, hw, List.map_append, wrap_ok (n := s.f0 + n) (by omega) (by omega), wrap_ok (n := s.f1 + n) (by omega) (by omega)]
          rfl
  exact key l [] rfl rfl

def aheadR (a b : List Sp) : Bool := a.all fun s => b.all fun t => decide (s.f1 < t.f0)
theorem refahead_ev (a b : List Sp) (la : a.length ≤ 100000000) (lb : b.length ≤ 100000000) : Ev (fun k => epactref02_Ahead.f k a b) (aheadR a b) := by
  have inner : ∀ (i : List Sp) (s : Sp) (r : List Sp), a = i ++ s :: r → Ev (fun k => epactref02_Ahead.l0 k a b ((i ++ [s]).length : Int)) (aheadR r b) →
      ∀ (rest pre : List Sp), b = pre ++ rest → Ev (fun k => epactref02_Ahead.l1 k a b (i.length : Int) (pre.length : Int)) ((rest.all fun t => decide (s.f1 < t.f0)) && aheadR r b) := by
    intro i s r hi hgo rest
    have hil : i.length + 1 ≤ a.length := by rw [hi]; simp
    have hrs : rd_T23 a (i.length : Int) = s := by rw [hi]; exact rd_mid _ _ _
    have hwi := wrap_len i s a.length hil (by omega)
    induction rest with
    | nil =>
      intro pre hp
      refine Ev.step (fun k => ?_) hgo
      rw [epactref02_Ahead.l1, if_neg (by rw [hp]; simp), hwi]
    | cons t q ih =>
      intro pre hp
      have hlen : pre.length + 1 ≤ b.length := by rw [hp]; simp
      have hrd : rd_T23 b (pre.length : Int) = t := by rw [hp]; exact rd_mid _ _ _
      have hw := wrap_len pre t b.length hlen (by omega)
      by_cases g : s.f1 ≥ t.f0
      · have e : ((t :: q).all fun t => decide (s.f1 < t.f0)) = false := by
          have : ¬ s.f1 < t.f0 := by omega
          simp [this]
        rw [e]
        refine Ev.step (f := fun _ => some false) (fun k => ?_) (Ev.now _)
        rw [epactref02_Ahead.l1, if_pos (by omega), if_pos (by omega), if_pos (by omega), if_pos (by omega), hrs, hrd, if_pos g]
      · have e : ((t :: q).all fun t => decide (s.f1 < t.f0)) = q.all fun t => decide (s.f1 < t.f0) := by
          have : s.f1 < t.f0 := by omega
          simp [this]
        rw [e]
        refine Ev.step (fun k => ?_) (ih (pre ++ [t]) (by rw [hp]; simp))
        rw [epactref02_Ahead.l1, if_pos (by omega), if_pos (by omega), if_pos (by omega), if_pos (by omega), hrs, hrd, if_neg g, hw]
  have outer : ∀ (rest pre : List Sp), a = pre ++ rest → Ev (fun k => epactref02_Ahead.l0 k a b (pre.length : Int)) (aheadR rest b) := by
    intro rest
    induction rest with
    | nil =>
      intro pre hp
      refine Ev.step (f := fun _ => some true) (fun k => ?_) (Ev.now _)
      rw [epactref02_Ahead.l0, if_neg (by rw [hp]; simp)]
    | cons s r ih =>
      intro pre hp
      have hlen : pre.length + 1 ≤ a.length := by rw [hp]; simp
      refine Ev.step (fun k => ?_) (inner pre s r hp (ih (pre ++ [s]) (by rw [hp]; simp)) b [] rfl)
      rw [epactref02_Ahead.l0, if_pos (by omega)]
      rfl
  exact outer a [] rfl

theorem hull_has {a : List Sp} {lo hi : Int} (h : SL lo hi a) (hn : a ≠ []) : ∃ s z, a.head? = some s ∧ a.getLast? = some z ∧ hullS a = (s.f0, z.f1, true) ∧ s ∈ a ∧ z ∈ a ∧ ∀ t ∈ a, s.f0 ≤ t.f0 ∧ t.f1 ≤ z.f1 := by
  obtain ⟨s, r, rfl⟩ := List.exists_cons_of_ne_nil hn
  obtain ⟨z, hz⟩ : ∃ z, (s :: r).getLast? = some z := ⟨_, List.getLast?_eq_some_getLast (by simp)⟩
  have hmz : z ∈ s :: r := List.mem_of_getLast? hz
  refine ⟨s, z, rfl, hz, by simp only [hullS, hz]; rfl, by simp, hmz, fun t ht => ?_⟩
  obtain ⟨j, hj, rfl⟩ := List.getElem_of_mem ht
  have hzl : z = (s :: r)[(s :: r).length - 1]'(by simp) := by
    rw [List.getLast?_eq_getElem?] at hz
    rw [List.getElem?_eq_getElem (by simp)] at hz
    exact (Option.some.inj hz).symm
  constructor
  · cases j with
    | zero => simp
    | succ j =>
      have := SL.rise h 0 (j + 1) hj (by omega)
      have := (SL.get h 0 (by simp)).2.1
      simp only [List.getElem_cons_zero] at *
      omega
  · rw [hzl]
    rcases Nat.lt_or_ge j ((s :: r).length - 1) with g | g
    · have := SL.rise h j ((s :: r).length - 1) (by simp) g
      have := (SL.get h ((s :: r).length - 1) (by simp)).2.1
      omega
    · have : j = (s :: r).length - 1 := by omega
      subst this; omega
theorem ahead_R {lo hi : Int} {a b : List Sp} (ha : SL lo hi a) (hb : SL lo hi b) : aheadR a b = aheadS a b := by
  by_cases h1 : a = []
  · subst h1; rfl
  · obtain ⟨sa, za, a1, a2, _, a4, a5, a6⟩ := hull_has ha h1
    by_cases h2 : b = []
    · subst h2; unfold aheadS aheadR; rw [a2]; simp
    · obtain ⟨sb, zb, b1, b2, _, b4, b5, b6⟩ := hull_has hb h2
      unfold aheadS; rw [a2, b1]
      rw [Bool.eq_iff_iff]
      simp only [aheadR, List.all_eq_true, decide_eq_true_eq]
      constructor
      · intro h; exact h za a5 sb b4
      · intro h s hs t ht
        have := a6 s hs
        have := b6 t ht
        omega

def setS (l : List Sp) : List Sp := (makeS (l.take 30)).1
theorem setS_SL (l : List Sp) : SL (-1099511627776) 1099511627776 (setS l) := (makeS_spec _).1
theorem setS_len (l : List Sp) : (setS l).length ≤ 30 := by have := makeS_len (l.take 30); simp at this; unfold setS; omega
theorem set_ev (l : List Sp) : Ev (fun k => epactlaw02_set.f k l) (setS l) := by
  unfold epactlaw02_set.f
  have hm : mn (l.length : Int) 30 = ((min l.length 30 : Nat) : Int) := by unfold mn; split <;> omega
  refine Ev.yes (by rw [hm]; omega) (Ev.yes (by rw [hm]; omega) ?_)
  have ht : l.take (mn (l.length : Int) 30).toNat = l.take 30 := by
    rw [hm, Int.toNat_natCast]
    by_cases h : l.length ≤ 30
    · rw [Nat.min_eq_left h, List.take_of_length_le (Nat.le_refl _), List.take_of_length_le h]
    · rw [Nat.min_eq_right (by omega)]
  rw [ht]
  exact Ev.bind (refmake_ev (l.take 30) (by simp; omega)) (Ev.now _)
end Go.Proofs.Ytmbmalkpmanaaaa.P


/- Lemmas for the law FindRises: what the functions that it reaches compute. No condition of its own. -/
import Derived.Test.YtmbmalkpmanaaaaYFindRises4
import Derived.Test.YtmbmalkpmanaaaaYFindRises2
import Derived.Test.YtmbmalkpmanaaaaYFindRises5
import Derived.Maps.AppendAt
import Derived.Laws.EntriesVeiled
namespace Go.Proofs.Ytmbmalkpmanaaaa.P
open Go.RowKit Go.Proofs.YtmbmalkpmanaaaaW.PrintWords Go.Proofs.YtmbmalkpmanaaaaW.PrintLast Go.Proofs.YtmbmalkpmanaaaaW.PrintMore
attribute [local go_sem] max2_int min2_int max_two min_two max_three min_three max_four min_four   -- for this text's walks alone
set_option linter.unusedVariables false
set_option linter.unusedSimpArgs false

def spans_Right.l0 : Nat → List (S23) → List (S23) → Int → Int → Option (Bool)
 | 0, _, _, _, _ => none
 | k + 1, x0, x5, x6, x7 => if x7 < x6 then (if 0 ≤ x7 then (if x7 < (x5.length : Int) then ((spans_tick.f ((rd_T23 x5 x7).f0)).bind fun t325 => (if t325 = true then ((spans_tick.f ((rd_T23 x5 x7).f1)).bind fun t326 => (if t326 = true then (if ((rd_T23 x5 x7).f0) > ((rd_T23 x5 x7).f1) then (some false) else (if x7 > 0 then (if 0 ≤ (wrap64 (x7 - 1)) then (if (wrap64 (x7 - 1)) < (x0.length : Int) then (if ((rd_T23 x5 x7).f0) < (wrap64 (((rd_T23 x0 (wrap64 (x7 - 1))).f1) + 2)) then (some false) else (spans_Right.l0 k x0 x5 x6 (wrap64 (x7 + 1)))) else (none)) else (none)) else (spans_Right.l0 k x0 x5 x6 (wrap64 (x7 + 1))))) else (some false))) else (some false))) else (none)) else (none)) else (some true)
def spans_Right.f (k : Nat) (l0 : List (S23)) : Option (Bool) := spans_Right.l0 k l0 l0 (l0.length : Int) 0
theorem spans_Right.mono_l : ∀ k, (∀ y0 y1 y2 y3, LeO (spans_Right.l0 k y0 y1 y2 y3) (spans_Right.l0 (k + 1) y0 y1 y2 y3))
 | 0 => fun _ _ _ _ r h => by simp [spans_Right.l0] at h
 | k + 1 => by
  have ih0 := spans_Right.mono_l k
  ·intro y0 y1 y2 y3
   unfold spans_Right.l0
   repeat' first
   | (with_reducible exact ih0 _ _ _ _)
   | (with_reducible exact LeO.refl _)
   | (with_reducible exact LeO.none _)
   | (with_reducible refine LeO.ite ?_ ?_)
   | (with_reducible refine LeO.bind ?_ (fun _ => ?_))
   | exact ih0 _ _ _ _
   | exact LeO.none _
   | refine LeO.ite ?_ ?_
   | refine LeO.bind ?_ (fun _ => ?_)
theorem spans_Right.mono : ∀ a0 k, LeO (spans_Right.f k a0) (spans_Right.f (k + 1) a0) := by
 intro a0 k
 have ih0 := spans_Right.mono_l k
 unfold spans_Right.f
 repeat' first
  | (with_reducible exact ih0 _ _ _ _)
  | (with_reducible exact LeO.refl _)
  | (with_reducible exact LeO.none _)
  | (with_reducible refine LeO.ite ?_ ?_)
  | (with_reducible refine LeO.bind ?_ (fun _ => ?_))
  | exact ih0 _ _ _ _
  | exact LeO.none _
  | refine LeO.ite ?_ ?_
  | refine LeO.bind ?_ (fun _ => ?_)
def spans_Right.T4 : Bool × List (List Nat × List Nat) := (true, [([], []), ([0], [0]), ([1], [1]), ([2], [2]), ([3, 2], [3]), ([4], [4]), ([5, 4], [4, 5]), ([6, 4, 4], [4, 6]), ([7, 4], [4, 7]), ([4, 8], [4, 8]), ([9, 7], [9]), ([10], [10]), ([11, 10], [10, 11]), ([10], [10]), ([13, 10], [10, 13]), ([12, 14, 10], [10, 12, 14]), ([10, 15], [10, 15]), ([16, 10], [16]), ([17], [17]), ([18, 17], [17, 18]), ([19, 17, 17], [17, 19]), ([20], [20]), ([21, 20], [20, 21]), ([20], [20]), ([20], [20]), ([24, 20], [20, 24]), ([23, 25, 20], [20, 23, 25]), ([26, 20], [20, 26]), ([27, 20], [20, 27]), ([28, 20], [20, 28]), ([22, 29, 20], [20, 22, 29]), ([20, 30, 17], [17, 20, 30]), ([17, 31], [17, 31])])
def spans_Right.B4 : List Nat := [0, 1, 3, 7, 15, 31, 63, 127, 255, 511, 1023, 2047, 4095, 2047, 10239, 32767, 65535, 131071, 262143, 524287, 1048575, 2097151, 4194303, 2097151, 2097151, 18874367, 60817407, 127926271, 262143999, 530579455, 1073741823, 2147483647, 4294967295]
theorem spans_Right.tab4 : rtab .any (opsOf Try.f31 4) = spans_Right.T4 := by kernel_rfl
theorem spans_Right.bits4 : waitsOk spans_Right.T4.2 spans_Right.B4 = true := by kernel_rfl
set_option maxHeartbeats 8000000 in
set_option maxRecDepth 100000 in
theorem spans_Right.calls (k : Nat) (A0 : Option Addr) (c0 : Nat) (l0 : List (S23)) (r : Bool) (w : World) (hr0 : Kd.C k23 w A0 l0.length l0) (hc0 : l0.length ≤ c0) (h : spans_Right.f k l0 = some r) :
 Calls Try.prog 31 #[.slice A0 l0.length c0] w fun e w' => e = .returned (.bool r) ∧ Below w.heap.size w w' := by
 have hu23 := Try.underlying23
 have HR0 := am hr0
 have HC0 := am hc0
 clear hr0 hc0
 have HB := am (Below.refl w.heap.size w)
 have H : (spans_Right.l0 k l0 l0 (l0.length : Int) 0) = some r := h
 clear h
 have H' := am H
 clear H
 go_enter Try.func31, Try.ntmps31
 go_wp2
 go_loopg [7] k (fun kq v7 w' => ∃ (x7_1 : Int), v7 = .int .i64 x7_1 ∧ Aside0 (spans_Right.l0 kq l0 l0 (l0.length : Int) x7_1 = some r) ∧ Aside0 (kq ≤ k) ∧ Aside0 (Below w.heap.size w w'))
 case atStart => exact ⟨(0), sm, H', ⟨Nat.le_refl _⟩, ⟨bl HB.out⟩⟩
 case round =>
  clear H'
  obtain ⟨x7_1, rfl, HA, HK1, HB⟩ := hrel
  cases gk with
  | zero => exact absurd HA.out (by simp [spans_Right.l0])
  | succ k1 =>
   have H := HA.out
   clear HA
   simp only [spans_Right.l0] at H
   by_cases c2 : x7_1 < (l0.length : Int)
   ·rw [if_pos c2] at H
    have c2b0 : decide (x7_1 < (l0.length : Int)) = true := decide_eq_true c2
    clear c2
    by_cases c3 : 0 ≤ x7_1
    ·rw [if_pos c3] at H
     have c3b0 : decide (0 ≤ x7_1) = true := decide_eq_true c3
     clear c3
     by_cases c4 : x7_1 < (l0.length : Int)
     ·rw [if_pos c4] at H
      have c4b0 : decide (x7_1 < (l0.length : Int)) = true := decide_eq_true c4
      clear c4
      replace H := Option.bind_eq_some_iff.mp H
      obtain ⟨t325, A50, H⟩ := H
      try dsimp only at H
      have A5 := am A50
      clear A50
      by_cases c6 : t325 = true
      ·subst c6
       have H1 : ((spans_tick.f ((rd_T23 l0 x7_1).f1)).bind fun t326 => (if t326 = true then (if ((rd_T23 l0 x7_1).f0) > ((rd_T23 l0 x7_1).f1) then (some false) else (if x7_1 > 0 then (if 0 ≤ (wrap64 (x7_1 - 1)) then (if (wrap64 (x7_1 - 1)) < (l0.length : Int) then (if ((rd_T23 l0 x7_1).f0) < (wrap64 (((rd_T23 l0 (wrap64 (x7_1 - 1))).f1) + 2)) then (some false) else (spans_Right.l0 k1 l0 l0 (l0.length : Int) (wrap64 (x7_1 + 1)))) else (none)) else (none)) else (spans_Right.l0 k1 l0 l0 (l0.length : Int) (wrap64 (x7_1 + 1))))) else (some false))) = some r := by rw [if_pos rfl] at H; exact H
       clear H
       have H := H1
       clear H1
       replace H := Option.bind_eq_some_iff.mp H
       obtain ⟨t326, A70, H⟩ := H
       try dsimp only at H
       have A7 := am A70
       clear A70
       by_cases c8 : t326 = true
       ·subst c8
        have H1 : (if ((rd_T23 l0 x7_1).f0) > ((rd_T23 l0 x7_1).f1) then (some false) else (if x7_1 > 0 then (if 0 ≤ (wrap64 (x7_1 - 1)) then (if (wrap64 (x7_1 - 1)) < (l0.length : Int) then (if ((rd_T23 l0 x7_1).f0) < (wrap64 (((rd_T23 l0 (wrap64 (x7_1 - 1))).f1) + 2)) then (some false) else (spans_Right.l0 k1 l0 l0 (l0.length : Int) (wrap64 (x7_1 + 1)))) else (none)) else (none)) else (spans_Right.l0 k1 l0 l0 (l0.length : Int) (wrap64 (x7_1 + 1))))) = some r := by rw [if_pos rfl] at H; exact H
        clear H
        have H := H1
        clear H1
        by_cases c9 : ((rd_T23 l0 x7_1).f0) > ((rd_T23 l0 x7_1).f1)
        ·rw [if_pos c9] at H
         have c9b0 : decide (((rd_T23 l0 x7_1).f1) < ((rd_T23 l0 x7_1).f0)) = true := decide_eq_true c9
         clear c9
         obtain rfl := Option.some.inj H
         have p323 : 0 ≤ (x7_1 : Int) := of_decide_eq_true asm
         have q323 : x7_1 < (l0.length : Int) := of_decide_eq_true asm
         obtain ⟨ad323, e323, hx323_0, hx323_1⟩ := at_T23 HR0.out x7_1 p323 q323
         cases e323
         replace hx323_0 := (HB.out.cell (World.block_lt_of_cell? w _ hx323_0)).trans hx323_0
         replace hx323_1 := (HB.out.cell (World.block_lt_of_cell? w _ hx323_1)).trans hx323_1
         replace p323 := eq_true p323
         replace q323 := eq_true q323
         try go_wp2_with (first | ((with_reducible refine gate_dst (N := 4) rfl ?_); refine bx 4 23 #[.int .i64 0, .int .i64 0] ?_; intro gb324 hg w10 hbox hb; have BK324 := am (hbox); have GW324 := am ((bz hg HB.out : w.heap.size ≤ gb324)); have GE324 := am ((bz hg HB.out : w.heap.size ≤ gb324)); replace HB := am (below_step (bl HB.out) hb); clear hb hbox hg; have hcz11_0 : w10.cell? ⟨gb324, 0, none⟩ = some (.int .i64 0) := bc BK324.out 0; have hcz11_1 : w10.cell? ⟨gb324, 1, none⟩ = some (.int .i64 0) := bc BK324.out 1; have hfz11_0 := blk_frozen BK324.out 0; have hfz11_1 := blk_frozen BK324.out 1))
         have n0_ : Aside0 (((w10.setCell ⟨gb324, 0, none⟩ (.int .i64 ((rd_T23 l0 x7_1).f0))).setCell ⟨gb324, 1, none⟩ (.int .i64 ((rd_T23 l0 x7_1).f1))).heap[gb324]? = some (.cells #[.int .i64 ((rd_T23 l0 x7_1).f0), .int .i64 ((rd_T23 l0 x7_1).f1)] 23 (0, 0))) := ⟨by (with_reducible repeat (first | refine blk_drewN ?_ _ | refine blk_drew ?_ | refine blk_alloc ?_ _)); refine blk_put (cs := #[.int .i64 ((rd_T23 l0 x7_1).f0), .int .i64 0]) ?_ 1 _ rfl; (with_reducible repeat (first | refine blk_drewN ?_ _ | refine blk_drew ?_ | refine blk_alloc ?_ _)); refine blk_put (cs := #[.int .i64 0, .int .i64 0]) ?_ 0 _ rfl; (with_reducible repeat (first | refine blk_drewN ?_ _ | refine blk_drew ?_ | refine blk_alloc ?_ _)); exact BK324.out⟩
         have n1_ : Aside0 (Below w.heap.size w ((w10.setCell ⟨gb324, 0, none⟩ (.int .i64 ((rd_T23 l0 x7_1).f0))).setCell ⟨gb324, 1, none⟩ (.int .i64 ((rd_T23 l0 x7_1).f1)))) := ⟨bl1 HB.out GE324.out⟩
         (try clear BK324)
         (try clear HB)
         generalize ((w10.setCell ⟨gb324, 0, none⟩ (.int .i64 ((rd_T23 l0 x7_1).f0))).setCell ⟨gb324, 1, none⟩ (.int .i64 ((rd_T23 l0 x7_1).f1))) = w12 at n0_ n1_ ⊢
         have BK324 := n0_
         have HB := n1_
         clear n0_ n1_
         replace BK324 := am (blk_drew BK324.out)
         replace HB := am (below_drew1 HB.out)
         refine start_ (n := 33) (S := fun w' => w'.cell? ⟨gb324, 0, none⟩ = some (.int .i64 ((rd_T23 l0 x7_1).f0)) ∧ w'.cell? ⟨gb324, 1, none⟩ = some (.int .i64 ((rd_T23 l0 x7_1).f1))) (ds := []) (bs 33 0) (by kernel_rfl) rfl rfl ⟨bc BK324.out 0, bc BK324.out 1⟩ (fun hHeld => ?_); refine with_tabW spans_Right.tab4 spans_Right.bits4 (fun HT_ HW_ => ?_)
         generalize w12.drew = w13 at BK324 HB hHeld ⊢
         refine px 0 12 (bs 33 1) HT_.out ?_
         refine tx 1 13 (bs 33 3) HT_.out HW_.out hHeld ?_
         refine one_ (i := 2) (N := some 14) (bs 33 7) rfl rfl (one_of HT_.out (by kernel_rfl)) (by decide) (fun K hK => ?_)
         refine goes_ Try.func66 (by kernel_rfl) rfl #[.int .i64 ((rd_T23 l0 x7_1).f0)] (by rfl) rfl rfl ar ?_
         with_reducible refine (spans_tick.calls ((rd_T23 l0 x7_1).f0) true _ A5.out).mono ?_
         rintro e w' ⟨rfl, ⟨nd, rfl⟩⟩
         refine ⟨_, rfl, ?_⟩
         refine hK.out _ _ ⟨bc BK324.out 0, bc BK324.out 1⟩ (fun hHeld => ?_)
         clear hK K
         refine nx ?_
         refine px 3 15 (bs 33 15) HT_.out ?_
         refine px 4 16 (bs 33 31) HT_.out ?_
         refine px 5 17 (bs 33 63) HT_.out ?_
         refine tx 6 18 (bs 33 127) HT_.out HW_.out hHeld ?_
         refine one_ (i := 7) (N := some 19) (bs 33 255) rfl rfl (one_of HT_.out (by kernel_rfl)) (by decide) (fun K hK => ?_)
         refine goes_ Try.func66 (by kernel_rfl) rfl #[.int .i64 ((rd_T23 l0 x7_1).f1)] (by rfl) rfl rfl ar ?_
         with_reducible refine (spans_tick.calls ((rd_T23 l0 x7_1).f1) true _ A7.out).mono ?_
         rintro e w' ⟨rfl, ⟨nd, rfl⟩⟩
         refine ⟨_, rfl, ?_⟩
         refine hK.out _ _ ⟨bc BK324.out 0, bc BK324.out 1⟩ (fun hHeld => ?_)
         clear hK K
         refine nx ?_
         refine px 8 20 (bs 33 511) HT_.out ?_
         refine px 9 21 (bs 33 1023) HT_.out ?_
         refine px 10 22 (bs 33 2047) HT_.out ?_
         refine px 11 23 (bs 33 4095) HT_.out ?_
         refine px 13 25 (bs 33 12287) HT_.out ?_
         refine tx 12 24 (bs 33 16383) HT_.out HW_.out hHeld ?_
         refine tx 14 26 (bs 33 32767) HT_.out HW_.out hHeld ?_
         refine px 15 27 (bs 33 65535) HT_.out ?_
         refine px 16 28 (bs 33 131071) HT_.out ?_
         refine px 17 29 (bs 33 262143) HT_.out ?_
         refine pu 18 30 (bs 33 524287) HT_.out ?_
         refine pu 19 31 (bs 33 1048575) HT_.out ?_
         refine pu 20 32 (bs 33 2097151) HT_.out ?_
         refine pu 21 33 (bs 33 4194303) HT_.out ?_
         refine pu 22 34 (bs 33 8388607) HT_.out ?_
         refine pu 23 35 (bs 33 16777215) HT_.out ?_
         refine pu 24 36 (bs 33 33554431) HT_.out ?_
         refine pu 25 37 (bs 33 67108863) HT_.out ?_
         refine pu 26 38 (bs 33 134217727) HT_.out ?_
         refine pu 27 39 (bs 33 268435455) HT_.out ?_
         refine pu 28 40 (bs 33 536870911) HT_.out ?_
         refine pu 29 41 (bs 33 1073741823) HT_.out ?_
         refine pu 30 42 (bs 33 2147483647) HT_.out ?_
         refine pu 31 43 (bs 33 4294967295) HT_.out ?_
         refine px 32 44 (bs 33 8589934591) HT_.out ?_
         refine done_ (done_of HT_.out (by kernel_rfl)) ?_
         try go_wp2
         go_ret
         exact ⟨rt, bl1 HB.out GE324.out⟩
        ·rw [if_neg c9] at H
         have c9b0 : decide (((rd_T23 l0 x7_1).f1) < ((rd_T23 l0 x7_1).f0)) = false := decide_eq_false c9
         clear c9
         by_cases c14 : x7_1 > 0
         ·rw [if_pos c14] at H
          have c14b0 : decide (0 < x7_1) = true := decide_eq_true c14
          clear c14
          obtain ⟨ji15, hji15⟩ : ∃ j_ : Int, (wrap64 (x7_1 - 1)) = j_ := ⟨_, rfl⟩
          replace H : (if 0 ≤ (ji15) then (if (ji15) < (l0.length : Int) then (if ((rd_T23 l0 x7_1).f0) < (wrap64 (((rd_T23 l0 (ji15)).f1) + 2)) then (some false) else (spans_Right.l0 k1 l0 l0 (l0.length : Int) (wrap64 (x7_1 + 1)))) else (none)) else (none)) = some r := by first | (rw [hji15] at H; exact H) | (simp only [hji15] at H ⊢; exact H)
          (try rw [hji15] at A5)
          (try rw [hji15] at A7)
          have hji15w : (IntKind.i64.wrap (x7_1 - 1)) = ji15 := (i64_w _).trans hji15
          by_cases c16 : 0 ≤ (ji15)
          ·rw [if_pos c16] at H
           have c16b0 : decide (0 ≤ (ji15)) = true := decide_eq_true c16
           clear c16
           by_cases c17 : (ji15) < (l0.length : Int)
           ·rw [if_pos c17] at H
            have c17b0 : decide ((ji15) < (l0.length : Int)) = true := decide_eq_true c17
            clear c17
            by_cases c18 : ((rd_T23 l0 x7_1).f0) < (wrap64 (((rd_T23 l0 (ji15)).f1) + 2))
            ·rw [if_pos c18] at H
             have c18b0 : decide (((rd_T23 l0 x7_1).f0) < (wrap64 (((rd_T23 l0 (ji15)).f1) + 2))) = true := decide_eq_true c18
             clear c18
             obtain rfl := Option.some.inj H
             have p323 : 0 ≤ (x7_1 : Int) := of_decide_eq_true asm
             have q323 : x7_1 < (l0.length : Int) := of_decide_eq_true asm
             obtain ⟨ad323, e323, hx323_0, hx323_1⟩ := at_T23 HR0.out x7_1 p323 q323
             cases e323
             replace hx323_0 := (HB.out.cell (World.block_lt_of_cell? w _ hx323_0)).trans hx323_0
             replace hx323_1 := (HB.out.cell (World.block_lt_of_cell? w _ hx323_1)).trans hx323_1
             replace p323 := eq_true p323
             replace q323 := eq_true q323
             try go_wp2_with (first | ((with_reducible refine gate_dst (N := 4) rfl ?_); refine bx 4 23 #[.int .i64 0, .int .i64 0] ?_; intro gb324 hg w19 hbox hb; have BK324 := am (hbox); have GW324 := am ((bz hg HB.out : w.heap.size ≤ gb324)); have GE324 := am ((bz hg HB.out : w.heap.size ≤ gb324)); replace HB := am (below_step (bl HB.out) hb); clear hb hbox hg; have hcz20_0 : w19.cell? ⟨gb324, 0, none⟩ = some (.int .i64 0) := bc BK324.out 0; have hcz20_1 : w19.cell? ⟨gb324, 1, none⟩ = some (.int .i64 0) := bc BK324.out 1; have hfz20_0 := blk_frozen BK324.out 0; have hfz20_1 := blk_frozen BK324.out 1))
             have n0_ : Aside0 (((w19.setCell ⟨gb324, 0, none⟩ (.int .i64 ((rd_T23 l0 x7_1).f0))).setCell ⟨gb324, 1, none⟩ (.int .i64 ((rd_T23 l0 x7_1).f1))).heap[gb324]? = some (.cells #[.int .i64 ((rd_T23 l0 x7_1).f0), .int .i64 ((rd_T23 l0 x7_1).f1)] 23 (0, 0))) := ⟨by (with_reducible repeat (first | refine blk_drewN ?_ _ | refine blk_drew ?_ | refine blk_alloc ?_ _)); refine blk_put (cs := #[.int .i64 ((rd_T23 l0 x7_1).f0), .int .i64 0]) ?_ 1 _ rfl; (with_reducible repeat (first | refine blk_drewN ?_ _ | refine blk_drew ?_ | refine blk_alloc ?_ _)); refine blk_put (cs := #[.int .i64 0, .int .i64 0]) ?_ 0 _ rfl; (with_reducible repeat (first | refine blk_drewN ?_ _ | refine blk_drew ?_ | refine blk_alloc ?_ _)); exact BK324.out⟩
             have n1_ : Aside0 (Below w.heap.size w ((w19.setCell ⟨gb324, 0, none⟩ (.int .i64 ((rd_T23 l0 x7_1).f0))).setCell ⟨gb324, 1, none⟩ (.int .i64 ((rd_T23 l0 x7_1).f1)))) := ⟨bl1 HB.out GE324.out⟩
             (try clear BK324)
             (try clear HB)
             generalize ((w19.setCell ⟨gb324, 0, none⟩ (.int .i64 ((rd_T23 l0 x7_1).f0))).setCell ⟨gb324, 1, none⟩ (.int .i64 ((rd_T23 l0 x7_1).f1))) = w21 at n0_ n1_ ⊢
             have BK324 := n0_
             have HB := n1_
             clear n0_ n1_
             replace BK324 := am (blk_drew BK324.out)
             replace HB := am (below_drew1 HB.out)
             have p327 : 0 ≤ ((ji15) : Int) := of_decide_eq_true asm
             have q327 : (ji15) < (l0.length : Int) := of_decide_eq_true asm
             obtain ⟨ad327, e327, hx327_0, hx327_1⟩ := at_T23 HR0.out (ji15) p327 q327
             have hw327_1 := hx327_1
             have hw327_0 := hx327_0
             obtain rfl : ad323 = ad327 := (by injection e327)
             replace hx327_0 := (HB.out.cell (World.block_lt_of_cell? w _ hx327_0)).trans hx327_0
             replace hx327_1 := (HB.out.cell (World.block_lt_of_cell? w _ hx327_1)).trans hx327_1
             replace p327 := eq_true p327
             replace q327 := eq_true q327
             refine start_ (n := 33) (S := fun w' => w'.cell? ⟨gb324, 0, none⟩ = some (.int .i64 ((rd_T23 l0 x7_1).f0)) ∧ w'.cell? ⟨gb324, 1, none⟩ = some (.int .i64 ((rd_T23 l0 x7_1).f1)) ∧ w'.cell? (ad323.add (((ji15)).toNat * 2)) = some (.int .i64 ((rd_T23 l0 (ji15)).f0)) ∧ w'.cell? ⟨(ad323.add (((ji15)).toNat * 2)).block, (ad323.add (((ji15)).toNat * 2)).off + 1, none⟩ = some (.int .i64 ((rd_T23 l0 (ji15)).f1))) (ds := []) (bs 33 0) (by kernel_rfl) rfl rfl ⟨bc BK324.out 0, bc BK324.out 1, ((HB.out.cell (World.block_lt_of_cell? w _ hw327_0)).trans hw327_0), ((HB.out.cell (World.block_lt_of_cell? w _ hw327_1)).trans hw327_1)⟩ (fun hHeld => ?_); refine with_tabW spans_Right.tab4 spans_Right.bits4 (fun HT_ HW_ => ?_)
             generalize w21.drew = w22 at BK324 HB hx327_0 hx327_1 hHeld ⊢
             refine px 0 12 (bs 33 1) HT_.out ?_
             refine tx 1 13 (bs 33 3) HT_.out HW_.out hHeld ?_
             refine one_ (i := 2) (N := some 14) (bs 33 7) rfl rfl (one_of HT_.out (by kernel_rfl)) (by decide) (fun K hK => ?_)
             refine goes_ Try.func66 (by kernel_rfl) rfl #[.int .i64 ((rd_T23 l0 x7_1).f0)] (by rfl) rfl rfl ar ?_
             with_reducible refine (spans_tick.calls ((rd_T23 l0 x7_1).f0) true _ A5.out).mono ?_
             rintro e w' ⟨rfl, ⟨nd, rfl⟩⟩
             refine ⟨_, rfl, ?_⟩
             refine hK.out _ _ ⟨bc BK324.out 0, bc BK324.out 1, ((HB.out.cell (World.block_lt_of_cell? w _ hw327_0)).trans hw327_0), ((HB.out.cell (World.block_lt_of_cell? w _ hw327_1)).trans hw327_1)⟩ (fun hHeld => ?_)
             clear hK K
             refine nx ?_
             refine px 3 15 (bs 33 15) HT_.out ?_
             refine px 4 16 (bs 33 31) HT_.out ?_
             refine px 5 17 (bs 33 63) HT_.out ?_
             refine tx 6 18 (bs 33 127) HT_.out HW_.out hHeld ?_
             refine one_ (i := 7) (N := some 19) (bs 33 255) rfl rfl (one_of HT_.out (by kernel_rfl)) (by decide) (fun K hK => ?_)
             refine goes_ Try.func66 (by kernel_rfl) rfl #[.int .i64 ((rd_T23 l0 x7_1).f1)] (by rfl) rfl rfl ar ?_
             with_reducible refine (spans_tick.calls ((rd_T23 l0 x7_1).f1) true _ A7.out).mono ?_
             rintro e w' ⟨rfl, ⟨nd, rfl⟩⟩
             refine ⟨_, rfl, ?_⟩
             refine hK.out _ _ ⟨bc BK324.out 0, bc BK324.out 1, ((HB.out.cell (World.block_lt_of_cell? w _ hw327_0)).trans hw327_0), ((HB.out.cell (World.block_lt_of_cell? w _ hw327_1)).trans hw327_1)⟩ (fun hHeld => ?_)
             clear hK K
             refine nx ?_
             refine px 8 20 (bs 33 511) HT_.out ?_
             refine px 9 21 (bs 33 1023) HT_.out ?_
             refine px 10 22 (bs 33 2047) HT_.out ?_
             refine px 11 23 (bs 33 4095) HT_.out ?_
             refine px 13 25 (bs 33 12287) HT_.out ?_
             refine tx 12 24 (bs 33 16383) HT_.out HW_.out hHeld ?_
             refine tx 14 26 (bs 33 32767) HT_.out HW_.out hHeld ?_
             refine px 15 27 (bs 33 65535) HT_.out ?_
             refine px 16 28 (bs 33 131071) HT_.out ?_
             refine px 17 29 (bs 33 262143) HT_.out ?_
             refine px 18 30 (bs 33 524287) HT_.out ?_
             refine px 19 31 (bs 33 1048575) HT_.out ?_
             refine px 20 32 (bs 33 2097151) HT_.out ?_
             refine px 21 33 (bs 33 4194303) HT_.out ?_
             refine px 23 35 (bs 33 12582911) HT_.out ?_
             refine px 24 36 (bs 33 29360127) HT_.out ?_
             refine px 25 37 (bs 33 62914559) HT_.out ?_
             refine px 26 38 (bs 33 130023423) HT_.out ?_
             refine px 27 39 (bs 33 264241151) HT_.out ?_
             refine tx 22 34 (bs 33 268435455) HT_.out HW_.out hHeld ?_
             refine tx 28 40 (bs 33 536870911) HT_.out HW_.out hHeld ?_
             refine px 29 41 (bs 33 1073741823) HT_.out ?_
             refine px 30 42 (bs 33 2147483647) HT_.out ?_
             refine px 31 43 (bs 33 4294967295) HT_.out ?_
             refine px 32 44 (bs 33 8589934591) HT_.out ?_
             refine done_ (done_of HT_.out (by kernel_rfl)) ?_
             try go_wp2
             go_ret
             exact ⟨by first | rfl | (simp [errW_none, errW_some] <;> rfl) | (simp only [← hji15]; first | rfl | (simp [errW_none, errW_some] <;> rfl)) | (simp [*, errW_none, errW_some] <;> rfl), bl1 HB.out GE324.out⟩
            ·rw [if_neg c18] at H
             have c18b0 : decide (((rd_T23 l0 x7_1).f0) < (wrap64 (((rd_T23 l0 (ji15)).f1) + 2))) = false := decide_eq_false c18
             clear c18
             have H' := am H
             clear H
             have p323 : 0 ≤ (x7_1 : Int) := of_decide_eq_true asm
             have q323 : x7_1 < (l0.length : Int) := of_decide_eq_true asm
             obtain ⟨ad323, e323, hx323_0, hx323_1⟩ := at_T23 HR0.out x7_1 p323 q323
             cases e323
             replace hx323_0 := (HB.out.cell (World.block_lt_of_cell? w _ hx323_0)).trans hx323_0
             replace hx323_1 := (HB.out.cell (World.block_lt_of_cell? w _ hx323_1)).trans hx323_1
             replace p323 := eq_true p323
             replace q323 := eq_true q323
             try go_wp2_with (first | ((with_reducible refine gate_dst (N := 4) rfl ?_); refine bx 4 23 #[.int .i64 0, .int .i64 0] ?_; intro gb324 hg w23 hbox hb; have BK324 := am (hbox); have GW324 := am ((bz hg HB.out : w.heap.size ≤ gb324)); have GE324 := am ((bz hg HB.out : w.heap.size ≤ gb324)); replace HB := am (below_step (bl HB.out) hb); clear hb hbox hg; have hcz24_0 : w23.cell? ⟨gb324, 0, none⟩ = some (.int .i64 0) := bc BK324.out 0; have hcz24_1 : w23.cell? ⟨gb324, 1, none⟩ = some (.int .i64 0) := bc BK324.out 1; have hfz24_0 := blk_frozen BK324.out 0; have hfz24_1 := blk_frozen BK324.out 1))
             have n0_ : Aside0 (((w23.setCell ⟨gb324, 0, none⟩ (.int .i64 ((rd_T23 l0 x7_1).f0))).setCell ⟨gb324, 1, none⟩ (.int .i64 ((rd_T23 l0 x7_1).f1))).heap[gb324]? = some (.cells #[.int .i64 ((rd_T23 l0 x7_1).f0), .int .i64 ((rd_T23 l0 x7_1).f1)] 23 (0, 0))) := ⟨by (with_reducible repeat (first | refine blk_drewN ?_ _ | refine blk_drew ?_ | refine blk_alloc ?_ _)); refine blk_put (cs := #[.int .i64 ((rd_T23 l0 x7_1).f0), .int .i64 0]) ?_ 1 _ rfl; (with_reducible repeat (first | refine blk_drewN ?_ _ | refine blk_drew ?_ | refine blk_alloc ?_ _)); refine blk_put (cs := #[.int .i64 0, .int .i64 0]) ?_ 0 _ rfl; (with_reducible repeat (first | refine blk_drewN ?_ _ | refine blk_drew ?_ | refine blk_alloc ?_ _)); exact BK324.out⟩
             have n1_ : Aside0 (Below w.heap.size w ((w23.setCell ⟨gb324, 0, none⟩ (.int .i64 ((rd_T23 l0 x7_1).f0))).setCell ⟨gb324, 1, none⟩ (.int .i64 ((rd_T23 l0 x7_1).f1)))) := ⟨bl1 HB.out GE324.out⟩
             (try clear BK324)
             (try clear HB)
             generalize ((w23.setCell ⟨gb324, 0, none⟩ (.int .i64 ((rd_T23 l0 x7_1).f0))).setCell ⟨gb324, 1, none⟩ (.int .i64 ((rd_T23 l0 x7_1).f1))) = w25 at n0_ n1_ ⊢
             have BK324 := n0_
             have HB := n1_
             clear n0_ n1_
             replace BK324 := am (blk_drew BK324.out)
             replace HB := am (below_drew1 HB.out)
             have p327 : 0 ≤ ((ji15) : Int) := of_decide_eq_true asm
             have q327 : (ji15) < (l0.length : Int) := of_decide_eq_true asm
             obtain ⟨ad327, e327, hx327_0, hx327_1⟩ := at_T23 HR0.out (ji15) p327 q327
             have hw327_1 := hx327_1
             have hw327_0 := hx327_0
             obtain rfl : ad323 = ad327 := (by injection e327)
             replace hx327_0 := (HB.out.cell (World.block_lt_of_cell? w _ hx327_0)).trans hx327_0
             replace hx327_1 := (HB.out.cell (World.block_lt_of_cell? w _ hx327_1)).trans hx327_1
             replace p327 := eq_true p327
             replace q327 := eq_true q327
             refine start_ (n := 33) (S := fun w' => w'.cell? ⟨gb324, 0, none⟩ = some (.int .i64 ((rd_T23 l0 x7_1).f0)) ∧ w'.cell? ⟨gb324, 1, none⟩ = some (.int .i64 ((rd_T23 l0 x7_1).f1)) ∧ w'.cell? (ad323.add (((ji15)).toNat * 2)) = some (.int .i64 ((rd_T23 l0 (ji15)).f0)) ∧ w'.cell? ⟨(ad323.add (((ji15)).toNat * 2)).block, (ad323.add (((ji15)).toNat * 2)).off + 1, none⟩ = some (.int .i64 ((rd_T23 l0 (ji15)).f1))) (ds := []) (bs 33 0) (by kernel_rfl) rfl rfl ⟨bc BK324.out 0, bc BK324.out 1, ((HB.out.cell (World.block_lt_of_cell? w _ hw327_0)).trans hw327_0), ((HB.out.cell (World.block_lt_of_cell? w _ hw327_1)).trans hw327_1)⟩ (fun hHeld => ?_); refine with_tabW spans_Right.tab4 spans_Right.bits4 (fun HT_ HW_ => ?_)
             generalize w25.drew = w26 at BK324 HB hx327_0 hx327_1 hHeld ⊢
             refine px 0 12 (bs 33 1) HT_.out ?_
             refine tx 1 13 (bs 33 3) HT_.out HW_.out hHeld ?_
             refine one_ (i := 2) (N := some 14) (bs 33 7) rfl rfl (one_of HT_.out (by kernel_rfl)) (by decide) (fun K hK => ?_)
             refine goes_ Try.func66 (by kernel_rfl) rfl #[.int .i64 ((rd_T23 l0 x7_1).f0)] (by rfl) rfl rfl ar ?_
             with_reducible refine (spans_tick.calls ((rd_T23 l0 x7_1).f0) true _ A5.out).mono ?_
             rintro e w' ⟨rfl, ⟨nd, rfl⟩⟩
             refine ⟨_, rfl, ?_⟩
             refine hK.out _ _ ⟨bc BK324.out 0, bc BK324.out 1, ((HB.out.cell (World.block_lt_of_cell? w _ hw327_0)).trans hw327_0), ((HB.out.cell (World.block_lt_of_cell? w _ hw327_1)).trans hw327_1)⟩ (fun hHeld => ?_)
             clear hK K
             refine nx ?_
             refine px 3 15 (bs 33 15) HT_.out ?_
             refine px 4 16 (bs 33 31) HT_.out ?_
             refine px 5 17 (bs 33 63) HT_.out ?_
             refine tx 6 18 (bs 33 127) HT_.out HW_.out hHeld ?_
             refine one_ (i := 7) (N := some 19) (bs 33 255) rfl rfl (one_of HT_.out (by kernel_rfl)) (by decide) (fun K hK => ?_)
             refine goes_ Try.func66 (by kernel_rfl) rfl #[.int .i64 ((rd_T23 l0 x7_1).f1)] (by rfl) rfl rfl ar ?_
             with_reducible refine (spans_tick.calls ((rd_T23 l0 x7_1).f1) true _ A7.out).mono ?_
             rintro e w' ⟨rfl, ⟨nd, rfl⟩⟩
             refine ⟨_, rfl, ?_⟩
             refine hK.out _ _ ⟨bc BK324.out 0, bc BK324.out 1, ((HB.out.cell (World.block_lt_of_cell? w _ hw327_0)).trans hw327_0), ((HB.out.cell (World.block_lt_of_cell? w _ hw327_1)).trans hw327_1)⟩ (fun hHeld => ?_)
             clear hK K
             refine nx ?_
             refine px 8 20 (bs 33 511) HT_.out ?_
             refine px 9 21 (bs 33 1023) HT_.out ?_
             refine px 10 22 (bs 33 2047) HT_.out ?_
             refine px 11 23 (bs 33 4095) HT_.out ?_
             refine px 13 25 (bs 33 12287) HT_.out ?_
             refine tx 12 24 (bs 33 16383) HT_.out HW_.out hHeld ?_
             refine tx 14 26 (bs 33 32767) HT_.out HW_.out hHeld ?_
             refine px 15 27 (bs 33 65535) HT_.out ?_
             refine px 16 28 (bs 33 131071) HT_.out ?_
             refine px 17 29 (bs 33 262143) HT_.out ?_
             refine px 18 30 (bs 33 524287) HT_.out ?_
             refine px 19 31 (bs 33 1048575) HT_.out ?_
             refine px 20 32 (bs 33 2097151) HT_.out ?_
             refine px 21 33 (bs 33 4194303) HT_.out ?_
             refine px 23 35 (bs 33 12582911) HT_.out ?_
             refine px 24 36 (bs 33 29360127) HT_.out ?_
             refine px 25 37 (bs 33 62914559) HT_.out ?_
             refine px 26 38 (bs 33 130023423) HT_.out ?_
             refine px 27 39 (bs 33 264241151) HT_.out ?_
             refine tx 22 34 (bs 33 268435455) HT_.out HW_.out hHeld ?_
             refine tx 28 40 (bs 33 536870911) HT_.out HW_.out hHeld ?_
             refine px 29 41 (bs 33 1073741823) HT_.out ?_
             refine px 30 42 (bs 33 2147483647) HT_.out ?_
             refine px 31 43 (bs 33 4294967295) HT_.out ?_
             refine px 32 44 (bs 33 8589934591) HT_.out ?_
             refine done_ (done_of HT_.out (by kernel_rfl)) ?_
             try go_wp2
             go_roundg k1
             case measure => have := HK1.out; omega
             case rel => exact ⟨(wrap64 (x7_1 + 1)), sm, H', ⟨by have := HK1.out; omega⟩, ⟨bl1 HB.out GE324.out⟩⟩
           ·rw [if_neg c17] at H
            exact absurd H (by simp)
          ·rw [if_neg c16] at H
           exact absurd H (by simp)
         ·rw [if_neg c14] at H
          have c14b0 : decide (0 < x7_1) = false := decide_eq_false c14
          clear c14
          have H' := am H
          clear H
          have p323 : 0 ≤ (x7_1 : Int) := of_decide_eq_true asm
          have q323 : x7_1 < (l0.length : Int) := of_decide_eq_true asm
          obtain ⟨ad323, e323, hx323_0, hx323_1⟩ := at_T23 HR0.out x7_1 p323 q323
          cases e323
          replace hx323_0 := (HB.out.cell (World.block_lt_of_cell? w _ hx323_0)).trans hx323_0
          replace hx323_1 := (HB.out.cell (World.block_lt_of_cell? w _ hx323_1)).trans hx323_1
          replace p323 := eq_true p323
          replace q323 := eq_true q323
          try go_wp2_with (first | ((with_reducible refine gate_dst (N := 4) rfl ?_); refine bx 4 23 #[.int .i64 0, .int .i64 0] ?_; intro gb324 hg w27 hbox hb; have BK324 := am (hbox); have GW324 := am ((bz hg HB.out : w.heap.size ≤ gb324)); have GE324 := am ((bz hg HB.out : w.heap.size ≤ gb324)); replace HB := am (below_step (bl HB.out) hb); clear hb hbox hg; have hcz28_0 : w27.cell? ⟨gb324, 0, none⟩ = some (.int .i64 0) := bc BK324.out 0; have hcz28_1 : w27.cell? ⟨gb324, 1, none⟩ = some (.int .i64 0) := bc BK324.out 1; have hfz28_0 := blk_frozen BK324.out 0; have hfz28_1 := blk_frozen BK324.out 1))
          have n0_ : Aside0 (((w27.setCell ⟨gb324, 0, none⟩ (.int .i64 ((rd_T23 l0 x7_1).f0))).setCell ⟨gb324, 1, none⟩ (.int .i64 ((rd_T23 l0 x7_1).f1))).heap[gb324]? = some (.cells #[.int .i64 ((rd_T23 l0 x7_1).f0), .int .i64 ((rd_T23 l0 x7_1).f1)] 23 (0, 0))) := ⟨by (with_reducible repeat (first | refine blk_drewN ?_ _ | refine blk_drew ?_ | refine blk_alloc ?_ _)); refine blk_put (cs := #[.int .i64 ((rd_T23 l0 x7_1).f0), .int .i64 0]) ?_ 1 _ rfl; (with_reducible repeat (first | refine blk_drewN ?_ _ | refine blk_drew ?_ | refine blk_alloc ?_ _)); refine blk_put (cs := #[.int .i64 0, .int .i64 0]) ?_ 0 _ rfl; (with_reducible repeat (first | refine blk_drewN ?_ _ | refine blk_drew ?_ | refine blk_alloc ?_ _)); exact BK324.out⟩
          have n1_ : Aside0 (Below w.heap.size w ((w27.setCell ⟨gb324, 0, none⟩ (.int .i64 ((rd_T23 l0 x7_1).f0))).setCell ⟨gb324, 1, none⟩ (.int .i64 ((rd_T23 l0 x7_1).f1)))) := ⟨bl1 HB.out GE324.out⟩
          (try clear BK324)
          (try clear HB)
          generalize ((w27.setCell ⟨gb324, 0, none⟩ (.int .i64 ((rd_T23 l0 x7_1).f0))).setCell ⟨gb324, 1, none⟩ (.int .i64 ((rd_T23 l0 x7_1).f1))) = w29 at n0_ n1_ ⊢
          have BK324 := n0_
          have HB := n1_
          clear n0_ n1_
          replace BK324 := am (blk_drew BK324.out)
          replace HB := am (below_drew1 HB.out)
          refine start_ (n := 33) (S := fun w' => w'.cell? ⟨gb324, 0, none⟩ = some (.int .i64 ((rd_T23 l0 x7_1).f0)) ∧ w'.cell? ⟨gb324, 1, none⟩ = some (.int .i64 ((rd_T23 l0 x7_1).f1))) (ds := []) (bs 33 0) (by kernel_rfl) rfl rfl ⟨bc BK324.out 0, bc BK324.out 1⟩ (fun hHeld => ?_); refine with_tabW spans_Right.tab4 spans_Right.bits4 (fun HT_ HW_ => ?_)
          generalize w29.drew = w30 at BK324 HB hHeld ⊢
          refine px 0 12 (bs 33 1) HT_.out ?_
          refine tx 1 13 (bs 33 3) HT_.out HW_.out hHeld ?_
          refine one_ (i := 2) (N := some 14) (bs 33 7) rfl rfl (one_of HT_.out (by kernel_rfl)) (by decide) (fun K hK => ?_)
          refine goes_ Try.func66 (by kernel_rfl) rfl #[.int .i64 ((rd_T23 l0 x7_1).f0)] (by rfl) rfl rfl ar ?_
          with_reducible refine (spans_tick.calls ((rd_T23 l0 x7_1).f0) true _ A5.out).mono ?_
          rintro e w' ⟨rfl, ⟨nd, rfl⟩⟩
          refine ⟨_, rfl, ?_⟩
          refine hK.out _ _ ⟨bc BK324.out 0, bc BK324.out 1⟩ (fun hHeld => ?_)
          clear hK K
          refine nx ?_
          refine px 3 15 (bs 33 15) HT_.out ?_
          refine px 4 16 (bs 33 31) HT_.out ?_
          refine px 5 17 (bs 33 63) HT_.out ?_
          refine tx 6 18 (bs 33 127) HT_.out HW_.out hHeld ?_
          refine one_ (i := 7) (N := some 19) (bs 33 255) rfl rfl (one_of HT_.out (by kernel_rfl)) (by decide) (fun K hK => ?_)
          refine goes_ Try.func66 (by kernel_rfl) rfl #[.int .i64 ((rd_T23 l0 x7_1).f1)] (by rfl) rfl rfl ar ?_
          with_reducible refine (spans_tick.calls ((rd_T23 l0 x7_1).f1) true _ A7.out).mono ?_
          rintro e w' ⟨rfl, ⟨nd, rfl⟩⟩
          refine ⟨_, rfl, ?_⟩
          refine hK.out _ _ ⟨bc BK324.out 0, bc BK324.out 1⟩ (fun hHeld => ?_)
          clear hK K
          refine nx ?_
          refine px 8 20 (bs 33 511) HT_.out ?_
          refine px 9 21 (bs 33 1023) HT_.out ?_
          refine px 10 22 (bs 33 2047) HT_.out ?_
          refine px 11 23 (bs 33 4095) HT_.out ?_
          refine px 13 25 (bs 33 12287) HT_.out ?_
          refine tx 12 24 (bs 33 16383) HT_.out HW_.out hHeld ?_
          refine tx 14 26 (bs 33 32767) HT_.out HW_.out hHeld ?_
          refine px 15 27 (bs 33 65535) HT_.out ?_
          refine px 16 28 (bs 33 131071) HT_.out ?_
          refine px 17 29 (bs 33 262143) HT_.out ?_
          refine px 18 30 (bs 33 524287) HT_.out ?_
          refine px 19 31 (bs 33 1048575) HT_.out ?_
          refine px 20 32 (bs 33 2097151) HT_.out ?_
          refine pu 21 33 (bs 33 4194303) HT_.out ?_
          refine pu 22 34 (bs 33 8388607) HT_.out ?_
          refine pu 23 35 (bs 33 16777215) HT_.out ?_
          refine pu 24 36 (bs 33 33554431) HT_.out ?_
          refine pu 25 37 (bs 33 67108863) HT_.out ?_
          refine pu 26 38 (bs 33 134217727) HT_.out ?_
          refine pu 27 39 (bs 33 268435455) HT_.out ?_
          refine pu 28 40 (bs 33 536870911) HT_.out ?_
          refine pu 29 41 (bs 33 1073741823) HT_.out ?_
          refine pu 30 42 (bs 33 2147483647) HT_.out ?_
          refine px 31 43 (bs 33 4294967295) HT_.out ?_
          refine px 32 44 (bs 33 8589934591) HT_.out ?_
          refine done_ (done_of HT_.out (by kernel_rfl)) ?_
          try go_wp2
          go_roundg k1
          case measure => have := HK1.out; omega
          case rel => exact ⟨(wrap64 (x7_1 + 1)), sm, H', ⟨by have := HK1.out; omega⟩, ⟨bl1 HB.out GE324.out⟩⟩
       ·replace c8 := Bool.eq_false_iff.mpr c8
        subst c8
        have H1 : (some false) = some r := by rw [if_neg (show ¬ (false = true) by decide)] at H; exact H
        clear H
        have H := H1
        clear H1
        obtain rfl := Option.some.inj H
        have p323 : 0 ≤ (x7_1 : Int) := of_decide_eq_true asm
        have q323 : x7_1 < (l0.length : Int) := of_decide_eq_true asm
        obtain ⟨ad323, e323, hx323_0, hx323_1⟩ := at_T23 HR0.out x7_1 p323 q323
        cases e323
        replace hx323_0 := (HB.out.cell (World.block_lt_of_cell? w _ hx323_0)).trans hx323_0
        replace hx323_1 := (HB.out.cell (World.block_lt_of_cell? w _ hx323_1)).trans hx323_1
        replace p323 := eq_true p323
        replace q323 := eq_true q323
        try go_wp2_with (first | ((with_reducible refine gate_dst (N := 4) rfl ?_); refine bx 4 23 #[.int .i64 0, .int .i64 0] ?_; intro gb324 hg w31 hbox hb; have BK324 := am (hbox); have GW324 := am ((bz hg HB.out : w.heap.size ≤ gb324)); have GE324 := am ((bz hg HB.out : w.heap.size ≤ gb324)); replace HB := am (below_step (bl HB.out) hb); clear hb hbox hg; have hcz32_0 : w31.cell? ⟨gb324, 0, none⟩ = some (.int .i64 0) := bc BK324.out 0; have hcz32_1 : w31.cell? ⟨gb324, 1, none⟩ = some (.int .i64 0) := bc BK324.out 1; have hfz32_0 := blk_frozen BK324.out 0; have hfz32_1 := blk_frozen BK324.out 1))
        have n0_ : Aside0 (((w31.setCell ⟨gb324, 0, none⟩ (.int .i64 ((rd_T23 l0 x7_1).f0))).setCell ⟨gb324, 1, none⟩ (.int .i64 ((rd_T23 l0 x7_1).f1))).heap[gb324]? = some (.cells #[.int .i64 ((rd_T23 l0 x7_1).f0), .int .i64 ((rd_T23 l0 x7_1).f1)] 23 (0, 0))) := ⟨by (with_reducible repeat (first | refine blk_drewN ?_ _ | refine blk_drew ?_ | refine blk_alloc ?_ _)); refine blk_put (cs := #[.int .i64 ((rd_T23 l0 x7_1).f0), .int .i64 0]) ?_ 1 _ rfl; (with_reducible repeat (first | refine blk_drewN ?_ _ | refine blk_drew ?_ | refine blk_alloc ?_ _)); refine blk_put (cs := #[.int .i64 0, .int .i64 0]) ?_ 0 _ rfl; (with_reducible repeat (first | refine blk_drewN ?_ _ | refine blk_drew ?_ | refine blk_alloc ?_ _)); exact BK324.out⟩
        have n1_ : Aside0 (Below w.heap.size w ((w31.setCell ⟨gb324, 0, none⟩ (.int .i64 ((rd_T23 l0 x7_1).f0))).setCell ⟨gb324, 1, none⟩ (.int .i64 ((rd_T23 l0 x7_1).f1)))) := ⟨bl1 HB.out GE324.out⟩
        (try clear BK324)
        (try clear HB)
        generalize ((w31.setCell ⟨gb324, 0, none⟩ (.int .i64 ((rd_T23 l0 x7_1).f0))).setCell ⟨gb324, 1, none⟩ (.int .i64 ((rd_T23 l0 x7_1).f1))) = w33 at n0_ n1_ ⊢
        have BK324 := n0_
        have HB := n1_
        clear n0_ n1_
        replace BK324 := am (blk_drew BK324.out)
        replace HB := am (below_drew1 HB.out)
        refine start_ (n := 33) (S := fun w' => w'.cell? ⟨gb324, 0, none⟩ = some (.int .i64 ((rd_T23 l0 x7_1).f0)) ∧ w'.cell? ⟨gb324, 1, none⟩ = some (.int .i64 ((rd_T23 l0 x7_1).f1))) (ds := []) (bs 33 0) (by kernel_rfl) rfl rfl ⟨bc BK324.out 0, bc BK324.out 1⟩ (fun hHeld => ?_); refine with_tabW spans_Right.tab4 spans_Right.bits4 (fun HT_ HW_ => ?_)
        generalize w33.drew = w34 at BK324 HB hHeld ⊢
        refine px 0 12 (bs 33 1) HT_.out ?_
        refine tx 1 13 (bs 33 3) HT_.out HW_.out hHeld ?_
        refine one_ (i := 2) (N := some 14) (bs 33 7) rfl rfl (one_of HT_.out (by kernel_rfl)) (by decide) (fun K hK => ?_)
        refine goes_ Try.func66 (by kernel_rfl) rfl #[.int .i64 ((rd_T23 l0 x7_1).f0)] (by rfl) rfl rfl ar ?_
        with_reducible refine (spans_tick.calls ((rd_T23 l0 x7_1).f0) true _ A5.out).mono ?_
        rintro e w' ⟨rfl, ⟨nd, rfl⟩⟩
        refine ⟨_, rfl, ?_⟩
        refine hK.out _ _ ⟨bc BK324.out 0, bc BK324.out 1⟩ (fun hHeld => ?_)
        clear hK K
        refine nx ?_
        refine px 3 15 (bs 33 15) HT_.out ?_
        refine px 4 16 (bs 33 31) HT_.out ?_
        refine px 5 17 (bs 33 63) HT_.out ?_
        refine tx 6 18 (bs 33 127) HT_.out HW_.out hHeld ?_
        refine one_ (i := 7) (N := some 19) (bs 33 255) rfl rfl (one_of HT_.out (by kernel_rfl)) (by decide) (fun K hK => ?_)
        refine goes_ Try.func66 (by kernel_rfl) rfl #[.int .i64 ((rd_T23 l0 x7_1).f1)] (by rfl) rfl rfl ar ?_
        with_reducible refine (spans_tick.calls ((rd_T23 l0 x7_1).f1) false _ A7.out).mono ?_
        rintro e w' ⟨rfl, ⟨nd, rfl⟩⟩
        refine ⟨_, rfl, ?_⟩
        refine hK.out _ _ ⟨bc BK324.out 0, bc BK324.out 1⟩ (fun hHeld => ?_)
        clear hK K
        refine nx ?_
        refine px 8 20 (bs 33 511) HT_.out ?_
        refine px 9 21 (bs 33 1023) HT_.out ?_
        refine px 10 22 (bs 33 2047) HT_.out ?_
        refine pu 11 23 (bs 33 4095) HT_.out ?_
        refine pu 12 24 (bs 33 8191) HT_.out ?_
        refine pu 13 25 (bs 33 16383) HT_.out ?_
        refine pu 14 26 (bs 33 32767) HT_.out ?_
        refine pu 15 27 (bs 33 65535) HT_.out ?_
        refine px 16 28 (bs 33 131071) HT_.out ?_
        refine px 17 29 (bs 33 262143) HT_.out ?_
        refine pu 18 30 (bs 33 524287) HT_.out ?_
        refine pu 19 31 (bs 33 1048575) HT_.out ?_
        refine pu 20 32 (bs 33 2097151) HT_.out ?_
        refine pu 21 33 (bs 33 4194303) HT_.out ?_
        refine pu 22 34 (bs 33 8388607) HT_.out ?_
        refine pu 23 35 (bs 33 16777215) HT_.out ?_
        refine pu 24 36 (bs 33 33554431) HT_.out ?_
        refine pu 25 37 (bs 33 67108863) HT_.out ?_
        refine pu 26 38 (bs 33 134217727) HT_.out ?_
        refine pu 27 39 (bs 33 268435455) HT_.out ?_
        refine pu 28 40 (bs 33 536870911) HT_.out ?_
        refine pu 29 41 (bs 33 1073741823) HT_.out ?_
        refine pu 30 42 (bs 33 2147483647) HT_.out ?_
        refine pu 31 43 (bs 33 4294967295) HT_.out ?_
        refine px 32 44 (bs 33 8589934591) HT_.out ?_
        refine done_ (done_of HT_.out (by kernel_rfl)) ?_
        try go_wp2
        go_ret
        exact ⟨rt, bl1 HB.out GE324.out⟩
      ·replace c6 := Bool.eq_false_iff.mpr c6
       subst c6
       have H1 : (some false) = some r := by rw [if_neg (show ¬ (false = true) by decide)] at H; exact H
       clear H
       have H := H1
       clear H1
       obtain rfl := Option.some.inj H
       have p323 : 0 ≤ (x7_1 : Int) := of_decide_eq_true asm
       have q323 : x7_1 < (l0.length : Int) := of_decide_eq_true asm
       obtain ⟨ad323, e323, hx323_0, hx323_1⟩ := at_T23 HR0.out x7_1 p323 q323
       cases e323
       replace hx323_0 := (HB.out.cell (World.block_lt_of_cell? w _ hx323_0)).trans hx323_0
       replace hx323_1 := (HB.out.cell (World.block_lt_of_cell? w _ hx323_1)).trans hx323_1
       replace p323 := eq_true p323
       replace q323 := eq_true q323
       try go_wp2_with (first | ((with_reducible refine gate_dst (N := 4) rfl ?_); refine bx 4 23 #[.int .i64 0, .int .i64 0] ?_; intro gb324 hg w35 hbox hb; have BK324 := am (hbox); have GW324 := am ((bz hg HB.out : w.heap.size ≤ gb324)); have GE324 := am ((bz hg HB.out : w.heap.size ≤ gb324)); replace HB := am (below_step (bl HB.out) hb); clear hb hbox hg; have hcz36_0 : w35.cell? ⟨gb324, 0, none⟩ = some (.int .i64 0) := bc BK324.out 0; have hcz36_1 : w35.cell? ⟨gb324, 1, none⟩ = some (.int .i64 0) := bc BK324.out 1; have hfz36_0 := blk_frozen BK324.out 0; have hfz36_1 := blk_frozen BK324.out 1))
       have n0_ : Aside0 (((w35.setCell ⟨gb324, 0, none⟩ (.int .i64 ((rd_T23 l0 x7_1).f0))).setCell ⟨gb324, 1, none⟩ (.int .i64 ((rd_T23 l0 x7_1).f1))).heap[gb324]? = some (.cells #[.int .i64 ((rd_T23 l0 x7_1).f0), .int .i64 ((rd_T23 l0 x7_1).f1)] 23 (0, 0))) := ⟨by (with_reducible repeat (first | refine blk_drewN ?_ _ | refine blk_drew ?_ | refine blk_alloc ?_ _)); refine blk_put (cs := #[.int .i64 ((rd_T23 l0 x7_1).f0), .int .i64 0]) ?_ 1 _ rfl; (with_reducible repeat (first | refine blk_drewN ?_ _ | refine blk_drew ?_ | refine blk_alloc ?_ _)); refine blk_put (cs := #[.int .i64 0, .int .i64 0]) ?_ 0 _ rfl; (with_reducible repeat (first | refine blk_drewN ?_ _ | refine blk_drew ?_ | refine blk_alloc ?_ _)); exact BK324.out⟩
       have n1_ : Aside0 (Below w.heap.size w ((w35.setCell ⟨gb324, 0, none⟩ (.int .i64 ((rd_T23 l0 x7_1).f0))).setCell ⟨gb324, 1, none⟩ (.int .i64 ((rd_T23 l0 x7_1).f1)))) := ⟨bl1 HB.out GE324.out⟩
       (try clear BK324)
       (try clear HB)
       generalize ((w35.setCell ⟨gb324, 0, none⟩ (.int .i64 ((rd_T23 l0 x7_1).f0))).setCell ⟨gb324, 1, none⟩ (.int .i64 ((rd_T23 l0 x7_1).f1))) = w37 at n0_ n1_ ⊢
       have BK324 := n0_
       have HB := n1_
       clear n0_ n1_
       replace BK324 := am (blk_drew BK324.out)
       replace HB := am (below_drew1 HB.out)
       refine start_ (n := 33) (S := fun w' => w'.cell? ⟨gb324, 0, none⟩ = some (.int .i64 ((rd_T23 l0 x7_1).f0)) ∧ w'.cell? ⟨gb324, 1, none⟩ = some (.int .i64 ((rd_T23 l0 x7_1).f1))) (ds := []) (bs 33 0) (by kernel_rfl) rfl rfl ⟨bc BK324.out 0, bc BK324.out 1⟩ (fun hHeld => ?_); refine with_tabW spans_Right.tab4 spans_Right.bits4 (fun HT_ HW_ => ?_)
       generalize w37.drew = w38 at BK324 HB hHeld ⊢
       refine px 0 12 (bs 33 1) HT_.out ?_
       refine tx 1 13 (bs 33 3) HT_.out HW_.out hHeld ?_
       refine one_ (i := 2) (N := some 14) (bs 33 7) rfl rfl (one_of HT_.out (by kernel_rfl)) (by decide) (fun K hK => ?_)
       refine goes_ Try.func66 (by kernel_rfl) rfl #[.int .i64 ((rd_T23 l0 x7_1).f0)] (by rfl) rfl rfl ar ?_
       with_reducible refine (spans_tick.calls ((rd_T23 l0 x7_1).f0) false _ A5.out).mono ?_
       rintro e w' ⟨rfl, ⟨nd, rfl⟩⟩
       refine ⟨_, rfl, ?_⟩
       refine hK.out _ _ ⟨bc BK324.out 0, bc BK324.out 1⟩ (fun hHeld => ?_)
       clear hK K
       refine nx ?_
       refine px 3 15 (bs 33 15) HT_.out ?_
       refine px 4 16 (bs 33 31) HT_.out ?_
       refine pu 5 17 (bs 33 63) HT_.out ?_
       refine pu 6 18 (bs 33 127) HT_.out ?_
       refine pu 7 19 (bs 33 255) HT_.out ?_
       refine pu 8 20 (bs 33 511) HT_.out ?_
       refine px 9 21 (bs 33 1023) HT_.out ?_
       refine px 10 22 (bs 33 2047) HT_.out ?_
       refine pu 11 23 (bs 33 4095) HT_.out ?_
       refine pu 12 24 (bs 33 8191) HT_.out ?_
       refine pu 13 25 (bs 33 16383) HT_.out ?_
       refine pu 14 26 (bs 33 32767) HT_.out ?_
       refine pu 15 27 (bs 33 65535) HT_.out ?_
       refine px 16 28 (bs 33 131071) HT_.out ?_
       refine px 17 29 (bs 33 262143) HT_.out ?_
       refine pu 18 30 (bs 33 524287) HT_.out ?_
       refine pu 19 31 (bs 33 1048575) HT_.out ?_
       refine pu 20 32 (bs 33 2097151) HT_.out ?_
       refine pu 21 33 (bs 33 4194303) HT_.out ?_
       refine pu 22 34 (bs 33 8388607) HT_.out ?_
       refine pu 23 35 (bs 33 16777215) HT_.out ?_
       refine pu 24 36 (bs 33 33554431) HT_.out ?_
       refine pu 25 37 (bs 33 67108863) HT_.out ?_
       refine pu 26 38 (bs 33 134217727) HT_.out ?_
       refine pu 27 39 (bs 33 268435455) HT_.out ?_
       refine pu 28 40 (bs 33 536870911) HT_.out ?_
       refine pu 29 41 (bs 33 1073741823) HT_.out ?_
       refine pu 30 42 (bs 33 2147483647) HT_.out ?_
       refine pu 31 43 (bs 33 4294967295) HT_.out ?_
       refine px 32 44 (bs 33 8589934591) HT_.out ?_
       refine done_ (done_of HT_.out (by kernel_rfl)) ?_
       try go_wp2
       go_ret
       exact ⟨rt, bl1 HB.out GE324.out⟩
     ·rw [if_neg c4] at H
      exact absurd H (by simp)
    ·rw [if_neg c3] at H
     exact absurd H (by simp)
   ·rw [if_neg c2] at H
    have c2b0 : decide (x7_1 < (l0.length : Int)) = false := decide_eq_false c2
    clear c2
    obtain rfl := Option.some.inj H
    go_wp2
    go_ret
    exact ⟨rt, bl HB.out⟩

end Go.Proofs.Ytmbmalkpmanaaaa.P

namespace Go.Proofs.Ytmbmalkpmanaaaa.P
open Go.RowKit Go.Proofs.YtmbmalkpmanaaaaW.PrintWords Go.Proofs.YtmbmalkpmanaaaaW.PrintLast Go.Proofs.YtmbmalkpmanaaaaW.PrintMore
attribute [local go_sem] max2_int min2_int max_two min_two max_three min_three max_four min_four   -- for this text's walks alone
set_option linter.unusedVariables false
set_option linter.unusedSimpArgs false

def spans_Meet.f (l0 : List (S23)) (l1 : List (S23)) : Option (Bool) := (spans_Cut.f l0 l1).bind fun t384 => (some (decide ((t384.length : Int) > 0)))
set_option maxHeartbeats 8000000 in
set_option maxRecDepth 100000 in
theorem spans_Meet.calls (A0 : Option Addr) (c0 : Nat) (l0 : List (S23)) (A1 : Option Addr) (c1 : Nat) (l1 : List (S23)) (r : Bool) (w : World) (hr0 : Kd.C k23 w A0 l0.length l0) (hc0 : l0.length ≤ c0) (hr1 : Kd.C k23 w A1 l1.length l1) (hc1 : l1.length ≤ c1) (h : spans_Meet.f l0 l1 = some r) :
 Calls Try.prog 38 #[.slice A0 l0.length c0, .slice A1 l1.length c1] w fun e w' => e = .returned (.bool r) ∧ Below w.heap.size w w' := by
 have HR0 := am hr0
 have HC0 := am hc0
 clear hr0 hc0
 have HR1 := am hr1
 have HC1 := am hc1
 clear hr1 hc1
 have HB := am (Below.refl w.heap.size w)
 have H : ((spans_Cut.f l0 l1).bind fun t384 => (some (decide ((t384.length : Int) > 0)))) = some r := h
 clear h
 replace H := Option.bind_eq_some_iff.mp H
 obtain ⟨t384, A30, H⟩ := H
 try dsimp only at H
 have A3 := am A30
 clear A30
 obtain rfl := Option.some.inj H
 go_enter Try.func38, Try.ntmps38
 go_wp2_with (first | ((with_reducible refine gate_callee (f := 36) rfl ?_); refine goesL_ (some 7) rfl rfl Try.func36 (by kernel_rfl) rfl #[.slice A0 l0.length c0, .slice A1 l1.length c1] rfl ar ?_; (with_reducible refine (spans_Cut.calls _ _ l0 _ _ l1 t384 _ ?side1 ?side2 ?side3 ?side4 A3.out).mono ?_); (case side1 => exact kc HR0.out); (case side2 => exact HC0.out); (case side3 => exact kc HR1.out); (case side4 => exact HC1.out); rintro e w4 ⟨v385, rfl, ho0, hb⟩; refine ⟨_, rfl, ?_⟩; have HO386 := am (Kd.R_lower ho0 (below_size (bl HB.out))); replace HB := am (below_step (bl HB.out) hb); (try clear hb); (try clear hb2); (try clear hk); (try clear hi); (try clear ho0); obtain ⟨Ao5, co5, eo5⟩ := Kd.R_slice HO386.out; subst eo5))
 go_ret
 exact ⟨rt, bl HB.out⟩

end Go.Proofs.Ytmbmalkpmanaaaa.P

namespace Go.Proofs.Ytmbmalkpmanaaaa.P
set_option linter.unusedVariables false
set_option linter.unusedSimpArgs false
open Go.RowKit Go.Shelf Go.Proofs.YtmbmalkpmanaaaaW.PrintWords Go.Proofs.YtmbmalkpmanaaaaW.PrintLast Go.Proofs.YtmbmalkpmanaaaaW.PrintMore Go.Proofs.Ytmbmalkpmanaaaa.RangeL
attribute [local go_sem] Oper.semAt_some

theorem between_calls (a0_0 a0_1 : Int) (v2 v3 : Value) (h0 h1 : Int) (w : World) :
    Calls Try.prog 50 #[.agg #[.int .i64 a0_0, .int .i64 a0_1, v2, v3], .agg #[.int .i64 h0, .int .i64 h1]] w fun e w' =>
      e = .returned (.func (.func 79) #[] #[.pointer (some ⟨w.heap.size, 0, none⟩), .pointer (some ⟨w.heap.size + 1, 0, none⟩)]) ∧
      w' = (w.alloc (.cells #[.int .i64 a0_0, .int .i64 a0_1, v2, v3] 28)).alloc (.cells #[.int .i64 h0, .int .i64 h1] 23) := by
  go_enter Try.func50, Try.ntmps50
  go_wp2
  go_ret
  exact ⟨rfl, rfl⟩

def find_Over.l (l : List Sp) : List (Int × List Sp) → Int → List Int → Option (List Int × Int)
  | [], _, out => some (out, 0)
  | x :: r, n, out => if n + 1 > 60000 then some ([], 3) else (spans_Meet.f x.2 l).bind fun b => find_Over.l l r (n + 1) (if b = true then out ++ [x.1] else out)
def find_Over.f (k : Nat) (p c : Int) (core : List (List S23)) (odd : List S70) (l : List S23) : Option (List Int × Int) :=
  (spans_Right.f k l).bind fun ok => if ok = true then (spans_Hull.f l).bind fun h => if h.2.2 = true then (find_between.f k p c core odd h.1 h.2.1).bind fun xs => find_Over.l l xs 0 [] else some ([], 0) else some ([], 50)
theorem LeO_map {α β : Type} {a b : Option α} (h : LeO a b) (f : α → β) : LeO (a.map f) (b.map f) := fun r hr => by
  obtain ⟨x, hx, rfl⟩ := Option.map_eq_some_iff.mp hr
  rw [h x hx]; rfl
theorem find_between.mono_l : ∀ (k : Nat) (i : Int) (ok : Bool) (h1 p c : Int) (core : List (List S23)) (odd : List S70), LeO (find_between.l k i ok h1 p c core odd) (find_between.l (k + 1) i ok h1 p c core odd)
  | 0, _, _, _, _, _, _, _ => fun r h => by simp [find_between.l] at h
  | k + 1, i, ok, h1, p, c, core, odd => by
    have ih := find_between.mono_l k
    unfold find_between.l
    repeat' first
      | (with_reducible exact ih _ _ _ _ _ _ _)
      | (with_reducible exact gran_Get.mono _ _ _ _ _ _)
      | (with_reducible exact gran_Behind.mono _ _ _ _ _ _)
      | (with_reducible exact LeO.refl _)
      | (with_reducible exact LeO.none _)
      | (with_reducible refine LeO_map ?_ _)
      | (with_reducible refine LeO.ite ?_ ?_)
      | (with_reducible refine LeO.bind ?_ (fun _ => ?_))
theorem find_Over.mono (p c : Int) (core : List (List S23)) (odd : List S70) (l : List S23) (k : Nat) : LeO (find_Over.f k p c core odd l) (find_Over.f (k + 1) p c core odd l) := by
  unfold find_Over.f find_between.f
  repeat' first
    | (with_reducible exact find_between.mono_l _ _ _ _ _ _ _ _)
    | (with_reducible exact find_From.mono _ _ _ _ _ _)
    | (with_reducible exact spans_Right.mono _ _)
    | (with_reducible exact LeO.refl _)
    | (with_reducible exact LeO.none _)
    | (with_reducible refine LeO.ite ?_ ?_)
    | (with_reducible refine LeO.bind ?_ (fun _ => ?_))

theorem over_results (tmps : Array Value) (W : World) (b4 b5 : Nat) (v4 v5 : Value) (e4 : tmps.getD 4 undef = .pointer (some ⟨b4, 0, none⟩)) (e5 : tmps.getD 5 undef = .pointer (some ⟨b5, 0, none⟩))
    (h4 : Boxed W b4 29 v4) (h5 : Boxed W b5 30 v5) : (results Try.f14 tmps).run Try.prog W = .ok (.tuple #[v4, v5]) W := by
  have e4' : tmps[4]?.getD undef = .pointer (some ⟨b4, 0, none⟩) := by simpa using e4
  have e5' : tmps[5]?.getD undef = .pointer (some ⟨b5, 0, none⟩) := by simpa using e5
  have c4 := h4.cell
  have c5 := h5.cell
  have u4 := Try.underlying29
  have u5 := Try.underlying30
  have hr : Try.f14.results = #[.cell 4 29, .cell 5 30] := rfl
  simp [results, hr, e4', e5', asAddr, go_sem, c4, c5, u4, u5]

theorem C23_mine {B : Nat} {W W' : World} {row : Option Nat} {A : Option Addr} {n : Nat} {xs : List Sp} (h : Kd.C k23 W A n xs) (hg : W.grownBy W' row) (hr : ∀ r, row = some r → ∀ ad, A = some ad → 0 < n → ad.block ≠ r) : Kd.C k23 W' A n xs := by
  cases row with
  | none => exact Kd.C_foot_ne (g := W.heap.size) (fun h => h) h (fun ad e hn => by
      obtain ⟨ad', e', h0, _⟩ := at_T23 h 0 (by omega) (by omega)
      rw [e] at e'; cases e'
      have := World.block_lt_of_cell? W _ h0
      simp only [add_block] at this
      omega) W' ⟨hg.size, fun i hi _ _ => hg.block i hi (by simp)⟩
  | some g => exact Kd.C_foot_ne (g := g) (fun h => h) h (fun ad e hn => hr g rfl ad e hn) W' ⟨hg.size, fun i hi hne _ => hg.block i hi (by simpa using hne)⟩

def OI (l1 : List Sp) (v1 : Value) (xs : List (Int × List Sp)) (r1 : List Int) (r2 : Int) (N M : Nat) (w : World) (pre : List (Int × List Sp)) (W : World) : Prop :=
  ∃ (v : Value) (out : List Int), (∀ rest, xs = pre ++ rest → find_Over.l l1 rest (pre.length : Int) out = some (r1, r2)) ∧ out.length ≤ pre.length ∧ pre.length ≤ 60000 ∧
    Boxed W (N + 1) 24 v1 ∧ Boxed W (N + 1 + 1) 29 (.slice none 0 0) ∧ Boxed W (N + 1 + 1 + 1) 30 (.int .i64 0) ∧ Boxed W (M + 1) 29 v ∧ Boxed W (M + 1 + 1) 3 (.int .i64 (pre.length : Int)) ∧
    W.ownsRow (M + 5) 3 1 v out.length (out.map (.int .i64)) ∧ Below N w W ∧ M + 5 ≤ W.heap.size
theorem oi_mine {l1 : List Sp} {v1 : Value} {xs : List (Int × List Sp)} {r1 : List Int} {r2 : Int} {N M : Nat} {w : World} (hNM : N + 4 ≤ M) (pre : List (Int × List Sp)) : Mine (M + 5) (fun _ => False) (OI l1 v1 xs r1 r2 N M w pre) := by
  rintro W W' row ⟨v, out, a1, a2, a3, b1, b2, b3, b4, b5, b6, hb, hs⟩ hg hr
  have far : ∀ k, k < M + 5 → some k ≠ row := by
    intro k hk e
    rcases hr k e.symm with ⟨h, _⟩ | h
    · omega
    · exact h
  refine ⟨v, out, a1, a2, a3, b1.kept hg (far _ (by omega)), b2.kept hg (far _ (by omega)), b3.kept hg (far _ (by omega)), b4.kept hg (far _ (by omega)), b5.kept hg (far _ (by omega)), b6.kept hg ?_, hb.grown hg (by omega) (fun j e => ?_), Nat.le_trans hs hg.size⟩
  · rcases b6.2 with ⟨rfl, _⟩ | ⟨g, cap, cur, rfl, hge, hgb, _⟩
    · exact .inl rfl
    · refine .inr fun e => ?_
      rcases hr g (by simpa [Value.ownBlock] using e.symm) with ⟨_, o, ho, hc⟩ | h
      · rw [hgb] at ho; cases ho; cases hc
      · exact h
  · rcases hr j e with ⟨h, _⟩ | h
    · omega
    · exact h.elim
def OX (r1 : List Int) (r2 : Int) (N : Nat) (w : World) (c : Code) (W : World) : Prop :=
  c = .ret ∧ r1 = [] ∧ r2 = 3 ∧ Boxed W (N + 1 + 1) 29 (.slice none 0 0) ∧ Boxed W (N + 1 + 1 + 1) 30 (.int .i64 3) ∧ Below N w W ∧ N + 4 ≤ W.heap.size
theorem ox_mine {r1 : List Int} {r2 : Int} {N M : Nat} {w : World} (hNM : N + 4 ≤ M) (c : Code) : Mine (M + 5) (fun _ => False) (OX r1 r2 N w c) := by
  rintro W W' row ⟨a1, a2, a3, b1, b2, hb, hs⟩ hg hr
  have far : ∀ k, k < M + 5 → some k ≠ row := by
    intro k hk e
    rcases hr k e.symm with ⟨h, _⟩ | h
    · omega
    · exact h
  exact ⟨a1, a2, a3, b1.kept hg (far _ (by omega)), b2.kept hg (far _ (by omega)), hb.grown hg (by omega) (fun j e => by rcases hr j e with ⟨h, _⟩ | h; omega; exact h.elim), Nat.le_trans hs hg.size⟩
def OA (OF : Int → Value → Act) (l1 : List Sp) (v1 : Value) (xs : List (Int × List Sp)) (r1 : List Int) (r2 : Int) (N M : Nat) (w : World) (pre : List (Int × List Sp)) (b : Int × List Sp) (a' : Act) (W : World) : Prop :=
  ∃ A c, a' = OF b.1 (.slice A b.2.length c) ∧ b.2.length ≤ c ∧ (∀ ad, A = some ad → M + 5 ≤ ad.block) ∧ Kd.C k23 W A b.2.length b.2 ∧ OI l1 v1 xs r1 r2 N M w pre W
theorem oa_mine {OF : Int → Value → Act} {l1 : List Sp} {v1 : Value} {xs : List (Int × List Sp)} {r1 : List Int} {r2 : Int} {N M : Nat} {w : World} (hNM : N + 4 ≤ M) (pre : List (Int × List Sp)) (b : Int × List Sp) (a' : Act) : Mine (M + 5) (fun _ => False) (OA OF l1 v1 xs r1 r2 N M w pre b a') := by
  rintro W W' row ⟨A, c, e, hc, hA, hC, hI⟩ hg hr
  refine ⟨A, c, e, hc, hA, C23_mine (B := M + 5) hC hg (fun r er ad ea hn eb => ?_), oi_mine hNM pre W W' row hI hg hr⟩
  rcases hr r er with ⟨_, o, ho, hoc⟩ | h
  · obtain ⟨ad', e', h0, _⟩ := at_T23 hC 0 (by omega) (by omega)
    rw [ea] at e'; cases e'
    obtain ⟨o2, ho2, hc2⟩ := cells_of_cell h0
    rw [add_block, eb, ho] at ho2; cases ho2; rw [hoc] at hc2; cases hc2
  · exact h
theorem kp_set {N M j B : Nat} (W : World) (v : Value) (h0 : N ≤ j) (h1 : j ≠ M + 1 + 1 + 1) (h2 : j ≠ M + 1 + 1 + 1 + 1) : KeepsFrom B W (W.setCell ⟨j, 0, none⟩ v) ∧ KpI N (M + 1 + 1 + 1) (M + 1 + 1 + 1 + 1) W (W.setCell ⟨j, 0, none⟩ v) :=
  ⟨(KeepsOthers.setCell _ _ _).from _, (Below.refl N W).setCell (p := ⟨j, 0, none⟩) h0 _, Below.heap_setCell _ _ _ _ (Ne.symm h1), Below.heap_setCell _ _ _ _ (Ne.symm h2)⟩
theorem kp_two {N B1 B2 B : Nat} {W1 W2 W3 : World} (h : KeepsFrom B W1 W2 ∧ KpI N B1 B2 W1 W2) (k : KeepsFrom B W2 W3 ∧ KpI N B1 B2 W2 W3) : KeepsFrom B W1 W3 ∧ KpI N B1 B2 W1 W3 :=
  ⟨h.1.trans k.1, h.2.1.trans k.2.1, k.2.2.1.trans h.2.2.1, k.2.2.2.trans h.2.2.2⟩
theorem kp_below {N B1 B2 B : Nat} {W1 W2 : World} (h : Below W1.heap.size W1 W2) (hN : N ≤ W1.heap.size) (h1 : B1 < W1.heap.size) (h2 : B2 < W1.heap.size) : KeepsFrom B W1 W2 ∧ KpI N B1 B2 W1 W2 :=
  ⟨⟨h.size, fun k o _ hk _ => (h.block k (Array.getElem?_eq_some_iff.1 hk).1).trans hk⟩, h.mono hN, h.block _ h1, h.block _ h2⟩
theorem row_below {W W' : World} {nb e size k : Nat} {v : Value} {xs : List Value} (h : W.ownsRow nb e size v k xs) (hb : Below W.heap.size W W') : W'.ownsRow nb e size v k xs := by
  rcases h.2 with ⟨rfl, _⟩ | ⟨g, cap, cur, rfl, _⟩
  · exact h.kept (grown_below hb) (.inl rfl)
  · exact h.kept (grown_below hb) (.inr (by simp [Value.ownBlock]))
theorem clip_calls (A : Option Addr) (n c : Nat) (hn : n ≤ c) (w : World) : Calls Try.prog 51 #[.slice A n c] w fun e w' => e = .returned (.slice A n n) ∧ w = w' := by
  go_enter Try.func51, Try.ntmps51
  go_wp2
  go_ret
  exact ⟨rfl, rfl⟩
theorem intinfo : (Try.prog.info? 3).map (fun i => (i.zero, i.size, i.bytes)) = some (some (.int .i64 0), 1, 8) := by kernel_rfl

set_option maxHeartbeats 8000000 in
set_option maxRecDepth 100000 in
theorem over_in (k : Nat) (a0_0 : Int) (a0_1 : Int) (A0_2 : Option Addr) (c0_2 : Nat) (l0_2 : List (List (S23))) (A0_3 : Option Addr) (c0_3 : Nat) (l0_3 : List (S70)) (A1 : Option Addr) (c1 : Nat) (l1 : List (S23)) (r1 : List Int) (r2 : Int)
    (w : World) (hr0_2 : Kd.C (Kd.slice 23 k23) w A0_2 l0_2.length l0_2) (hc0_2 : l0_2.length ≤ c0_2) (hr0_3 : Kd.C k70 w A0_3 l0_3.length l0_3) (hc0_3 : l0_3.length ≤ c0_3) (hr1 : Kd.C k23 w A1 l1.length l1) (hc1 : l1.length ≤ c1)
    (h : find_Over.f k a0_0 a0_1 l0_2 l0_3 l1 = some (r1, r2)) :
    CallsIn Fence.wide 3 Try.prog 14 #[.agg #[.int .i64 a0_0, .int .i64 a0_1, .slice A0_2 l0_2.length c0_2, .slice A0_3 l0_3.length c0_3], .slice A1 l1.length c1] w fun e w' => ∃ v0_ : Value, e = .returned (.tuple #[v0_, .int .i64 r2]) ∧ Kd.V (Kd.int .i64) 3 w' w.heap.size (fun k_ => w.heap.size ≤ k_) v0_ r1 ∧ Below w.heap.size w w' := by
  have HR2 := Aside0.mk hr0_2
  have HC2 := Aside0.mk hc0_2
  have HR3 := Aside0.mk hr0_3
  have HC3 := Aside0.mk hc0_3
  have HR1 := Aside0.mk hr1
  have HC1 := Aside0.mk hc1
  unfold find_Over.f at h
  obtain ⟨ok, hok, h⟩ := Option.bind_eq_some_iff.mp h
  have HOK := Aside0.mk hok
  have H := Aside0.mk h
  clear hr0_2 hc0_2 hr0_3 hc0_3 hr1 hc1 h hok
  refine callsIn_of_wp_marks Try.func14 rfl trivial ?_ rfl
  simp only [Try.ntmps14, List.size_toArray, List.length_cons, List.length_nil, Nat.reduceAdd, Nat.reduceSub, Array.replicate_succ, Array.replicate_zero, List.push_toArray, List.append_toArray, List.nil_append, List.cons_append]
  gi_wp2_with fail
  refine ⟨trivial, ?_⟩
  refine (callsIn_wide.2 (spans_Right.calls k A1 c1 l1 ok _ (Kd.C_below HR1.out (by repeat (first | exact Below.refl _ _ | apply below_alloc))) HC1.out HOK.out)).mono ?_
  rintro e w1 ⟨rfl, hb1⟩
  have HB := Aside0.mk ((((((Below.refl w.heap.size w).alloc (Nat.le_refl _) _).alloc (by simp) _).alloc (by simp; try omega) _).alloc (by simp; try omega) _).trans (hb1.mono (by simp; try omega)))
  have BK2 : Aside0 (w1.heap[w.heap.size]? = some (.cells #[.int .i64 a0_0, .int .i64 a0_1, .slice A0_2 l0_2.length c0_2, .slice A0_3 l0_3.length c0_3] 28 (0, 0))) := ⟨blk_below (blk_alloc (blk_alloc (blk_alloc (blk_new w _) _) _) _) hb1⟩
  have BK3 : Aside0 (w1.heap[w.heap.size + 1]? = some (.cells #[.slice A1 l1.length c1] 24 (0, 0))) := ⟨by have := blk_below (blk_alloc (blk_alloc (blk_new (w.alloc _) _) _) _) hb1; simpa using this⟩
  have BK4 : Aside0 (w1.heap[w.heap.size + 1 + 1]? = some (.cells #[.slice none 0 0] 29 (0, 0))) := ⟨by have := blk_below (blk_alloc (blk_new ((w.alloc _).alloc _) _) _) hb1; simpa using this⟩
  have BK5 : Aside0 (w1.heap[w.heap.size + 1 + 1 + 1]? = some (.cells #[.int .i64 0] 30 (0, 0))) := ⟨by have := blk_below (blk_new (((w.alloc _).alloc _).alloc _) _) hb1; simpa using this⟩
  have SZ : Aside0 (w.heap.size + 4 ≤ w1.heap.size) := ⟨by have := hb1.size; simp at this; omega⟩
  clear hb1
  have hc3 := (blk_cell BK3.out 0).trans rfl
  have hf4 := blk_frozen BK4.out 0
  have hf5 := blk_frozen BK5.out 0
  have hc4 := (blk_cell BK4.out 0).trans rfl
  have hc5 := (blk_cell BK5.out 0).trans rfl
  cases ok
  · have h := H.out
    simp at h
    obtain ⟨rfl, rfl⟩ := h
    gi_wp2
    refine ⟨_, over_results _ _ (w.heap.size + 1 + 1) (w.heap.size + 1 + 1 + 1) (.slice none 0 0) (.int .i64 50) rfl rfl ?_ ?_, _, rfl, Kd.V_nil _ _ _ _ _, ?_⟩
    · exact ((show Boxed w1 _ _ _ from BK4.out).set _).kept (grownBy_setCell' _ _ _) (ne_blk (by omega))
    · exact ((show Boxed w1 _ _ _ from BK5.out).kept (grownBy_setCell' _ _ _) (ne_blk (by omega))).set _
    · exact (HB.out.setCell (p := ⟨_, 0, none⟩) (by show _ ≤ _ + 1 + 1; omega) _).setCell (p := ⟨_, 0, none⟩) (by show _ ≤ _ + 1 + 1 + 1; omega) _
  · have h := H.out
    rw [if_pos rfl] at h
    obtain ⟨⟨h0, h1, okh⟩, hh, h⟩ := Option.bind_eq_some_iff.mp h
    have HH := Aside0.mk hh
    have H2 := Aside0.mk h
    clear H h hh
    gi_wp2_with fail
    refine ⟨trivial, ?_⟩
    refine (callsIn_wide.2 (spans_Hull.calls A1 c1 l1 h0 h1 okh _ (Kd.C_below HR1.out HB.out) HC1.out HH.out)).mono ?_
    rintro e w2 ⟨rfl, hb2⟩
    have n2 := Aside0.mk (blk_below BK2.out hb2)
    have n3 := Aside0.mk (blk_below BK3.out hb2)
    have n4 := Aside0.mk (blk_below BK4.out hb2)
    have n5 := Aside0.mk (blk_below BK5.out hb2)
    have nb := Aside0.mk (HB.out.trans (hb2.mono HB.out.size))
    have sz := Aside0.mk (Nat.le_trans SZ.out hb2.size)
    clear BK2 BK3 BK4 BK5 HB SZ hb2 hc3 hf4 hf5 hc4 hc5
    have BK2 := n2
    have BK3 := n3
    have BK4 := n4
    have BK5 := n5
    have HB := nb
    have SZ := sz
    clear n2 n3 n4 n5 nb sz
    have hz2 : w.heap.size < w2.heap.size := by have := SZ.out; omega
    have hz4 : w.heap.size + 1 + 1 < w2.heap.size := by have := SZ.out; omega
    have hz5 : w.heap.size + 1 + 1 + 1 < w2.heap.size := by have := SZ.out; omega
    have hf4 := blk_frozen BK4.out 0
    have hf5 := blk_frozen BK5.out 0
    have hc4 := (blk_cell BK4.out 0).trans rfl
    have hc5 := (blk_cell BK5.out 0).trans rfl
    have hc20 := (blk_cell BK2.out 0).trans rfl
    have hc21 := (blk_cell BK2.out 1).trans rfl
    have hc22 := (blk_cell BK2.out 2).trans rfl
    have hc23 := (blk_cell BK2.out 3).trans rfl
    cases okh
    · have h := H2.out
      simp at h
      obtain ⟨rfl, rfl⟩ := h
      clear hc20 hc21 hc22 hc23
      gi_wp2
      refine ⟨_, over_results _ _ (w.heap.size + 1 + 1) (w.heap.size + 1 + 1 + 1) (.slice none 0 0) (.int .i64 0) rfl rfl ?_ ?_, _, rfl, Kd.V_nil _ _ _ _ _, ?_⟩
      · exact (((show Boxed w2 _ _ _ from BK4.out).set _).kept (grownBy_setCell' _ _ _) (ne_blk (by omega))).alloc _
      · exact (((show Boxed w2 _ _ _ from BK5.out).kept (grownBy_setCell' _ _ _) (ne_blk (by omega))).set _).alloc _
      · exact ((HB.out.setCell (p := ⟨_, 0, none⟩) (by show _ ≤ _ + 1 + 1; omega) _).setCell (p := ⟨_, 0, none⟩) (by show _ ≤ _ + 1 + 1 + 1; omega) _).alloc (by simp; omega) _
    · have h := H2.out
      rw [if_pos rfl] at h
      obtain ⟨xs, hx, h⟩ := Option.bind_eq_some_iff.mp h
      have HX := Aside0.mk hx
      have H3 := Aside0.mk h
      clear H2 h hx hc20 hc21 hc22 hc23 hc4 hc5 hf4 hf5 hz2 hz4 hz5
      have b20 := blk_alloc (blk_alloc (blk_alloc BK2.out (.cells #[.int .i64 h0, .int .i64 h1] 23)) (.cells #[.slice none 0 0] 29)) (.cells #[.int .i64 0] 3)
      have hc20 := (blk_cell b20 0).trans rfl
      have hc21 := (blk_cell b20 1).trans rfl
      have hc22 := (blk_cell b20 2).trans rfl
      have hc23 := (blk_cell b20 3).trans rfl
      clear b20
      gi_wp2_with fail
      refine ⟨trivial, ?_⟩
      refine (callsIn_wide.2 (between_calls a0_0 a0_1 _ _ h0 h1 _)).mono ?_
      rintro e w5 ⟨rfl, rfl⟩
      clear hc20 hc21 hc22 hc23
      gi_wp2_with fail
      obtain ⟨wL, hwL⟩ : ∃ wL, (((((w2.alloc (.cells #[.int .i64 h0, .int .i64 h1] 23)).alloc (.cells #[.slice none 0 0] 29)).alloc (.cells #[.int .i64 0] 3)).alloc (.cells #[.int .i64 a0_0, .int .i64 a0_1, .slice A0_2 l0_2.length c0_2, .slice A0_3 l0_3.length c0_3] 28)).alloc (.cells #[.int .i64 h0, .int .i64 h1] 23)) = wL := ⟨_, rfl⟩
      have k3 : Boxed wL (w.heap.size + 1) 24 (.slice A1 l1.length c1) := by rw [← hwL]; exact blk_alloc (blk_alloc (blk_alloc (blk_alloc (blk_alloc BK3.out _) _) _) _) _
      have k4 : Boxed wL (w.heap.size + 1 + 1) 29 (.slice none 0 0) := by rw [← hwL]; exact blk_alloc (blk_alloc (blk_alloc (blk_alloc (blk_alloc BK4.out _) _) _) _) _
      have k5 : Boxed wL (w.heap.size + 1 + 1 + 1) 30 (.int .i64 0) := by rw [← hwL]; exact blk_alloc (blk_alloc (blk_alloc (blk_alloc (blk_alloc BK5.out _) _) _) _) _
      have k8 : Boxed wL (w2.heap.size + 1) 29 (.slice none 0 0) := by rw [← hwL]; have := blk_alloc (blk_alloc (blk_alloc (blk_new (w2.alloc (.cells #[.int .i64 h0, .int .i64 h1] 23)) (.cells #[.slice none 0 0] 29)) (.cells #[.int .i64 0] 3)) (.cells #[.int .i64 a0_0, .int .i64 a0_1, .slice A0_2 l0_2.length c0_2, .slice A0_3 l0_3.length c0_3] 28)) (.cells #[.int .i64 h0, .int .i64 h1] 23); simpa [Boxed] using this
      have k9 : Boxed wL (w2.heap.size + 1 + 1) 3 (.int .i64 0) := by rw [← hwL]; have := blk_alloc (blk_alloc (blk_new ((w2.alloc (.cells #[.int .i64 h0, .int .i64 h1] 23)).alloc (.cells #[.slice none 0 0] 29)) (.cells #[.int .i64 0] 3)) (.cells #[.int .i64 a0_0, .int .i64 a0_1, .slice A0_2 l0_2.length c0_2, .slice A0_3 l0_3.length c0_3] 28)) (.cells #[.int .i64 h0, .int .i64 h1] 23); simpa [Boxed] using this
      have kB1 : wL.heap[w2.heap.size + 1 + 1 + 1]? = some (.cells #[.int .i64 a0_0, .int .i64 a0_1, .slice A0_2 l0_2.length c0_2, .slice A0_3 l0_3.length c0_3] 28 (0, 0)) := by rw [← hwL]; have := blk_alloc (blk_new (((w2.alloc (.cells #[.int .i64 h0, .int .i64 h1] 23)).alloc (.cells #[.slice none 0 0] 29)).alloc (.cells #[.int .i64 0] 3)) (.cells #[.int .i64 a0_0, .int .i64 a0_1, .slice A0_2 l0_2.length c0_2, .slice A0_3 l0_3.length c0_3] 28)) (.cells #[.int .i64 h0, .int .i64 h1] 23); simpa using this
      have kB2 : wL.heap[w2.heap.size + 1 + 1 + 1 + 1]? = some (.cells #[.int .i64 h0, .int .i64 h1] 23 (0, 0)) := by rw [← hwL]; have := blk_new ((((w2.alloc (.cells #[.int .i64 h0, .int .i64 h1] 23)).alloc (.cells #[.slice none 0 0] 29)).alloc (.cells #[.int .i64 0] 3)).alloc (.cells #[.int .i64 a0_0, .int .i64 a0_1, .slice A0_2 l0_2.length c0_2, .slice A0_3 l0_3.length c0_3] 28)) (.cells #[.int .i64 h0, .int .i64 h1] 23); simpa using this
      have sL : wL.heap.size = w2.heap.size + 5 := by rw [← hwL]; simp
      have hbL : Below w.heap.size w wL := by rw [← hwL]; exact ((((HB.out.alloc HB.out.size _).alloc (by have := HB.out.size; simp; omega) _).alloc (by have := HB.out.size; simp; omega) _).alloc (by have := HB.out.size; simp; omega) _).alloc (by have := HB.out.size; simp; omega) _
      rw [hwL]
      have sM := SZ.out
      clear hwL BK2 BK3 BK4 BK5 HB SZ
      generalize w2.heap.size = M at *
      clear w2
      have hseq := between_seq 2 (by omega) k a0_0 a0_1 A0_2 c0_2 l0_2 A0_3 c0_3 l0_3 h0 h1 xs w wL _ _ HR2.out HC2.out HR3.out HC3.out hbL kB1 kB2 HX.out
      rw [sL] at hseq
      have HSEQ := Aside0.mk hseq
      clear hseq
      obtain ⟨OF, hOF⟩ : ∃ OF : Int → Value → Act, OF = fun i v => { tmps := #[.agg #[.int .i64 a0_0, .int .i64 a0_1, .slice A0_2 l0_2.length c0_2, .slice A0_3 l0_3.length c0_3], .slice A1 l1.length c1, .pointer (some ⟨w.heap.size, 0, none⟩), .pointer (some ⟨w.heap.size + 1, 0, none⟩), .pointer (some ⟨w.heap.size + 1 + 1, 0, none⟩), .pointer (some ⟨w.heap.size + 1 + 1 + 1, 0, none⟩), .pointer (some ⟨M, 0, none⟩), .bool true, .pointer (some ⟨M + 1, 0, none⟩), .pointer (some ⟨M + 1 + 1, 0, none⟩), .int .i64 i, v, .slice A1 l1.length c1, .bool true, .bool false, .tuple #[.agg #[.int .i64 h0, .int .i64 h1], .bool true], .slice A1 l1.length c1, .tuple #[.agg #[.int .i64 h0, .int .i64 h1], .bool true], .agg #[.int .i64 h0, .int .i64 h1], .bool true, .bool true, .bool false, .agg #[.int .i64 a0_0, .int .i64 a0_1, .slice A0_2 l0_2.length c0_2, .slice A0_3 l0_3.length c0_3], .agg #[.int .i64 h0, .int .i64 h1], .func (.func 79) #[] #[.pointer (some ⟨M + 1 + 1 + 1, 0, none⟩), .pointer (some ⟨M + 1 + 1 + 1 + 1, 0, none⟩)], .int .i64 i, v, undef, undef, undef, undef, undef, undef, undef, undef, undef, undef, undef, undef, undef], defers := [] } := ⟨_, rfl⟩
      have HOF := Aside0.mk hOF
      clear hOF
      refine wpIn_rangeL (w0 := wL) rfl (by omega) (gf := 79) rfl trivial (enters_of Try.func79 (by kernel_rfl) rfl) HSEQ.out ?hKt ?hKb (Below.refl _ _) ?hps (OI l1 (.slice A1 l1.length c1) xs r1 r2 w.heap.size M w) (OX r1 r2 w.heap.size w) ?hI ?hIx ?h0 (OA OF l1 (.slice A1 l1.length c1) xs r1 r2 w.heap.size M w) ?hAx ?assign ?body ?done ?stop
      case hKt => exact fun h k => ⟨h.1.trans k.1, k.2.1.trans h.2.1, k.2.2.trans h.2.2⟩
      case hKb =>
        intro W l o o' hl ho hc hw
        exact ⟨belowK_b (w := w) (Nat.le_refl _) W l o o' (by omega) ho hc hw, World.putObj_heap_other (by omega), World.putObj_heap_other (by omega)⟩
      case hps => rintro b args W ⟨A, c, rfl, _⟩; rfl
      case hI => rw [sL]; exact oi_mine sM
      case hIx => rw [sL]; exact ox_mine sM
      case hAx => rw [sL]; exact fun pre b a' => oa_mine sM pre b a'
      case h0 => exact ⟨_, [], fun rest e => by rw [show rest = xs from e.symm]; exact H3.out, Nat.le_refl _, by simp, k3, k4, k5, k8, k9, World.ownsRow_nil _ _ _ _, hbL, by omega⟩
      case assign =>
        rintro l pre b args W K hI ⟨A, c, rfl, hbc, hA, hC⟩ hK
        have hbs := hI
        obtain ⟨v, out, _, _, _, _, _, _, _, _, _, hb', hs'⟩ := hbs
        have HI := Aside0.mk hI
        have HKK := Aside0.mk hK
        have HC' := Aside0.mk hC
        have HA' := Aside0.mk hA
        have HBC := Aside0.mk hbc
        clear hI hK hC hA hbc
        gi_wp2
        refine HKK.out _ _ (KeepsFrom.refl _ _) ⟨Below.refl _ _, rfl, rfl⟩ ⟨A, c, ?_, HBC.out, HA'.out, HC'.out, HI.out⟩
        rw [HOF.out]
      case body =>
        rintro l pre b r a' W hxs ⟨A, c, ha', hbc, hA, hC, v, out, hfind, ho1, ho2, x3, x4, x5, x8, x9, hrow, hb, hsz⟩
        rw [HOF.out] at ha'
        subst ha'
        have hst := hfind (b :: r) hxs
        have HF := Aside0.mk (fun rest (e : xs = (pre ++ [b]) ++ rest) => (show r = rest from by rw [hxs, List.append_assoc] at e; simpa using e))
        have HC' := Aside0.mk hC
        have HA' := Aside0.mk hA
        have HBC := Aside0.mk hbc
        have HB := Aside0.mk hb
        have HRW := Aside0.mk hrow
        have c3 := x3.cell
        have f4 := x4.frozen
        have f5 := x5.frozen
        have c4 := x4.cell
        have c5 := x5.cell
        have c8 := x8.cell
        have f8 := x8.frozen
        have c9 := x9.cell
        have f9 := x9.frozen
        have w9 : wrap64 ((pre.length : Int) + 1) = ((pre.length : Int) + 1) := by unfold wrap64; omega
        have HST := Aside0.mk hst
        clear hst hfind hxs hC hA hbc hb hrow HSEQ k3 k4 k5 k8 k9 kB1 kB2 hbL
        by_cases hm : (pre.length : Int) + 1 > 60000
        · have h := HST.out
          simp only [find_Over.l] at h
          rw [if_pos hm] at h
          cases h
          have hm0 : decide (60000 < (pre.length : Int) + 1) = true := decide_eq_true hm
          clear hm
          gi_wp2
          refine ⟨(KeepsOthers.setCell _ _ _).trans ((KeepsOthers.setCell _ _ _).trans (KeepsOthers.setCell _ _ _)) |>.from _, rfl, rfl, rfl, ?_, ?_, ?_, ?_⟩
          · exact ((x4.kept (grownBy_setCell' W _ _) (ne_blk (by omega))).set _).kept (grownBy_setCell' _ _ _) (ne_blk (by omega))
          · exact ((x5.kept (grownBy_setCell' W _ _) (ne_blk (by omega))).kept (grownBy_setCell' _ _ _) (ne_blk (by omega))).set _
          · exact ((HB.out.setCell (p := ⟨_, 0, none⟩) (by show _ ≤ M + 1 + 1; omega) _).setCell (p := ⟨_, 0, none⟩) (by show _ ≤ _ + 1 + 1; omega) _).setCell (p := ⟨_, 0, none⟩) (by show _ ≤ _ + 1 + 1 + 1; omega) _
          · simp; omega
        · have h := HST.out
          simp only [find_Over.l] at h
          rw [if_neg hm] at h
          obtain ⟨bb, hbb, h⟩ := Option.bind_eq_some_iff.mp h
          have HBB := Aside0.mk hbb
          have HH := Aside0.mk h
          have hm0 : decide (60000 < (pre.length : Int) + 1) = false := decide_eq_false (by omega)
          have HM := Aside0.mk hm
          clear hm h hbb
          gi_wp2_with fail
          refine ⟨trivial, ?_⟩
          have hC6 : Kd.C k23 (W.setCell ⟨M + 1 + 1, 0, none⟩ (.int .i64 ((pre.length : Int) + 1))) A b.2.length b.2 := C23_mine (B := 0) HC'.out (grownBy_setCell' W _ _) (fun r e ad ea _ eb => by cases e; have := HA'.out ad ea; omega)
          have hB6 : Below w.heap.size w (W.setCell ⟨M + 1 + 1, 0, none⟩ (.int .i64 ((pre.length : Int) + 1))) := HB.out.setCell (p := ⟨_, 0, none⟩) (by show _ ≤ M + 1 + 1; omega) _
          refine (CallsIn.inRound l (callsIn_wide.2 (spans_Meet.calls A c b.2 A1 c1 l1 bb _ hC6 HBC.out (Kd.C_below HR1.out hB6) HC1.out HBB.out))).mono ?_
          rintro e w6 ⟨rfl, hb6⟩
          have q6 := kp_two (kp_set (N := w.heap.size) (M := M) (B := M + 5) W (.int .i64 ((pre.length : Int) + 1)) (j := M + 1 + 1) (by omega) (by omega) (by omega)) (kp_below (B := M + 5) (B1 := M + 1 + 1 + 1) (B2 := M + 1 + 1 + 1 + 1) (N := w.heap.size) hb6 (by simp; omega) (by simp; omega) (by simp; omega))
          have Q6 := Aside0.mk q6
          have hB7 := hB6.trans (hb6.mono hB6.size)
          have hB7' := Aside0.mk hB7
          have y3 : Boxed w6 _ _ _ := blk_below (x3.kept (grownBy_setCell' W (M + 1 + 1) (.int .i64 ((pre.length : Int) + 1))) (ne_blk (by omega))) hb6
          have y4 : Boxed w6 _ _ _ := blk_below (x4.kept (grownBy_setCell' W (M + 1 + 1) (.int .i64 ((pre.length : Int) + 1))) (ne_blk (by omega))) hb6
          have y5 : Boxed w6 _ _ _ := blk_below (x5.kept (grownBy_setCell' W (M + 1 + 1) (.int .i64 ((pre.length : Int) + 1))) (ne_blk (by omega))) hb6
          have y8 : Boxed w6 _ _ _ := blk_below (x8.kept (grownBy_setCell' W (M + 1 + 1) (.int .i64 ((pre.length : Int) + 1))) (ne_blk (by omega))) hb6
          have y9 : Boxed w6 _ _ _ := blk_below (x9.set (.int .i64 ((pre.length : Int) + 1))) hb6
          have yrow := row_below (HRW.out.kept (grownBy_setCell' W (M + 1 + 1) (.int .i64 ((pre.length : Int) + 1))) (.inr (row_ne HRW.out (by omega)))) hb6
          have YR := Aside0.mk yrow
          have ysz : M + 5 ≤ w6.heap.size := Nat.le_trans (by simp; omega) hb6.size
          clear hC6 hB6 q6 hB7 hb6 yrow c3 c4 c5 c8 c9 f4 f5 f8 f9 x3 x4 x5 x8 x9 HB HC' hm0 w9 HRW
          have hsz6 := ysz
          have hl1 : ((pre ++ [b]).length : Int) = (pre.length : Int) + 1 := by simp
          have hl2 : (pre ++ [b]).length = pre.length + 1 := by simp
          have HL1 := Aside0.mk hl1
          have HL2 := Aside0.mk hl2
          clear hl1 hl2
          cases bb
          · gi_wp2
            refine ⟨by rw [sL]; exact Q6.out.1, Q6.out.2, v, out, fun rest e => ?_, by rw [HL2.out]; omega, by rw [HL2.out]; have := HM.out; omega, y3, y4, y5, y8, by rw [HL1.out]; exact y9, YR.out, hB7'.out, ysz⟩
            have := HH.out
            rw [← HF.out rest e, HL1.out]
            simpa using this
          · have c8 := y8.cell
            have f8 := y8.frozen
            have hll : out.length + 1 ≤ 60000 := by have := HM.out; omega
            obtain ⟨ii, hi, hz0, hz1, hz2⟩ := info_parts intinfo
            gi_wp2_with (gi_at_builtin; refine wpListIn_append_own _ rfl _ _ 29 rfl (M + 5) 3 ii (.int .i64 0) 1 8 Try.underlying29 hi hz0 hz1 hz2 rfl (by decide) _ _ _ rfl (YR.out.alloc _) ⟨w6.heap.size, 0, none⟩ 1 1 [.int .i64 b.1] rfl rfl (cell_one_new _ _ _) (by simp [Value.oneCell']) (by unfold maxLen; omega) (by omega) (by simp; omega) ?_; intro v' w7 hown' hgrow _; obtain ⟨g', cap', rfl⟩ := ownsRow_succ hown'; obtain ⟨hv1, hv2, hr2, hk2, hb2, hh2⟩ := appended2 (n₀ := w.heap.size) (nb := M + 5) y8 (by omega) YR.out hsz6 (by omega) (by omega) hown' hgrow; have hc1 := hv1.cell; have hf1 := hv1.frozen)
            have q7 := kp_two Q6.out ⟨hk2.from (M + 5), hb2, hh2 _ (by omega) (by omega), hh2 _ (by omega) (by omega)⟩
            refine ⟨by rw [sL]; exact q7.1, q7.2, _, out ++ [b.1], fun rest e => ?_, by rw [HL2.out]; simp; omega, by rw [HL2.out]; have := HM.out; omega, (hh2 _ (by omega) (by omega)).trans y3, (hh2 _ (by omega) (by omega)).trans y4, (hh2 _ (by omega) (by omega)).trans y5, hv2, by rw [HL1.out]; exact (hh2 _ (by omega) (by omega)).trans y9, by simpa using hr2, hB7'.out.trans hb2, by have := hk2.size; omega⟩
            have := HH.out
            rw [← HF.out rest e, HL1.out]
            simpa using this
      case done =>
        rintro D W hD ⟨v, out, hfind, ho1, ho2, x3, x4, x5, x8, x9, hrow, hb, hsz⟩ hK
        have hst := hfind [] (by simp)
        simp only [find_Over.l, Option.some.injEq, Prod.mk.injEq] at hst
        obtain ⟨rfl, rfl⟩ := hst
        have c8 := x8.cell
        have f4 := x4.frozen
        have f5 := x5.frozen
        have c4 := x4.cell
        have c5 := x5.cell
        obtain ⟨A, c, rfl, hAc, hlc⟩ : ∃ A c, v = .slice A out.length c ∧ out.length ≤ c ∧ (out.length = 0 ∨ True) := by
          rcases hrow.2 with ⟨rfl, e⟩ | ⟨g, cap, cur, rfl, _, _, e, _⟩
          · exact ⟨none, 0, by rw [e], by omega, .inl e⟩
          · exact ⟨_, cap, rfl, e, .inr trivial⟩
        have HRW := Aside0.mk hrow
        have HB := Aside0.mk hb
        have HK := Aside0.mk hK
        clear HSEQ k3 k4 k5 k8 k9 kB1 kB2 hbL hfind hrow hb hK
        gi_wp2_with fail
        refine ⟨trivial, ?_⟩
        refine (callsIn_wide.2 (clip_calls A out.length c hAc W)).mono ?_
        rintro e w' ⟨rfl, rfl⟩
        gi_wp2
        have hD2 : ((W.setCell ⟨w.heap.size + 1 + 1, 0, none⟩ (.slice A out.length out.length)).setCell ⟨w.heap.size + 1 + 1 + 1, 0, none⟩ (.int .i64 0)).heap[D]? = some (.deferred (some [])) := by
          rw [Below.heap_setCell _ _ _ _ (show D ≠ w.heap.size + 1 + 1 + 1 by omega), Below.heap_setCell _ _ _ _ (show D ≠ w.heap.size + 1 + 1 by omega)]; exact HK.out
        refine ⟨by simp, .inl ⟨_, _, rfl, run_takeDeferred hD2, ?_⟩⟩
        refine ⟨_, over_results _ _ (w.heap.size + 1 + 1) (w.heap.size + 1 + 1 + 1) (.slice A out.length out.length) (.int .i64 0) rfl rfl ?_ ?_, _, rfl, ?_, ?_⟩
        · exact (World.putObj_heap_other (by omega)).trans ((x4.set _).kept (grownBy_setCell' _ _ _) (ne_blk (by omega)))
        · exact (World.putObj_heap_other (by omega)).trans ((x5.kept (grownBy_setCell' _ _ _) (ne_blk (by omega))).set _)
        · have h1 := (HRW.out.kept (grownBy_setCell' W (w.heap.size + 1 + 1) (.slice A out.length out.length)) (.inr (row_ne HRW.out (by omega)))).kept (grownBy_setCell' _ (w.heap.size + 1 + 1 + 1) (.int .i64 0)) (.inr (row_ne HRW.out (by omega)))
          have h2 := ownsRow_putObj h1 (.deferred none) hD2 rfl
          have h3 : (Kd.int .i64).R 3 _ (M + 5) (fun k_ => w.heap.size ≤ k_) (.slice A out.length c) out := Kd.R_of_own h2 (fun k e => by
            rcases h2.2 with ⟨e2, _⟩ | ⟨g, cap, cur, e2, hg, _⟩
            · rw [e2] at e; simp [Value.ownBlock] at e
            · rw [e2] at e; simp [Value.ownBlock] at e; omega)
          exact Kd.V_mk (Nat.le_refl _) (Kd.R_F h3)
        · exact ((HB.out.setCell (p := ⟨_, 0, none⟩) (by show _ ≤ _ + 1 + 1; omega) _).setCell (p := ⟨_, 0, none⟩) (by show _ ≤ _ + 1 + 1 + 1; omega) _).trans (belowK_b (w := w) (Nat.le_refl _) _ D _ _ (by omega) hD2 rfl rfl)
      case stop =>
        rintro D c W hD ⟨rfl, rfl, rfl, x4, x5, hb, hs⟩ hK
        have HK := Aside0.mk hK
        have HB := Aside0.mk hb
        clear HSEQ k3 k4 k5 k8 k9 kB1 kB2 hbL hb hK
        gi_wp2
        refine ⟨by simp, .inl ⟨_, _, rfl, run_takeDeferred HK.out, ?_⟩⟩
        refine ⟨_, over_results _ _ (w.heap.size + 1 + 1) (w.heap.size + 1 + 1 + 1) (.slice none 0 0) (.int .i64 3) rfl rfl ?_ ?_, _, rfl, Kd.V_nil _ _ _ _ _, ?_⟩
        · exact (World.putObj_heap_other (by omega)).trans x4
        · exact (World.putObj_heap_other (by omega)).trans x5
        · exact HB.out.trans (belowK_b (w := w) (Nat.le_refl _) W D _ _ (by omega) HK.out rfl rfl)
theorem find_Over.calls (k : Nat) (a0_0 : Int) (a0_1 : Int) (A0_2 : Option Addr) (c0_2 : Nat) (l0_2 : List (List (S23))) (A0_3 : Option Addr) (c0_3 : Nat) (l0_3 : List (S70)) (A1 : Option Addr) (c1 : Nat) (l1 : List (S23)) (r1 : List Int) (r2 : Int) (w : World) (hr0_2 : Kd.C (Kd.slice 23 k23) w A0_2 l0_2.length l0_2) (hc0_2 : l0_2.length ≤ c0_2) (hr0_3 : Kd.C k70 w A0_3 l0_3.length l0_3) (hc0_3 : l0_3.length ≤ c0_3) (hr1 : Kd.C k23 w A1 l1.length l1) (hc1 : l1.length ≤ c1)
    (h : find_Over.f k a0_0 a0_1 l0_2 l0_3 l1 = some (r1, r2)) :
    Calls Try.prog 14 #[.agg #[.int .i64 a0_0, .int .i64 a0_1, .slice A0_2 l0_2.length c0_2, .slice A0_3 l0_3.length c0_3], .slice A1 l1.length c1] w fun e w' => ∃ v0_ : Value, e = .returned (.tuple #[v0_, .int .i64 r2]) ∧ Kd.V (Kd.int .i64) 3 w' w.heap.size (fun k_ => w.heap.size ≤ k_) v0_ r1 ∧ Below w.heap.size w w' :=
  callsIn_wide.1 (over_in k a0_0 a0_1 A0_2 c0_2 l0_2 A0_3 c0_3 l0_3 A1 c1 l1 r1 r2 w hr0_2 hc0_2 hr0_3 hc0_3 hr1 hc1 h)
end Go.Proofs.Ytmbmalkpmanaaaa.P

namespace Go.Proofs.Ytmbmalkpmanaaaa.P
open Go.RowKit Go.Proofs.YtmbmalkpmanaaaaW.PrintWords Go.Proofs.YtmbmalkpmanaaaaW.PrintLast Go.Proofs.YtmbmalkpmanaaaaW.PrintMore
attribute [local go_sem] max2_int min2_int max_two min_two max_three min_three max_four min_four   -- for this text's walks alone
set_option linter.unusedVariables false
set_option linter.unusedSimpArgs false

def epactlaw07_awake.f (k : Nat)  : Option (Bool) := (epactlaw05_Weeks.f).bind fun bt110 => ((some (([(⟨3, (([(⟨5, 6⟩ : S23)] : List (S23)))⟩ : S70)] : List (S70)) : List (S70))).bind fun y122 => ((find_Over.f k bt110.1 bt110.2.1 bt110.2.2.1 bt110.2.2.2 (([(⟨3, 8⟩ : S23)] : List (S23)))).bind fun bt129 => ((find_Over.f k bt110.1 bt110.2.1 bt110.2.2.1 bt110.2.2.2 (([(⟨5, 6⟩ : S23)] : List (S23)))).bind fun bt136 => ((epactlaw07_is.f 1 true).bind fun t140 => ((find_At.f k bt110.1 bt110.2.1 bt110.2.2.1 bt110.2.2.2 9).bind fun bt141 => ((epactlaw07_is_1.f 1 true bt141.1 bt141.2).bind fun t143 => (if t143 = true then ((epactlaw07_is.f 0 false).bind fun t144 => ((find_At.f k bt110.1 bt110.2.1 bt110.2.2.1 bt110.2.2.2 5).bind fun bt145 => ((epactlaw07_is_1.f 0 false bt145.1 bt145.2).bind fun t147 => (if t147 = true then ((epactlaw07_is.f 1 true).bind fun t148 => ((find_From.f k bt110.1 bt110.2.1 bt110.2.2.1 bt110.2.2.2 5).bind fun bt149 => ((epactlaw07_is_1.f 1 true bt149.1 bt149.2).bind fun t151 => (if t151 = true then ((epactlaw07_is.f 0 true).bind fun t152 => ((find_Till.f k bt110.1 bt110.2.1 bt110.2.2.1 bt110.2.2.2 5).bind fun bt153 => ((epactlaw07_is_1.f 0 true bt153.1 bt153.2).bind fun t155 => (if t155 = true then (if bt129.2 = 0 then (if bt136.2 = 0 then ((epactlaw07_ints.f k bt129.1 (([0, 1] : List Int))).bind fun t159 => (if t159 = true then (if (bt136.1.length : Int) = 0 then ((epactlaw07_is.f 0 false).bind fun t160 => ((find_From.f k 0 0 ([] : List (List (S23))) y122 7).bind fun bt161 => ((epactlaw07_is_1.f 0 false bt161.1 bt161.2).bind fun t163 => (if t163 = true then ((epactlaw07_is.f 3 true).bind fun t164 => ((find_Till.f k 0 0 ([] : List (List (S23))) y122 100).bind fun bt165 => ((epactlaw07_is_1.f 3 true bt165.1 bt165.2).bind fun t167 => (some t167)))) else (none))))) else (none)) else (none))) else (none)) else (none)) else (none))))) else (none))))) else (none))))) else (none))))))))
theorem epactlaw07_awake.mono : ∀ k, LeO (epactlaw07_awake.f k ) (epactlaw07_awake.f (k + 1) ) := by
 intro  k
 unfold epactlaw07_awake.f
 repeat' first
  | (with_reducible exact epactlaw07_ints.mono _ _ _)
  | (with_reducible exact find_At.mono _ _ _ _ _ _)
  | (with_reducible exact find_From.mono _ _ _ _ _ _)
  | (with_reducible exact find_Over.mono _ _ _ _ _ _)
  | (with_reducible exact find_Till.mono _ _ _ _ _ _)
  | (with_reducible exact LeO.refl _)
  | (with_reducible exact LeO.none _)
  | (with_reducible refine LeO.ite ?_ ?_)
  | (with_reducible refine LeO.bind ?_ (fun _ => ?_))
  | exact epactlaw07_ints.mono _ _ _
  | exact find_At.mono _ _ _ _ _ _
  | exact find_From.mono _ _ _ _ _ _
  | exact find_Over.mono _ _ _ _ _ _
  | exact find_Till.mono _ _ _ _ _ _
  | exact LeO.none _
  | refine LeO.ite ?_ ?_
  | refine LeO.bind ?_ (fun _ => ?_)
def epactlaw07_awake.T5 : Bool × List (List Nat × List Nat) := (true, [([], []), ([], []), ([1, 0], [1]), ([2], [2]), ([2], [2]), ([0, 3, 4, 2], [0, 3, 4]), ([5, 5], [5]), ([6, 6], [6]), ([6], [6]), ([8, 7, 6], [6, 8]), ([9, 6], [6, 9]), ([9, 6], [6, 9]), ([7, 10, 11, 9, 6], [6, 7, 10, 11]), ([6, 12], [6, 12]), ([13, 12], [13]), ([14, 14], [14]), ([14], [14]), ([16, 15, 14], [14, 16]), ([17, 14], [14, 17]), ([17, 14], [14, 17]), ([15, 18, 19, 17, 14], [14, 15, 18, 19]), ([14, 20], [14, 20]), ([21, 20], [21]), ([22, 22], [22]), ([22], [22]), ([24, 23, 22], [22, 24]), ([25, 22], [22, 25]), ([25, 22], [22, 25]), ([23, 26, 27, 25, 22], [22, 23, 26, 27]), ([22, 28], [22, 28]), ([29, 28], [29]), ([30], [30]), ([31, 30], [30, 31]), ([30, 32], [30, 32]), ([33, 30], [33]), ([34], [34]), ([35, 34], [34, 35]), ([34, 36], [34, 36]), ([37, 34], [37]), ([38], [38]), ([38], [38]), ([39, 40, 38, 38], [38, 39, 40]), ([38, 41], [38, 41]), ([42, 41], [42]), ([43], [43]), ([44, 43], [43, 44]), ([45, 43], [43, 45]), ([43, 46], [43, 46]), ([47, 43], [47]), ([48, 48], [48]), ([48], [48]), ([50, 49, 48], [48, 50]), ([51, 48], [48, 51]), ([51, 48], [48, 51]), ([49, 52, 53, 51, 48], [48, 49, 52, 53]), ([48, 54], [48, 54]), ([55, 54], [55]), ([56, 56], [56]), ([56], [56]), ([58, 57, 56], [56, 58]), ([59, 56], [56, 59]), ([59, 56], [56, 59]), ([57, 60, 61, 59, 56], [56, 57, 60, 61]), ([56, 62], [56, 62]), ([63, 62, 0, 1, 2, 3, 4, 5, 6, 7, 8, 9, 10, 11, 12, 13, 14, 15, 16, 17, 18, 19, 20, 21, 22, 23, 24, 25, 26, 27, 28, 29, 30, 31, 32, 33, 34, 35, 36, 37, 38, 39, 40, 41, 42, 43, 44, 45, 46, 47, 48, 49, 50, 51, 52, 53, 54, 55, 56, 57, 58, 59, 60, 61, 62, 63], [63])])
def epactlaw07_awake.B5 : List Nat := [0, 0, 3, 7, 7, 31, 63, 127, 127, 511, 1023, 1023, 4095, 8191, 16383, 32767, 32767, 131071, 262143, 262143, 1048575, 2097151, 4194303, 8388607, 8388607, 33554431, 67108863, 67108863, 268435455, 536870911, 1073741823, 2147483647, 4294967295, 8589934591, 17179869183, 34359738367, 68719476735, 137438953471, 274877906943, 549755813887, 549755813887, 2199023255551, 4398046511103, 8796093022207, 17592186044415, 35184372088831, 70368744177663, 140737488355327, 281474976710655, 562949953421311, 562949953421311, 2251799813685247, 4503599627370495, 4503599627370495, 18014398509481983, 36028797018963967, 72057594037927935, 144115188075855871, 144115188075855871, 576460752303423487, 1152921504606846975, 1152921504606846975, 4611686018427387903, 9223372036854775807, 18446744073709551615]
theorem epactlaw07_awake.tab5 : rtab .any (opsOf Try.f16 5) = epactlaw07_awake.T5 := by kernel_rfl
theorem epactlaw07_awake.bits5 : waitsOk epactlaw07_awake.T5.2 epactlaw07_awake.B5 = true := by kernel_rfl
set_option maxHeartbeats 8000000 in
set_option maxRecDepth 100000 in
theorem epactlaw07_awake.calls (k : Nat)  (r : Bool) (w : World) (h : epactlaw07_awake.f k  = some r) :
 Calls Try.prog 16 #[] w fun e w' => e = .returned (.bool r) ∧ Below w.heap.size w w' := by
 have hu28 := Try.underlying28
 have hu23 := Try.underlying23
 have hu70 := Try.underlying70
 have HB := am (Below.refl w.heap.size w)
 have H : ((epactlaw05_Weeks.f).bind fun bt110 => ((some (([(⟨3, (([(⟨5, 6⟩ : S23)] : List (S23)))⟩ : S70)] : List (S70)) : List (S70))).bind fun y122 => ((find_Over.f k bt110.1 bt110.2.1 bt110.2.2.1 bt110.2.2.2 (([(⟨3, 8⟩ : S23)] : List (S23)))).bind fun bt129 => ((find_Over.f k bt110.1 bt110.2.1 bt110.2.2.1 bt110.2.2.2 (([(⟨5, 6⟩ : S23)] : List (S23)))).bind fun bt136 => ((epactlaw07_is.f 1 true).bind fun t140 => ((find_At.f k bt110.1 bt110.2.1 bt110.2.2.1 bt110.2.2.2 9).bind fun bt141 => ((epactlaw07_is_1.f 1 true bt141.1 bt141.2).bind fun t143 => (if t143 = true then ((epactlaw07_is.f 0 false).bind fun t144 => ((find_At.f k bt110.1 bt110.2.1 bt110.2.2.1 bt110.2.2.2 5).bind fun bt145 => ((epactlaw07_is_1.f 0 false bt145.1 bt145.2).bind fun t147 => (if t147 = true then ((epactlaw07_is.f 1 true).bind fun t148 => ((find_From.f k bt110.1 bt110.2.1 bt110.2.2.1 bt110.2.2.2 5).bind fun bt149 => ((epactlaw07_is_1.f 1 true bt149.1 bt149.2).bind fun t151 => (if t151 = true then ((epactlaw07_is.f 0 true).bind fun t152 => ((find_Till.f k bt110.1 bt110.2.1 bt110.2.2.1 bt110.2.2.2 5).bind fun bt153 => ((epactlaw07_is_1.f 0 true bt153.1 bt153.2).bind fun t155 => (if t155 = true then (if bt129.2 = 0 then (if bt136.2 = 0 then ((epactlaw07_ints.f k bt129.1 (([0, 1] : List Int))).bind fun t159 => (if t159 = true then (if (bt136.1.length : Int) = 0 then ((epactlaw07_is.f 0 false).bind fun t160 => ((find_From.f k 0 0 ([] : List (List (S23))) y122 7).bind fun bt161 => ((epactlaw07_is_1.f 0 false bt161.1 bt161.2).bind fun t163 => (if t163 = true then ((epactlaw07_is.f 3 true).bind fun t164 => ((find_Till.f k 0 0 ([] : List (List (S23))) y122 100).bind fun bt165 => ((epactlaw07_is_1.f 3 true bt165.1 bt165.2).bind fun t167 => (some t167)))) else (none))))) else (none)) else (none))) else (none)) else (none)) else (none))))) else (none))))) else (none))))) else (none))))))))) = some r := h
 clear h
 replace H := Option.bind_eq_some_iff.mp H
 obtain ⟨⟨t110, t111, t112, t115⟩, A10, H⟩ := H
 try dsimp only at H
 have A1 := am A10
 clear A10
 obtain ⟨y119, hy119⟩ : ∃ y_ : List (S23), y_ = (([(⟨5, 6⟩ : S23)] : List (S23))) := ⟨_, rfl⟩
 replace H : ((some (([(⟨3, y119⟩ : S70)] : List (S70)) : List (S70))).bind fun y122 => ((find_Over.f k t110 t111 t112 t115 (([(⟨3, 8⟩ : S23)] : List (S23)))).bind fun bt129 => ((find_Over.f k t110 t111 t112 t115 (([(⟨5, 6⟩ : S23)] : List (S23)))).bind fun bt136 => ((epactlaw07_is.f 1 true).bind fun t140 => ((find_At.f k t110 t111 t112 t115 9).bind fun bt141 => ((epactlaw07_is_1.f 1 true bt141.1 bt141.2).bind fun t143 => (if t143 = true then ((epactlaw07_is.f 0 false).bind fun t144 => ((find_At.f k t110 t111 t112 t115 5).bind fun bt145 => ((epactlaw07_is_1.f 0 false bt145.1 bt145.2).bind fun t147 => (if t147 = true then ((epactlaw07_is.f 1 true).bind fun t148 => ((find_From.f k t110 t111 t112 t115 5).bind fun bt149 => ((epactlaw07_is_1.f 1 true bt149.1 bt149.2).bind fun t151 => (if t151 = true then ((epactlaw07_is.f 0 true).bind fun t152 => ((find_Till.f k t110 t111 t112 t115 5).bind fun bt153 => ((epactlaw07_is_1.f 0 true bt153.1 bt153.2).bind fun t155 => (if t155 = true then (if bt129.2 = 0 then (if bt136.2 = 0 then ((epactlaw07_ints.f k bt129.1 (([0, 1] : List Int))).bind fun t159 => (if t159 = true then (if (bt136.1.length : Int) = 0 then ((epactlaw07_is.f 0 false).bind fun t160 => ((find_From.f k 0 0 ([] : List (List (S23))) y122 7).bind fun bt161 => ((epactlaw07_is_1.f 0 false bt161.1 bt161.2).bind fun t163 => (if t163 = true then ((epactlaw07_is.f 3 true).bind fun t164 => ((find_Till.f k 0 0 ([] : List (List (S23))) y122 100).bind fun bt165 => ((epactlaw07_is_1.f 3 true bt165.1 bt165.2).bind fun t167 => (some t167)))) else (none))))) else (none)) else (none))) else (none)) else (none)) else (none))))) else (none))))) else (none))))) else (none)))))))) = some r := by first | (rw [hy119]; with_reducible exact H) | (have H2_ := (Option.bind_some _ _).symm.trans H; rw [hy119]; with_reducible exact H2_) | (have H2_ := (Option.bind_some _ _).symm.trans H; with_reducible exact H2_) | with_reducible exact H | (rw [hy119]; exact H) | exact H
 have Ny119 := am hy119
 clear hy119
 obtain ⟨y122, hy122⟩ : ∃ y_ : List (S70), y_ = (([(⟨3, y119⟩ : S70)] : List (S70))) := ⟨_, rfl⟩
 replace H : ((find_Over.f k t110 t111 t112 t115 (([(⟨3, 8⟩ : S23)] : List (S23)))).bind fun bt129 => ((find_Over.f k t110 t111 t112 t115 (([(⟨5, 6⟩ : S23)] : List (S23)))).bind fun bt136 => ((epactlaw07_is.f 1 true).bind fun t140 => ((find_At.f k t110 t111 t112 t115 9).bind fun bt141 => ((epactlaw07_is_1.f 1 true bt141.1 bt141.2).bind fun t143 => (if t143 = true then ((epactlaw07_is.f 0 false).bind fun t144 => ((find_At.f k t110 t111 t112 t115 5).bind fun bt145 => ((epactlaw07_is_1.f 0 false bt145.1 bt145.2).bind fun t147 => (if t147 = true then ((epactlaw07_is.f 1 true).bind fun t148 => ((find_From.f k t110 t111 t112 t115 5).bind fun bt149 => ((epactlaw07_is_1.f 1 true bt149.1 bt149.2).bind fun t151 => (if t151 = true then ((epactlaw07_is.f 0 true).bind fun t152 => ((find_Till.f k t110 t111 t112 t115 5).bind fun bt153 => ((epactlaw07_is_1.f 0 true bt153.1 bt153.2).bind fun t155 => (if t155 = true then (if bt129.2 = 0 then (if bt136.2 = 0 then ((epactlaw07_ints.f k bt129.1 (([0, 1] : List Int))).bind fun t159 => (if t159 = true then (if (bt136.1.length : Int) = 0 then ((epactlaw07_is.f 0 false).bind fun t160 => ((find_From.f k 0 0 ([] : List (List (S23))) y122 7).bind fun bt161 => ((epactlaw07_is_1.f 0 false bt161.1 bt161.2).bind fun t163 => (if t163 = true then ((epactlaw07_is.f 3 true).bind fun t164 => ((find_Till.f k 0 0 ([] : List (List (S23))) y122 100).bind fun bt165 => ((epactlaw07_is_1.f 3 true bt165.1 bt165.2).bind fun t167 => (some t167)))) else (none))))) else (none)) else (none))) else (none)) else (none)) else (none))))) else (none))))) else (none))))) else (none))))))) = some r := by first | (rw [hy122]; with_reducible exact H) | (have H2_ := (Option.bind_some _ _).symm.trans H; rw [hy122]; with_reducible exact H2_) | (have H2_ := (Option.bind_some _ _).symm.trans H; with_reducible exact H2_) | with_reducible exact H | (rw [hy122]; exact H) | exact H
 have Ny122 := am hy122
 clear hy122
 obtain ⟨y126, hy126⟩ : ∃ y_ : List (S23), y_ = (([(⟨3, 8⟩ : S23)] : List (S23))) := ⟨_, rfl⟩
 replace H : ((find_Over.f k t110 t111 t112 t115 y126).bind fun bt129 => ((find_Over.f k t110 t111 t112 t115 (([(⟨5, 6⟩ : S23)] : List (S23)))).bind fun bt136 => ((epactlaw07_is.f 1 true).bind fun t140 => ((find_At.f k t110 t111 t112 t115 9).bind fun bt141 => ((epactlaw07_is_1.f 1 true bt141.1 bt141.2).bind fun t143 => (if t143 = true then ((epactlaw07_is.f 0 false).bind fun t144 => ((find_At.f k t110 t111 t112 t115 5).bind fun bt145 => ((epactlaw07_is_1.f 0 false bt145.1 bt145.2).bind fun t147 => (if t147 = true then ((epactlaw07_is.f 1 true).bind fun t148 => ((find_From.f k t110 t111 t112 t115 5).bind fun bt149 => ((epactlaw07_is_1.f 1 true bt149.1 bt149.2).bind fun t151 => (if t151 = true then ((epactlaw07_is.f 0 true).bind fun t152 => ((find_Till.f k t110 t111 t112 t115 5).bind fun bt153 => ((epactlaw07_is_1.f 0 true bt153.1 bt153.2).bind fun t155 => (if t155 = true then (if bt129.2 = 0 then (if bt136.2 = 0 then ((epactlaw07_ints.f k bt129.1 (([0, 1] : List Int))).bind fun t159 => (if t159 = true then (if (bt136.1.length : Int) = 0 then ((epactlaw07_is.f 0 false).bind fun t160 => ((find_From.f k 0 0 ([] : List (List (S23))) y122 7).bind fun bt161 => ((epactlaw07_is_1.f 0 false bt161.1 bt161.2).bind fun t163 => (if t163 = true then ((epactlaw07_is.f 3 true).bind fun t164 => ((find_Till.f k 0 0 ([] : List (List (S23))) y122 100).bind fun bt165 => ((epactlaw07_is_1.f 3 true bt165.1 bt165.2).bind fun t167 => (some t167)))) else (none))))) else (none)) else (none))) else (none)) else (none)) else (none))))) else (none))))) else (none))))) else (none))))))) = some r := by first | (rw [hy126]; with_reducible exact H) | (have H2_ := (Option.bind_some _ _).symm.trans H; rw [hy126]; with_reducible exact H2_) | (have H2_ := (Option.bind_some _ _).symm.trans H; with_reducible exact H2_) | with_reducible exact H | (rw [hy126]; exact H) | exact H
 have Ny126 := am hy126
 clear hy126
 replace H := Option.bind_eq_some_iff.mp H
 obtain ⟨⟨t129, t132⟩, A20, H⟩ := H
 try dsimp only at H
 have A2 := am A20
 clear A20
 obtain ⟨y133, hy133⟩ : ∃ y_ : List (S23), y_ = (([(⟨5, 6⟩ : S23)] : List (S23))) := ⟨_, rfl⟩
 replace H : ((find_Over.f k t110 t111 t112 t115 y133).bind fun bt136 => ((epactlaw07_is.f 1 true).bind fun t140 => ((find_At.f k t110 t111 t112 t115 9).bind fun bt141 => ((epactlaw07_is_1.f 1 true bt141.1 bt141.2).bind fun t143 => (if t143 = true then ((epactlaw07_is.f 0 false).bind fun t144 => ((find_At.f k t110 t111 t112 t115 5).bind fun bt145 => ((epactlaw07_is_1.f 0 false bt145.1 bt145.2).bind fun t147 => (if t147 = true then ((epactlaw07_is.f 1 true).bind fun t148 => ((find_From.f k t110 t111 t112 t115 5).bind fun bt149 => ((epactlaw07_is_1.f 1 true bt149.1 bt149.2).bind fun t151 => (if t151 = true then ((epactlaw07_is.f 0 true).bind fun t152 => ((find_Till.f k t110 t111 t112 t115 5).bind fun bt153 => ((epactlaw07_is_1.f 0 true bt153.1 bt153.2).bind fun t155 => (if t155 = true then (if t132 = 0 then (if bt136.2 = 0 then ((epactlaw07_ints.f k t129 (([0, 1] : List Int))).bind fun t159 => (if t159 = true then (if (bt136.1.length : Int) = 0 then ((epactlaw07_is.f 0 false).bind fun t160 => ((find_From.f k 0 0 ([] : List (List (S23))) y122 7).bind fun bt161 => ((epactlaw07_is_1.f 0 false bt161.1 bt161.2).bind fun t163 => (if t163 = true then ((epactlaw07_is.f 3 true).bind fun t164 => ((find_Till.f k 0 0 ([] : List (List (S23))) y122 100).bind fun bt165 => ((epactlaw07_is_1.f 3 true bt165.1 bt165.2).bind fun t167 => (some t167)))) else (none))))) else (none)) else (none))) else (none)) else (none)) else (none))))) else (none))))) else (none))))) else (none)))))) = some r := by first | (rw [hy133]; with_reducible exact H) | (have H2_ := (Option.bind_some _ _).symm.trans H; rw [hy133]; with_reducible exact H2_) | (have H2_ := (Option.bind_some _ _).symm.trans H; with_reducible exact H2_) | with_reducible exact H | (rw [hy133]; exact H) | exact H
 have Ny133 := am hy133
 clear hy133
 replace H := Option.bind_eq_some_iff.mp H
 obtain ⟨⟨t136, t139⟩, A30, H⟩ := H
 try dsimp only at H
 have A3 := am A30
 clear A30
 replace H := Option.bind_eq_some_iff.mp H
 obtain ⟨t140, A40, H⟩ := H
 try dsimp only at H
 have A4 := am A40
 clear A40
 replace H := Option.bind_eq_some_iff.mp H
 obtain ⟨⟨t141, t142⟩, A50, H⟩ := H
 try dsimp only at H
 have A5 := am A50
 clear A50
 replace H := Option.bind_eq_some_iff.mp H
 obtain ⟨t143, A60, H⟩ := H
 try dsimp only at H
 have A6 := am A60
 clear A60
 by_cases c7 : t143 = true
 ·subst c7
  have H1 : ((epactlaw07_is.f 0 false).bind fun t144 => ((find_At.f k t110 t111 t112 t115 5).bind fun bt145 => ((epactlaw07_is_1.f 0 false bt145.1 bt145.2).bind fun t147 => (if t147 = true then ((epactlaw07_is.f 1 true).bind fun t148 => ((find_From.f k t110 t111 t112 t115 5).bind fun bt149 => ((epactlaw07_is_1.f 1 true bt149.1 bt149.2).bind fun t151 => (if t151 = true then ((epactlaw07_is.f 0 true).bind fun t152 => ((find_Till.f k t110 t111 t112 t115 5).bind fun bt153 => ((epactlaw07_is_1.f 0 true bt153.1 bt153.2).bind fun t155 => (if t155 = true then (if t132 = 0 then (if t139 = 0 then ((epactlaw07_ints.f k t129 (([0, 1] : List Int))).bind fun t159 => (if t159 = true then (if (t136.length : Int) = 0 then ((epactlaw07_is.f 0 false).bind fun t160 => ((find_From.f k 0 0 ([] : List (List (S23))) y122 7).bind fun bt161 => ((epactlaw07_is_1.f 0 false bt161.1 bt161.2).bind fun t163 => (if t163 = true then ((epactlaw07_is.f 3 true).bind fun t164 => ((find_Till.f k 0 0 ([] : List (List (S23))) y122 100).bind fun bt165 => ((epactlaw07_is_1.f 3 true bt165.1 bt165.2).bind fun t167 => (some t167)))) else (none))))) else (none)) else (none))) else (none)) else (none)) else (none))))) else (none))))) else (none))))) = some r := by rw [if_pos rfl] at H; exact H
  clear H
  have H := H1
  clear H1
  replace H := Option.bind_eq_some_iff.mp H
  obtain ⟨t144, A80, H⟩ := H
  try dsimp only at H
  have A8 := am A80
  clear A80
  replace H := Option.bind_eq_some_iff.mp H
  obtain ⟨⟨t145, t146⟩, A90, H⟩ := H
  try dsimp only at H
  have A9 := am A90
  clear A90
  replace H := Option.bind_eq_some_iff.mp H
  obtain ⟨t147, A100, H⟩ := H
  try dsimp only at H
  have A10 := am A100
  clear A100
  by_cases c11 : t147 = true
  ·subst c11
   have H1 : ((epactlaw07_is.f 1 true).bind fun t148 => ((find_From.f k t110 t111 t112 t115 5).bind fun bt149 => ((epactlaw07_is_1.f 1 true bt149.1 bt149.2).bind fun t151 => (if t151 = true then ((epactlaw07_is.f 0 true).bind fun t152 => ((find_Till.f k t110 t111 t112 t115 5).bind fun bt153 => ((epactlaw07_is_1.f 0 true bt153.1 bt153.2).bind fun t155 => (if t155 = true then (if t132 = 0 then (if t139 = 0 then ((epactlaw07_ints.f k t129 (([0, 1] : List Int))).bind fun t159 => (if t159 = true then (if (t136.length : Int) = 0 then ((epactlaw07_is.f 0 false).bind fun t160 => ((find_From.f k 0 0 ([] : List (List (S23))) y122 7).bind fun bt161 => ((epactlaw07_is_1.f 0 false bt161.1 bt161.2).bind fun t163 => (if t163 = true then ((epactlaw07_is.f 3 true).bind fun t164 => ((find_Till.f k 0 0 ([] : List (List (S23))) y122 100).bind fun bt165 => ((epactlaw07_is_1.f 3 true bt165.1 bt165.2).bind fun t167 => (some t167)))) else (none))))) else (none)) else (none))) else (none)) else (none)) else (none))))) else (none))))) = some r := by rw [if_pos rfl] at H; exact H
   clear H
   have H := H1
   clear H1
   replace H := Option.bind_eq_some_iff.mp H
   obtain ⟨t148, A120, H⟩ := H
   try dsimp only at H
   have A12 := am A120
   clear A120
   replace H := Option.bind_eq_some_iff.mp H
   obtain ⟨⟨t149, t150⟩, A130, H⟩ := H
   try dsimp only at H
   have A13 := am A130
   clear A130
   replace H := Option.bind_eq_some_iff.mp H
   obtain ⟨t151, A140, H⟩ := H
   try dsimp only at H
   have A14 := am A140
   clear A140
   by_cases c15 : t151 = true
   ·subst c15
    have H1 : ((epactlaw07_is.f 0 true).bind fun t152 => ((find_Till.f k t110 t111 t112 t115 5).bind fun bt153 => ((epactlaw07_is_1.f 0 true bt153.1 bt153.2).bind fun t155 => (if t155 = true then (if t132 = 0 then (if t139 = 0 then ((epactlaw07_ints.f k t129 (([0, 1] : List Int))).bind fun t159 => (if t159 = true then (if (t136.length : Int) = 0 then ((epactlaw07_is.f 0 false).bind fun t160 => ((find_From.f k 0 0 ([] : List (List (S23))) y122 7).bind fun bt161 => ((epactlaw07_is_1.f 0 false bt161.1 bt161.2).bind fun t163 => (if t163 = true then ((epactlaw07_is.f 3 true).bind fun t164 => ((find_Till.f k 0 0 ([] : List (List (S23))) y122 100).bind fun bt165 => ((epactlaw07_is_1.f 3 true bt165.1 bt165.2).bind fun t167 => (some t167)))) else (none))))) else (none)) else (none))) else (none)) else (none)) else (none))))) = some r := by rw [if_pos rfl] at H; exact H
    clear H
    have H := H1
    clear H1
    replace H := Option.bind_eq_some_iff.mp H
    obtain ⟨t152, A160, H⟩ := H
    try dsimp only at H
    have A16 := am A160
    clear A160
    replace H := Option.bind_eq_some_iff.mp H
    obtain ⟨⟨t153, t154⟩, A170, H⟩ := H
    try dsimp only at H
    have A17 := am A170
    clear A170
    replace H := Option.bind_eq_some_iff.mp H
    obtain ⟨t155, A180, H⟩ := H
    try dsimp only at H
    have A18 := am A180
    clear A180
    by_cases c19 : t155 = true
    ·subst c19
     have H1 : (if t132 = 0 then (if t139 = 0 then ((epactlaw07_ints.f k t129 (([0, 1] : List Int))).bind fun t159 => (if t159 = true then (if (t136.length : Int) = 0 then ((epactlaw07_is.f 0 false).bind fun t160 => ((find_From.f k 0 0 ([] : List (List (S23))) y122 7).bind fun bt161 => ((epactlaw07_is_1.f 0 false bt161.1 bt161.2).bind fun t163 => (if t163 = true then ((epactlaw07_is.f 3 true).bind fun t164 => ((find_Till.f k 0 0 ([] : List (List (S23))) y122 100).bind fun bt165 => ((epactlaw07_is_1.f 3 true bt165.1 bt165.2).bind fun t167 => (some t167)))) else (none))))) else (none)) else (none))) else (none)) else (none)) = some r := by rw [if_pos rfl] at H; exact H
     clear H
     have H := H1
     clear H1
     by_cases c20 : t132 = 0
     ·rw [if_pos c20] at H
      have c20b0 : (t132 == 0) = true := beq_iff_eq.mpr c20
      have c20b1 : (t132 != 0) = false := bne_eq_false_iff_eq.mpr c20
      clear c20
      by_cases c21 : t139 = 0
      ·rw [if_pos c21] at H
       have c21b0 : (t139 == 0) = true := beq_iff_eq.mpr c21
       have c21b1 : (t139 != 0) = false := bne_eq_false_iff_eq.mpr c21
       clear c21
       obtain ⟨y156, hy156⟩ : ∃ y_ : List Int, y_ = (([0, 1] : List Int)) := ⟨_, rfl⟩
       replace H : ((epactlaw07_ints.f k t129 y156).bind fun t159 => (if t159 = true then (if (t136.length : Int) = 0 then ((epactlaw07_is.f 0 false).bind fun t160 => ((find_From.f k 0 0 ([] : List (List (S23))) y122 7).bind fun bt161 => ((epactlaw07_is_1.f 0 false bt161.1 bt161.2).bind fun t163 => (if t163 = true then ((epactlaw07_is.f 3 true).bind fun t164 => ((find_Till.f k 0 0 ([] : List (List (S23))) y122 100).bind fun bt165 => ((epactlaw07_is_1.f 3 true bt165.1 bt165.2).bind fun t167 => (some t167)))) else (none))))) else (none)) else (none))) = some r := by first | (rw [hy156]; with_reducible exact H) | (have H2_ := (Option.bind_some _ _).symm.trans H; rw [hy156]; with_reducible exact H2_) | (have H2_ := (Option.bind_some _ _).symm.trans H; with_reducible exact H2_) | with_reducible exact H | (rw [hy156]; exact H) | exact H
       have Ny156 := am hy156
       clear hy156
       replace H := Option.bind_eq_some_iff.mp H
       obtain ⟨t159, A220, H⟩ := H
       try dsimp only at H
       have A22 := am A220
       clear A220
       by_cases c23 : t159 = true
       ·subst c23
        have H1 : (if (t136.length : Int) = 0 then ((epactlaw07_is.f 0 false).bind fun t160 => ((find_From.f k 0 0 ([] : List (List (S23))) y122 7).bind fun bt161 => ((epactlaw07_is_1.f 0 false bt161.1 bt161.2).bind fun t163 => (if t163 = true then ((epactlaw07_is.f 3 true).bind fun t164 => ((find_Till.f k 0 0 ([] : List (List (S23))) y122 100).bind fun bt165 => ((epactlaw07_is_1.f 3 true bt165.1 bt165.2).bind fun t167 => (some t167)))) else (none))))) else (none)) = some r := by rw [if_pos rfl] at H; exact H
        clear H
        have H := H1
        clear H1
        by_cases c24 : (t136.length : Int) = 0
        ·rw [if_pos c24] at H
         have c24b0 : ((t136.length : Int) == 0) = true := beq_iff_eq.mpr c24
         have c24b1 : ((t136.length : Int) != 0) = false := bne_eq_false_iff_eq.mpr c24
         clear c24
         replace H := Option.bind_eq_some_iff.mp H
         obtain ⟨t160, A250, H⟩ := H
         try dsimp only at H
         have A25 := am A250
         clear A250
         replace H := Option.bind_eq_some_iff.mp H
         obtain ⟨⟨t161, t162⟩, A260, H⟩ := H
         try dsimp only at H
         have A26 := am A260
         clear A260
         replace H := Option.bind_eq_some_iff.mp H
         obtain ⟨t163, A270, H⟩ := H
         try dsimp only at H
         have A27 := am A270
         clear A270
         by_cases c28 : t163 = true
         ·subst c28
          have H1 : ((epactlaw07_is.f 3 true).bind fun t164 => ((find_Till.f k 0 0 ([] : List (List (S23))) y122 100).bind fun bt165 => ((epactlaw07_is_1.f 3 true bt165.1 bt165.2).bind fun t167 => (some t167)))) = some r := by rw [if_pos rfl] at H; exact H
          clear H
          have H := H1
          clear H1
          replace H := Option.bind_eq_some_iff.mp H
          obtain ⟨t164, A290, H⟩ := H
          try dsimp only at H
          have A29 := am A290
          clear A290
          replace H := Option.bind_eq_some_iff.mp H
          obtain ⟨⟨t165, t166⟩, A300, H⟩ := H
          try dsimp only at H
          have A30 := am A300
          clear A300
          replace H := Option.bind_eq_some_iff.mp H
          obtain ⟨t167, A310, H⟩ := H
          try dsimp only at H
          have A31 := am A310
          clear A310
          obtain rfl := Option.some.inj H
          go_enter Try.func16, Try.ntmps16
          try go_wp2_with (first | ((with_reducible refine gate_callee (f := 52) rfl ?_); refine goesL_ (some 7) rfl rfl Try.func52 (by kernel_rfl) rfl #[] rfl ar ?_; (with_reducible refine (epactlaw05_Weeks.calls  t110 t111 t112 t115 _ A1.out).mono ?_); rintro e w32 ⟨v113, v116, rfl, ho0, ho1, hb⟩; refine ⟨_, rfl, ?_⟩; have HO114 := am (Kd.N_lower (Kd.N_mono (ok' := fun k_ => some k_ ≠ (v116 : Value).ownBlock) ho0 (fun k_ hk_ => hk_.2)) (below_size (bl HB.out))); have HO117 := am (Kd.N_lower (Kd.N_mono (ok' := fun k_ => some k_ ≠ (v113 : Value).ownBlock) ho1 (fun k_ hk_ => hk_.2)) (below_size (bl HB.out))); replace HB := am (below_step (bl HB.out) hb); (try clear hb); (try clear hb2); (try clear hk); (try clear hi); (try clear ho0); (try clear ho1)) | ((with_reducible refine gate_dst (N := 1) rfl ?_); (try (refine gate_guard (by rfl) ?_; dsimp only)); refine bx 1 28 #[.int .i64 0, .int .i64 0, .slice none 0 0, .slice none 0 0] ?_; intro gb118 hg w33 hbox hb; replace HO114 := am (Kd.N_below (Kd.N_elderB (kn HO114.out) gb118 (Nat.le_of_eq hg.symm)) hb); replace HO117 := am (Kd.N_below (Kd.N_elderB (kn HO117.out) gb118 (Nat.le_of_eq hg.symm)) hb); have BK118 := am (hbox); have GW118 := am ((bz hg HB.out : w.heap.size ≤ gb118)); have GE118 := am ((bz hg HB.out : w.heap.size ≤ gb118)); replace HB := am (below_step (bl HB.out) hb); clear hb hbox hg; have hcz34_0 : w33.cell? ⟨gb118, 0, none⟩ = some (.int .i64 0) := bc BK118.out 0; have hcz34_1 : w33.cell? ⟨gb118, 1, none⟩ = some (.int .i64 0) := bc BK118.out 1; have hcz34_2 : w33.cell? ⟨gb118, 2, none⟩ = some (.slice none 0 0) := bc BK118.out 2; have hcz34_3 : w33.cell? ⟨gb118, 3, none⟩ = some (.slice none 0 0) := bc BK118.out 3; have hfz34_0 := blk_frozen BK118.out 0; have hfz34_1 := blk_frozen BK118.out 1; have hfz34_2 := blk_frozen BK118.out 2; have hfz34_3 := blk_frozen BK118.out 3; obtain ⟨Ao35, co35, eo35⟩ := Kd.N_slice HO114.out; subst eo35; obtain ⟨Ao36, co36, eo36⟩ := Kd.N_slice HO117.out; subst eo36) | ((with_reducible refine gate_dst (N := 9) rfl ?_); (try (refine gate_guard (by rfl) ?_; dsimp only)); refine Kd.R_lit k23 _ 23 ?hg (N := 9) ?hd (xs := ([(⟨5, 6⟩ : S23)] : List (S23))) (inner := [.int .i64 5, .int .i64 6]) (ok := fun _ => True) (okp := fun _ => True) ?hr ?hp (fun _ hk => hk) trivial (Below.refl _ _) (Nat.le_refl _) (by simp) ?_; (case hd => rfl); (case hg => rfl); (case hr => first | (go_simp; done) | (go_simp; rfl)); (case hp => exact (Reps.c2 (show Kd.M k23 _ _ _ (⟨5, 6⟩ : S23) [.int .i64 5, .int .i64 6] from (k23_mkM _ _ _ (⟨5, 6⟩ : S23) )) (Reps.none _ _))); intro v120 w37 ho38 hb hg_ hnew_; clear hg_ hnew_; (first | rw [← Ny119.out] at ho38 | (simp only [Int.reduceToNat] at ho38; rw [← Ny119.out] at ho38)); replace HO114 := am (Kd.N_elder' (by (with_reducible repeat (first | apply Kd.N_alloc | apply Kd.N_drewN | apply Kd.N_drew)); exact (Kd.N_mono (Kd.N_far (p := ⟨gb118, 3, none⟩) (Kd.N_far (p := ⟨gb118, 2, none⟩) (Kd.N_far (p := ⟨gb118, 1, none⟩) (Kd.N_far (p := ⟨gb118, 0, none⟩) (Kd.N_mono HO114.out (fun k_ hk => (⟨hk, hk.2⟩ : _ ∧ k_ ≠ gb118))) (fun _ hk => hk.2) (.int .i64 t110)) (fun _ hk => hk.2) (.int .i64 t111)) (fun _ hk => hk.2) (.slice Ao35 t112.length co35)) (fun _ hk => hk.2) (.slice Ao36 t115.length co36)) (fun _ h_ => h_.1))) (Kd.R_base ho38) hb); replace HO117 := am (Kd.N_elder' (by (with_reducible repeat (first | apply Kd.N_alloc | apply Kd.N_drewN | apply Kd.N_drew)); exact (Kd.N_mono (Kd.N_far (p := ⟨gb118, 3, none⟩) (Kd.N_far (p := ⟨gb118, 2, none⟩) (Kd.N_far (p := ⟨gb118, 1, none⟩) (Kd.N_far (p := ⟨gb118, 0, none⟩) (Kd.N_mono HO117.out (fun k_ hk => (⟨hk, hk.2⟩ : _ ∧ k_ ≠ gb118))) (fun _ hk => hk.2) (.int .i64 t110)) (fun _ hk => hk.2) (.int .i64 t111)) (fun _ hk => hk.2) (.slice Ao35 t112.length co35)) (fun _ hk => hk.2) (.slice Ao36 t115.length co36)) (fun _ h_ => h_.1))) (Kd.R_base ho38) hb); have HO121 := am (Kd.R_lower ho38 (below_size (bl1 HB.out GE118.out))); replace BK118 := am (blk_below (g := gb118) (o := .cells #[.int .i64 t110, .int .i64 t111, .slice Ao35 t112.length co35, .slice Ao36 t115.length co36] 28 (0, 0)) (by (with_reducible repeat (first | refine blk_drewN ?_ _ | refine blk_drew ?_ | refine blk_alloc ?_ _)); refine blk_put (cs := #[.int .i64 t110, .int .i64 t111, .slice Ao35 t112.length co35, .slice none 0 0]) ?_ 3 _ rfl; (with_reducible repeat (first | refine blk_drewN ?_ _ | refine blk_drew ?_ | refine blk_alloc ?_ _)); refine blk_put (cs := #[.int .i64 t110, .int .i64 t111, .slice none 0 0, .slice none 0 0]) ?_ 2 _ rfl; (with_reducible repeat (first | refine blk_drewN ?_ _ | refine blk_drew ?_ | refine blk_alloc ?_ _)); refine blk_put (cs := #[.int .i64 t110, .int .i64 0, .slice none 0 0, .slice none 0 0]) ?_ 1 _ rfl; (with_reducible repeat (first | refine blk_drewN ?_ _ | refine blk_drew ?_ | refine blk_alloc ?_ _)); refine blk_put (cs := #[.int .i64 0, .int .i64 0, .slice none 0 0, .slice none 0 0]) ?_ 0 _ rfl; (with_reducible repeat (first | refine blk_drewN ?_ _ | refine blk_drew ?_ | refine blk_alloc ?_ _)); exact BK118.out) hb); replace HB := am (below_step (bl1 HB.out GE118.out) hb); clear hb ho38; obtain ⟨Ao39, co39, eo39⟩ := Kd.R_slice HO121.out; subst eo39) | ((with_reducible refine gate_dst (N := 11) rfl ?_); (try (refine gate_guard (by rfl) ?_; dsimp only)); refine Kd.N_lit k70 _ 70 ?hg (N' := 11) ?hd (xs := ([(⟨3, y119⟩ : S70)] : List (S70))) (inner := [.int .i64 3, .slice Ao39 y119.length co39]) (ok := (fun k_ => some k_ ≠ (.slice Ao35 t112.length co35 : Value).ownBlock ∧ some k_ ≠ (.slice Ao36 t115.length co36 : Value).ownBlock ∧ k_ ≠ gb118)) (okp := (fun k_ => some k_ ≠ (.slice Ao35 t112.length co35 : Value).ownBlock ∧ some k_ ≠ (.slice Ao36 t115.length co36 : Value).ownBlock ∧ k_ ≠ gb118)) ?hr ?hp (fun _ hk => hk) ((show ∀ k_, w37.heap.size ≤ k_ → (fun k_ => some k_ ≠ (.slice Ao35 t112.length co35 : Value).ownBlock ∧ some k_ ≠ (.slice Ao36 t115.length co36 : Value).ownBlock ∧ k_ ≠ gb118) k_ from fun k_ hk => ⟨Kd.fresh' (Kd.N_lt (kn HO114.out)) k_ hk, Kd.fresh' (Kd.N_lt (kn HO117.out)) k_ hk, Kd.freshB (g := gb118) (o := .cells #[.int .i64 t110, .int .i64 t111, .slice Ao35 t112.length co35, .slice Ao36 t115.length co36] 28 (0, 0)) (kp BK118.out) k_ hk⟩) _ (Nat.le_refl _)) (Below.refl _ _) (Nat.le_refl _) (by simp) ?_; (case hd => rfl); (case hg => rfl); (case hr => first | (go_simp; done) | (go_simp; rfl)); (case hp => exact (Reps.c2 (show Kd.FK k70 _ _ (⟨3, y119⟩ : S70) [.int .i64 3, .slice Ao39 y119.length co39] from (k70_mkF _ _ (⟨3, y119⟩ : S70) (Kd.R_reads' (Kd.R_mono (ok' := (fun k_ => some k_ ≠ (.slice Ao35 t112.length co35 : Value).ownBlock ∧ some k_ ≠ (.slice Ao36 t115.length co36 : Value).ownBlock ∧ k_ ≠ gb118)) (Kd.R_types (Kd.R_apart' (Kd.R_apart' (HO121.out) (Kd.N_typed HO114.out) (by decide)) (Kd.N_typed HO117.out) (by decide)) BK118.out (by decide)) (fun k_ hk => ⟨hk.1.1.2, ⟨hk.1.2, hk.2⟩⟩))).2.1 (Kd.R_F (Kd.R_mono (ok' := (fun k_ => some k_ ≠ (.slice Ao35 t112.length co35 : Value).ownBlock ∧ some k_ ≠ (.slice Ao36 t115.length co36 : Value).ownBlock ∧ k_ ≠ gb118)) (Kd.R_types (Kd.R_apart' (Kd.R_apart' (HO121.out) (Kd.N_typed HO114.out) (by decide)) (Kd.N_typed HO117.out) (by decide)) BK118.out (by decide)) (fun k_ hk => ⟨hk.1.1.2, ⟨hk.1.2, hk.2⟩⟩))))) (Reps.none _ _))); intro v123 w40 ho41 hb hg_ hnew_; have kHO121_ := am (Kd.R_mono (ok' := fun _ => True) (Kd.R_below (kr HO121.out) hb) (fun _ _ => trivial)); clear hg_ hnew_; (first | rw [← Ny122.out] at ho41 | (simp only [Int.reduceToNat] at ho41; rw [← Ny122.out] at ho41)); have n0_ := am (Kd.N_elder' (kn HO114.out) (Kd.N_base ho41) hb); have n1_ := am (Kd.N_elder' (kn HO117.out) (Kd.N_base ho41) hb); have n2_ := am (Kd.N_lower ho41 (below_size (bl1 HB.out GE118.out))); have n3_ := am (blk_below (kp BK118.out) hb); have n4_ := am (below_step (bl1 HB.out GE118.out) hb); clear HO114; clear HO117; clear BK118; clear HB; clear HO121; have HO121 := kHO121_; clear kHO121_; have HO114 := n0_; have HO117 := n1_; have HO124 := n2_; have BK118 := n3_; have HB := n4_; clear n0_ n1_ n2_ n3_ n4_; clear hb ho41; obtain ⟨Ao42, co42, eo42⟩ := Kd.N_slice HO124.out; subst eo42) | ((with_reducible refine gate_dst (N := 2) rfl ?_); (try (refine gate_guard (by rfl) ?_; dsimp only)); refine bx 2 28 #[.int .i64 0, .int .i64 0, .slice none 0 0, .slice none 0 0] ?_; intro gb125 hg w43 hbox hb; replace HO114 := am (Kd.N_below (Kd.N_elderB (kn HO114.out) gb125 (Nat.le_of_eq hg.symm)) hb); replace HO117 := am (Kd.N_below (Kd.N_elderB (kn HO117.out) gb125 (Nat.le_of_eq hg.symm)) hb); replace HO124 := am (Kd.N_below (Kd.N_elderB (kn HO124.out) gb125 (Nat.le_of_eq hg.symm)) hb); have BK125 := am (hbox); have GW125 := am ((bz1 hg HB.out GE118.out : w.heap.size ≤ gb125)); have GE125 := am ((bz1 hg HB.out GE118.out : w.heap.size ≤ gb125)); replace HB := am (below_step (bl1 HB.out GE118.out) hb); have NB118_125 := am ((nl hg BK118.out : gb118 ≠ gb125)); have NB125_118 := am ((ng hg BK118.out : gb125 ≠ gb118)); replace BK118 := am (blk_below (kp BK118.out) hb); clear hb hbox hg; have hnb44 := NB125_118.out; have hnc44 := NB118_125.out; have hcz45_0 : w43.cell? ⟨gb125, 0, none⟩ = some (.int .i64 0) := bc BK125.out 0; have hcz45_1 : w43.cell? ⟨gb125, 1, none⟩ = some (.int .i64 0) := bc BK125.out 1; have hcz45_2 : w43.cell? ⟨gb125, 2, none⟩ = some (.slice none 0 0) := bc BK125.out 2; have hcz45_3 : w43.cell? ⟨gb125, 3, none⟩ = some (.slice none 0 0) := bc BK125.out 3; have hfz45_0 := blk_frozen BK125.out 0; have hfz45_1 := blk_frozen BK125.out 1; have hfz45_2 := blk_frozen BK125.out 2; have hfz45_3 := blk_frozen BK125.out 3; have hcz46_0 : w43.cell? ⟨gb118, 0, none⟩ = some (.int .i64 t110) := bc BK118.out 0; have hcz46_1 : w43.cell? ⟨gb118, 1, none⟩ = some (.int .i64 t111) := bc BK118.out 1; have hcz46_2 : w43.cell? ⟨gb118, 2, none⟩ = some (.slice Ao35 t112.length co35) := bc BK118.out 2; have hcz46_3 : w43.cell? ⟨gb118, 3, none⟩ = some (.slice Ao36 t115.length co36) := bc BK118.out 3; have hfz46_0 := blk_frozen BK118.out 0; have hfz46_1 := blk_frozen BK118.out 1; have hfz46_2 := blk_frozen BK118.out 2; have hfz46_3 := blk_frozen BK118.out 3) | ((with_reducible refine gate_dst (N := 16) rfl ?_); (try (refine gate_guard (by rfl) ?_; dsimp only)); refine Kd.R_lit k23 _ 23 ?hg (N := 16) ?hd (xs := ([(⟨3, 8⟩ : S23)] : List (S23))) (inner := [.int .i64 3, .int .i64 8]) (ok := fun _ => True) (okp := fun _ => True) ?hr ?hp (fun _ hk => hk) trivial (Below.refl _ _) (Nat.le_refl _) (by simp) ?_; (case hd => rfl); (case hg => rfl); (case hr => first | (go_simp; done) | (go_simp; rfl)); (case hp => exact (Reps.c2 (show Kd.M k23 _ _ _ (⟨3, 8⟩ : S23) [.int .i64 3, .int .i64 8] from (k23_mkM _ _ _ (⟨3, 8⟩ : S23) )) (Reps.none _ _))); intro v127 w47 ho48 hb hg_ hnew_; clear hg_ hnew_; (first | rw [← Ny126.out] at ho48 | (simp only [Int.reduceToNat] at ho48; rw [← Ny126.out] at ho48)); replace HO114 := am (Kd.N_elder' (by (with_reducible repeat (first | apply Kd.N_alloc | apply Kd.N_drewN | apply Kd.N_drew)); exact (Kd.N_mono (Kd.N_far (p := ⟨gb125, 3, none⟩) (Kd.N_far (p := ⟨gb125, 2, none⟩) (Kd.N_far (p := ⟨gb125, 1, none⟩) (Kd.N_far (p := ⟨gb125, 0, none⟩) (Kd.N_mono HO114.out (fun k_ hk => (⟨hk, hk.2⟩ : _ ∧ k_ ≠ gb125))) (fun _ hk => hk.2) (.int .i64 0)) (fun _ hk => hk.2) (.int .i64 0)) (fun _ hk => hk.2) (.slice none 0 0)) (fun _ hk => hk.2) (.slice Ao42 y122.length co42)) (fun _ h_ => h_.1))) (Kd.R_base ho48) hb); replace HO117 := am (Kd.N_elder' (by (with_reducible repeat (first | apply Kd.N_alloc | apply Kd.N_drewN | apply Kd.N_drew)); exact (Kd.N_mono (Kd.N_far (p := ⟨gb125, 3, none⟩) (Kd.N_far (p := ⟨gb125, 2, none⟩) (Kd.N_far (p := ⟨gb125, 1, none⟩) (Kd.N_far (p := ⟨gb125, 0, none⟩) (Kd.N_mono HO117.out (fun k_ hk => (⟨hk, hk.2⟩ : _ ∧ k_ ≠ gb125))) (fun _ hk => hk.2) (.int .i64 0)) (fun _ hk => hk.2) (.int .i64 0)) (fun _ hk => hk.2) (.slice none 0 0)) (fun _ hk => hk.2) (.slice Ao42 y122.length co42)) (fun _ h_ => h_.1))) (Kd.R_base ho48) hb); replace HO124 := am (Kd.N_elder' (by (with_reducible repeat (first | apply Kd.N_alloc | apply Kd.N_drewN | apply Kd.N_drew)); exact (Kd.N_mono (Kd.N_far (p := ⟨gb125, 3, none⟩) (Kd.N_far (p := ⟨gb125, 2, none⟩) (Kd.N_far (p := ⟨gb125, 1, none⟩) (Kd.N_far (p := ⟨gb125, 0, none⟩) (Kd.N_mono HO124.out (fun k_ hk => (⟨hk, hk.2⟩ : _ ∧ k_ ≠ gb125))) (fun _ hk => hk.2) (.int .i64 0)) (fun _ hk => hk.2) (.int .i64 0)) (fun _ hk => hk.2) (.slice none 0 0)) (fun _ hk => hk.2) (.slice Ao42 y122.length co42)) (fun _ h_ => h_.1))) (Kd.R_base ho48) hb); have HO128 := am (Kd.R_lower ho48 (below_size (bl2 HB.out GE118.out GE125.out))); replace BK118 := am (blk_below (g := gb118) (o := .cells #[.int .i64 t110, .int .i64 t111, .slice Ao35 t112.length co35, .slice Ao36 t115.length co36] 28 (0, 0)) (kf BK118.out NB118_125.out) hb); replace BK125 := am (blk_below (g := gb125) (o := .cells #[.int .i64 0, .int .i64 0, .slice none 0 0, .slice Ao42 y122.length co42] 28 (0, 0)) (by (with_reducible repeat (first | refine blk_drewN ?_ _ | refine blk_drew ?_ | refine blk_alloc ?_ _)); refine blk_put (cs := #[.int .i64 0, .int .i64 0, .slice none 0 0, .slice none 0 0]) ?_ 3 _ rfl; (with_reducible repeat (first | refine blk_drewN ?_ _ | refine blk_drew ?_ | refine blk_alloc ?_ _)); refine blk_put (cs := #[.int .i64 0, .int .i64 0, .slice none 0 0, .slice none 0 0]) ?_ 2 _ rfl; (with_reducible repeat (first | refine blk_drewN ?_ _ | refine blk_drew ?_ | refine blk_alloc ?_ _)); refine blk_put (cs := #[.int .i64 0, .int .i64 0, .slice none 0 0, .slice none 0 0]) ?_ 1 _ rfl; (with_reducible repeat (first | refine blk_drewN ?_ _ | refine blk_drew ?_ | refine blk_alloc ?_ _)); refine blk_put (cs := #[.int .i64 0, .int .i64 0, .slice none 0 0, .slice none 0 0]) ?_ 0 _ rfl; (with_reducible repeat (first | refine blk_drewN ?_ _ | refine blk_drew ?_ | refine blk_alloc ?_ _)); exact BK125.out) hb); replace HB := am (below_step (bl2 HB.out GE118.out GE125.out) hb); clear hb ho48; obtain ⟨Ao49, co49, eo49⟩ := Kd.R_slice HO128.out; subst eo49) | ((with_reducible refine gate_callee (f := 14) rfl ?_); refine goesL_ (some 17) rfl rfl Try.func14 (by kernel_rfl) rfl #[.agg #[.int .i64 t110, .int .i64 t111, .slice Ao35 t112.length co35, .slice Ao36 t115.length co36], .slice Ao49 y126.length co49] rfl ar ?_; (with_reducible refine (find_Over.calls k t110 t111 _ _ t112 _ _ t115 _ _ y126 t129 t132 _ ?side1 ?side2 ?side3 ?side4 ?side5 ?side6 A2.out).mono ?_); (case side1 => exact kc (Kd.N_reads' HO114.out).2.2); (case side2 => exact (Kd.N_reads' HO114.out).2.1); (case side3 => exact kc (Kd.N_reads' HO117.out).2.2); (case side4 => exact (Kd.N_reads' HO117.out).2.1); (case side5 => exact kc (Kd.R_reads' HO128.out).2.2); (case side6 => exact (Kd.R_reads' HO128.out).2.1); rintro e w50 ⟨v130, rfl, ho0, hb⟩; refine ⟨_, rfl, ?_⟩; have HO131 := am (Kd.V_lower (Kd.V_mono (ok' := fun k_ => some k_ ≠ (.slice Ao35 t112.length co35 : Value).ownBlock ∧ some k_ ≠ (.slice Ao36 t115.length co36 : Value).ownBlock ∧ some k_ ≠ (.slice Ao42 y122.length co42 : Value).ownBlock ∧ some k_ ≠ (.slice Ao49 y126.length co49 : Value).ownBlock ∧ k_ ≠ gb118 ∧ k_ ≠ gb125) ho0 (fun k_ hk_ => ⟨(Kd.fresh' (Kd.N_lt (kn HO114.out)) k_ hk_), (Kd.fresh' (Kd.N_lt (kn HO117.out)) k_ hk_), (Kd.fresh' (Kd.N_lt (kn HO124.out)) k_ hk_), (Kd.fresh' (Kd.R_lt (kr HO128.out)) k_ hk_), (Kd.freshB (g := gb118) (o := .cells #[.int .i64 t110, .int .i64 t111, .slice Ao35 t112.length co35, .slice Ao36 t115.length co36] 28 (0, 0)) (kp BK118.out) k_ hk_), (Kd.freshB (g := gb125) (o := .cells #[.int .i64 0, .int .i64 0, .slice none 0 0, .slice Ao42 y122.length co42] 28 (0, 0)) (kp BK125.out) k_ hk_)⟩)) (below_size (bl2 HB.out GE118.out GE125.out))); replace HO114 := am (Kd.N_below (kn HO114.out) hb); replace HO117 := am (Kd.N_below (kn HO117.out) hb); replace HO124 := am (Kd.N_below (kn HO124.out) hb); replace HO128 := am (Kd.R_below (kr HO128.out) hb); replace BK118 := am (blk_below (kp BK118.out) hb); replace BK125 := am (blk_below (kp BK125.out) hb); replace HB := am (below_step (bl2 HB.out GE118.out GE125.out) hb); (try clear hb); (try clear hb2); (try clear hk); (try clear hi); (try clear ho0); have hcz51_0 : w50.cell? ⟨gb118, 0, none⟩ = some (.int .i64 t110) := bc BK118.out 0; have hcz51_1 : w50.cell? ⟨gb118, 1, none⟩ = some (.int .i64 t111) := bc BK118.out 1; have hcz51_2 : w50.cell? ⟨gb118, 2, none⟩ = some (.slice Ao35 t112.length co35) := bc BK118.out 2; have hcz51_3 : w50.cell? ⟨gb118, 3, none⟩ = some (.slice Ao36 t115.length co36) := bc BK118.out 3; have hfz51_0 := blk_frozen BK118.out 0; have hfz51_1 := blk_frozen BK118.out 1; have hfz51_2 := blk_frozen BK118.out 2; have hfz51_3 := blk_frozen BK118.out 3) | ((with_reducible refine gate_dst (N := 23) rfl ?_); (try (refine gate_guard (by rfl) ?_; dsimp only)); refine Kd.R_lit k23 _ 23 ?hg (N := 23) ?hd (xs := ([(⟨5, 6⟩ : S23)] : List (S23))) (inner := [.int .i64 5, .int .i64 6]) (ok := fun _ => True) (okp := fun _ => True) ?hr ?hp (fun _ hk => hk) trivial (Below.refl _ _) (Nat.le_refl _) (by simp) ?_; (case hd => rfl); (case hg => rfl); (case hr => first | (go_simp; done) | (go_simp; rfl)); (case hp => exact (Reps.c2 (show Kd.M k23 _ _ _ (⟨5, 6⟩ : S23) [.int .i64 5, .int .i64 6] from (k23_mkM _ _ _ (⟨5, 6⟩ : S23) )) (Reps.none _ _))); intro v134 w52 ho53 hb hg_ hnew_; clear hg_ hnew_; (first | rw [← Ny133.out] at ho53 | (simp only [Int.reduceToNat] at ho53; rw [← Ny133.out] at ho53)); replace HO114 := am (Kd.N_elder' (kn HO114.out) (Kd.R_base ho53) hb); replace HO117 := am (Kd.N_elder' (kn HO117.out) (Kd.R_base ho53) hb); replace HO124 := am (Kd.N_elder' (kn HO124.out) (Kd.R_base ho53) hb); replace HO131 := am (Kd.V_elder' (kv HO131.out) (Kd.R_base ho53) hb); have HO135 := am (Kd.R_lower (Kd.R_new' ho53 (Kd.R_lt (kr HO128.out))) (below_size (bl2 HB.out GE118.out GE125.out))); replace HO128 := am (Kd.R_elder' (kr HO128.out) (Kd.R_base ho53) hb); replace BK118 := am (blk_below (kp BK118.out) hb); replace BK125 := am (blk_below (kp BK125.out) hb); replace HB := am (below_step (bl2 HB.out GE118.out GE125.out) hb); clear hb ho53; obtain ⟨Ao54, co54, eo54⟩ := Kd.R_slice HO135.out; subst eo54) | ((with_reducible refine gate_callee (f := 14) rfl ?_); refine goesL_ (some 24) rfl rfl Try.func14 (by kernel_rfl) rfl #[.agg #[.int .i64 t110, .int .i64 t111, .slice Ao35 t112.length co35, .slice Ao36 t115.length co36], .slice Ao54 y133.length co54] rfl ar ?_; (with_reducible refine (find_Over.calls k t110 t111 _ _ t112 _ _ t115 _ _ y133 t136 t139 _ ?side1 ?side2 ?side3 ?side4 ?side5 ?side6 A3.out).mono ?_); (case side1 => exact kc (Kd.N_reads' HO114.out).2.2); (case side2 => exact (Kd.N_reads' HO114.out).2.1); (case side3 => exact kc (Kd.N_reads' HO117.out).2.2); (case side4 => exact (Kd.N_reads' HO117.out).2.1); (case side5 => exact kc (Kd.R_reads' HO135.out).2.2); (case side6 => exact (Kd.R_reads' HO135.out).2.1); rintro e w55 ⟨v137, rfl, ho0, hb⟩; refine ⟨_, rfl, ?_⟩; replace HO131 := am (Kd.V_below (kv HO131.out) hb); have HO138 := am (Kd.V_lower (Kd.V_mono (ok' := fun k_ => some k_ ≠ (.slice Ao35 t112.length co35 : Value).ownBlock ∧ some k_ ≠ (.slice Ao36 t115.length co36 : Value).ownBlock ∧ some k_ ≠ (.slice Ao42 y122.length co42 : Value).ownBlock ∧ some k_ ≠ (.slice Ao49 y126.length co49 : Value).ownBlock ∧ some k_ ≠ (.slice Ao54 y133.length co54 : Value).ownBlock ∧ k_ ≠ gb118 ∧ k_ ≠ gb125) ho0 (fun k_ hk_ => ⟨(Kd.fresh' (Kd.N_lt (kn HO114.out)) k_ hk_), (Kd.fresh' (Kd.N_lt (kn HO117.out)) k_ hk_), (Kd.fresh' (Kd.N_lt (kn HO124.out)) k_ hk_), (Kd.fresh' (Kd.R_lt (kr HO128.out)) k_ hk_), (Kd.fresh' (Kd.R_lt (kr HO135.out)) k_ hk_), (Kd.freshB (g := gb118) (o := .cells #[.int .i64 t110, .int .i64 t111, .slice Ao35 t112.length co35, .slice Ao36 t115.length co36] 28 (0, 0)) (kp BK118.out) k_ hk_), (Kd.freshB (g := gb125) (o := .cells #[.int .i64 0, .int .i64 0, .slice none 0 0, .slice Ao42 y122.length co42] 28 (0, 0)) (kp BK125.out) k_ hk_)⟩)) (below_size (bl2 HB.out GE118.out GE125.out))); replace HO114 := am (Kd.N_below (kn HO114.out) hb); replace HO117 := am (Kd.N_below (kn HO117.out) hb); replace HO124 := am (Kd.N_below (kn HO124.out) hb); replace HO128 := am (Kd.R_below (kr HO128.out) hb); replace HO135 := am (Kd.R_below (kr HO135.out) hb); replace BK118 := am (blk_below (kp BK118.out) hb); replace BK125 := am (blk_below (kp BK125.out) hb); replace HB := am (below_step (bl2 HB.out GE118.out GE125.out) hb); (try clear hb); (try clear hb2); (try clear hk); (try clear hi); (try clear ho0)))
          replace HO114 := am (Kd.N_drew HO114.out)
          replace HO117 := am (Kd.N_drew HO117.out)
          replace HO124 := am (Kd.N_drew HO124.out)
          replace HO128 := am (Kd.R_drew HO128.out)
          replace HO131 := am (Kd.V_drew HO131.out)
          replace HO135 := am (Kd.R_drew HO135.out)
          replace HO138 := am (Kd.V_drew HO138.out)
          replace BK118 := am (blk_drew BK118.out)
          replace BK125 := am (blk_drew BK125.out)
          replace HB := am (below_drew1 HB.out)
          refine start_ (n := 65) (S := fun w' => w'.cell? ⟨gb118, 0, none⟩ = some (.int .i64 t110) ∧ w'.cell? ⟨gb118, 1, none⟩ = some (.int .i64 t111) ∧ w'.cell? ⟨gb118, 2, none⟩ = some (.slice Ao35 t112.length co35) ∧ w'.cell? ⟨gb118, 3, none⟩ = some (.slice Ao36 t115.length co36) ∧ w'.cell? ⟨gb125, 0, none⟩ = some (.int .i64 0) ∧ w'.cell? ⟨gb125, 1, none⟩ = some (.int .i64 0) ∧ w'.cell? ⟨gb125, 2, none⟩ = some (.slice none 0 0) ∧ w'.cell? ⟨gb125, 3, none⟩ = some (.slice Ao42 y122.length co42)) (ds := []) (bs 65 0) (by kernel_rfl) rfl rfl ⟨bc BK118.out 0, bc BK118.out 1, bc BK118.out 2, bc BK118.out 3, bc BK125.out 0, bc BK125.out 1, bc BK125.out 2, bc BK125.out 3⟩ (fun hHeld => ?_); refine with_tabW epactlaw07_awake.tab5 epactlaw07_awake.bits5 (fun HT_ HW_ => ?_)
          generalize w55.drew = w56 at HO114 HO117 HO124 HO128 HO131 HO135 HO138 BK118 BK125 HB hHeld ⊢
          refine tx 1 28 (bs 65 2) HT_.out HW_.out hHeld ?_
          refine one_ (i := 0) (N := some 27) (bs 65 3) rfl rfl (one_of HT_.out (by kernel_rfl)) (by decide) (fun K hK => ?_)
          refine goes_ Try.func20 (by kernel_rfl) rfl #[.int .i64 1, .bool true] (by rfl) rfl rfl ar ?_
          with_reducible refine (epactlaw07_is.calls 1 true t140 _ A4.out).mono ?_
          rintro e w57 ⟨gct140a, gct140b, rfl, hI, hb⟩
          have HI := am hI
          clear hI
          refine ⟨_, rfl, ?_⟩
          replace HO114 := am (Kd.N_below (kn HO114.out) hb)
          replace HO117 := am (Kd.N_below (kn HO117.out) hb)
          replace HO124 := am (Kd.N_below (kn HO124.out) hb)
          replace HO128 := am (Kd.R_below (kr HO128.out) hb)
          replace HO131 := am (Kd.V_below (kv HO131.out) hb)
          replace HO135 := am (Kd.R_below (kr HO135.out) hb)
          replace HO138 := am (Kd.V_below (kv HO138.out) hb)
          replace BK118 := am (blk_below (kp BK118.out) hb)
          replace BK125 := am (blk_below (kp BK125.out) hb)
          replace HB := am (below_step (bl2 HB.out GE118.out GE125.out) hb)
          (try clear hb)
          (try clear hb2)
          (try clear hk)
          (try clear hi)
          refine hK.out _ _ ⟨bc BK118.out 0, bc BK118.out 1, bc BK118.out 2, bc BK118.out 3, bc BK125.out 0, bc BK125.out 1, bc BK125.out 2, bc BK125.out 3⟩ (fun hHeld => ?_)
          clear hK K
          refine nx ?_
          refine one_ (i := 2) (N := some 29) (bs 65 7) rfl rfl (one_of HT_.out (by kernel_rfl)) (by decide) (fun K hK => ?_)
          refine goes_ Try.func21 (by kernel_rfl) rfl #[.agg #[.int .i64 t110, .int .i64 t111, .slice Ao35 t112.length co35, .slice Ao36 t115.length co36], .int .i64 9] (by rfl) rfl rfl ar ?_
          with_reducible refine (find_At.calls k t110 t111 _ _ t112 _ _ t115 9 t141 t142 _ ?side1 ?side2 ?side3 ?side4 A5.out).mono ?_
          (case side1 => exact kc (Kd.N_reads' HO114.out).2.2)
          (case side2 => exact (Kd.N_reads' HO114.out).2.1)
          (case side3 => exact kc (Kd.N_reads' HO117.out).2.2)
          (case side4 => exact (Kd.N_reads' HO117.out).2.1)
          rintro e w58 ⟨rfl, hb⟩
          have nI_ := am (HI.out.below hb)
          clear HI
          have HI := nI_
          clear nI_
          refine ⟨_, rfl, ?_⟩
          replace HO114 := am (Kd.N_below (kn HO114.out) hb)
          replace HO117 := am (Kd.N_below (kn HO117.out) hb)
          replace HO124 := am (Kd.N_below (kn HO124.out) hb)
          replace HO128 := am (Kd.R_below (kr HO128.out) hb)
          replace HO131 := am (Kd.V_below (kv HO131.out) hb)
          replace HO135 := am (Kd.R_below (kr HO135.out) hb)
          replace HO138 := am (Kd.V_below (kv HO138.out) hb)
          replace BK118 := am (blk_below (kp BK118.out) hb)
          replace BK125 := am (blk_below (kp BK125.out) hb)
          replace HB := am (below_step (bl2 HB.out GE118.out GE125.out) hb)
          (try clear hb)
          (try clear hb2)
          (try clear hk)
          (try clear hi)
          refine hK.out _ _ ⟨bc BK118.out 0, bc BK118.out 1, bc BK118.out 2, bc BK118.out 3, bc BK125.out 0, bc BK125.out 1, bc BK125.out 2, bc BK125.out 3⟩ (fun hHeld => ?_)
          clear hK K
          refine nx ?_
          refine px 3 30 (bs 65 15) HT_.out ?_
          refine px 4 31 (bs 65 31) HT_.out ?_
          refine one_ (i := 5) (N := some 32) (bs 65 63) rfl rfl (one_of HT_.out (by kernel_rfl)) (by decide) (fun K hK => ?_)
          refine goesC_ Try.func57 (by kernel_rfl) rfl #[.int .i64 t141, .bool t142] #[.pointer (some ⟨gct140a, 0, none⟩), .pointer (some ⟨gct140b, 0, none⟩)] #[.int .i64 t141, .bool t142, .pointer (some ⟨gct140a, 0, none⟩), .pointer (some ⟨gct140b, 0, none⟩)] rfl (by rfl) rfl rfl rfl ar ?_
          with_reducible refine (epactlaw07_is_1.calls 1 true t141 t142 true _ A6.out gct140a gct140b HI.out).mono ?_
          rintro e w59 ⟨rfl, hb⟩
          clear HI
          refine ⟨_, rfl, ?_⟩
          replace HO114 := am (Kd.N_below (kn HO114.out) hb)
          replace HO117 := am (Kd.N_below (kn HO117.out) hb)
          replace HO124 := am (Kd.N_below (kn HO124.out) hb)
          replace HO128 := am (Kd.R_below (kr HO128.out) hb)
          replace HO131 := am (Kd.V_below (kv HO131.out) hb)
          replace HO135 := am (Kd.R_below (kr HO135.out) hb)
          replace HO138 := am (Kd.V_below (kv HO138.out) hb)
          replace BK118 := am (blk_below (kp BK118.out) hb)
          replace BK125 := am (blk_below (kp BK125.out) hb)
          replace HB := am (below_step (bl2 HB.out GE118.out GE125.out) hb)
          (try clear hb)
          (try clear hb2)
          (try clear hk)
          (try clear hi)
          refine hK.out _ _ ⟨bc BK118.out 0, bc BK118.out 1, bc BK118.out 2, bc BK118.out 3, bc BK125.out 0, bc BK125.out 1, bc BK125.out 2, bc BK125.out 3⟩ (fun hHeld => ?_)
          clear hK K
          refine nx ?_
          refine px 6 33 (bs 65 127) HT_.out ?_
          refine tx 8 35 (bs 65 383) HT_.out HW_.out hHeld ?_
          refine one_ (i := 7) (N := some 34) (bs 65 511) rfl rfl (one_of HT_.out (by kernel_rfl)) (by decide) (fun K hK => ?_)
          refine goes_ Try.func20 (by kernel_rfl) rfl #[.int .i64 0, .bool false] (by rfl) rfl rfl ar ?_
          with_reducible refine (epactlaw07_is.calls 0 false t144 _ A8.out).mono ?_
          rintro e w60 ⟨gct144a, gct144b, rfl, hI, hb⟩
          have HI := am hI
          clear hI
          refine ⟨_, rfl, ?_⟩
          replace HO114 := am (Kd.N_below (kn HO114.out) hb)
          replace HO117 := am (Kd.N_below (kn HO117.out) hb)
          replace HO124 := am (Kd.N_below (kn HO124.out) hb)
          replace HO128 := am (Kd.R_below (kr HO128.out) hb)
          replace HO131 := am (Kd.V_below (kv HO131.out) hb)
          replace HO135 := am (Kd.R_below (kr HO135.out) hb)
          replace HO138 := am (Kd.V_below (kv HO138.out) hb)
          replace BK118 := am (blk_below (kp BK118.out) hb)
          replace BK125 := am (blk_below (kp BK125.out) hb)
          replace HB := am (below_step (bl2 HB.out GE118.out GE125.out) hb)
          (try clear hb)
          (try clear hb2)
          (try clear hk)
          (try clear hi)
          refine hK.out _ _ ⟨bc BK118.out 0, bc BK118.out 1, bc BK118.out 2, bc BK118.out 3, bc BK125.out 0, bc BK125.out 1, bc BK125.out 2, bc BK125.out 3⟩ (fun hHeld => ?_)
          clear hK K
          refine nx ?_
          refine one_ (i := 9) (N := some 36) (bs 65 1023) rfl rfl (one_of HT_.out (by kernel_rfl)) (by decide) (fun K hK => ?_)
          refine goes_ Try.func21 (by kernel_rfl) rfl #[.agg #[.int .i64 t110, .int .i64 t111, .slice Ao35 t112.length co35, .slice Ao36 t115.length co36], .int .i64 5] (by rfl) rfl rfl ar ?_
          with_reducible refine (find_At.calls k t110 t111 _ _ t112 _ _ t115 5 t145 t146 _ ?side1 ?side2 ?side3 ?side4 A9.out).mono ?_
          (case side1 => exact kc (Kd.N_reads' HO114.out).2.2)
          (case side2 => exact (Kd.N_reads' HO114.out).2.1)
          (case side3 => exact kc (Kd.N_reads' HO117.out).2.2)
          (case side4 => exact (Kd.N_reads' HO117.out).2.1)
          rintro e w61 ⟨rfl, hb⟩
          have nI_ := am (HI.out.below hb)
          clear HI
          have HI := nI_
          clear nI_
          refine ⟨_, rfl, ?_⟩
          replace HO114 := am (Kd.N_below (kn HO114.out) hb)
          replace HO117 := am (Kd.N_below (kn HO117.out) hb)
          replace HO124 := am (Kd.N_below (kn HO124.out) hb)
          replace HO128 := am (Kd.R_below (kr HO128.out) hb)
          replace HO131 := am (Kd.V_below (kv HO131.out) hb)
          replace HO135 := am (Kd.R_below (kr HO135.out) hb)
          replace HO138 := am (Kd.V_below (kv HO138.out) hb)
          replace BK118 := am (blk_below (kp BK118.out) hb)
          replace BK125 := am (blk_below (kp BK125.out) hb)
          replace HB := am (below_step (bl2 HB.out GE118.out GE125.out) hb)
          (try clear hb)
          (try clear hb2)
          (try clear hk)
          (try clear hi)
          refine hK.out _ _ ⟨bc BK118.out 0, bc BK118.out 1, bc BK118.out 2, bc BK118.out 3, bc BK125.out 0, bc BK125.out 1, bc BK125.out 2, bc BK125.out 3⟩ (fun hHeld => ?_)
          clear hK K
          refine nx ?_
          refine px 10 37 (bs 65 2047) HT_.out ?_
          refine px 11 38 (bs 65 4095) HT_.out ?_
          refine one_ (i := 12) (N := some 39) (bs 65 8191) rfl rfl (one_of HT_.out (by kernel_rfl)) (by decide) (fun K hK => ?_)
          refine goesC_ Try.func57 (by kernel_rfl) rfl #[.int .i64 t145, .bool t146] #[.pointer (some ⟨gct144a, 0, none⟩), .pointer (some ⟨gct144b, 0, none⟩)] #[.int .i64 t145, .bool t146, .pointer (some ⟨gct144a, 0, none⟩), .pointer (some ⟨gct144b, 0, none⟩)] rfl (by rfl) rfl rfl rfl ar ?_
          with_reducible refine (epactlaw07_is_1.calls 0 false t145 t146 true _ A10.out gct144a gct144b HI.out).mono ?_
          rintro e w62 ⟨rfl, hb⟩
          clear HI
          refine ⟨_, rfl, ?_⟩
          replace HO114 := am (Kd.N_below (kn HO114.out) hb)
          replace HO117 := am (Kd.N_below (kn HO117.out) hb)
          replace HO124 := am (Kd.N_below (kn HO124.out) hb)
          replace HO128 := am (Kd.R_below (kr HO128.out) hb)
          replace HO131 := am (Kd.V_below (kv HO131.out) hb)
          replace HO135 := am (Kd.R_below (kr HO135.out) hb)
          replace HO138 := am (Kd.V_below (kv HO138.out) hb)
          replace BK118 := am (blk_below (kp BK118.out) hb)
          replace BK125 := am (blk_below (kp BK125.out) hb)
          replace HB := am (below_step (bl2 HB.out GE118.out GE125.out) hb)
          (try clear hb)
          (try clear hb2)
          (try clear hk)
          (try clear hi)
          refine hK.out _ _ ⟨bc BK118.out 0, bc BK118.out 1, bc BK118.out 2, bc BK118.out 3, bc BK125.out 0, bc BK125.out 1, bc BK125.out 2, bc BK125.out 3⟩ (fun hHeld => ?_)
          clear hK K
          refine nx ?_
          refine px 13 40 (bs 65 16383) HT_.out ?_
          refine px 14 41 (bs 65 32767) HT_.out ?_
          refine tx 16 43 (bs 65 98303) HT_.out HW_.out hHeld ?_
          refine one_ (i := 15) (N := some 42) (bs 65 131071) rfl rfl (one_of HT_.out (by kernel_rfl)) (by decide) (fun K hK => ?_)
          refine goes_ Try.func20 (by kernel_rfl) rfl #[.int .i64 1, .bool true] (by rfl) rfl rfl ar ?_
          with_reducible refine (epactlaw07_is.calls 1 true t148 _ A12.out).mono ?_
          rintro e w63 ⟨gct148a, gct148b, rfl, hI, hb⟩
          have HI := am hI
          clear hI
          refine ⟨_, rfl, ?_⟩
          replace HO114 := am (Kd.N_below (kn HO114.out) hb)
          replace HO117 := am (Kd.N_below (kn HO117.out) hb)
          replace HO124 := am (Kd.N_below (kn HO124.out) hb)
          replace HO128 := am (Kd.R_below (kr HO128.out) hb)
          replace HO131 := am (Kd.V_below (kv HO131.out) hb)
          replace HO135 := am (Kd.R_below (kr HO135.out) hb)
          replace HO138 := am (Kd.V_below (kv HO138.out) hb)
          replace BK118 := am (blk_below (kp BK118.out) hb)
          replace BK125 := am (blk_below (kp BK125.out) hb)
          replace HB := am (below_step (bl2 HB.out GE118.out GE125.out) hb)
          (try clear hb)
          (try clear hb2)
          (try clear hk)
          (try clear hi)
          refine hK.out _ _ ⟨bc BK118.out 0, bc BK118.out 1, bc BK118.out 2, bc BK118.out 3, bc BK125.out 0, bc BK125.out 1, bc BK125.out 2, bc BK125.out 3⟩ (fun hHeld => ?_)
          clear hK K
          refine nx ?_
          refine one_ (i := 17) (N := some 44) (bs 65 262143) rfl rfl (one_of HT_.out (by kernel_rfl)) (by decide) (fun K hK => ?_)
          refine goes_ Try.func22 (by kernel_rfl) rfl #[.agg #[.int .i64 t110, .int .i64 t111, .slice Ao35 t112.length co35, .slice Ao36 t115.length co36], .int .i64 5] (by rfl) rfl rfl ar ?_
          with_reducible refine (find_From.calls k t110 t111 _ _ t112 _ _ t115 5 t149 t150 _ ?side1 ?side2 ?side3 ?side4 A13.out).mono ?_
          (case side1 => exact kc (Kd.N_reads' HO114.out).2.2)
          (case side2 => exact (Kd.N_reads' HO114.out).2.1)
          (case side3 => exact kc (Kd.N_reads' HO117.out).2.2)
          (case side4 => exact (Kd.N_reads' HO117.out).2.1)
          rintro e w64 ⟨rfl, hb⟩
          have nI_ := am (HI.out.below hb)
          clear HI
          have HI := nI_
          clear nI_
          refine ⟨_, rfl, ?_⟩
          replace HO114 := am (Kd.N_below (kn HO114.out) hb)
          replace HO117 := am (Kd.N_below (kn HO117.out) hb)
          replace HO124 := am (Kd.N_below (kn HO124.out) hb)
          replace HO128 := am (Kd.R_below (kr HO128.out) hb)
          replace HO131 := am (Kd.V_below (kv HO131.out) hb)
          replace HO135 := am (Kd.R_below (kr HO135.out) hb)
          replace HO138 := am (Kd.V_below (kv HO138.out) hb)
          replace BK118 := am (blk_below (kp BK118.out) hb)
          replace BK125 := am (blk_below (kp BK125.out) hb)
          replace HB := am (below_step (bl2 HB.out GE118.out GE125.out) hb)
          (try clear hb)
          (try clear hb2)
          (try clear hk)
          (try clear hi)
          refine hK.out _ _ ⟨bc BK118.out 0, bc BK118.out 1, bc BK118.out 2, bc BK118.out 3, bc BK125.out 0, bc BK125.out 1, bc BK125.out 2, bc BK125.out 3⟩ (fun hHeld => ?_)
          clear hK K
          refine nx ?_
          refine px 18 45 (bs 65 524287) HT_.out ?_
          refine px 19 46 (bs 65 1048575) HT_.out ?_
          refine one_ (i := 20) (N := some 47) (bs 65 2097151) rfl rfl (one_of HT_.out (by kernel_rfl)) (by decide) (fun K hK => ?_)
          refine goesC_ Try.func57 (by kernel_rfl) rfl #[.int .i64 t149, .bool t150] #[.pointer (some ⟨gct148a, 0, none⟩), .pointer (some ⟨gct148b, 0, none⟩)] #[.int .i64 t149, .bool t150, .pointer (some ⟨gct148a, 0, none⟩), .pointer (some ⟨gct148b, 0, none⟩)] rfl (by rfl) rfl rfl rfl ar ?_
          with_reducible refine (epactlaw07_is_1.calls 1 true t149 t150 true _ A14.out gct148a gct148b HI.out).mono ?_
          rintro e w65 ⟨rfl, hb⟩
          clear HI
          refine ⟨_, rfl, ?_⟩
          replace HO114 := am (Kd.N_below (kn HO114.out) hb)
          replace HO117 := am (Kd.N_below (kn HO117.out) hb)
          replace HO124 := am (Kd.N_below (kn HO124.out) hb)
          replace HO128 := am (Kd.R_below (kr HO128.out) hb)
          replace HO131 := am (Kd.V_below (kv HO131.out) hb)
          replace HO135 := am (Kd.R_below (kr HO135.out) hb)
          replace HO138 := am (Kd.V_below (kv HO138.out) hb)
          replace BK118 := am (blk_below (kp BK118.out) hb)
          replace BK125 := am (blk_below (kp BK125.out) hb)
          replace HB := am (below_step (bl2 HB.out GE118.out GE125.out) hb)
          (try clear hb)
          (try clear hb2)
          (try clear hk)
          (try clear hi)
          refine hK.out _ _ ⟨bc BK118.out 0, bc BK118.out 1, bc BK118.out 2, bc BK118.out 3, bc BK125.out 0, bc BK125.out 1, bc BK125.out 2, bc BK125.out 3⟩ (fun hHeld => ?_)
          clear hK K
          refine nx ?_
          refine px 21 48 (bs 65 4194303) HT_.out ?_
          refine px 22 49 (bs 65 8388607) HT_.out ?_
          refine tx 24 51 (bs 65 25165823) HT_.out HW_.out hHeld ?_
          refine one_ (i := 23) (N := some 50) (bs 65 33554431) rfl rfl (one_of HT_.out (by kernel_rfl)) (by decide) (fun K hK => ?_)
          refine goes_ Try.func20 (by kernel_rfl) rfl #[.int .i64 0, .bool true] (by rfl) rfl rfl ar ?_
          with_reducible refine (epactlaw07_is.calls 0 true t152 _ A16.out).mono ?_
          rintro e w66 ⟨gct152a, gct152b, rfl, hI, hb⟩
          have HI := am hI
          clear hI
          refine ⟨_, rfl, ?_⟩
          replace HO114 := am (Kd.N_below (kn HO114.out) hb)
          replace HO117 := am (Kd.N_below (kn HO117.out) hb)
          replace HO124 := am (Kd.N_below (kn HO124.out) hb)
          replace HO128 := am (Kd.R_below (kr HO128.out) hb)
          replace HO131 := am (Kd.V_below (kv HO131.out) hb)
          replace HO135 := am (Kd.R_below (kr HO135.out) hb)
          replace HO138 := am (Kd.V_below (kv HO138.out) hb)
          replace BK118 := am (blk_below (kp BK118.out) hb)
          replace BK125 := am (blk_below (kp BK125.out) hb)
          replace HB := am (below_step (bl2 HB.out GE118.out GE125.out) hb)
          (try clear hb)
          (try clear hb2)
          (try clear hk)
          (try clear hi)
          refine hK.out _ _ ⟨bc BK118.out 0, bc BK118.out 1, bc BK118.out 2, bc BK118.out 3, bc BK125.out 0, bc BK125.out 1, bc BK125.out 2, bc BK125.out 3⟩ (fun hHeld => ?_)
          clear hK K
          refine nx ?_
          refine one_ (i := 25) (N := some 52) (bs 65 67108863) rfl rfl (one_of HT_.out (by kernel_rfl)) (by decide) (fun K hK => ?_)
          refine goes_ Try.func23 (by kernel_rfl) rfl #[.agg #[.int .i64 t110, .int .i64 t111, .slice Ao35 t112.length co35, .slice Ao36 t115.length co36], .int .i64 5] (by rfl) rfl rfl ar ?_
          with_reducible refine (find_Till.calls k t110 t111 _ _ t112 _ _ t115 5 t153 t154 _ ?side1 ?side2 ?side3 ?side4 A17.out).mono ?_
          (case side1 => exact kc (Kd.N_reads' HO114.out).2.2)
          (case side2 => exact (Kd.N_reads' HO114.out).2.1)
          (case side3 => exact kc (Kd.N_reads' HO117.out).2.2)
          (case side4 => exact (Kd.N_reads' HO117.out).2.1)
          rintro e w67 ⟨rfl, hb⟩
          have nI_ := am (HI.out.below hb)
          clear HI
          have HI := nI_
          clear nI_
          refine ⟨_, rfl, ?_⟩
          replace HO114 := am (Kd.N_below (kn HO114.out) hb)
          replace HO117 := am (Kd.N_below (kn HO117.out) hb)
          replace HO124 := am (Kd.N_below (kn HO124.out) hb)
          replace HO128 := am (Kd.R_below (kr HO128.out) hb)
          replace HO131 := am (Kd.V_below (kv HO131.out) hb)
          replace HO135 := am (Kd.R_below (kr HO135.out) hb)
          replace HO138 := am (Kd.V_below (kv HO138.out) hb)
          replace BK118 := am (blk_below (kp BK118.out) hb)
          replace BK125 := am (blk_below (kp BK125.out) hb)
          replace HB := am (below_step (bl2 HB.out GE118.out GE125.out) hb)
          (try clear hb)
          (try clear hb2)
          (try clear hk)
          (try clear hi)
          refine hK.out _ _ ⟨bc BK118.out 0, bc BK118.out 1, bc BK118.out 2, bc BK118.out 3, bc BK125.out 0, bc BK125.out 1, bc BK125.out 2, bc BK125.out 3⟩ (fun hHeld => ?_)
          clear hK K
          refine nx ?_
          refine px 26 53 (bs 65 134217727) HT_.out ?_
          refine px 27 54 (bs 65 268435455) HT_.out ?_
          refine one_ (i := 28) (N := some 55) (bs 65 536870911) rfl rfl (one_of HT_.out (by kernel_rfl)) (by decide) (fun K hK => ?_)
          refine goesC_ Try.func57 (by kernel_rfl) rfl #[.int .i64 t153, .bool t154] #[.pointer (some ⟨gct152a, 0, none⟩), .pointer (some ⟨gct152b, 0, none⟩)] #[.int .i64 t153, .bool t154, .pointer (some ⟨gct152a, 0, none⟩), .pointer (some ⟨gct152b, 0, none⟩)] rfl (by rfl) rfl rfl rfl ar ?_
          with_reducible refine (epactlaw07_is_1.calls 0 true t153 t154 true _ A18.out gct152a gct152b HI.out).mono ?_
          rintro e w68 ⟨rfl, hb⟩
          clear HI
          refine ⟨_, rfl, ?_⟩
          replace HO114 := am (Kd.N_below (kn HO114.out) hb)
          replace HO117 := am (Kd.N_below (kn HO117.out) hb)
          replace HO124 := am (Kd.N_below (kn HO124.out) hb)
          replace HO128 := am (Kd.R_below (kr HO128.out) hb)
          replace HO131 := am (Kd.V_below (kv HO131.out) hb)
          replace HO135 := am (Kd.R_below (kr HO135.out) hb)
          replace HO138 := am (Kd.V_below (kv HO138.out) hb)
          replace BK118 := am (blk_below (kp BK118.out) hb)
          replace BK125 := am (blk_below (kp BK125.out) hb)
          replace HB := am (below_step (bl2 HB.out GE118.out GE125.out) hb)
          (try clear hb)
          (try clear hb2)
          (try clear hk)
          (try clear hi)
          refine hK.out _ _ ⟨bc BK118.out 0, bc BK118.out 1, bc BK118.out 2, bc BK118.out 3, bc BK125.out 0, bc BK125.out 1, bc BK125.out 2, bc BK125.out 3⟩ (fun hHeld => ?_)
          clear hK K
          refine nx ?_
          refine px 29 56 (bs 65 1073741823) HT_.out ?_
          refine px 30 57 (bs 65 2147483647) HT_.out ?_
          refine px 31 58 (bs 65 4294967295) HT_.out ?_
          refine px 32 59 (bs 65 8589934591) HT_.out ?_
          refine px 33 60 (bs 65 17179869183) HT_.out ?_
          refine px 34 61 (bs 65 34359738367) HT_.out ?_
          refine px 35 62 (bs 65 68719476735) HT_.out ?_
          refine px 36 63 (bs 65 137438953471) HT_.out ?_
          refine px 37 64 (bs 65 274877906943) HT_.out ?_
          refine px 38 65 (bs 65 549755813887) HT_.out ?_
          refine px 39 66 (bs 65 1099511627775) HT_.out ?_
          refine one_ (i := 40) (N := some 67) (bs 65 2199023255551) rfl rfl (one_of HT_.out (by kernel_rfl)) (by decide) (fun K hK => ?_)
          refine Kd.R_lit_step (Kd.int .i64) _ 3 ?hg (N := 67) ?hd (xs := ([0, 1] : List Int)) (inner := [.int .i64 0, .int .i64 1]) (ok := fun _ => True) (okp := fun _ => True) ?hr ?hp (fun _ hk => hk) trivial (Below.refl _ _) (Nat.le_refl _) (by simp) ?_; (case hd => rfl); (case hg => rfl); (case hr => first | (go_simp; done) | (go_simp; rfl)); (case hp => exact (Reps.one (show Kd.M (Kd.int .i64) _ _ _ 0 [.int .i64 0] from rfl) (Reps.one (show Kd.M (Kd.int .i64) _ _ _ 1 [.int .i64 1] from rfl) (Reps.none _ _))))
          intro v157 w69 ho70 hb hg_ hnew_
          clear hg_ hnew_
          (first | rw [← Ny156.out] at ho70 | (simp only [Int.reduceToNat] at ho70; rw [← Ny156.out] at ho70))
          replace HO114 := am (Kd.N_elder' (kn HO114.out) (Kd.R_base ho70) hb)
          replace HO117 := am (Kd.N_elder' (kn HO117.out) (Kd.R_base ho70) hb)
          replace HO124 := am (Kd.N_elder' (kn HO124.out) (Kd.R_base ho70) hb)
          replace HO128 := am (Kd.R_below (kr HO128.out) hb)
          replace HO131 := am (Kd.V_elder' (kv HO131.out) (Kd.R_base ho70) hb)
          replace HO135 := am (Kd.R_below (kr HO135.out) hb)
          replace HO138 := am (Kd.V_elder' (kv HO138.out) (Kd.R_base ho70) hb)
          have HO158 := am (Kd.R_lower ho70 (below_size (bl2 HB.out GE118.out GE125.out)))
          replace BK118 := am (blk_below (kp BK118.out) hb)
          replace BK125 := am (blk_below (kp BK125.out) hb)
          replace HB := am (below_step (bl2 HB.out GE118.out GE125.out) hb)
          clear hb ho70
          obtain ⟨Ao71, co71, eo71⟩ := Kd.V_slice HO131.out
          (first | subst eo71 | (injection eo71 with f1_ f2_ f3_; have f4_ := f1_.symm; have f5_ := f3_.symm; clear f1_ f2_ f3_; subst f4_; subst f5_))
          obtain ⟨Ao72, co72, eo72⟩ := Kd.R_slice HO158.out
          (first | subst eo72 | (injection eo72 with f1_ f2_ f3_; have f4_ := f1_.symm; have f5_ := f3_.symm; clear f1_ f2_ f3_; subst f4_; subst f5_))
          refine hK.out _ _ ⟨bc BK118.out 0, bc BK118.out 1, bc BK118.out 2, bc BK118.out 3, bc BK125.out 0, bc BK125.out 1, bc BK125.out 2, bc BK125.out 3⟩ (fun hHeld => ?_)
          clear hK K
          refine nx ?_
          refine one_ (i := 41) (N := some 68) (bs 65 4398046511103) rfl rfl (one_of HT_.out (by kernel_rfl)) (by decide) (fun K hK => ?_)
          refine goes_ Try.func15 (by kernel_rfl) rfl #[.slice Ao71 t129.length co71, .slice Ao72 y156.length co72] (by rfl) rfl rfl ar ?_
          with_reducible refine (epactlaw07_ints.calls k _ _ t129 _ _ y156 true _ ?side1 ?side2 ?side3 ?side4 A22.out).mono ?_
          (case side1 => exact kc (Kd.V_reads' HO131.out).2.2)
          (case side2 => exact (Kd.V_reads' HO131.out).2.1)
          (case side3 => exact kc (Kd.R_reads' HO158.out).2.2)
          (case side4 => exact (Kd.R_reads' HO158.out).2.1)
          rintro e w' ⟨rfl, ⟨nd, rfl⟩⟩
          refine ⟨_, rfl, ?_⟩
          obtain ⟨Ao73, co73, eo73⟩ := Kd.V_slice HO138.out
          (first | subst eo73 | (injection eo73 with f1_ f2_ f3_; have f4_ := f1_.symm; have f5_ := f3_.symm; clear f1_ f2_ f3_; subst f4_; subst f5_))
          refine hK.out _ _ ⟨bc BK118.out 0, bc BK118.out 1, bc BK118.out 2, bc BK118.out 3, bc BK125.out 0, bc BK125.out 1, bc BK125.out 2, bc BK125.out 3⟩ (fun hHeld => ?_)
          clear hK K
          refine nx ?_
          refine px 42 69 (bs 65 8796093022207) HT_.out ?_
          refine px 43 70 (bs 65 17592186044415) HT_.out ?_
          refine px 44 71 (bs 65 35184372088831) HT_.out ?_
          refine px 45 72 (bs 65 70368744177663) HT_.out ?_
          refine px 46 73 (bs 65 140737488355327) HT_.out ?_
          refine px 47 74 (bs 65 281474976710655) HT_.out ?_
          refine px 48 75 (bs 65 562949953421311) HT_.out ?_
          refine tx 50 77 (bs 65 1688849860263935) HT_.out HW_.out hHeld ?_
          refine one_ (i := 49) (N := some 76) (bs 65 2251799813685247) rfl rfl (one_of HT_.out (by kernel_rfl)) (by decide) (fun K hK => ?_)
          refine goes_ Try.func20 (by kernel_rfl) rfl #[.int .i64 0, .bool false] (by rfl) rfl rfl ar ?_
          with_reducible refine (epactlaw07_is.calls 0 false t160 _ A25.out).mono ?_
          rintro e w74 ⟨gct160a, gct160b, rfl, hI, hb⟩
          have HI := am hI
          clear hI
          refine ⟨_, rfl, ?_⟩
          replace HO114 := am (Kd.N_below (kn HO114.out) hb)
          replace HO117 := am (Kd.N_below (kn HO117.out) hb)
          replace HO124 := am (Kd.N_below (kn HO124.out) hb)
          replace HO128 := am (Kd.R_below (kr HO128.out) hb)
          replace HO131 := am (Kd.V_below (kv HO131.out) hb)
          replace HO135 := am (Kd.R_below (kr HO135.out) hb)
          replace HO138 := am (Kd.V_below (kv HO138.out) hb)
          replace HO158 := am (Kd.R_below (kr HO158.out) hb)
          replace BK118 := am (blk_below (kp BK118.out) hb)
          replace BK125 := am (blk_below (kp BK125.out) hb)
          replace HB := am (below_step (bl2 HB.out GE118.out GE125.out) hb)
          (try clear hb)
          (try clear hb2)
          (try clear hk)
          (try clear hi)
          refine hK.out _ _ ⟨bc BK118.out 0, bc BK118.out 1, bc BK118.out 2, bc BK118.out 3, bc BK125.out 0, bc BK125.out 1, bc BK125.out 2, bc BK125.out 3⟩ (fun hHeld => ?_)
          clear hK K
          refine nx ?_
          refine one_ (i := 51) (N := some 78) (bs 65 4503599627370495) rfl rfl (one_of HT_.out (by kernel_rfl)) (by decide) (fun K hK => ?_)
          refine goes_ Try.func22 (by kernel_rfl) rfl #[.agg #[.int .i64 0, .int .i64 0, .slice none 0 0, .slice Ao42 y122.length co42], .int .i64 7] (by rfl) rfl rfl ar ?_
          refine (find_From.calls k 0 0 _ _ ([] : List (List (S23))) _ _ y122 7 t161 t162 _ ?side1 ?side2 ?side3 ?side4 A26.out).mono ?_
          (case side1 => exact Kd.C_nil _ _)
          (case side2 => exact Nat.le_refl _)
          (case side3 => exact kc (Kd.N_reads' HO124.out).2.2)
          (case side4 => exact (Kd.N_reads' HO124.out).2.1)
          rintro e w75 ⟨rfl, hb⟩
          have nI_ := am (HI.out.below hb)
          clear HI
          have HI := nI_
          clear nI_
          refine ⟨_, rfl, ?_⟩
          replace HO114 := am (Kd.N_below (kn HO114.out) hb)
          replace HO117 := am (Kd.N_below (kn HO117.out) hb)
          replace HO124 := am (Kd.N_below (kn HO124.out) hb)
          replace HO128 := am (Kd.R_below (kr HO128.out) hb)
          replace HO131 := am (Kd.V_below (kv HO131.out) hb)
          replace HO135 := am (Kd.R_below (kr HO135.out) hb)
          replace HO138 := am (Kd.V_below (kv HO138.out) hb)
          replace HO158 := am (Kd.R_below (kr HO158.out) hb)
          replace BK118 := am (blk_below (kp BK118.out) hb)
          replace BK125 := am (blk_below (kp BK125.out) hb)
          replace HB := am (below_step (bl2 HB.out GE118.out GE125.out) hb)
          (try clear hb)
          (try clear hb2)
          (try clear hk)
          (try clear hi)
          refine hK.out _ _ ⟨bc BK118.out 0, bc BK118.out 1, bc BK118.out 2, bc BK118.out 3, bc BK125.out 0, bc BK125.out 1, bc BK125.out 2, bc BK125.out 3⟩ (fun hHeld => ?_)
          clear hK K
          refine nx ?_
          refine px 52 79 (bs 65 9007199254740991) HT_.out ?_
          refine px 53 80 (bs 65 18014398509481983) HT_.out ?_
          refine one_ (i := 54) (N := some 81) (bs 65 36028797018963967) rfl rfl (one_of HT_.out (by kernel_rfl)) (by decide) (fun K hK => ?_)
          refine goesC_ Try.func57 (by kernel_rfl) rfl #[.int .i64 t161, .bool t162] #[.pointer (some ⟨gct160a, 0, none⟩), .pointer (some ⟨gct160b, 0, none⟩)] #[.int .i64 t161, .bool t162, .pointer (some ⟨gct160a, 0, none⟩), .pointer (some ⟨gct160b, 0, none⟩)] rfl (by rfl) rfl rfl rfl ar ?_
          with_reducible refine (epactlaw07_is_1.calls 0 false t161 t162 true _ A27.out gct160a gct160b HI.out).mono ?_
          rintro e w76 ⟨rfl, hb⟩
          clear HI
          refine ⟨_, rfl, ?_⟩
          replace HO114 := am (Kd.N_below (kn HO114.out) hb)
          replace HO117 := am (Kd.N_below (kn HO117.out) hb)
          replace HO124 := am (Kd.N_below (kn HO124.out) hb)
          replace HO128 := am (Kd.R_below (kr HO128.out) hb)
          replace HO131 := am (Kd.V_below (kv HO131.out) hb)
          replace HO135 := am (Kd.R_below (kr HO135.out) hb)
          replace HO138 := am (Kd.V_below (kv HO138.out) hb)
          replace HO158 := am (Kd.R_below (kr HO158.out) hb)
          replace BK118 := am (blk_below (kp BK118.out) hb)
          replace BK125 := am (blk_below (kp BK125.out) hb)
          replace HB := am (below_step (bl2 HB.out GE118.out GE125.out) hb)
          (try clear hb)
          (try clear hb2)
          (try clear hk)
          (try clear hi)
          refine hK.out _ _ ⟨bc BK118.out 0, bc BK118.out 1, bc BK118.out 2, bc BK118.out 3, bc BK125.out 0, bc BK125.out 1, bc BK125.out 2, bc BK125.out 3⟩ (fun hHeld => ?_)
          clear hK K
          refine nx ?_
          refine px 55 82 (bs 65 72057594037927935) HT_.out ?_
          refine px 56 83 (bs 65 144115188075855871) HT_.out ?_
          refine tx 58 85 (bs 65 432345564227567615) HT_.out HW_.out hHeld ?_
          refine one_ (i := 57) (N := some 84) (bs 65 576460752303423487) rfl rfl (one_of HT_.out (by kernel_rfl)) (by decide) (fun K hK => ?_)
          refine goes_ Try.func20 (by kernel_rfl) rfl #[.int .i64 3, .bool true] (by rfl) rfl rfl ar ?_
          with_reducible refine (epactlaw07_is.calls 3 true t164 _ A29.out).mono ?_
          rintro e w77 ⟨gct164a, gct164b, rfl, hI, hb⟩
          have HI := am hI
          clear hI
          refine ⟨_, rfl, ?_⟩
          replace HO114 := am (Kd.N_below (kn HO114.out) hb)
          replace HO117 := am (Kd.N_below (kn HO117.out) hb)
          replace HO124 := am (Kd.N_below (kn HO124.out) hb)
          replace HO128 := am (Kd.R_below (kr HO128.out) hb)
          replace HO131 := am (Kd.V_below (kv HO131.out) hb)
          replace HO135 := am (Kd.R_below (kr HO135.out) hb)
          replace HO138 := am (Kd.V_below (kv HO138.out) hb)
          replace HO158 := am (Kd.R_below (kr HO158.out) hb)
          replace BK118 := am (blk_below (kp BK118.out) hb)
          replace BK125 := am (blk_below (kp BK125.out) hb)
          replace HB := am (below_step (bl2 HB.out GE118.out GE125.out) hb)
          (try clear hb)
          (try clear hb2)
          (try clear hk)
          (try clear hi)
          refine hK.out _ _ ⟨bc BK118.out 0, bc BK118.out 1, bc BK118.out 2, bc BK118.out 3, bc BK125.out 0, bc BK125.out 1, bc BK125.out 2, bc BK125.out 3⟩ (fun hHeld => ?_)
          clear hK K
          refine nx ?_
          refine one_ (i := 59) (N := some 86) (bs 65 1152921504606846975) rfl rfl (one_of HT_.out (by kernel_rfl)) (by decide) (fun K hK => ?_)
          refine goes_ Try.func23 (by kernel_rfl) rfl #[.agg #[.int .i64 0, .int .i64 0, .slice none 0 0, .slice Ao42 y122.length co42], .int .i64 100] (by rfl) rfl rfl ar ?_
          refine (find_Till.calls k 0 0 _ _ ([] : List (List (S23))) _ _ y122 100 t165 t166 _ ?side1 ?side2 ?side3 ?side4 A30.out).mono ?_
          (case side1 => exact Kd.C_nil _ _)
          (case side2 => exact Nat.le_refl _)
          (case side3 => exact kc (Kd.N_reads' HO124.out).2.2)
          (case side4 => exact (Kd.N_reads' HO124.out).2.1)
          rintro e w78 ⟨rfl, hb⟩
          have nI_ := am (HI.out.below hb)
          clear HI
          have HI := nI_
          clear nI_
          refine ⟨_, rfl, ?_⟩
          replace HO114 := am (Kd.N_below (kn HO114.out) hb)
          replace HO117 := am (Kd.N_below (kn HO117.out) hb)
          replace HO124 := am (Kd.N_below (kn HO124.out) hb)
          replace HO128 := am (Kd.R_below (kr HO128.out) hb)
          replace HO131 := am (Kd.V_below (kv HO131.out) hb)
          replace HO135 := am (Kd.R_below (kr HO135.out) hb)
          replace HO138 := am (Kd.V_below (kv HO138.out) hb)
          replace HO158 := am (Kd.R_below (kr HO158.out) hb)
          replace BK118 := am (blk_below (kp BK118.out) hb)
          replace BK125 := am (blk_below (kp BK125.out) hb)
          replace HB := am (below_step (bl2 HB.out GE118.out GE125.out) hb)
          (try clear hb)
          (try clear hb2)
          (try clear hk)
          (try clear hi)
          refine hK.out _ _ ⟨bc BK118.out 0, bc BK118.out 1, bc BK118.out 2, bc BK118.out 3, bc BK125.out 0, bc BK125.out 1, bc BK125.out 2, bc BK125.out 3⟩ (fun hHeld => ?_)
          clear hK K
          refine nx ?_
          refine px 60 87 (bs 65 2305843009213693951) HT_.out ?_
          refine px 61 88 (bs 65 4611686018427387903) HT_.out ?_
          refine one_ (i := 62) (N := some 89) (bs 65 9223372036854775807) rfl rfl (one_of HT_.out (by kernel_rfl)) (by decide) (fun K hK => ?_)
          refine goesC_ Try.func57 (by kernel_rfl) rfl #[.int .i64 t165, .bool t166] #[.pointer (some ⟨gct164a, 0, none⟩), .pointer (some ⟨gct164b, 0, none⟩)] #[.int .i64 t165, .bool t166, .pointer (some ⟨gct164a, 0, none⟩), .pointer (some ⟨gct164b, 0, none⟩)] rfl (by rfl) rfl rfl rfl ar ?_
          with_reducible refine (epactlaw07_is_1.calls 3 true t165 t166 t167 _ A31.out gct164a gct164b HI.out).mono ?_
          rintro e w79 ⟨rfl, hb⟩
          clear HI
          refine ⟨_, rfl, ?_⟩
          replace HO114 := am (Kd.N_below (kn HO114.out) hb)
          replace HO117 := am (Kd.N_below (kn HO117.out) hb)
          replace HO124 := am (Kd.N_below (kn HO124.out) hb)
          replace HO128 := am (Kd.R_below (kr HO128.out) hb)
          replace HO131 := am (Kd.V_below (kv HO131.out) hb)
          replace HO135 := am (Kd.R_below (kr HO135.out) hb)
          replace HO138 := am (Kd.V_below (kv HO138.out) hb)
          replace HO158 := am (Kd.R_below (kr HO158.out) hb)
          replace BK118 := am (blk_below (kp BK118.out) hb)
          replace BK125 := am (blk_below (kp BK125.out) hb)
          replace HB := am (below_step (bl2 HB.out GE118.out GE125.out) hb)
          (try clear hb)
          (try clear hb2)
          (try clear hk)
          (try clear hi)
          refine hK.out _ _ ⟨bc BK118.out 0, bc BK118.out 1, bc BK118.out 2, bc BK118.out 3, bc BK125.out 0, bc BK125.out 1, bc BK125.out 2, bc BK125.out 3⟩ (fun hHeld => ?_)
          clear hK K
          refine nx ?_
          refine px 63 90 (bs 65 18446744073709551615) HT_.out ?_
          refine px 64 0 (bs 65 36893488147419103231) HT_.out ?_
          refine done_ (done_of HT_.out (by kernel_rfl)) ?_
          try go_wp2
          go_ret
          exact ⟨rt, bl2 HB.out GE118.out GE125.out⟩
         ·replace c28 := Bool.eq_false_iff.mpr c28
          subst c28
          have H1 : (none) = some r := by rw [if_neg (show ¬ (false = true) by decide)] at H; exact H
          clear H
          have H := H1
          clear H1
          exact absurd H (by simp)
        ·rw [if_neg c24] at H
         have c24b0 : ((t136.length : Int) == 0) = false := beq_eq_false_iff_ne.mpr c24
         have c24b1 : ((t136.length : Int) != 0) = true := bne_iff_ne.mpr c24
         have c24b2 : ¬ (t136 = []) := fun h_ => c24 (by rw [h_]; rfl)
         exact absurd H (by simp)
       ·replace c23 := Bool.eq_false_iff.mpr c23
        subst c23
        have H1 : (none) = some r := by rw [if_neg (show ¬ (false = true) by decide)] at H; exact H
        clear H
        have H := H1
        clear H1
        exact absurd H (by simp)
      ·rw [if_neg c21] at H
       have c21b0 : (t139 == 0) = false := beq_eq_false_iff_ne.mpr c21
       have c21b1 : (t139 != 0) = true := bne_iff_ne.mpr c21
       exact absurd H (by simp)
     ·rw [if_neg c20] at H
      have c20b0 : (t132 == 0) = false := beq_eq_false_iff_ne.mpr c20
      have c20b1 : (t132 != 0) = true := bne_iff_ne.mpr c20
      exact absurd H (by simp)
    ·replace c19 := Bool.eq_false_iff.mpr c19
     subst c19
     have H1 : (none) = some r := by rw [if_neg (show ¬ (false = true) by decide)] at H; exact H
     clear H
     have H := H1
     clear H1
     exact absurd H (by simp)
   ·replace c15 := Bool.eq_false_iff.mpr c15
    subst c15
    have H1 : (none) = some r := by rw [if_neg (show ¬ (false = true) by decide)] at H; exact H
    clear H
    have H := H1
    clear H1
    exact absurd H (by simp)
  ·replace c11 := Bool.eq_false_iff.mpr c11
   subst c11
   have H1 : (none) = some r := by rw [if_neg (show ¬ (false = true) by decide)] at H; exact H
   clear H
   have H := H1
   clear H1
   exact absurd H (by simp)
 ·replace c7 := Bool.eq_false_iff.mpr c7
  subst c7
  have H1 : (none) = some r := by rw [if_neg (show ¬ (false = true) by decide)] at H; exact H
  clear H
  have H := H1
  clear H1
  exact absurd H (by simp)

end Go.Proofs.Ytmbmalkpmanaaaa.P

namespace Go.Proofs.Ytmbmalkpmanaaaa.P
open Go.RowKit Go.Proofs.YtmbmalkpmanaaaaW.PrintWords Go.Proofs.YtmbmalkpmanaaaaW.PrintLast Go.Proofs.YtmbmalkpmanaaaaW.PrintMore
attribute [local go_sem] max2_int min2_int max_two min_two max_three min_three max_four min_four   -- for this text's walks alone
set_option linter.unusedVariables false
set_option linter.unusedSimpArgs false

mutual
def gran_Size.l0 : Nat → Int → List (List (S23)) → Int → Int → Int → Int → List (List (S23)) → List (S70) → Option (Int)
 | 0, _, _, _, _, _, _, _, _ => none
 | k + 1, x3, x9, x10, x11, x2128000, x2128001, x2128002, x2128003 => if x11 < x10 then (if 0 ≤ x11 then (if x11 < (x9.length : Int) then (gran_Size.l0 k (wrap64 (x3 + ((rd_L2 x9 x11).length : Int))) x9 x10 (wrap64 (x11 + 1)) x2128000 x2128001 x2128002 x2128003) else (none)) else (none)) else (gran_Size.l1 k x3 x2128003 (x2128003.length : Int) 0)
def gran_Size.l1 : Nat → Int → List (S70) → Int → Int → Option (Int)
 | 0, _, _, _, _ => none
 | k + 1, x3, x21, x22, x23 => if x23 < x22 then (if 0 ≤ x23 then (if x23 < (x21.length : Int) then (gran_Size.l1 k (wrap64 (x3 + (((rd_T70 x21 x23).f1).length : Int))) x21 x22 (wrap64 (x23 + 1))) else (none)) else (none)) else (some x3)
end
def gran_Size.f (k : Nat) (a0_0 : Int) (a0_1 : Int) (l0_2 : List (List (S23))) (l0_3 : List (S70)) : Option (Int) := gran_Size.l0 k 0 l0_2 (l0_2.length : Int) 0 a0_0 a0_1 l0_2 l0_3
set_option maxHeartbeats 8000000 in
set_option maxRecDepth 100000 in
theorem gran_Size.calls (k : Nat) (a0_0 : Int) (a0_1 : Int) (A0_2 : Option Addr) (c0_2 : Nat) (l0_2 : List (List (S23))) (A0_3 : Option Addr) (c0_3 : Nat) (l0_3 : List (S70)) (r : Int) (w : World) (hr0_2 : Kd.C (Kd.slice 23 k23) w A0_2 l0_2.length l0_2) (hc0_2 : l0_2.length ≤ c0_2) (hr0_3 : Kd.C k70 w A0_3 l0_3.length l0_3) (hc0_3 : l0_3.length ≤ c0_3) (h : gran_Size.f k a0_0 a0_1 l0_2 l0_3 = some r) :
 Calls Try.prog 80 #[.agg #[.int .i64 a0_0, .int .i64 a0_1, .slice A0_2 l0_2.length c0_2, .slice A0_3 l0_3.length c0_3]] w fun e w' => e = .returned (.int .i64 r) ∧ Below w.heap.size w w' := by
 have hu28 := Try.underlying28
 have hu70 := Try.underlying70
 have HR0_2 := am hr0_2
 have HC0_2 := am hc0_2
 clear hr0_2 hc0_2
 have HR0_3 := am hr0_3
 have HC0_3 := am hc0_3
 clear hr0_3 hc0_3
 have HB := am (Below.refl w.heap.size w)
 have H : (gran_Size.l0 k 0 l0_2 (l0_2.length : Int) 0 a0_0 a0_1 l0_2 l0_3) = some r := h
 clear h
 have H' := am H
 clear H
 go_enter Try.func80, Try.ntmps80
 go_wp2_with (first | ((with_reducible refine gate_dst (N := 1) rfl ?_); refine bx 1 28 #[.int .i64 a0_0, .int .i64 a0_1, .slice A0_2 l0_2.length c0_2, .slice A0_3 l0_3.length c0_3] ?_; intro gb2127 hg w2 hbox hb; have BK2127 := am (hbox); have GW2127 := am ((bz hg HB.out : w.heap.size ≤ gb2127)); have GE2127 := am ((bz hg HB.out : w.heap.size ≤ gb2127)); replace HB := am (below_step (bl HB.out) hb); clear hb hbox hg; have hcz3_0 : w2.cell? ⟨gb2127, 0, none⟩ = some (.int .i64 a0_0) := bc BK2127.out 0; have hcz3_1 : w2.cell? ⟨gb2127, 1, none⟩ = some (.int .i64 a0_1) := bc BK2127.out 1; have hcz3_2 : w2.cell? ⟨gb2127, 2, none⟩ = some (.slice A0_2 l0_2.length c0_2) := bc BK2127.out 2; have hcz3_3 : w2.cell? ⟨gb2127, 3, none⟩ = some (.slice A0_3 l0_3.length c0_3) := bc BK2127.out 3; have hfz3_0 := blk_frozen BK2127.out 0; have hfz3_1 := blk_frozen BK2127.out 1; have hfz3_2 := blk_frozen BK2127.out 2; have hfz3_3 := blk_frozen BK2127.out 3))
 go_loopg [3, 11] k (fun kq v3 v11 w' => ∃ (x3_1 : Int) (x11_1 : Int), v3 = .int .i64 x3_1 ∧ v11 = .int .i64 x11_1 ∧ Aside0 (gran_Size.l0 kq x3_1 l0_2 (l0_2.length : Int) x11_1 a0_0 a0_1 l0_2 l0_3 = some r) ∧ Aside0 (kq ≤ k) ∧ Aside0 (w'.heap[gb2127]? = some (.cells #[.int .i64 a0_0, .int .i64 a0_1, (.slice A0_2 l0_2.length c0_2), (.slice A0_3 l0_3.length c0_3)] 28 (0, 0))) ∧ Aside0 (Below w.heap.size w w'))
 case atStart => exact ⟨(0), (0), sm, sm, H', ⟨Nat.le_refl _⟩, ⟨kp BK2127.out⟩, ⟨bl1 HB.out GE2127.out⟩⟩
 case round =>
  clear H'
  try clear p2
  try clear hcz3_0
  try clear hcz3_1
  try clear hcz3_2
  try clear hcz3_3
  try clear hfz3_0
  try clear hfz3_1
  try clear hfz3_2
  try clear hfz3_3
  obtain ⟨x3_1, x11_1, rfl, rfl, HA, HK1, BK2127, HB⟩ := hrel
  cases gk with
  | zero => exact absurd HA.out (by simp [gran_Size.l0])
  | succ k1 =>
   have H := HA.out
   clear HA
   simp only [gran_Size.l0] at H
   by_cases c4 : x11_1 < (l0_2.length : Int)
   ·rw [if_pos c4] at H
    have c4b0 : decide (x11_1 < (l0_2.length : Int)) = true := decide_eq_true c4
    clear c4
    by_cases c5 : 0 ≤ x11_1
    ·rw [if_pos c5] at H
     have c5b0 : decide (0 ≤ x11_1) = true := decide_eq_true c5
     clear c5
     by_cases c6 : x11_1 < (l0_2.length : Int)
     ·rw [if_pos c6] at H
      have c6b0 : decide (x11_1 < (l0_2.length : Int)) = true := decide_eq_true c6
      clear c6
      have H' := am H
      clear H
      have p2128 : 0 ≤ (x11_1 : Int) := of_decide_eq_true asm
      have q2128 : x11_1 < (l0_2.length : Int) := of_decide_eq_true asm
      obtain ⟨ad2128, A2128_0, c2128_0, e2128, hx2128_0, hl2128_0, hi2128_0⟩ := at_L2 HR0_2.out x11_1 p2128 q2128
      cases e2128
      replace hx2128_0 := (HB.out.cell (World.block_lt_of_cell? w _ hx2128_0)).trans hx2128_0
      have HR2128_0 := am hi2128_0
      have HC2128_0 := am hl2128_0
      clear hi2128_0 hl2128_0
      replace p2128 := eq_true p2128
      replace q2128 := eq_true q2128
      go_wp2
      go_roundg k1
      case measure => have := HK1.out; omega
      case rel => exact ⟨(wrap64 (x3_1 + ((rd_L2 l0_2 x11_1).length : Int))), (wrap64 (x11_1 + 1)), sm, sm, H', ⟨by have := HK1.out; omega⟩, ⟨kp BK2127.out⟩, ⟨bl1 HB.out GE2127.out⟩⟩
     ·rw [if_neg c6] at H
      exact absurd H (by simp)
    ·rw [if_neg c5] at H
     exact absurd H (by simp)
   ·rw [if_neg c4] at H
    have c4b0 : decide (x11_1 < (l0_2.length : Int)) = false := decide_eq_false c4
    clear c4
    have H' := am H
    clear H
    have hcz7_0 : wr.cell? ⟨gb2127, 0, none⟩ = some (.int .i64 a0_0) := bc BK2127.out 0
    have hcz7_1 : wr.cell? ⟨gb2127, 1, none⟩ = some (.int .i64 a0_1) := bc BK2127.out 1
    have hcz7_2 : wr.cell? ⟨gb2127, 2, none⟩ = some (.slice A0_2 l0_2.length c0_2) := bc BK2127.out 2
    have hcz7_3 : wr.cell? ⟨gb2127, 3, none⟩ = some (.slice A0_3 l0_3.length c0_3) := bc BK2127.out 3
    have hfz7_0 := blk_frozen BK2127.out 0
    have hfz7_1 := blk_frozen BK2127.out 1
    have hfz7_2 := blk_frozen BK2127.out 2
    have hfz7_3 := blk_frozen BK2127.out 3
    go_wp2
    go_loopg [3, 23] k1 (fun kq v3 v23 w' => ∃ (x3_2 : Int) (x23_2 : Int), v3 = .int .i64 x3_2 ∧ v23 = .int .i64 x23_2 ∧ Aside0 (gran_Size.l1 kq x3_2 l0_3 (l0_3.length : Int) x23_2 = some r) ∧ Aside0 (kq ≤ k1) ∧ Aside0 (w'.heap[gb2127]? = some (.cells #[.int .i64 a0_0, .int .i64 a0_1, (.slice A0_2 l0_2.length c0_2), (.slice A0_3 l0_3.length c0_3)] 28 (0, 0))) ∧ Aside0 (Below w.heap.size w w'))
    case atStart => exact ⟨(x3_1), (0), sm, sm, H', ⟨Nat.le_refl _⟩, ⟨kp BK2127.out⟩, ⟨bl1 HB.out GE2127.out⟩⟩
    case round =>
     clear H'
     try clear c2
     try clear p2
     try clear q2
     try clear hx2
     try clear c4
     try clear c4b0
     try clear c5
     try clear c5b0
     try clear c6
     try clear c6b0
     try clear p6
     try clear hcz3_0
     try clear hcz3_1
     try clear hcz3_2
     try clear hcz3_3
     try clear hcz7_0
     try clear hcz7_1
     try clear hcz7_2
     try clear hcz7_3
     try clear hfz3_0
     try clear hfz3_1
     try clear hfz3_2
     try clear hfz3_3
     try clear hfz7_0
     try clear hfz7_1
     try clear hfz7_2
     try clear hfz7_3
     try clear hx2128_0
     try clear p2
     try clear p2128
     try clear q2128
     obtain ⟨x3_2, x23_2, rfl, rfl, HA, HK2, BK2127, HB⟩ := hrel
     cases gk with
     | zero => exact absurd HA.out (by simp [gran_Size.l1])
     | succ k2 =>
      have H := HA.out
      clear HA
      simp only [gran_Size.l1] at H
      by_cases c8 : x23_2 < (l0_3.length : Int)
      ·rw [if_pos c8] at H
       have c8b0 : decide (x23_2 < (l0_3.length : Int)) = true := decide_eq_true c8
       clear c8
       by_cases c9 : 0 ≤ x23_2
       ·rw [if_pos c9] at H
        have c9b0 : decide (0 ≤ x23_2) = true := decide_eq_true c9
        clear c9
        by_cases c10 : x23_2 < (l0_3.length : Int)
        ·rw [if_pos c10] at H
         have c10b0 : decide (x23_2 < (l0_3.length : Int)) = true := decide_eq_true c10
         clear c10
         have H' := am H
         clear H
         have p2129 : 0 ≤ (x23_2 : Int) := of_decide_eq_true asm
         have q2129 : x23_2 < (l0_3.length : Int) := of_decide_eq_true asm
         obtain ⟨ad2129, A2129_1, c2129_1, e2129, hx2129_0, hx2129_1, hl2129_1, hi2129_1⟩ := at_T70 HR0_3.out x23_2 p2129 q2129
         cases e2129
         replace hx2129_0 := (HB.out.cell (World.block_lt_of_cell? w _ hx2129_0)).trans hx2129_0
         replace hx2129_1 := (HB.out.cell (World.block_lt_of_cell? w _ hx2129_1)).trans hx2129_1
         have HR2129_1 := am hi2129_1
         have HC2129_1 := am hl2129_1
         clear hi2129_1 hl2129_1
         replace p2129 := eq_true p2129
         replace q2129 := eq_true q2129
         go_wp2_with (first | ((with_reducible refine gate_dst (N := 7) rfl ?_); refine bx 7 70 #[.int .i64 0, .slice none 0 0] ?_; intro gb2130 hg w11 hbox hb; have BK2130 := am (hbox); have GW2130 := am ((bz1 hg HB.out GE2127.out : w.heap.size ≤ gb2130)); have GE2130 := am ((bz1 hg HB.out GE2127.out : w.heap.size ≤ gb2130)); replace HB := am (below_step (bl1 HB.out GE2127.out) hb); have NB2127_2130 := am ((nl hg BK2127.out : gb2127 ≠ gb2130)); have NB2130_2127 := am ((ng hg BK2127.out : gb2130 ≠ gb2127)); replace BK2127 := am (blk_below (kp BK2127.out) hb); clear hb hbox hg; have hnb12 := NB2130_2127.out; have hnc12 := NB2127_2130.out; have hcz13_0 : w11.cell? ⟨gb2130, 0, none⟩ = some (.int .i64 0) := bc BK2130.out 0; have hcz13_1 : w11.cell? ⟨gb2130, 1, none⟩ = some (.slice none 0 0) := bc BK2130.out 1; have hfz13_0 := blk_frozen BK2130.out 0; have hfz13_1 := blk_frozen BK2130.out 1))
         go_roundg k2
         case measure => have := HK1.out; have := HK2.out; omega
         case rel => exact ⟨(wrap64 (x3_2 + (((rd_T70 l0_3 x23_2).f1).length : Int))), (wrap64 (x23_2 + 1)), sm, sm, H', ⟨by have := HK1.out; have := HK2.out; omega⟩, ⟨kf BK2127.out NB2127_2130.out⟩, ⟨bl2 HB.out GE2127.out GE2130.out⟩⟩
        ·rw [if_neg c10] at H
         exact absurd H (by simp)
       ·rw [if_neg c9] at H
        exact absurd H (by simp)
      ·rw [if_neg c8] at H
       have c8b0 : decide (x23_2 < (l0_3.length : Int)) = false := decide_eq_false c8
       clear c8
       obtain rfl := Option.some.inj H
       go_wp2
       go_ret
       exact ⟨rt, bl1 HB.out GE2127.out⟩

end Go.Proofs.Ytmbmalkpmanaaaa.P

namespace Go.Proofs.Ytmbmalkpmanaaaa.P
open Go.RowKit Go.Proofs.YtmbmalkpmanaaaaW.PrintWords Go.Proofs.YtmbmalkpmanaaaaW.PrintLast Go.Proofs.YtmbmalkpmanaaaaW.PrintMore
attribute [local go_sem] max2_int min2_int max_two min_two max_three min_three max_four min_four   -- for this text's walks alone
set_option linter.unusedVariables false
set_option linter.unusedSimpArgs false

def epactlaw05_Small.f (k : Nat) (a0_0 : Int) (a0_1 : Int) (l0_2 : List (List (S23))) (l0_3 : List (S70)) : Option (Bool) := if (l0_2.length : Int) ≤ 12 then (if (l0_3.length : Int) ≤ 8 then ((gran_Size.f k a0_0 a0_1 l0_2 l0_3).bind fun t2132 => (some (decide (t2132 ≤ 60)))) else (some false)) else (some false)
set_option maxHeartbeats 8000000 in
set_option maxRecDepth 100000 in
theorem epactlaw05_Small.calls (k : Nat) (a0_0 : Int) (a0_1 : Int) (A0_2 : Option Addr) (c0_2 : Nat) (l0_2 : List (List (S23))) (A0_3 : Option Addr) (c0_3 : Nat) (l0_3 : List (S70)) (r : Bool) (w : World) (hr0_2 : Kd.C (Kd.slice 23 k23) w A0_2 l0_2.length l0_2) (hc0_2 : l0_2.length ≤ c0_2) (hr0_3 : Kd.C k70 w A0_3 l0_3.length l0_3) (hc0_3 : l0_3.length ≤ c0_3) (h : epactlaw05_Small.f k a0_0 a0_1 l0_2 l0_3 = some r) :
 Calls Try.prog 53 #[.agg #[.int .i64 a0_0, .int .i64 a0_1, .slice A0_2 l0_2.length c0_2, .slice A0_3 l0_3.length c0_3]] w fun e w' => e = .returned (.bool r) ∧ Below w.heap.size w w' := by
 have hu28 := Try.underlying28
 have HR0_2 := am hr0_2
 have HC0_2 := am hc0_2
 clear hr0_2 hc0_2
 have HR0_3 := am hr0_3
 have HC0_3 := am hc0_3
 clear hr0_3 hc0_3
 have HB := am (Below.refl w.heap.size w)
 have H : (if (l0_2.length : Int) ≤ 12 then (if (l0_3.length : Int) ≤ 8 then ((gran_Size.f k a0_0 a0_1 l0_2 l0_3).bind fun t2132 => (some (decide (t2132 ≤ 60)))) else (some false)) else (some false)) = some r := h
 clear h
 by_cases c2 : (l0_2.length : Int) ≤ 12
 ·rw [if_pos c2] at H
  have c2b0 : decide ((l0_2.length : Int) ≤ 12) = true := decide_eq_true c2
  have c2b1 : decide (l0_2.length ≤ 12) = true := decide_eq_true (by omega)
  clear c2
  by_cases c3 : (l0_3.length : Int) ≤ 8
  ·rw [if_pos c3] at H
   have c3b0 : decide ((l0_3.length : Int) ≤ 8) = true := decide_eq_true c3
   have c3b1 : decide (l0_3.length ≤ 8) = true := decide_eq_true (by omega)
   clear c3
   replace H := Option.bind_eq_some_iff.mp H
   obtain ⟨t2132, A40, H⟩ := H
   try dsimp only at H
   have A4 := am A40
   clear A40
   obtain rfl := Option.some.inj H
   go_enter Try.func53, Try.ntmps53
   go_wp2_with (first | ((with_reducible refine gate_dst (N := 1) rfl ?_); (try (refine gate_guard (by rfl) ?_; dsimp only)); refine bx 1 28 #[.int .i64 a0_0, .int .i64 a0_1, .slice A0_2 l0_2.length c0_2, .slice A0_3 l0_3.length c0_3] ?_; intro gb2131 hg w5 hbox hb; have BK2131 := am (hbox); have GW2131 := am ((bz hg HB.out : w.heap.size ≤ gb2131)); have GE2131 := am ((bz hg HB.out : w.heap.size ≤ gb2131)); replace HB := am (below_step (bl HB.out) hb); clear hb hbox hg; have hcz6_0 : w5.cell? ⟨gb2131, 0, none⟩ = some (.int .i64 a0_0) := bc BK2131.out 0; have hcz6_1 : w5.cell? ⟨gb2131, 1, none⟩ = some (.int .i64 a0_1) := bc BK2131.out 1; have hcz6_2 : w5.cell? ⟨gb2131, 2, none⟩ = some (.slice A0_2 l0_2.length c0_2) := bc BK2131.out 2; have hcz6_3 : w5.cell? ⟨gb2131, 3, none⟩ = some (.slice A0_3 l0_3.length c0_3) := bc BK2131.out 3; have hfz6_0 := blk_frozen BK2131.out 0; have hfz6_1 := blk_frozen BK2131.out 1; have hfz6_2 := blk_frozen BK2131.out 2; have hfz6_3 := blk_frozen BK2131.out 3) | (go_at_call 80; (with_reducible refine (gran_Size.calls k a0_0 a0_1 _ _ l0_2 _ _ l0_3 t2132 _ ?side1 ?side2 ?side3 ?side4 A4.out).mono ?_); (case side1 => exact kc (Kd.C_below HR0_2.out HB.out)); (case side2 => exact HC0_2.out); (case side3 => exact kc (Kd.C_below HR0_3.out HB.out)); (case side4 => exact HC0_3.out); rintro e w7 ⟨rfl, hb⟩; replace BK2131 := am (blk_below (kp BK2131.out) hb); replace HB := am (below_step (bl1 HB.out GE2131.out) hb); (try clear hb); (try clear hb2); (try clear hk); (try clear hi)))
   go_ret
   exact ⟨rt, bl1 HB.out GE2131.out⟩
  ·rw [if_neg c3] at H
   have c3b0 : decide ((l0_3.length : Int) ≤ 8) = false := decide_eq_false c3
   have c3b1 : decide (l0_3.length ≤ 8) = false := decide_eq_false (by omega)
   clear c3
   obtain rfl := Option.some.inj H
   go_enter Try.func53, Try.ntmps53
   go_wp2_with (first | ((with_reducible refine gate_dst (N := 1) rfl ?_); (try (refine gate_guard (by rfl) ?_; dsimp only)); refine bx 1 28 #[.int .i64 a0_0, .int .i64 a0_1, .slice A0_2 l0_2.length c0_2, .slice A0_3 l0_3.length c0_3] ?_; intro gb2131 hg w8 hbox hb; have BK2131 := am (hbox); have GW2131 := am ((bz hg HB.out : w.heap.size ≤ gb2131)); have GE2131 := am ((bz hg HB.out : w.heap.size ≤ gb2131)); replace HB := am (below_step (bl HB.out) hb); clear hb hbox hg; have hcz9_0 : w8.cell? ⟨gb2131, 0, none⟩ = some (.int .i64 a0_0) := bc BK2131.out 0; have hcz9_1 : w8.cell? ⟨gb2131, 1, none⟩ = some (.int .i64 a0_1) := bc BK2131.out 1; have hcz9_2 : w8.cell? ⟨gb2131, 2, none⟩ = some (.slice A0_2 l0_2.length c0_2) := bc BK2131.out 2; have hcz9_3 : w8.cell? ⟨gb2131, 3, none⟩ = some (.slice A0_3 l0_3.length c0_3) := bc BK2131.out 3; have hfz9_0 := blk_frozen BK2131.out 0; have hfz9_1 := blk_frozen BK2131.out 1; have hfz9_2 := blk_frozen BK2131.out 2; have hfz9_3 := blk_frozen BK2131.out 3))
   go_ret
   exact ⟨rt, bl1 HB.out GE2131.out⟩
 ·rw [if_neg c2] at H
  have c2b0 : decide ((l0_2.length : Int) ≤ 12) = false := decide_eq_false c2
  have c2b1 : decide (l0_2.length ≤ 12) = false := decide_eq_false (by omega)
  clear c2
  obtain rfl := Option.some.inj H
  go_enter Try.func53, Try.ntmps53
  go_wp2_with (first | ((with_reducible refine gate_dst (N := 1) rfl ?_); (try (refine gate_guard (by rfl) ?_; dsimp only)); refine bx 1 28 #[.int .i64 a0_0, .int .i64 a0_1, .slice A0_2 l0_2.length c0_2, .slice A0_3 l0_3.length c0_3] ?_; intro gb2131 hg w10 hbox hb; have BK2131 := am (hbox); have GW2131 := am ((bz hg HB.out : w.heap.size ≤ gb2131)); have GE2131 := am ((bz hg HB.out : w.heap.size ≤ gb2131)); replace HB := am (below_step (bl HB.out) hb); clear hb hbox hg; have hcz11_0 : w10.cell? ⟨gb2131, 0, none⟩ = some (.int .i64 a0_0) := bc BK2131.out 0; have hcz11_1 : w10.cell? ⟨gb2131, 1, none⟩ = some (.int .i64 a0_1) := bc BK2131.out 1; have hcz11_2 : w10.cell? ⟨gb2131, 2, none⟩ = some (.slice A0_2 l0_2.length c0_2) := bc BK2131.out 2; have hcz11_3 : w10.cell? ⟨gb2131, 3, none⟩ = some (.slice A0_3 l0_3.length c0_3) := bc BK2131.out 3; have hfz11_0 := blk_frozen BK2131.out 0; have hfz11_1 := blk_frozen BK2131.out 1; have hfz11_2 := blk_frozen BK2131.out 2; have hfz11_3 := blk_frozen BK2131.out 3))
  go_ret
  exact ⟨rt, bl1 HB.out GE2131.out⟩

end Go.Proofs.Ytmbmalkpmanaaaa.P

namespace Go.Proofs.Ytmbmalkpmanaaaa.P
open Go.RowKit Go.Proofs.YtmbmalkpmanaaaaW.PrintWords Go.Proofs.YtmbmalkpmanaaaaW.PrintLast Go.Proofs.YtmbmalkpmanaaaaW.PrintMore
attribute [local go_sem] max2_int min2_int max_two min_two max_three min_three max_four min_four   -- for this text's walks alone
set_option linter.unusedVariables false
set_option linter.unusedSimpArgs false

def spans_Ahead.f (l0 : List (S23)) (l1 : List (S23)) : Option (Bool) := if (l0.length : Int) = 0 then (some true) else (if (l1.length : Int) = 0 then (some true) else (if 0 ≤ (wrap64 ((l0.length : Int) - 1)) then (if (wrap64 ((l0.length : Int) - 1)) < (l0.length : Int) then (if 0 < (l1.length : Int) then (some (decide (((rd_T23 l0 (wrap64 ((l0.length : Int) - 1))).f1) < ((rd_T23 l1 0).f0)))) else (none)) else (none)) else (none)))
set_option maxHeartbeats 8000000 in
set_option maxRecDepth 100000 in
theorem spans_Ahead.calls (A0 : Option Addr) (c0 : Nat) (l0 : List (S23)) (A1 : Option Addr) (c1 : Nat) (l1 : List (S23)) (r : Bool) (w : World) (hr0 : Kd.C k23 w A0 l0.length l0) (hc0 : l0.length ≤ c0) (hr1 : Kd.C k23 w A1 l1.length l1) (hc1 : l1.length ≤ c1) (h : spans_Ahead.f l0 l1 = some r) :
 Calls Try.prog 42 #[.slice A0 l0.length c0, .slice A1 l1.length c1] w fun e w' => e = .returned (.bool r) ∧ Drawn0 w w' := by
 have HR0 := am hr0
 have HC0 := am hc0
 clear hr0 hc0
 have HR1 := am hr1
 have HC1 := am hc1
 clear hr1 hc1
 have H : (if (l0.length : Int) = 0 then (some true) else (if (l1.length : Int) = 0 then (some true) else (if 0 ≤ (wrap64 ((l0.length : Int) - 1)) then (if (wrap64 ((l0.length : Int) - 1)) < (l0.length : Int) then (if 0 < (l1.length : Int) then (some (decide (((rd_T23 l0 (wrap64 ((l0.length : Int) - 1))).f1) < ((rd_T23 l1 0).f0)))) else (none)) else (none)) else (none)))) = some r := h
 clear h
 by_cases c3 : (l0.length : Int) = 0
 ·rw [if_pos c3] at H
  have c3b0 : ((l0.length : Int) == 0) = true := beq_iff_eq.mpr c3
  have c3b1 : ((l0.length : Int) != 0) = false := bne_eq_false_iff_eq.mpr c3
  clear c3
  obtain rfl := Option.some.inj H
  go_enter Try.func42, Try.ntmps42
  go_wp2
  repeat (go_quiet (fail); try go_wp2)
  go_ret
  exact ⟨by first | rfl | (simp; done) | (simp [*]; done), by repeat (first | exact Drawn0.refl _ | apply Drawn0.step)⟩
 ·rw [if_neg c3] at H
  have c3b0 : ((l0.length : Int) == 0) = false := beq_eq_false_iff_ne.mpr c3
  have c3b1 : ((l0.length : Int) != 0) = true := bne_iff_ne.mpr c3
  have c3b2 : ¬ (l0 = []) := fun h_ => c3 (by rw [h_]; rfl)
  by_cases c4 : (l1.length : Int) = 0
  ·rw [if_pos c4] at H
   have c4b0 : ((l1.length : Int) == 0) = true := beq_iff_eq.mpr c4
   have c4b1 : ((l1.length : Int) != 0) = false := bne_eq_false_iff_eq.mpr c4
   clear c4
   obtain rfl := Option.some.inj H
   go_enter Try.func42, Try.ntmps42
   go_wp2
   repeat (go_quiet (fail); try go_wp2)
   go_ret
   exact ⟨by first | rfl | (simp; done) | (simp [*]; done), by repeat (first | exact Drawn0.refl _ | apply Drawn0.step)⟩
  ·rw [if_neg c4] at H
   have c4b0 : ((l1.length : Int) == 0) = false := beq_eq_false_iff_ne.mpr c4
   have c4b1 : ((l1.length : Int) != 0) = true := bne_iff_ne.mpr c4
   have c4b2 : ¬ (l1 = []) := fun h_ => c4 (by rw [h_]; rfl)
   obtain ⟨ji5, hji5⟩ : ∃ j_ : Int, (wrap64 ((l0.length : Int) - 1)) = j_ := ⟨_, rfl⟩
   replace H : (if 0 ≤ (ji5) then (if (ji5) < (l0.length : Int) then (if 0 < (l1.length : Int) then (some (decide (((rd_T23 l0 (ji5)).f1) < ((rd_T23 l1 0).f0)))) else (none)) else (none)) else (none)) = some r := by first | (rw [hji5] at H; exact H) | (simp only [hji5] at H ⊢; exact H)
   have hji5w : (IntKind.i64.wrap ((l0.length : Int) - 1)) = ji5 := (i64_w _).trans hji5
   by_cases c6 : 0 ≤ (ji5)
   ·rw [if_pos c6] at H
    have c6b0 : decide (0 ≤ (ji5)) = true := decide_eq_true c6
    clear c6
    by_cases c7 : (ji5) < (l0.length : Int)
    ·rw [if_pos c7] at H
     have c7b0 : decide ((ji5) < (l0.length : Int)) = true := decide_eq_true c7
     clear c7
     by_cases c8 : 0 < (l1.length : Int)
     ·rw [if_pos c8] at H
      have c8b0 : decide (0 < (l1.length : Int)) = true := decide_eq_true c8
      have c8b1 : decide (0 < l1.length) = true := decide_eq_true (by omega)
      clear c8
      obtain rfl := Option.some.inj H
      have p624 : 0 ≤ ((ji5) : Int) := of_decide_eq_true asm
      have q624 : (ji5) < (l0.length : Int) := of_decide_eq_true asm
      obtain ⟨ad624, e624, hx624_0, hx624_1⟩ := at_T23 HR0.out (ji5) p624 q624
      cases e624
      replace p624 := eq_true p624
      replace q624 := eq_true q624
      have p625 : 0 ≤ (0 : Int) := (by omega)
      have q625 : 0 < (l1.length : Int) := of_decide_eq_true asm
      obtain ⟨ad625, e625, hx625_0, hx625_1⟩ := at_T23 HR1.out 0 p625 q625
      cases e625
      have qi625 : (0 < l1.length) = True := eq_true (by omega)
      (try rw [show ((0 : Int)).toNat = 0 from rfl] at hx625_0)
      (try rw [show 0 * 2 = 0 from rfl] at hx625_0)
      (try rw [Addr.add_zero'] at hx625_0)
      (try rw [show ((0 : Int)).toNat = 0 from rfl] at hx625_1)
      (try rw [show 0 * 2 = 0 from rfl] at hx625_1)
      (try rw [Addr.add_zero'] at hx625_1)
      replace p625 := eq_true p625
      replace q625 := eq_true q625
      go_enter Try.func42, Try.ntmps42
      go_wp2
      repeat (go_quiet (fail); try go_wp2)
      go_ret
      exact ⟨by first | rfl | (simp; done) | (simp only [← hji5] <;> (first | rfl | simp)) | (simp [*]; done), by repeat (first | exact Drawn0.refl _ | apply Drawn0.step)⟩
     ·rw [if_neg c8] at H
      exact absurd H (by simp)
    ·rw [if_neg c7] at H
     exact absurd H (by simp)
   ·rw [if_neg c6] at H
    exact absurd H (by simp)

end Go.Proofs.Ytmbmalkpmanaaaa.P

namespace Go.Proofs.Ytmbmalkpmanaaaa.P
open Go.RowKit Go.Proofs.YtmbmalkpmanaaaaW.PrintWords Go.Proofs.YtmbmalkpmanaaaaW.PrintLast Go.Proofs.YtmbmalkpmanaaaaW.PrintMore
attribute [local go_sem] max2_int min2_int max_two min_two max_three min_three max_four min_four   -- for this text's walks alone
set_option linter.unusedVariables false
set_option linter.unusedSimpArgs false

def gran_beside.j0 : Nat → List (S23) → Int → Bool → List (S23) → List (S23) → Int → Int → List (List (S23)) → List (S70) → Option (Bool)
 | 0, _, _, _, _, _, _, _, _, _ => none
 | k + 1, x5, x9, x10, x11, x12, x2153000, x2153001, x2153002, x2153003 => if x10 = true then ((gran_Get.f k x2153000 x2153001 x2153002 x2153003 x9).bind fun bt2165 => (if bt2165.2 = 0 then ((spans_Ahead.f x11 x5).bind fun t2169 => (if t2169 = true then ((spans_Ahead.f x5 bt2165.1).bind fun t2170 => (if t2170 = true then ((spans_Ahead.f x11 bt2165.1).bind fun t2171 => (some t2171)) else (some false))) else (some false))) else (some false))) else ((spans_Ahead.f x11 x5).bind fun t2172 => (if t2172 = true then ((spans_Ahead.f x5 x12).bind fun t2173 => (if t2173 = true then ((spans_Ahead.f x11 x12).bind fun t2174 => (some t2174)) else (some false))) else (some false)))
def gran_beside.f (k : Nat) (a0_0 : Int) (a0_1 : Int) (l0_2 : List (List (S23))) (l0_3 : List (S70)) (a1 : Int) : Option (Bool) := (gran_Get.f k a0_0 a0_1 l0_2 l0_3 a1).bind fun bt2153 => (if bt2153.2 = 0 then ((gran_Before.f k a0_0 a0_1 l0_2 l0_3 a1).bind fun bt2157 => ((gran_Behind.f k a0_0 a0_1 l0_2 l0_3 a1).bind fun bt2159 => (if bt2157.2 = true then ((gran_Get.f k a0_0 a0_1 l0_2 l0_3 bt2157.1).bind fun bt2161 => (if bt2161.2 = 0 then (gran_beside.j0 k bt2153.1 bt2159.1 bt2159.2 bt2161.1 ([] : List (S23)) a0_0 a0_1 l0_2 l0_3) else (some false))) else (gran_beside.j0 k bt2153.1 bt2159.1 bt2159.2 ([] : List (S23)) ([] : List (S23)) a0_0 a0_1 l0_2 l0_3)))) else (some false))
set_option maxHeartbeats 8000000 in
set_option maxRecDepth 100000 in
theorem gran_beside.calls (k : Nat) (a0_0 : Int) (a0_1 : Int) (A0_2 : Option Addr) (c0_2 : Nat) (l0_2 : List (List (S23))) (A0_3 : Option Addr) (c0_3 : Nat) (l0_3 : List (S70)) (a1 : Int) (r : Bool) (w : World) (hr0_2 : Kd.C (Kd.slice 23 k23) w A0_2 l0_2.length l0_2) (hc0_2 : l0_2.length ≤ c0_2) (hr0_3 : Kd.C k70 w A0_3 l0_3.length l0_3) (hc0_3 : l0_3.length ≤ c0_3) (h : gran_beside.f k a0_0 a0_1 l0_2 l0_3 a1 = some r) :
 Calls Try.prog 83 #[.agg #[.int .i64 a0_0, .int .i64 a0_1, .slice A0_2 l0_2.length c0_2, .slice A0_3 l0_3.length c0_3], .int .i64 a1] w fun e w' => e = .returned (.bool r) ∧ Below w.heap.size w w' := by
 have hu28 := Try.underlying28
 have HR0_2 := am hr0_2
 have HC0_2 := am hc0_2
 clear hr0_2 hc0_2
 have HR0_3 := am hr0_3
 have HC0_3 := am hc0_3
 clear hr0_3 hc0_3
 have HB := am (Below.refl w.heap.size w)
 have H : ((gran_Get.f k a0_0 a0_1 l0_2 l0_3 a1).bind fun bt2153 => (if bt2153.2 = 0 then ((gran_Before.f k a0_0 a0_1 l0_2 l0_3 a1).bind fun bt2157 => ((gran_Behind.f k a0_0 a0_1 l0_2 l0_3 a1).bind fun bt2159 => (if bt2157.2 = true then ((gran_Get.f k a0_0 a0_1 l0_2 l0_3 bt2157.1).bind fun bt2161 => (if bt2161.2 = 0 then (gran_beside.j0 k bt2153.1 bt2159.1 bt2159.2 bt2161.1 ([] : List (S23)) a0_0 a0_1 l0_2 l0_3) else (some false))) else (gran_beside.j0 k bt2153.1 bt2159.1 bt2159.2 ([] : List (S23)) ([] : List (S23)) a0_0 a0_1 l0_2 l0_3)))) else (some false))) = some r := h
 clear h
 replace H := Option.bind_eq_some_iff.mp H
 obtain ⟨⟨t2153, t2156⟩, A30, H⟩ := H
 try dsimp only at H
 have A3 := am A30
 clear A30
 by_cases c4 : t2156 = 0
 ·rw [if_pos c4] at H
  have c4b0 : (t2156 == 0) = true := beq_iff_eq.mpr c4
  have c4b1 : (t2156 != 0) = false := bne_eq_false_iff_eq.mpr c4
  clear c4
  replace H := Option.bind_eq_some_iff.mp H
  obtain ⟨⟨t2157, t2158⟩, A50, H⟩ := H
  try dsimp only at H
  have A5 := am A50
  clear A50
  replace H := Option.bind_eq_some_iff.mp H
  obtain ⟨⟨t2159, t2160⟩, A60, H⟩ := H
  try dsimp only at H
  have A6 := am A60
  clear A60
  have HC7 := am H
  clear H
  go_enter Try.func83, Try.ntmps83
  go_upto_if 33 with (first | ((with_reducible refine gate_dst (N := 2) rfl ?_); refine bx 2 28 #[.int .i64 a0_0, .int .i64 a0_1, .slice A0_2 l0_2.length c0_2, .slice A0_3 l0_3.length c0_3] ?_; intro gb2152 hg w8 hbox hb; have BK2152 := am (hbox); have GW2152 := am ((bz hg HB.out : w.heap.size ≤ gb2152)); have GE2152 := am ((bz hg HB.out : w.heap.size ≤ gb2152)); replace HB := am (below_step (bl HB.out) hb); clear hb hbox hg; have hcz9_0 : w8.cell? ⟨gb2152, 0, none⟩ = some (.int .i64 a0_0) := bc BK2152.out 0; have hcz9_1 : w8.cell? ⟨gb2152, 1, none⟩ = some (.int .i64 a0_1) := bc BK2152.out 1; have hcz9_2 : w8.cell? ⟨gb2152, 2, none⟩ = some (.slice A0_2 l0_2.length c0_2) := bc BK2152.out 2; have hcz9_3 : w8.cell? ⟨gb2152, 3, none⟩ = some (.slice A0_3 l0_3.length c0_3) := bc BK2152.out 3; have hfz9_0 := blk_frozen BK2152.out 0; have hfz9_1 := blk_frozen BK2152.out 1; have hfz9_2 := blk_frozen BK2152.out 2; have hfz9_3 := blk_frozen BK2152.out 3) | ((with_reducible refine gate_callee (f := 18) rfl ?_); refine goesL_ (some 16) rfl rfl Try.func18 (by kernel_rfl) rfl #[.agg #[.int .i64 a0_0, .int .i64 a0_1, .slice A0_2 l0_2.length c0_2, .slice A0_3 l0_3.length c0_3], .int .i64 a1] rfl ar ?_; (with_reducible refine (gran_Get.calls k a0_0 a0_1 _ _ l0_2 _ _ l0_3 a1 t2153 t2156 _ ?side1 ?side2 ?side3 ?side4 A3.out).mono ?_); (case side1 => exact kc (Kd.C_below HR0_2.out HB.out)); (case side2 => exact HC0_2.out); (case side3 => exact kc (Kd.C_below HR0_3.out HB.out)); (case side4 => exact HC0_3.out); rintro e w10 ⟨v2154, rfl, ho0, hb⟩; refine ⟨_, rfl, ?_⟩; have HO2155 := am (Kd.R_lower ho0 (below_size (bl1 HB.out GE2152.out))); replace BK2152 := am (blk_below (kp BK2152.out) hb); replace HB := am (below_step (bl1 HB.out GE2152.out) hb); (try clear hb); (try clear hb2); (try clear hk); (try clear hi); (try clear ho0); have hcz11_0 : w10.cell? ⟨gb2152, 0, none⟩ = some (.int .i64 a0_0) := bc BK2152.out 0; have hcz11_1 : w10.cell? ⟨gb2152, 1, none⟩ = some (.int .i64 a0_1) := bc BK2152.out 1; have hcz11_2 : w10.cell? ⟨gb2152, 2, none⟩ = some (.slice A0_2 l0_2.length c0_2) := bc BK2152.out 2; have hcz11_3 : w10.cell? ⟨gb2152, 3, none⟩ = some (.slice A0_3 l0_3.length c0_3) := bc BK2152.out 3; have hfz11_0 := blk_frozen BK2152.out 0; have hfz11_1 := blk_frozen BK2152.out 1; have hfz11_2 := blk_frozen BK2152.out 2; have hfz11_3 := blk_frozen BK2152.out 3) | ((with_reducible refine gate_callee (f := 90) rfl ?_); refine goesL_ (some 24) rfl rfl Try.func90 (by kernel_rfl) rfl #[.agg #[.int .i64 a0_0, .int .i64 a0_1, .slice A0_2 l0_2.length c0_2, .slice A0_3 l0_3.length c0_3], .int .i64 a1] rfl ar ?_; (with_reducible refine (gran_Before.calls k a0_0 a0_1 _ _ l0_2 _ _ l0_3 a1 t2157 t2158 _ ?side1 ?side2 ?side3 ?side4 A5.out).mono ?_); (case side1 => exact kc (Kd.C_below HR0_2.out HB.out)); (case side2 => exact HC0_2.out); (case side3 => exact kc (Kd.C_below HR0_3.out HB.out)); (case side4 => exact HC0_3.out); rintro e w12 ⟨rfl, hb⟩; refine ⟨_, rfl, ?_⟩; replace HO2155 := am (Kd.R_below (kr HO2155.out) hb); replace BK2152 := am (blk_below (kp BK2152.out) hb); replace HB := am (below_step (bl1 HB.out GE2152.out) hb); (try clear hb); (try clear hb2); (try clear hk); (try clear hi); have hcz13_0 : w12.cell? ⟨gb2152, 0, none⟩ = some (.int .i64 a0_0) := bc BK2152.out 0; have hcz13_1 : w12.cell? ⟨gb2152, 1, none⟩ = some (.int .i64 a0_1) := bc BK2152.out 1; have hcz13_2 : w12.cell? ⟨gb2152, 2, none⟩ = some (.slice A0_2 l0_2.length c0_2) := bc BK2152.out 2; have hcz13_3 : w12.cell? ⟨gb2152, 3, none⟩ = some (.slice A0_3 l0_3.length c0_3) := bc BK2152.out 3; have hfz13_0 := blk_frozen BK2152.out 0; have hfz13_1 := blk_frozen BK2152.out 1; have hfz13_2 := blk_frozen BK2152.out 2; have hfz13_3 := blk_frozen BK2152.out 3) | ((with_reducible refine gate_callee (f := 25) rfl ?_); refine goesL_ (some 30) rfl rfl Try.func25 (by kernel_rfl) rfl #[.agg #[.int .i64 a0_0, .int .i64 a0_1, .slice A0_2 l0_2.length c0_2, .slice A0_3 l0_3.length c0_3], .int .i64 a1] rfl ar ?_; (with_reducible refine (gran_Behind.calls k a0_0 a0_1 _ _ l0_2 _ _ l0_3 a1 t2159 t2160 _ ?side1 ?side2 ?side3 ?side4 A6.out).mono ?_); (case side1 => exact kc (Kd.C_below HR0_2.out HB.out)); (case side2 => exact HC0_2.out); (case side3 => exact kc (Kd.C_below HR0_3.out HB.out)); (case side4 => exact HC0_3.out); rintro e w14 ⟨rfl, hb⟩; refine ⟨_, rfl, ?_⟩; replace HO2155 := am (Kd.R_below (kr HO2155.out) hb); replace BK2152 := am (blk_below (kp BK2152.out) hb); replace HB := am (below_step (bl1 HB.out GE2152.out) hb); (try clear hb); (try clear hb2); (try clear hk); (try clear hi)))
  (try simp only [Act.put, List.setIfInBounds_toArray, List.set_cons_zero, List.set_cons_succ])
  go_cut [11] (fun v11 wc => ∃ (kq : Nat) (x11_6 : List (S23)), Aside0 (gran_beside.j0 kq t2153 t2159 t2160 x11_6 ([] : List (S23)) a0_0 a0_1 l0_2 l0_3 = some r) ∧ Aside0 (kq ≤ k) ∧ Aside0 (Kd.R k23 23 wc w.heap.size (fun k_ => some k_ ≠ (v11 : Value).ownBlock ∧ some k_ ≠ ((.slice none 0 0) : Value).ownBlock) v2154 t2153) ∧ Aside0 (Kd.R k23 23 wc w.heap.size (fun k_ => some k_ ≠ (v2154 : Value).ownBlock ∧ some k_ ≠ ((.slice none 0 0) : Value).ownBlock) v11 x11_6) ∧ Aside0 (Kd.R k23 23 wc w.heap.size (fun k_ => some k_ ≠ (v2154 : Value).ownBlock ∧ some k_ ≠ (v11 : Value).ownBlock) (.slice none 0 0) ([] : List (S23))) ∧ Aside0 (wc.heap[gb2152]? = some (.cells #[.int .i64 a0_0, .int .i64 a0_1, (.slice A0_2 l0_2.length c0_2), (.slice A0_3 l0_3.length c0_3)] 28 (0, 0))) ∧ Aside0 (Below w.heap.size w wc))
  case first =>
   have H := HC7.out
   clear HC7
   by_cases c15 : t2158 = true
   ·subst c15
    have H1 : ((gran_Get.f k a0_0 a0_1 l0_2 l0_3 t2157).bind fun bt2161 => (if bt2161.2 = 0 then (gran_beside.j0 k t2153 t2159 t2160 bt2161.1 ([] : List (S23)) a0_0 a0_1 l0_2 l0_3) else (some false))) = some r := by rw [if_pos rfl] at H; exact H
    clear H
    have H := H1
    clear H1
    replace H := Option.bind_eq_some_iff.mp H
    obtain ⟨⟨t2161, t2164⟩, A160, H⟩ := H
    try dsimp only at H
    have A16 := am A160
    clear A160
    by_cases c17 : t2164 = 0
    ·rw [if_pos c17] at H
     have c17b0 : (t2164 == 0) = true := beq_iff_eq.mpr c17
     have c17b1 : (t2164 != 0) = false := bne_eq_false_iff_eq.mpr c17
     clear c17
     (first | rw [c17b0] | (simp only [i64_w, i32_w]; rw [c17b0]) | skip)
     have H' := am H
     clear H
     have hcz18_0 : w14.cell? ⟨gb2152, 0, none⟩ = some (.int .i64 a0_0) := bc BK2152.out 0
     have hcz18_1 : w14.cell? ⟨gb2152, 1, none⟩ = some (.int .i64 a0_1) := bc BK2152.out 1
     have hcz18_2 : w14.cell? ⟨gb2152, 2, none⟩ = some (.slice A0_2 l0_2.length c0_2) := bc BK2152.out 2
     have hcz18_3 : w14.cell? ⟨gb2152, 3, none⟩ = some (.slice A0_3 l0_3.length c0_3) := bc BK2152.out 3
     have hfz18_0 := blk_frozen BK2152.out 0
     have hfz18_1 := blk_frozen BK2152.out 1
     have hfz18_2 := blk_frozen BK2152.out 2
     have hfz18_3 := blk_frozen BK2152.out 3
     go_wp2_with (first | ((with_reducible refine gate_callee (f := 18) rfl ?_); refine goesL_ (some 37) rfl rfl Try.func18 (by kernel_rfl) rfl #[.agg #[.int .i64 a0_0, .int .i64 a0_1, .slice A0_2 l0_2.length c0_2, .slice A0_3 l0_3.length c0_3], .int .i64 t2157] rfl ar ?_; (with_reducible refine (gran_Get.calls k a0_0 a0_1 _ _ l0_2 _ _ l0_3 t2157 t2161 t2164 _ ?side1 ?side2 ?side3 ?side4 A16.out).mono ?_); (case side1 => exact kc (Kd.C_below HR0_2.out HB.out)); (case side2 => exact HC0_2.out); (case side3 => exact kc (Kd.C_below HR0_3.out HB.out)); (case side4 => exact HC0_3.out); rintro e w19 ⟨v2162, rfl, ho0, hb⟩; refine ⟨_, rfl, ?_⟩; have HO2163 := am (Kd.R_lower (Kd.R_new' ho0 (Kd.R_lt (kr HO2155.out))) (below_size (bl1 HB.out GE2152.out))); replace HO2155 := am (Kd.R_elder' (kr HO2155.out) (Kd.R_base ho0) hb); replace BK2152 := am (blk_below (kp BK2152.out) hb); replace HB := am (below_step (bl1 HB.out GE2152.out) hb); (try clear hb); (try clear hb2); (try clear hk); (try clear hi); (try clear ho0)))
     go_meet
     case rel => exact ⟨_, (t2161), H', ⟨by first | omega | exact Nat.le_refl _⟩, ⟨by (with_reducible repeat (first | apply Kd.R_alloc | apply Kd.R_drewN | apply Kd.R_drew)); exact Kd.R_mono HO2155.out (fun _ hk => ⟨hk.2, (by simp [Value.ownBlock])⟩)⟩, ⟨by (with_reducible repeat (first | apply Kd.R_alloc | apply Kd.R_drewN | apply Kd.R_drew)); exact Kd.R_mono HO2163.out (fun _ hk => ⟨hk.2, (by simp [Value.ownBlock])⟩)⟩, ⟨by first | exact Kd.R_nil _ _ _ _ _ | exact Kd.N_nil _ _ _ _ _ | exact Kd.V_nil _ _ _ _ _ | exact Kd.Q_nil _ _ _ _ _ | exact Kd.S_nil _ _ _ _ _⟩, ⟨kp BK2152.out⟩, ⟨bl1 HB.out GE2152.out⟩⟩
    ·rw [if_neg c17] at H
     have c17b0 : (t2164 == 0) = false := beq_eq_false_iff_ne.mpr c17
     have c17b1 : (t2164 != 0) = true := bne_iff_ne.mpr c17
     (first | rw [c17b0] | (simp only [i64_w, i32_w]; rw [c17b0]) | skip)
     obtain rfl := Option.some.inj H
     have hcz20_0 : w14.cell? ⟨gb2152, 0, none⟩ = some (.int .i64 a0_0) := bc BK2152.out 0
     have hcz20_1 : w14.cell? ⟨gb2152, 1, none⟩ = some (.int .i64 a0_1) := bc BK2152.out 1
     have hcz20_2 : w14.cell? ⟨gb2152, 2, none⟩ = some (.slice A0_2 l0_2.length c0_2) := bc BK2152.out 2
     have hcz20_3 : w14.cell? ⟨gb2152, 3, none⟩ = some (.slice A0_3 l0_3.length c0_3) := bc BK2152.out 3
     have hfz20_0 := blk_frozen BK2152.out 0
     have hfz20_1 := blk_frozen BK2152.out 1
     have hfz20_2 := blk_frozen BK2152.out 2
     have hfz20_3 := blk_frozen BK2152.out 3
     go_wp2_with (first | ((with_reducible refine gate_callee (f := 18) rfl ?_); refine goesL_ (some 37) rfl rfl Try.func18 (by kernel_rfl) rfl #[.agg #[.int .i64 a0_0, .int .i64 a0_1, .slice A0_2 l0_2.length c0_2, .slice A0_3 l0_3.length c0_3], .int .i64 t2157] rfl ar ?_; (with_reducible refine (gran_Get.calls k a0_0 a0_1 _ _ l0_2 _ _ l0_3 t2157 t2161 t2164 _ ?side1 ?side2 ?side3 ?side4 A16.out).mono ?_); (case side1 => exact kc (Kd.C_below HR0_2.out HB.out)); (case side2 => exact HC0_2.out); (case side3 => exact kc (Kd.C_below HR0_3.out HB.out)); (case side4 => exact HC0_3.out); rintro e w21 ⟨v2162, rfl, ho0, hb⟩; refine ⟨_, rfl, ?_⟩; have HO2163 := am (Kd.R_lower (Kd.R_new' ho0 (Kd.R_lt (kr HO2155.out))) (below_size (bl1 HB.out GE2152.out))); replace HO2155 := am (Kd.R_elder' (kr HO2155.out) (Kd.R_base ho0) hb); replace BK2152 := am (blk_below (kp BK2152.out) hb); replace HB := am (below_step (bl1 HB.out GE2152.out) hb); (try clear hb); (try clear hb2); (try clear hk); (try clear hi); (try clear ho0)))
     go_ret
     exact ⟨rt, bl1 HB.out GE2152.out⟩
   ·replace c15 := Bool.eq_false_iff.mpr c15
    subst c15
    have H1 : (gran_beside.j0 k t2153 t2159 t2160 ([] : List (S23)) ([] : List (S23)) a0_0 a0_1 l0_2 l0_3) = some r := by rw [if_neg (show ¬ (false = true) by decide)] at H; exact H
    clear H
    have H := H1
    clear H1
    have H' := am H
    clear H
    go_wp2
    go_meet
    case rel => exact ⟨_, (([] : List (S23))), H', ⟨by first | omega | exact Nat.le_refl _⟩, ⟨by (with_reducible repeat (first | apply Kd.R_alloc | apply Kd.R_drewN | apply Kd.R_drew)); exact Kd.R_mono HO2155.out (fun _ hk => ⟨(by simp [Value.ownBlock]), (by simp [Value.ownBlock])⟩)⟩, ⟨by first | exact Kd.R_nil _ _ _ _ _ | exact Kd.N_nil _ _ _ _ _ | exact Kd.V_nil _ _ _ _ _ | exact Kd.Q_nil _ _ _ _ _ | exact Kd.S_nil _ _ _ _ _⟩, ⟨by first | exact Kd.R_nil _ _ _ _ _ | exact Kd.N_nil _ _ _ _ _ | exact Kd.V_nil _ _ _ _ _ | exact Kd.Q_nil _ _ _ _ _ | exact Kd.S_nil _ _ _ _ _⟩, ⟨kp BK2152.out⟩, ⟨bl1 HB.out GE2152.out⟩⟩
  case rest =>
   clear HC7
   try clear c1
   try clear c2
   try clear p2
   try clear c4
   try clear c4b0
   try clear c4b1
   try clear c8
   try clear c9
   try clear c15
   try clear c17
   try clear c17b0
   try clear c17b1
   try clear c18
   try clear hcz11_0
   try clear hcz11_1
   try clear hcz11_2
   try clear hcz11_3
   try clear hcz13_0
   try clear hcz13_1
   try clear hcz13_2
   try clear hcz13_3
   try clear hcz18_0
   try clear hcz18_1
   try clear hcz18_2
   try clear hcz18_3
   try clear hcz20_0
   try clear hcz20_1
   try clear hcz20_2
   try clear hcz20_3
   try clear hcz9_0
   try clear hcz9_1
   try clear hcz9_2
   try clear hcz9_3
   try clear hfz11_0
   try clear hfz11_1
   try clear hfz11_2
   try clear hfz11_3
   try clear hfz13_0
   try clear hfz13_1
   try clear hfz13_2
   try clear hfz13_3
   try clear hfz18_0
   try clear hfz18_1
   try clear hfz18_2
   try clear hfz18_3
   try clear hfz20_0
   try clear hfz20_1
   try clear hfz20_2
   try clear hfz20_3
   try clear hfz9_0
   try clear hfz9_1
   try clear hfz9_2
   try clear hfz9_3
   obtain ⟨kq, x11_6, HA, HJ6, HO_5, HO_11, HO_12, BK2152, HB⟩ := hcut
   cases kq with
   | zero => exact absurd HA.out (by simp [gran_beside.j0])
   | succ kj6 =>
    have H := HA.out
    clear HA
    simp only [gran_beside.j0] at H
    by_cases c22 : t2160 = true
    ·subst c22
     have H1 : ((gran_Get.f kj6 a0_0 a0_1 l0_2 l0_3 t2159).bind fun bt2165 => (if bt2165.2 = 0 then ((spans_Ahead.f x11_6 t2153).bind fun t2169 => (if t2169 = true then ((spans_Ahead.f t2153 bt2165.1).bind fun t2170 => (if t2170 = true then ((spans_Ahead.f x11_6 bt2165.1).bind fun t2171 => (some t2171)) else (some false))) else (some false))) else (some false))) = some r := by rw [if_pos rfl] at H; exact H
     clear H
     have H := H1
     clear H1
     replace H := Option.bind_eq_some_iff.mp H
     obtain ⟨⟨t2165, t2168⟩, A230, H⟩ := H
     try dsimp only at H
     have A23 := am A230
     clear A230
     by_cases c24 : t2168 = 0
     ·rw [if_pos c24] at H
      have c24b0 : (t2168 == 0) = true := beq_iff_eq.mpr c24
      have c24b1 : (t2168 != 0) = false := bne_eq_false_iff_eq.mpr c24
      clear c24
      replace H := Option.bind_eq_some_iff.mp H
      obtain ⟨t2169, A250, H⟩ := H
      try dsimp only at H
      have A25 := am A250
      clear A250
      by_cases c26 : t2169 = true
      ·subst c26
       have H1 : ((spans_Ahead.f t2153 t2165).bind fun t2170 => (if t2170 = true then ((spans_Ahead.f x11_6 t2165).bind fun t2171 => (some t2171)) else (some false))) = some r := by rw [if_pos rfl] at H; exact H
       clear H
       have H := H1
       clear H1
       replace H := Option.bind_eq_some_iff.mp H
       obtain ⟨t2170, A270, H⟩ := H
       try dsimp only at H
       have A27 := am A270
       clear A270
       by_cases c28 : t2170 = true
       ·subst c28
        have H1 : ((spans_Ahead.f x11_6 t2165).bind fun t2171 => (some t2171)) = some r := by rw [if_pos rfl] at H; exact H
        clear H
        have H := H1
        clear H1
        replace H := Option.bind_eq_some_iff.mp H
        obtain ⟨t2171, A290, H⟩ := H
        try dsimp only at H
        have A29 := am A290
        clear A290
        obtain rfl := Option.some.inj H
        have hcz30_0 : wc.cell? ⟨gb2152, 0, none⟩ = some (.int .i64 a0_0) := bc BK2152.out 0
        have hcz30_1 : wc.cell? ⟨gb2152, 1, none⟩ = some (.int .i64 a0_1) := bc BK2152.out 1
        have hcz30_2 : wc.cell? ⟨gb2152, 2, none⟩ = some (.slice A0_2 l0_2.length c0_2) := bc BK2152.out 2
        have hcz30_3 : wc.cell? ⟨gb2152, 3, none⟩ = some (.slice A0_3 l0_3.length c0_3) := bc BK2152.out 3
        have hfz30_0 := blk_frozen BK2152.out 0
        have hfz30_1 := blk_frozen BK2152.out 1
        have hfz30_2 := blk_frozen BK2152.out 2
        have hfz30_3 := blk_frozen BK2152.out 3
        go_wp2_with (first | ((with_reducible refine gate_callee (f := 18) rfl ?_); refine goesL_ (some 46) rfl rfl Try.func18 (by kernel_rfl) rfl #[.agg #[.int .i64 a0_0, .int .i64 a0_1, .slice A0_2 l0_2.length c0_2, .slice A0_3 l0_3.length c0_3], .int .i64 t2159] rfl ar ?_; (with_reducible refine (gran_Get.calls kj6 a0_0 a0_1 _ _ l0_2 _ _ l0_3 t2159 t2165 t2168 _ ?side1 ?side2 ?side3 ?side4 A23.out).mono ?_); (case side1 => exact kc (Kd.C_below HR0_2.out HB.out)); (case side2 => exact HC0_2.out); (case side3 => exact kc (Kd.C_below HR0_3.out HB.out)); (case side4 => exact HC0_3.out); rintro e w31 ⟨v2166, rfl, ho0, hb⟩; refine ⟨_, rfl, ?_⟩; have HO2167 := am (Kd.R_lower (Kd.R_new' (Kd.R_new' (Kd.R_new' ho0 (Kd.R_lt (kr HO_5.out))) (Kd.R_lt (kr HO_11.out))) (Kd.R_lt (kr HO_12.out))) (below_size (bl1 HB.out GE2152.out))); replace HO_5 := am (Kd.R_elder' (kr HO_5.out) (Kd.R_base ho0) hb); replace HO_11 := am (Kd.R_elder' (kr HO_11.out) (Kd.R_base ho0) hb); replace HO_12 := am (Kd.R_elder' (kr HO_12.out) (Kd.R_base ho0) hb); replace BK2152 := am (blk_below (kp BK2152.out) hb); replace HB := am (below_step (bl1 HB.out GE2152.out) hb); (try clear hb); (try clear hb2); (try clear hk); (try clear hi); (try clear ho0); obtain ⟨Ao32, co32, eo32⟩ := Kd.R_slice HO_11.out; subst eo32; obtain ⟨Ao33, co33, eo33⟩ := Kd.R_slice HO_5.out; subst eo33) | ((with_reducible refine gate_callee (f := 42) rfl ?_); refine goesL_ (some 53) rfl rfl Try.func42 (by kernel_rfl) rfl #[.slice Ao32 x11_6.length co32, .slice Ao33 t2153.length co33] rfl ar ?_; (with_reducible refine (spans_Ahead.calls _ _ x11_6 _ _ t2153 true _ ?side1 ?side2 ?side3 ?side4 A25.out).mono ?_); (case side1 => exact kc (Kd.R_reads' HO_11.out).2.2); (case side2 => exact (Kd.R_reads' HO_11.out).2.1); (case side3 => exact kc (Kd.R_reads' HO_5.out).2.2); (case side4 => exact (Kd.R_reads' HO_5.out).2.1); rintro e w' ⟨rfl, ⟨nd, rfl⟩⟩; refine ⟨_, rfl, ?_⟩; obtain ⟨Ao34, co34, eo34⟩ := Kd.R_slice HO2167.out; subst eo34) | (go_at_call 42; (with_reducible refine (spans_Ahead.calls _ _ t2153 _ _ t2165 true _ ?side1 ?side2 ?side3 ?side4 A27.out).mono ?_); (case side1 => exact kc (Kd.R_reads' HO_5.out).2.2); (case side2 => exact (Kd.R_reads' HO_5.out).2.1); (case side3 => exact kc (Kd.R_reads' HO2167.out).2.2); (case side4 => exact (Kd.R_reads' HO2167.out).2.1); rintro e w' ⟨rfl, ⟨nd, rfl⟩⟩) | (go_at_call 42; (with_reducible refine (spans_Ahead.calls _ _ x11_6 _ _ t2165 t2171 _ ?side1 ?side2 ?side3 ?side4 A29.out).mono ?_); (case side1 => exact kc (Kd.R_reads' HO_11.out).2.2); (case side2 => exact (Kd.R_reads' HO_11.out).2.1); (case side3 => exact kc (Kd.R_reads' HO2167.out).2.2); (case side4 => exact (Kd.R_reads' HO2167.out).2.1); rintro e w' ⟨rfl, ⟨nd, rfl⟩⟩))
        go_ret
        exact ⟨rt, bl1 HB.out GE2152.out⟩
       ·replace c28 := Bool.eq_false_iff.mpr c28
        subst c28
        have H1 : (some false) = some r := by rw [if_neg (show ¬ (false = true) by decide)] at H; exact H
        clear H
        have H := H1
        clear H1
        obtain rfl := Option.some.inj H
        have hcz35_0 : wc.cell? ⟨gb2152, 0, none⟩ = some (.int .i64 a0_0) := bc BK2152.out 0
        have hcz35_1 : wc.cell? ⟨gb2152, 1, none⟩ = some (.int .i64 a0_1) := bc BK2152.out 1
        have hcz35_2 : wc.cell? ⟨gb2152, 2, none⟩ = some (.slice A0_2 l0_2.length c0_2) := bc BK2152.out 2
        have hcz35_3 : wc.cell? ⟨gb2152, 3, none⟩ = some (.slice A0_3 l0_3.length c0_3) := bc BK2152.out 3
        have hfz35_0 := blk_frozen BK2152.out 0
        have hfz35_1 := blk_frozen BK2152.out 1
        have hfz35_2 := blk_frozen BK2152.out 2
        have hfz35_3 := blk_frozen BK2152.out 3
        go_wp2_with (first | ((with_reducible refine gate_callee (f := 18) rfl ?_); refine goesL_ (some 46) rfl rfl Try.func18 (by kernel_rfl) rfl #[.agg #[.int .i64 a0_0, .int .i64 a0_1, .slice A0_2 l0_2.length c0_2, .slice A0_3 l0_3.length c0_3], .int .i64 t2159] rfl ar ?_; (with_reducible refine (gran_Get.calls kj6 a0_0 a0_1 _ _ l0_2 _ _ l0_3 t2159 t2165 t2168 _ ?side1 ?side2 ?side3 ?side4 A23.out).mono ?_); (case side1 => exact kc (Kd.C_below HR0_2.out HB.out)); (case side2 => exact HC0_2.out); (case side3 => exact kc (Kd.C_below HR0_3.out HB.out)); (case side4 => exact HC0_3.out); rintro e w36 ⟨v2166, rfl, ho0, hb⟩; refine ⟨_, rfl, ?_⟩; have HO2167 := am (Kd.R_lower (Kd.R_new' (Kd.R_new' (Kd.R_new' ho0 (Kd.R_lt (kr HO_5.out))) (Kd.R_lt (kr HO_11.out))) (Kd.R_lt (kr HO_12.out))) (below_size (bl1 HB.out GE2152.out))); replace HO_5 := am (Kd.R_elder' (kr HO_5.out) (Kd.R_base ho0) hb); replace HO_11 := am (Kd.R_elder' (kr HO_11.out) (Kd.R_base ho0) hb); replace HO_12 := am (Kd.R_elder' (kr HO_12.out) (Kd.R_base ho0) hb); replace BK2152 := am (blk_below (kp BK2152.out) hb); replace HB := am (below_step (bl1 HB.out GE2152.out) hb); (try clear hb); (try clear hb2); (try clear hk); (try clear hi); (try clear ho0); obtain ⟨Ao37, co37, eo37⟩ := Kd.R_slice HO_11.out; subst eo37; obtain ⟨Ao38, co38, eo38⟩ := Kd.R_slice HO_5.out; subst eo38) | ((with_reducible refine gate_callee (f := 42) rfl ?_); refine goesL_ (some 53) rfl rfl Try.func42 (by kernel_rfl) rfl #[.slice Ao37 x11_6.length co37, .slice Ao38 t2153.length co38] rfl ar ?_; (with_reducible refine (spans_Ahead.calls _ _ x11_6 _ _ t2153 true _ ?side1 ?side2 ?side3 ?side4 A25.out).mono ?_); (case side1 => exact kc (Kd.R_reads' HO_11.out).2.2); (case side2 => exact (Kd.R_reads' HO_11.out).2.1); (case side3 => exact kc (Kd.R_reads' HO_5.out).2.2); (case side4 => exact (Kd.R_reads' HO_5.out).2.1); rintro e w' ⟨rfl, ⟨nd, rfl⟩⟩; refine ⟨_, rfl, ?_⟩; obtain ⟨Ao39, co39, eo39⟩ := Kd.R_slice HO2167.out; subst eo39) | (go_at_call 42; (with_reducible refine (spans_Ahead.calls _ _ t2153 _ _ t2165 false _ ?side1 ?side2 ?side3 ?side4 A27.out).mono ?_); (case side1 => exact kc (Kd.R_reads' HO_5.out).2.2); (case side2 => exact (Kd.R_reads' HO_5.out).2.1); (case side3 => exact kc (Kd.R_reads' HO2167.out).2.2); (case side4 => exact (Kd.R_reads' HO2167.out).2.1); rintro e w' ⟨rfl, ⟨nd, rfl⟩⟩))
        go_ret
        exact ⟨rt, bl1 HB.out GE2152.out⟩
      ·replace c26 := Bool.eq_false_iff.mpr c26
       subst c26
       have H1 : (some false) = some r := by rw [if_neg (show ¬ (false = true) by decide)] at H; exact H
       clear H
       have H := H1
       clear H1
       obtain rfl := Option.some.inj H
       have hcz40_0 : wc.cell? ⟨gb2152, 0, none⟩ = some (.int .i64 a0_0) := bc BK2152.out 0
       have hcz40_1 : wc.cell? ⟨gb2152, 1, none⟩ = some (.int .i64 a0_1) := bc BK2152.out 1
       have hcz40_2 : wc.cell? ⟨gb2152, 2, none⟩ = some (.slice A0_2 l0_2.length c0_2) := bc BK2152.out 2
       have hcz40_3 : wc.cell? ⟨gb2152, 3, none⟩ = some (.slice A0_3 l0_3.length c0_3) := bc BK2152.out 3
       have hfz40_0 := blk_frozen BK2152.out 0
       have hfz40_1 := blk_frozen BK2152.out 1
       have hfz40_2 := blk_frozen BK2152.out 2
       have hfz40_3 := blk_frozen BK2152.out 3
       go_wp2_with (first | ((with_reducible refine gate_callee (f := 18) rfl ?_); refine goesL_ (some 46) rfl rfl Try.func18 (by kernel_rfl) rfl #[.agg #[.int .i64 a0_0, .int .i64 a0_1, .slice A0_2 l0_2.length c0_2, .slice A0_3 l0_3.length c0_3], .int .i64 t2159] rfl ar ?_; (with_reducible refine (gran_Get.calls kj6 a0_0 a0_1 _ _ l0_2 _ _ l0_3 t2159 t2165 t2168 _ ?side1 ?side2 ?side3 ?side4 A23.out).mono ?_); (case side1 => exact kc (Kd.C_below HR0_2.out HB.out)); (case side2 => exact HC0_2.out); (case side3 => exact kc (Kd.C_below HR0_3.out HB.out)); (case side4 => exact HC0_3.out); rintro e w41 ⟨v2166, rfl, ho0, hb⟩; refine ⟨_, rfl, ?_⟩; have HO2167 := am (Kd.R_lower (Kd.R_new' (Kd.R_new' (Kd.R_new' ho0 (Kd.R_lt (kr HO_5.out))) (Kd.R_lt (kr HO_11.out))) (Kd.R_lt (kr HO_12.out))) (below_size (bl1 HB.out GE2152.out))); replace HO_5 := am (Kd.R_elder' (kr HO_5.out) (Kd.R_base ho0) hb); replace HO_11 := am (Kd.R_elder' (kr HO_11.out) (Kd.R_base ho0) hb); replace HO_12 := am (Kd.R_elder' (kr HO_12.out) (Kd.R_base ho0) hb); replace BK2152 := am (blk_below (kp BK2152.out) hb); replace HB := am (below_step (bl1 HB.out GE2152.out) hb); (try clear hb); (try clear hb2); (try clear hk); (try clear hi); (try clear ho0); obtain ⟨Ao42, co42, eo42⟩ := Kd.R_slice HO_11.out; subst eo42; obtain ⟨Ao43, co43, eo43⟩ := Kd.R_slice HO_5.out; subst eo43) | ((with_reducible refine gate_callee (f := 42) rfl ?_); refine goesL_ (some 53) rfl rfl Try.func42 (by kernel_rfl) rfl #[.slice Ao42 x11_6.length co42, .slice Ao43 t2153.length co43] rfl ar ?_; (with_reducible refine (spans_Ahead.calls _ _ x11_6 _ _ t2153 false _ ?side1 ?side2 ?side3 ?side4 A25.out).mono ?_); (case side1 => exact kc (Kd.R_reads' HO_11.out).2.2); (case side2 => exact (Kd.R_reads' HO_11.out).2.1); (case side3 => exact kc (Kd.R_reads' HO_5.out).2.2); (case side4 => exact (Kd.R_reads' HO_5.out).2.1); rintro e w' ⟨rfl, ⟨nd, rfl⟩⟩; refine ⟨_, rfl, ?_⟩))
       go_ret
       exact ⟨rt, bl1 HB.out GE2152.out⟩
     ·rw [if_neg c24] at H
      have c24b0 : (t2168 == 0) = false := beq_eq_false_iff_ne.mpr c24
      have c24b1 : (t2168 != 0) = true := bne_iff_ne.mpr c24
      obtain rfl := Option.some.inj H
      have hcz44_0 : wc.cell? ⟨gb2152, 0, none⟩ = some (.int .i64 a0_0) := bc BK2152.out 0
      have hcz44_1 : wc.cell? ⟨gb2152, 1, none⟩ = some (.int .i64 a0_1) := bc BK2152.out 1
      have hcz44_2 : wc.cell? ⟨gb2152, 2, none⟩ = some (.slice A0_2 l0_2.length c0_2) := bc BK2152.out 2
      have hcz44_3 : wc.cell? ⟨gb2152, 3, none⟩ = some (.slice A0_3 l0_3.length c0_3) := bc BK2152.out 3
      have hfz44_0 := blk_frozen BK2152.out 0
      have hfz44_1 := blk_frozen BK2152.out 1
      have hfz44_2 := blk_frozen BK2152.out 2
      have hfz44_3 := blk_frozen BK2152.out 3
      go_wp2_with (first | ((with_reducible refine gate_callee (f := 18) rfl ?_); refine goesL_ (some 46) rfl rfl Try.func18 (by kernel_rfl) rfl #[.agg #[.int .i64 a0_0, .int .i64 a0_1, .slice A0_2 l0_2.length c0_2, .slice A0_3 l0_3.length c0_3], .int .i64 t2159] rfl ar ?_; (with_reducible refine (gran_Get.calls kj6 a0_0 a0_1 _ _ l0_2 _ _ l0_3 t2159 t2165 t2168 _ ?side1 ?side2 ?side3 ?side4 A23.out).mono ?_); (case side1 => exact kc (Kd.C_below HR0_2.out HB.out)); (case side2 => exact HC0_2.out); (case side3 => exact kc (Kd.C_below HR0_3.out HB.out)); (case side4 => exact HC0_3.out); rintro e w45 ⟨v2166, rfl, ho0, hb⟩; refine ⟨_, rfl, ?_⟩; have HO2167 := am (Kd.R_lower (Kd.R_new' (Kd.R_new' (Kd.R_new' ho0 (Kd.R_lt (kr HO_5.out))) (Kd.R_lt (kr HO_11.out))) (Kd.R_lt (kr HO_12.out))) (below_size (bl1 HB.out GE2152.out))); replace HO_5 := am (Kd.R_elder' (kr HO_5.out) (Kd.R_base ho0) hb); replace HO_11 := am (Kd.R_elder' (kr HO_11.out) (Kd.R_base ho0) hb); replace HO_12 := am (Kd.R_elder' (kr HO_12.out) (Kd.R_base ho0) hb); replace BK2152 := am (blk_below (kp BK2152.out) hb); replace HB := am (below_step (bl1 HB.out GE2152.out) hb); (try clear hb); (try clear hb2); (try clear hk); (try clear hi); (try clear ho0)))
      go_ret
      exact ⟨rt, bl1 HB.out GE2152.out⟩
    ·replace c22 := Bool.eq_false_iff.mpr c22
     subst c22
     have H1 : ((spans_Ahead.f x11_6 t2153).bind fun t2172 => (if t2172 = true then ((spans_Ahead.f t2153 ([] : List (S23))).bind fun t2173 => (if t2173 = true then ((spans_Ahead.f x11_6 ([] : List (S23))).bind fun t2174 => (some t2174)) else (some false))) else (some false))) = some r := by rw [if_neg (show ¬ (false = true) by decide)] at H; exact H
     clear H
     have H := H1
     clear H1
     replace H := Option.bind_eq_some_iff.mp H
     obtain ⟨t2172, A460, H⟩ := H
     try dsimp only at H
     have A46 := am A460
     clear A460
     by_cases c47 : t2172 = true
     ·subst c47
      have H1 : ((spans_Ahead.f t2153 ([] : List (S23))).bind fun t2173 => (if t2173 = true then ((spans_Ahead.f x11_6 ([] : List (S23))).bind fun t2174 => (some t2174)) else (some false))) = some r := by rw [if_pos rfl] at H; exact H
      clear H
      have H := H1
      clear H1
      replace H := Option.bind_eq_some_iff.mp H
      obtain ⟨t2173, A480, H⟩ := H
      try dsimp only at H
      have A48 := am A480
      clear A480
      by_cases c49 : t2173 = true
      ·subst c49
       have H1 : ((spans_Ahead.f x11_6 ([] : List (S23))).bind fun t2174 => (some t2174)) = some r := by rw [if_pos rfl] at H; exact H
       clear H
       have H := H1
       clear H1
       replace H := Option.bind_eq_some_iff.mp H
       obtain ⟨t2174, A500, H⟩ := H
       try dsimp only at H
       have A50 := am A500
       clear A500
       obtain rfl := Option.some.inj H
       obtain ⟨Ao51, co51, eo51⟩ := Kd.R_slice HO_11.out
       subst eo51
       obtain ⟨Ao52, co52, eo52⟩ := Kd.R_slice HO_5.out
       subst eo52
       go_wp2_with (first | ((with_reducible refine gate_callee (f := 42) rfl ?_); refine goesL_ (some 53) rfl rfl Try.func42 (by kernel_rfl) rfl #[.slice Ao51 x11_6.length co51, .slice Ao52 t2153.length co52] rfl ar ?_; (with_reducible refine (spans_Ahead.calls _ _ x11_6 _ _ t2153 true _ ?side1 ?side2 ?side3 ?side4 A46.out).mono ?_); (case side1 => exact kc (Kd.R_reads' HO_11.out).2.2); (case side2 => exact (Kd.R_reads' HO_11.out).2.1); (case side3 => exact kc (Kd.R_reads' HO_5.out).2.2); (case side4 => exact (Kd.R_reads' HO_5.out).2.1); rintro e w' ⟨rfl, ⟨nd, rfl⟩⟩; refine ⟨_, rfl, ?_⟩) | (go_at_call 42; refine calls_of_args (args' := #[.slice Ao52 t2153.length co52, .slice none ([] : List (S23)).length 0]) (by first | (rw [show ([] : List (S23)).length = 0 from (Kd.R_reads' HO_12.out).1.symm] <;> rfl) | rfl) ?_; (with_reducible refine (spans_Ahead.calls _ _ t2153 _ _ ([] : List (S23)) true _ ?side1 ?side2 ?side3 ?side4 A48.out).mono ?_); (case side1 => exact kc (Kd.R_reads' HO_5.out).2.2); (case side2 => exact (Kd.R_reads' HO_5.out).2.1); (case side3 => exact kc (Kd.R_reads' HO_12.out).2.2); (case side4 => rw [show ([] : List (S23)).length = 0 from (Kd.R_reads' HO_12.out).1.symm]; exact (Kd.R_reads' HO_12.out).2.1); rintro e w' ⟨rfl, ⟨nd, rfl⟩⟩) | (go_at_call 42; refine calls_of_args (args' := #[.slice Ao51 x11_6.length co51, .slice none ([] : List (S23)).length 0]) (by first | (rw [show ([] : List (S23)).length = 0 from (Kd.R_reads' HO_12.out).1.symm] <;> rfl) | rfl) ?_; (with_reducible refine (spans_Ahead.calls _ _ x11_6 _ _ ([] : List (S23)) t2174 _ ?side1 ?side2 ?side3 ?side4 A50.out).mono ?_); (case side1 => exact kc (Kd.R_reads' HO_11.out).2.2); (case side2 => exact (Kd.R_reads' HO_11.out).2.1); (case side3 => exact kc (Kd.R_reads' HO_12.out).2.2); (case side4 => rw [show ([] : List (S23)).length = 0 from (Kd.R_reads' HO_12.out).1.symm]; exact (Kd.R_reads' HO_12.out).2.1); rintro e w' ⟨rfl, ⟨nd, rfl⟩⟩))
       go_ret
       exact ⟨rt, bl1 HB.out GE2152.out⟩
      ·replace c49 := Bool.eq_false_iff.mpr c49
       subst c49
       have H1 : (some false) = some r := by rw [if_neg (show ¬ (false = true) by decide)] at H; exact H
       clear H
       have H := H1
       clear H1
       obtain rfl := Option.some.inj H
       obtain ⟨Ao53, co53, eo53⟩ := Kd.R_slice HO_11.out
       subst eo53
       obtain ⟨Ao54, co54, eo54⟩ := Kd.R_slice HO_5.out
       subst eo54
       go_wp2_with (first | ((with_reducible refine gate_callee (f := 42) rfl ?_); refine goesL_ (some 53) rfl rfl Try.func42 (by kernel_rfl) rfl #[.slice Ao53 x11_6.length co53, .slice Ao54 t2153.length co54] rfl ar ?_; (with_reducible refine (spans_Ahead.calls _ _ x11_6 _ _ t2153 true _ ?side1 ?side2 ?side3 ?side4 A46.out).mono ?_); (case side1 => exact kc (Kd.R_reads' HO_11.out).2.2); (case side2 => exact (Kd.R_reads' HO_11.out).2.1); (case side3 => exact kc (Kd.R_reads' HO_5.out).2.2); (case side4 => exact (Kd.R_reads' HO_5.out).2.1); rintro e w' ⟨rfl, ⟨nd, rfl⟩⟩; refine ⟨_, rfl, ?_⟩) | (go_at_call 42; refine calls_of_args (args' := #[.slice Ao54 t2153.length co54, .slice none ([] : List (S23)).length 0]) (by first | (rw [show ([] : List (S23)).length = 0 from (Kd.R_reads' HO_12.out).1.symm] <;> rfl) | rfl) ?_; (with_reducible refine (spans_Ahead.calls _ _ t2153 _ _ ([] : List (S23)) false _ ?side1 ?side2 ?side3 ?side4 A48.out).mono ?_); (case side1 => exact kc (Kd.R_reads' HO_5.out).2.2); (case side2 => exact (Kd.R_reads' HO_5.out).2.1); (case side3 => exact kc (Kd.R_reads' HO_12.out).2.2); (case side4 => rw [show ([] : List (S23)).length = 0 from (Kd.R_reads' HO_12.out).1.symm]; exact (Kd.R_reads' HO_12.out).2.1); rintro e w' ⟨rfl, ⟨nd, rfl⟩⟩))
       go_ret
       exact ⟨rt, bl1 HB.out GE2152.out⟩
     ·replace c47 := Bool.eq_false_iff.mpr c47
      subst c47
      have H1 : (some false) = some r := by rw [if_neg (show ¬ (false = true) by decide)] at H; exact H
      clear H
      have H := H1
      clear H1
      obtain rfl := Option.some.inj H
      obtain ⟨Ao55, co55, eo55⟩ := Kd.R_slice HO_11.out
      subst eo55
      obtain ⟨Ao56, co56, eo56⟩ := Kd.R_slice HO_5.out
      subst eo56
      go_wp2_with (first | ((with_reducible refine gate_callee (f := 42) rfl ?_); refine goesL_ (some 53) rfl rfl Try.func42 (by kernel_rfl) rfl #[.slice Ao55 x11_6.length co55, .slice Ao56 t2153.length co56] rfl ar ?_; (with_reducible refine (spans_Ahead.calls _ _ x11_6 _ _ t2153 false _ ?side1 ?side2 ?side3 ?side4 A46.out).mono ?_); (case side1 => exact kc (Kd.R_reads' HO_11.out).2.2); (case side2 => exact (Kd.R_reads' HO_11.out).2.1); (case side3 => exact kc (Kd.R_reads' HO_5.out).2.2); (case side4 => exact (Kd.R_reads' HO_5.out).2.1); rintro e w' ⟨rfl, ⟨nd, rfl⟩⟩; refine ⟨_, rfl, ?_⟩))
      go_ret
      exact ⟨rt, bl1 HB.out GE2152.out⟩
 ·rw [if_neg c4] at H
  have c4b0 : (t2156 == 0) = false := beq_eq_false_iff_ne.mpr c4
  have c4b1 : (t2156 != 0) = true := bne_iff_ne.mpr c4
  obtain rfl := Option.some.inj H
  go_enter Try.func83, Try.ntmps83
  go_wp2_with (first | ((with_reducible refine gate_dst (N := 2) rfl ?_); refine bx 2 28 #[.int .i64 a0_0, .int .i64 a0_1, .slice A0_2 l0_2.length c0_2, .slice A0_3 l0_3.length c0_3] ?_; intro gb2152 hg w57 hbox hb; have BK2152 := am (hbox); have GW2152 := am ((bz hg HB.out : w.heap.size ≤ gb2152)); have GE2152 := am ((bz hg HB.out : w.heap.size ≤ gb2152)); replace HB := am (below_step (bl HB.out) hb); clear hb hbox hg; have hcz58_0 : w57.cell? ⟨gb2152, 0, none⟩ = some (.int .i64 a0_0) := bc BK2152.out 0; have hcz58_1 : w57.cell? ⟨gb2152, 1, none⟩ = some (.int .i64 a0_1) := bc BK2152.out 1; have hcz58_2 : w57.cell? ⟨gb2152, 2, none⟩ = some (.slice A0_2 l0_2.length c0_2) := bc BK2152.out 2; have hcz58_3 : w57.cell? ⟨gb2152, 3, none⟩ = some (.slice A0_3 l0_3.length c0_3) := bc BK2152.out 3; have hfz58_0 := blk_frozen BK2152.out 0; have hfz58_1 := blk_frozen BK2152.out 1; have hfz58_2 := blk_frozen BK2152.out 2; have hfz58_3 := blk_frozen BK2152.out 3) | ((with_reducible refine gate_callee (f := 18) rfl ?_); refine goesL_ (some 16) rfl rfl Try.func18 (by kernel_rfl) rfl #[.agg #[.int .i64 a0_0, .int .i64 a0_1, .slice A0_2 l0_2.length c0_2, .slice A0_3 l0_3.length c0_3], .int .i64 a1] rfl ar ?_; (with_reducible refine (gran_Get.calls k a0_0 a0_1 _ _ l0_2 _ _ l0_3 a1 t2153 t2156 _ ?side1 ?side2 ?side3 ?side4 A3.out).mono ?_); (case side1 => exact kc (Kd.C_below HR0_2.out HB.out)); (case side2 => exact HC0_2.out); (case side3 => exact kc (Kd.C_below HR0_3.out HB.out)); (case side4 => exact HC0_3.out); rintro e w59 ⟨v2154, rfl, ho0, hb⟩; refine ⟨_, rfl, ?_⟩; have HO2155 := am (Kd.R_lower ho0 (below_size (bl1 HB.out GE2152.out))); replace BK2152 := am (blk_below (kp BK2152.out) hb); replace HB := am (below_step (bl1 HB.out GE2152.out) hb); (try clear hb); (try clear hb2); (try clear hk); (try clear hi); (try clear ho0)))
  go_ret
  exact ⟨rt, bl1 HB.out GE2152.out⟩

end Go.Proofs.Ytmbmalkpmanaaaa.P


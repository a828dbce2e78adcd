/- Lemmas for the law FindRises: what the functions that it reaches compute. No condition of its own. -/
import Derived.Test.YtmbmalkpmanaaaaYFindRises4
import Derived.Laws.EntriesVeiled
import Derived.WalkSpells
import Derived.Outline
import Derived.Test.YtmbmalkpmanaaaaYFindRises2
import Derived.WalkKit
import Derived.OwnWalk
import Derived.BigQuiet
import Derived.RangeFuncNested
import Derived.RangeFuncBox
import Derived.RangeFuncLeaves
import Derived.RangeFuncCalls
import Derived.Shelf.Abstract
import Derived.Sort.LoopGhostIn
import Derived.Sort.QuietTacIn
import Derived.Sort.BigQuietIn
namespace Go.Proofs.Ytmbmalkpmanaaaa.P
set_option linter.unusedVariables false
set_option linter.unusedSimpArgs false
open Go.RowKit Go.Proofs.YtmbmalkpmanaaaaW.PrintWords Go.Proofs.YtmbmalkpmanaaaaW.PrintLast Go.Proofs.YtmbmalkpmanaaaaW.PrintMore

abbrev Gr := S70
def fitsB (x : Int) : Bool := decide (-9223372036854775808 ≤ x) && decide (x ≤ 9223372036854775807)
theorem wf_fitsB {x : Int} (h : fitsB x = true) : (Lit.int .i64 x).wf = true := by
  simp only [fitsB, Bool.and_eq_true, decide_eq_true_eq] at h
  exact WalkArith.wf_i64 (by omega)
def oddsI (l : List Gr) : List Int := l.map (·.f0)
def find_plain_up.l1 : Nat → Int → Bool → Int → Int → Int → List (List S23) → List Gr → Option (Int × Bool)
  | 0, _, _, _, _, _, _, _ => none
  | k + 1, i, ok, beyond, p, c, core, odd => if ok = true then (if beyond < 2 then ((gran_Get.f k p c core [] i).bind fun g => if g.2 = 0 then if fitsB i = true then if cntI (oddsI odd) i = 0 then some (i, true) else (gran_Behind.f k p c core [] i).bind fun n => find_plain_up.l1 k n.1 n.2 beyond p c core odd else none else (gran_Behind.f k p c core [] i).bind fun n => find_plain_up.l1 k n.1 n.2 (wrap64 (beyond + 1)) p c core odd) else some (0, false)) else some (0, false)
def find_plain_up.f (k : Nat) (p c : Int) (core : List (List S23)) (odd : List Gr) (t : Int) : Option (Int × Bool) :=
  if odd.length < 1000000000 ∧ odd.all (fun g => fitsB g.f0) = true then (find_place_up.f k p c core odd t).bind fun a => if a.2 = true then (gran_Behind.f k p c core [] (wrap64 (a.1 - 1))).bind fun n => find_plain_up.l1 k n.1 n.2 0 p c core odd else some (0, false) else none

theorem find_plain_up.mono_l : ∀ (k : Nat) (i : Int) (ok : Bool) (b p c : Int) (core : List (List S23)) (odd : List Gr), LeO (find_plain_up.l1 k i ok b p c core odd) (find_plain_up.l1 (k + 1) i ok b p c core odd)
  | 0, _, _, _, _, _, _, _ => fun r h => by simp [find_plain_up.l1] at h
  | k + 1, i, ok, b, p, c, core, odd => by
    have ih := find_plain_up.mono_l k
    unfold find_plain_up.l1
    repeat' first
      | (with_reducible exact ih _ _ _ _ _ _ _)
      | (with_reducible exact gran_Get.mono _ _ _ _ _ _)
      | (with_reducible exact gran_Behind.mono _ _ _ _ _ _)
      | (with_reducible exact LeO.refl _)
      | (with_reducible exact LeO.none _)
      | (with_reducible refine LeO.ite ?_ ?_)
      | (with_reducible refine LeO.bind ?_ (fun _ => ?_))
theorem find_plain_up.mono (p c : Int) (core : List (List S23)) (odd : List Gr) (t : Int) (k : Nat) : LeO (find_plain_up.f k p c core odd t) (find_plain_up.f (k + 1) p c core odd t) := by
  unfold find_plain_up.f
  repeat' first
    | (with_reducible exact find_plain_up.mono_l _ _ _ _ _ _ _ _)
    | (with_reducible exact find_place_up.mono _ _ _ _ _ _)
    | (with_reducible exact gran_Behind.mono _ _ _ _ _ _)
    | (with_reducible exact LeO.refl _)
    | (with_reducible exact LeO.none _)
    | (with_reducible refine LeO.ite ?_ ?_)
    | (with_reducible refine LeO.bind ?_ (fun _ => ?_))

set_option maxHeartbeats 8000000 in
set_option maxRecDepth 100000 in
theorem find_plain_up.calls (k : Nat) (a0_0 : Int) (a0_1 : Int) (A0_2 : Option Addr) (c0_2 : Nat) (l0_2 : List (List (S23))) (A0_3 : Option Addr) (c0_3 : Nat) (l0_3 : List (S70)) (a1 : Int)  (r1 : Int) (r2 : Bool) (w : World) (hr0_2 : Kd.C (Kd.slice 23 k23) w A0_2 l0_2.length l0_2) (hc0_2 : l0_2.length ≤ c0_2) (hr0_3 : Kd.C k70 w A0_3 l0_3.length l0_3) (hc0_3 : l0_3.length ≤ c0_3) (h : find_plain_up.f k a0_0 a0_1 l0_2 l0_3 a1 = some (r1, r2)) :
    Calls Try.prog 87 #[.agg #[.int .i64 a0_0, .int .i64 a0_1, .slice A0_2 l0_2.length c0_2, .slice A0_3 l0_3.length c0_3], .int .i64 a1, .agg #[.int .i64 1, .func (.func 25) #[] #[], .func (.func 88) #[] #[], .func (.func 89) #[] #[]]] w fun e w' => e = .returned (.tuple #[.int .i64 r1, .bool r2]) ∧ Below w.heap.size w w' := by
  have hmm := @run_makeMap Try.prog
  have HR2 := Aside0.mk hr0_2
  have HC2 := Aside0.mk hc0_2
  have HR3 := Aside0.mk hr0_3
  have HC3 := Aside0.mk hc0_3
  unfold find_plain_up.f at h
  by_cases hlen : l0_3.length < 1000000000 ∧ l0_3.all (fun g => fitsB g.f0) = true
  case neg => rw [if_neg hlen] at h; cases h
  rw [if_pos hlen] at h
  obtain ⟨⟨i0, ok0⟩, hpl, h⟩ := Option.bind_eq_some_iff.mp h
  have HP := Aside0.mk hpl
  have HL := Aside0.mk hlen
  have H := Aside0.mk h
  clear hr0_2 hc0_2 hr0_3 hc0_3 h hpl hlen
  go_enter Try.func87, Try.ntmps87
  go_wp2_with fail
  refine (find_place_up.calls k a0_0 a0_1 A0_2 c0_2 l0_2 A0_3 c0_3 l0_3 a1 i0 ok0 _ ?_ HC2.out ?_ HC3.out HP.out).mono ?_
  · exact Kd.C_below HR2.out (by repeat (first | exact Below.refl _ _ | apply below_alloc))
  · exact Kd.C_below HR3.out (by repeat (first | exact Below.refl _ _ | apply below_alloc))
  rintro e w1 ⟨rfl, hb1⟩
  have HB1 := Aside0.mk (((((Below.refl w.heap.size w).alloc (Nat.le_refl _) _).alloc (by simp) _).alloc (by simp; try omega) _).trans (hb1.mono (by simp; try omega)))
  have BK3 : Aside0 (w1.heap[w.heap.size]? = some (.cells #[.int .i64 a0_0, .int .i64 a0_1, .slice A0_2 l0_2.length c0_2, .slice A0_3 l0_3.length c0_3] 28 (0, 0))) := ⟨blk_below (blk_alloc (blk_alloc (blk_new w _) _) _) hb1⟩
  have BK5 : Aside0 (w1.heap[w.heap.size + 1]? = some (.cells #[.int .i64 1, .func (.func 25) #[] #[], .func (.func 88) #[] #[], .func (.func 89) #[] #[]] 79 (0, 0))) := ⟨by have := blk_below (blk_alloc (blk_new (w.alloc _) _) _) hb1; simpa using this⟩
  have BK8 : Aside0 (w1.heap[w.heap.size + 1 + 1]? = some (.cells #[.int .i64 a0_0, .int .i64 a0_1, .slice A0_2 l0_2.length c0_2, .slice none 0 0] 28 (0, 0))) := ⟨by have := blk_below (blk_new ((w.alloc _).alloc _) _) hb1; simpa using this⟩
  have SZ : Aside0 (w.heap.size + 3 ≤ w1.heap.size) := ⟨by have := hb1.size; simp at this; omega⟩
  clear hb1
  cases ok0
  · go_wp2
    have h := H.out
    simp at h
    obtain ⟨rfl, rfl⟩ := h
    go_ret2
    exact ⟨rfl, HB1.out⟩
  · have hc3 : (w1.alloc (.map #[] 0)).cell? ⟨w.heap.size, 3, none⟩ = some (.slice A0_3 l0_3.length c0_3) := (blk_cell (blk_alloc BK3.out _) 3).trans rfl
    have hf3 := blk_frozen (blk_alloc BK3.out (.map #[] 0)) 3
    go_wp2_with fail
    clear hc3 hf3
    have HX := H.out
    rw [if_pos trivial] at HX
    obtain ⟨⟨n1, n2⟩, hn, HX⟩ := Option.bind_eq_some_iff.mp HX
    have HN := Aside0.mk hn
    have H2 := Aside0.mk HX
    clear H HX hn
    go_loopw [37] (fun v wr => ∃ m : Nat, Aside0 (m ≤ l0_3.length) ∧ v = .int .i64 (m : Int) ∧ Aside0 (wr.heap[w.heap.size]? = some (.cells #[.int .i64 a0_0, .int .i64 a0_1, .slice A0_2 l0_2.length c0_2, .slice A0_3 l0_3.length c0_3] 28 (0, 0))) ∧ Aside0 (wr.heap[w.heap.size + 1]? = some (.cells #[.int .i64 1, .func (.func 25) #[] #[], .func (.func 88) #[] #[], .func (.func 89) #[] #[]] 79 (0, 0))) ∧ Aside0 (wr.heap[w.heap.size + 1 + 1]? = some (.cells #[.int .i64 a0_0, .int .i64 a0_1, .slice A0_2 l0_2.length c0_2, .slice none 0 0] 28 (0, 0))) ∧ Aside0 (OMap wr w1.heap.size (oddsI (l0_3.take m))) ∧ Aside0 (Below w.heap.size w wr)) (fun v _ => l0_3.length - (intOf v).toNat)
    case atStart => exact ⟨0, ⟨Nat.zero_le _⟩, rfl, ⟨blk_alloc BK3.out _⟩, ⟨blk_alloc BK5.out _⟩, ⟨blk_alloc BK8.out _⟩, ⟨OMap.made w1⟩, ⟨HB1.out.alloc HB1.out.size _⟩⟩
    case round =>
      clear BK3 BK5 BK8 HB1
      obtain ⟨m, hm, rfl, BK3, BK5, BK8, OM, HB⟩ := hrel
      by_cases hlt : m < l0_3.length
      · obtain ⟨ad, A1, c1, e, hx0, hx1, hl1, hi1⟩ := at_T70 HR3.out (m : Int) (by omega) (by omega)
        subst e
        have hy : rd_T70 l0_3 (m : Int) = l0_3[m] := by simp [rd_T70, hlt]
        have hwf : fitsB (rd_T70 l0_3 (m : Int)).f0 = true := by
          rw [hy]; exact List.all_eq_true.1 HL.out.2 _ (List.getElem_mem hlt)
        have htk : oddsI (l0_3.take (m + 1)) = oddsI (l0_3.take m) ++ [(rd_T70 l0_3 (m : Int)).f0] := by
          rw [hy, List.take_succ_eq_append_getElem hlt]; exact List.map_append
        have hln : (oddsI (l0_3.take m)).length < maxLen := by simp only [oddsI, List.length_map, List.length_take]; have := HL.out.1; unfold maxLen; omega
        have HTK := Aside0.mk htk
        have HWF := Aside0.mk (wf_fitsB hwf)
        have HLN := Aside0.mk hln
        have HLT := Aside0.mk hlt
        have hw : wrap64 ((m : Int) + 1) = ((m + 1 : Nat) : Int) := by have := HL.out.1; unfold wrap64; omega
        have HW := Aside0.mk hw
        clear hy hwf htk hln hw
        replace hx0 := (HB.out.cell (World.block_lt_of_cell? w _ hx0)).trans hx0
        replace hx1 := (HB.out.cell (World.block_lt_of_cell? w _ hx1)).trans hx1
        have p0 : 0 ≤ (m : Int) := by omega
        have p1 : (m : Int) < (l0_3.length : Int) := by omega
        obtain ⟨x, hx⟩ : ∃ x : Int, (m : Int) = x := ⟨_, rfl⟩
        rw [hx] at p0 p1 hx0 hx1 HTK HWF HW ⊢
        have HXX := Aside0.mk hx
        clear hx hlt
        have p2 : decide (x < (l0_3.length : Int)) = true := decide_eq_true p1
        replace p0 := eq_true p0
        replace p1 := eq_true p1
        go_wp2_with (first
          | (at_lookup; refine OMap.lookup (b := w1.heap.size) (l := oddsI (l0_3.take m)) (OMap.heap OM.out (Below.heap_alloc wr _ _ OM.out.lt)) rfl _ _ rfl rfl _ HWF.out rfl ?_)
          | (at_mapUpdate; refine OMap.update (b := w1.heap.size) (l := oddsI (l0_3.take m)) (OMap.heap OM.out (Below.heap_alloc wr _ _ OM.out.lt)) rfl _ _ _ rfl rfl HLN.out _ HWF.out rfl rfl ?_; intro w4 om4 gr4; have OM4 := Aside0.mk om4; have GR4 := Aside0.mk gr4; clear om4 gr4))
        go_roundw
        case rel =>
          have hne : ∀ g, g < w.heap.size + 3 → some g ≠ some w1.heap.size := fun g hg e => by have := SZ.out; injection e; omega
          exact ⟨m + 1, ⟨HLT.out⟩, by rw [HW.out], ⟨blk_grown (blk_alloc BK3.out _) GR4.out (hne _ (by omega))⟩, ⟨blk_grown (blk_alloc BK5.out _) GR4.out (hne _ (by omega))⟩, ⟨blk_grown (blk_alloc BK8.out _) GR4.out (hne _ (by omega))⟩,
            ⟨by rw [HTK.out]; exact OM4.out⟩, ⟨(HB.out.alloc HB.out.size _).grown GR4.out (HB.out.alloc HB.out.size _).size (fun j hj => by cases hj; have := SZ.out; omega)⟩⟩
        case measure => have := HLT.out; have := HW.out; have := HXX.out; simp only [intOf]; omega
      · have hmm2 : m = l0_3.length := by have := hm.out; omega
        subst hmm2
        have OM2 : Aside0 (OMap wr w1.heap.size (oddsI l0_3)) := ⟨by have := OM.out; rwa [List.take_length] at this⟩
        clear OM hlt hm
        have hc0 := (blk_cell BK5.out 0).trans rfl
        have hc1 := (blk_cell BK5.out 1).trans rfl
        have h80 := (blk_cell BK8.out 0).trans rfl
        have h81 := (blk_cell BK8.out 1).trans rfl
        have h82 := (blk_cell BK8.out 2).trans rfl
        have h83 := (blk_cell BK8.out 3).trans rfl
        have p2 : decide ((l0_3.length : Int) < (l0_3.length : Int)) = false := by simp
        go_wp2_with fail
        refine (gran_Behind.calls k a0_0 a0_1 A0_2 c0_2 l0_2 none 0 [] _ n1 n2 _ (Kd.C_below HR2.out HB.out) HC2.out (Kd.C_nil _ _) (Nat.le_refl _) HN.out).mono ?_
        rintro e w5 ⟨rfl, hb5⟩
        have n5 := Aside0.mk (blk_below BK5.out hb5)
        have n8 := Aside0.mk (blk_below BK8.out hb5)
        have nm := Aside0.mk (OMap.heap OM2.out (hb5.block _ OM2.out.lt))
        have nb := Aside0.mk (below_step HB.out hb5)
        clear BK3 BK5 BK8 OM2 HB hc0 hc1 h80 h81 h82 h83 hb5 p2
        go_wp2_with fail
        go_loopg [9, 10, 14] k (fun kq v9 v10 v14 w' => ∃ (i : Int) (ok : Bool) (by_ : Int), v9 = .int .i64 i ∧ v10 = .bool ok ∧ v14 = .int .i64 by_ ∧ Aside0 (find_plain_up.l1 kq i ok by_ a0_0 a0_1 l0_2 l0_3 = some (r1, r2)) ∧ Aside0 (kq ≤ k) ∧ Aside0 (w'.heap[w.heap.size + 1]? = some (.cells #[.int .i64 1, .func (.func 25) #[] #[], .func (.func 88) #[] #[], .func (.func 89) #[] #[]] 79 (0, 0))) ∧ Aside0 (w'.heap[w.heap.size + 1 + 1]? = some (.cells #[.int .i64 a0_0, .int .i64 a0_1, .slice A0_2 l0_2.length c0_2, .slice none 0 0] 28 (0, 0))) ∧ Aside0 (OMap w' w1.heap.size (oddsI l0_3)) ∧ Aside0 (Below w.heap.size w w'))
        case atStart => exact ⟨n1, n2, 0, rfl, rfl, rfl, H2, ⟨Nat.le_refl _⟩, n5, n8, nm, nb⟩
        case round =>
          clear n5 n8 nm nb H2 HN
          obtain ⟨i, ok, by_, rfl, rfl, rfl, HA, HK1, BK5, BK8, OM, HB⟩ := hrel
          cases gk with
          | zero => exact absurd HA.out (by simp [find_plain_up.l1])
          | succ k1 =>
            have hc0 := (blk_cell BK5.out 0).trans rfl
            have hc1 := (blk_cell BK5.out 1).trans rfl
            have h80 := (blk_cell BK8.out 0).trans rfl
            have h81 := (blk_cell BK8.out 1).trans rfl
            have h82 := (blk_cell BK8.out 2).trans rfl
            have h83 := (blk_cell BK8.out 3).trans rfl
            have H := HA.out
            clear HA
            simp only [find_plain_up.l1] at H
            cases ok
            · simp at H
              obtain ⟨rfl, rfl⟩ := H
              go_wp2
              all_goals (go_ret2; exact ⟨rfl, HB.out⟩)
            · rw [if_pos rfl] at H
              by_cases cb : by_ < 2
              · rw [if_pos cb] at H
                obtain ⟨⟨l, e⟩, hg, H⟩ := Option.bind_eq_some_iff.mp H
                have cb0 : decide (by_ < 2) = true := decide_eq_true cb
                clear cb
                have HG := Aside0.mk hg
                have H' := Aside0.mk H
                clear hg H
                go_wp2_with fail
                refine (gran_Get.calls k1 a0_0 a0_1 A0_2 c0_2 l0_2 none 0 [] i l e _ (Kd.C_below HR2.out HB.out) HC2.out (Kd.C_nil _ _) (Nat.le_refl _) HG.out).mono ?_
                rintro e' w6 ⟨v, rfl, hR, hb6⟩
                have n5 := Aside0.mk (blk_below BK5.out hb6)
                have n8 := Aside0.mk (blk_below BK8.out hb6)
                have nm := Aside0.mk (OMap.heap OM.out (hb6.block _ OM.out.lt))
                have nb := Aside0.mk (below_step HB.out hb6)
                clear BK5 BK8 OM HB hc0 hc1 h80 h81 h82 h83 hb6 hR
                have BK5 := n5
                have BK8 := n8
                have OM := nm
                have HB := nb
                clear n5 n8 nm nb
                have hc0 := (blk_cell BK5.out 0).trans rfl
                have hc1 := (blk_cell BK5.out 1).trans rfl
                have h80 := (blk_cell BK8.out 0).trans rfl
                have h81 := (blk_cell BK8.out 1).trans rfl
                have h82 := (blk_cell BK8.out 2).trans rfl
                have h83 := (blk_cell BK8.out 3).trans rfl
                have H := H'.out
                clear H'
                by_cases ce : e = 0
                · subst ce
                  rw [if_pos rfl] at H
                  by_cases cf : fitsB i = true
                  case neg => rw [if_neg cf] at H; cases H
                  rw [if_pos cf] at H
                  have HWF := Aside0.mk (wf_fitsB cf)
                  clear cf
                  by_cases cz : cntI (oddsI l0_3) i = 0
                  · rw [if_pos cz] at H
                    simp only [Option.some.injEq, Prod.mk.injEq] at H
                    obtain ⟨e1, rfl⟩ := H
                    have E1 := Aside0.mk e1
                    clear e1
                    have cz0 : (cntI (oddsI l0_3) i == 0) = true := by simpa using cz
                    have cz1 : decide (cntI (oddsI l0_3) i = 0) = true := by simpa using cz
                    go_wp2_with (at_lookup; refine OMap.lookup (b := w1.heap.size) (l := oddsI l0_3) OM.out rfl _ _ rfl rfl _ HWF.out rfl ?_)
                    go_ret2
                    exact ⟨by simp [E1.out], HB.out⟩
                  · rw [if_neg cz] at H
                    have cz0 : (cntI (oddsI l0_3) i == 0) = false := by simpa using cz
                    have cz1 : decide (cntI (oddsI l0_3) i = 0) = false := by simpa using cz
                    clear cz
                    obtain ⟨⟨m1, m2⟩, hn, H⟩ := Option.bind_eq_some_iff.mp H
                    have HN := Aside0.mk hn
                    have H' := Aside0.mk H
                    clear hn H
                    go_wp2_with (first | (at_lookup; refine OMap.lookup (b := w1.heap.size) (l := oddsI l0_3) OM.out rfl _ _ rfl rfl _ HWF.out rfl ?_) | fail)
                    refine (gran_Behind.calls k1 a0_0 a0_1 A0_2 c0_2 l0_2 none 0 [] _ m1 m2 _ (Kd.C_below HR2.out HB.out) HC2.out (Kd.C_nil _ _) (Nat.le_refl _) HN.out).mono ?_
                    rintro e w7 ⟨rfl, hb7⟩
                    have n5 := Aside0.mk (blk_below BK5.out hb7)
                    have n8 := Aside0.mk (blk_below BK8.out hb7)
                    have nm := Aside0.mk (OMap.heap OM.out (hb7.block _ OM.out.lt))
                    have nb := Aside0.mk (below_step HB.out hb7)
                    clear BK5 BK8 OM HB hc0 hc1 h80 h81 h82 h83 hb7
                    go_wp2
                    go_roundg k1
                    case measure => exact Nat.lt_succ_self _
                    case rel => exact ⟨m1, m2, _, rfl, rfl, rfl, H', ⟨Nat.le_of_succ_le HK1.out⟩, n5, n8, nm, nb⟩
                · rw [if_neg ce] at H
                  have ce0 : (e != 0) = true := by simpa using ce
                  have ce1 : (e == 0) = false := by simpa using ce
                  clear ce
                  obtain ⟨⟨m1, m2⟩, hn, H⟩ := Option.bind_eq_some_iff.mp H
                  have HN := Aside0.mk hn
                  have H' := Aside0.mk H
                  clear hn H
                  go_wp2_with fail
                  refine (gran_Behind.calls k1 a0_0 a0_1 A0_2 c0_2 l0_2 none 0 [] _ m1 m2 _ (Kd.C_below HR2.out HB.out) HC2.out (Kd.C_nil _ _) (Nat.le_refl _) HN.out).mono ?_
                  rintro e w7 ⟨rfl, hb7⟩
                  have n5 := Aside0.mk (blk_below BK5.out hb7)
                  have n8 := Aside0.mk (blk_below BK8.out hb7)
                  have nm := Aside0.mk (OMap.heap OM.out (hb7.block _ OM.out.lt))
                  have nb := Aside0.mk (below_step HB.out hb7)
                  clear BK5 BK8 OM HB hc0 hc1 h80 h81 h82 h83 hb7
                  go_wp2
                  go_roundg k1
                  case measure => exact Nat.lt_succ_self _
                  case rel => exact ⟨m1, m2, _, rfl, rfl, rfl, H', ⟨Nat.le_of_succ_le HK1.out⟩, n5, n8, nm, nb⟩
              · rw [if_neg cb] at H
                have cb0 : decide (by_ < 2) = false := decide_eq_false cb
                clear cb
                cases H
                go_wp2
                all_goals (go_ret2; exact ⟨rfl, HB.out⟩)
end Go.Proofs.Ytmbmalkpmanaaaa.P

namespace Go.Proofs.Ytmbmalkpmanaaaa.P
open Go.RowKit Go.Proofs.YtmbmalkpmanaaaaW.PrintWords Go.Proofs.YtmbmalkpmanaaaaW.PrintLast Go.Proofs.YtmbmalkpmanaaaaW.PrintMore
attribute [local go_sem] max2_int min2_int max_two min_two max_three min_three max_four min_four   -- for this text's walks alone
set_option linter.unusedVariables false
set_option linter.unusedSimpArgs false

def find_nearest_up.l0 : Nat → Int → Int → Bool → List (S70) → Int → Int → Int → Option (Int × Bool)
 | 0, _, _, _, _, _, _, _ => none
 | k + 1, x1, x8, x9, x25, x26, x27, x201000 => if x27 < x26 then (if 0 ≤ x27 then (if x27 < (x25.length : Int) then ((spans_Hull.f ((rd_T70 x25 x27).f1)).bind fun bt205 => (if bt205.2.2 = true then ((find_up_2.f bt205.1 bt205.2.1 x1).bind fun t209 => (if t209 = true then (if x9 = true then (if (wrap64 ((wrap64 (((rd_T70 x25 x27).f0) - x8)) * x201000)) < 0 then (find_nearest_up.l0 k x1 ((rd_T70 x25 x27).f0) true x25 x26 (wrap64 (x27 + 1)) x201000) else (find_nearest_up.l0 k x1 x8 x9 x25 x26 (wrap64 (x27 + 1)) x201000)) else (find_nearest_up.l0 k x1 ((rd_T70 x25 x27).f0) true x25 x26 (wrap64 (x27 + 1)) x201000)) else (find_nearest_up.l0 k x1 x8 x9 x25 x26 (wrap64 (x27 + 1)) x201000))) else (find_nearest_up.l0 k x1 x8 x9 x25 x26 (wrap64 (x27 + 1)) x201000))) else (none)) else (none)) else (some (x8, x9))
def find_nearest_up.f (k : Nat) (a0_0 : Int) (a0_1 : Int) (l0_2 : List (List (S23))) (l0_3 : List (S70)) (a1 : Int)  : Option (Int × Bool) := (find_plain_up.f k a0_0 a0_1 l0_2 l0_3 (mx (mn a1 1099511627777) (-1099511627777))).bind fun bt201 => (find_nearest_up.l0 k (mx (mn a1 1099511627777) (-1099511627777)) bt201.1 bt201.2 l0_3 (l0_3.length : Int) 0 1)
theorem find_nearest_up.mono_l : ∀ k, (∀ y0 y1 y2 y3 y4 y5 y6, LeO (find_nearest_up.l0 k y0 y1 y2 y3 y4 y5 y6) (find_nearest_up.l0 (k + 1) y0 y1 y2 y3 y4 y5 y6))
 | 0 => fun _ _ _ _ _ _ _ r h => by simp [find_nearest_up.l0] at h
 | k + 1 => by
  have ih0 := find_nearest_up.mono_l k
  ·intro y0 y1 y2 y3 y4 y5 y6
   unfold find_nearest_up.l0
   repeat' first
   | (with_reducible exact ih0 _ _ _ _ _ _ _)
   | (with_reducible exact find_plain_up.mono _ _ _ _ _ _)
   | (with_reducible exact LeO.refl _)
   | (with_reducible exact LeO.none _)
   | (with_reducible refine LeO.ite ?_ ?_)
   | (with_reducible refine LeO.bind ?_ (fun _ => ?_))
   | exact ih0 _ _ _ _ _ _ _
   | exact find_plain_up.mono _ _ _ _ _ _
   | exact LeO.none _
   | refine LeO.ite ?_ ?_
   | refine LeO.bind ?_ (fun _ => ?_)
theorem find_nearest_up.mono : ∀ a0 a1 a2 a3 a4 k, LeO (find_nearest_up.f k a0 a1 a2 a3 a4) (find_nearest_up.f (k + 1) a0 a1 a2 a3 a4) := by
 intro a0 a1 a2 a3 a4 k
 have ih0 := find_nearest_up.mono_l k
 unfold find_nearest_up.f
 repeat' first
  | (with_reducible exact ih0 _ _ _ _ _ _ _)
  | (with_reducible exact find_plain_up.mono _ _ _ _ _ _)
  | (with_reducible exact LeO.refl _)
  | (with_reducible exact LeO.none _)
  | (with_reducible refine LeO.ite ?_ ?_)
  | (with_reducible refine LeO.bind ?_ (fun _ => ?_))
  | exact ih0 _ _ _ _ _ _ _
  | exact find_plain_up.mono _ _ _ _ _ _
  | exact LeO.none _
  | refine LeO.ite ?_ ?_
  | refine LeO.bind ?_ (fun _ => ?_)
set_option maxHeartbeats 8000000 in
set_option maxRecDepth 100000 in
theorem find_nearest_up.calls (k : Nat) (a0_0 : Int) (a0_1 : Int) (A0_2 : Option Addr) (c0_2 : Nat) (l0_2 : List (List (S23))) (A0_3 : Option Addr) (c0_3 : Nat) (l0_3 : List (S70)) (a1 : Int)  (r1 : Int) (r2 : Bool) (w : World) (hr0_2 : Kd.C (Kd.slice 23 k23) w A0_2 l0_2.length l0_2) (hc0_2 : l0_2.length ≤ c0_2) (hr0_3 : Kd.C k70 w A0_3 l0_3.length l0_3) (hc0_3 : l0_3.length ≤ c0_3) (h : find_nearest_up.f k a0_0 a0_1 l0_2 l0_3 a1 = some (r1, r2)) :
 Calls Try.prog 58 #[.agg #[.int .i64 a0_0, .int .i64 a0_1, .slice A0_2 l0_2.length c0_2, .slice A0_3 l0_3.length c0_3], .int .i64 a1, .agg #[.int .i64 1, .func (.func 25) #[] #[], .func (.func 88) #[] #[], .func (.func 89) #[] #[]]] w fun e w' => e = .returned (.tuple #[.int .i64 r1, .bool r2]) ∧ Below w.heap.size w w' := by
 have hu28 := Try.underlying28
 have hu79 := Try.underlying79
 have hu70 := Try.underlying70
 have hu23 := Try.underlying23
 have HR0_2 := am hr0_2
 have HC0_2 := am hc0_2
 clear hr0_2 hc0_2
 have HR0_3 := am hr0_3
 have HC0_3 := am hc0_3
 clear hr0_3 hc0_3
 have HB := am (Below.refl w.heap.size w)
 have H : ((find_plain_up.f k a0_0 a0_1 l0_2 l0_3 (mx (mn a1 1099511627777) (-1099511627777))).bind fun bt201 => (find_nearest_up.l0 k (mx (mn a1 1099511627777) (-1099511627777)) bt201.1 bt201.2 l0_3 (l0_3.length : Int) 0 1)) = some (r1, r2) := h
 clear h
 obtain ⟨ji4, hji4⟩ : ∃ j_ : Int, (mn a1 1099511627777) = j_ := ⟨_, rfl⟩
 replace H : ((find_plain_up.f k a0_0 a0_1 l0_2 l0_3 (mx (ji4) (-1099511627777))).bind fun bt201 => (find_nearest_up.l0 k (mx (ji4) (-1099511627777)) bt201.1 bt201.2 l0_3 (l0_3.length : Int) 0 1)) = some (r1, r2) := by first | (rw [hji4] at H; exact H) | (simp only [hji4] at H ⊢; exact H)
 (try (have hji4h : ji4 ≤ 1099511627777 := by (rw [← hji4]; unfold mn; (repeat' split) <;> omega)))
 (try (have hji4g : ji4 ≤ 64 := by omega))
 have hji4_ : (if 1099511627777 < a1 then 1099511627777 else a1) = ji4 := hji4
 obtain ⟨ji5, hji5⟩ : ∃ j_ : Int, (mx (ji4) (-1099511627777)) = j_ := ⟨_, rfl⟩
 replace H : ((find_plain_up.f k a0_0 a0_1 l0_2 l0_3 (ji5)).bind fun bt201 => (find_nearest_up.l0 k ji5 bt201.1 bt201.2 l0_3 (l0_3.length : Int) 0 1)) = some (r1, r2) := by first | (rw [hji5] at H; exact H) | (simp only [hji5] at H ⊢; exact H)
 have hji5_ : (if (ji4) < (-1099511627777) then (-1099511627777) else (ji4)) = ji5 := hji5
 replace H := Option.bind_eq_some_iff.mp H
 obtain ⟨⟨t201, t202⟩, A60, H⟩ := H
 try dsimp only at H
 have A6 := am A60
 clear A60
 have H' := am H
 clear H
 go_enter Try.func58, Try.ntmps58
 go_wp2_with (first | ((with_reducible refine gate_dst (N := 3) rfl ?_); refine bx 3 28 #[.int .i64 a0_0, .int .i64 a0_1, .slice A0_2 l0_2.length c0_2, .slice A0_3 l0_3.length c0_3] ?_; intro gb199 hg w7 hbox hb; have BK199 := am (hbox); have GW199 := am ((bz hg HB.out : w.heap.size ≤ gb199)); have GE199 := am ((bz hg HB.out : w.heap.size ≤ gb199)); replace HB := am (below_step (bl HB.out) hb); clear hb hbox hg) | ((with_reducible refine gate_dst (N := 5) rfl ?_); refine bx 5 79 #[.int .i64 1, .func (.func 25) #[] #[], .func (.func 88) #[] #[], .func (.func 89) #[] #[]] ?_; intro gb200 hg w8 hbox hb; have BK200 := am (hbox); have GW200 := am ((bz1 hg HB.out GE199.out : w.heap.size ≤ gb200)); have GE200 := am ((bz1 hg HB.out GE199.out : w.heap.size ≤ gb200)); replace HB := am (below_step (bl1 HB.out GE199.out) hb); have NB199_200 := am ((nl hg BK199.out : gb199 ≠ gb200)); have NB200_199 := am ((ng hg BK199.out : gb200 ≠ gb199)); replace BK199 := am (blk_below (kp BK199.out) hb); clear hb hbox hg; have hnb9 := NB199_200.out; have hnc9 := NB200_199.out; have hcz10_0 : w8.cell? ⟨gb199, 0, none⟩ = some (.int .i64 a0_0) := bc BK199.out 0; have hcz10_1 : w8.cell? ⟨gb199, 1, none⟩ = some (.int .i64 a0_1) := bc BK199.out 1; have hcz10_2 : w8.cell? ⟨gb199, 2, none⟩ = some (.slice A0_2 l0_2.length c0_2) := bc BK199.out 2; have hcz10_3 : w8.cell? ⟨gb199, 3, none⟩ = some (.slice A0_3 l0_3.length c0_3) := bc BK199.out 3; have hfz10_0 := blk_frozen BK199.out 0; have hfz10_1 := blk_frozen BK199.out 1; have hfz10_2 := blk_frozen BK199.out 2; have hfz10_3 := blk_frozen BK199.out 3; have hcz11_0 : w8.cell? ⟨gb200, 0, none⟩ = some (.int .i64 1) := bc BK200.out 0; have hcz11_1 : w8.cell? ⟨gb200, 1, none⟩ = some (.func (.func 25) #[] #[]) := bc BK200.out 1; have hcz11_2 : w8.cell? ⟨gb200, 2, none⟩ = some (.func (.func 88) #[] #[]) := bc BK200.out 2; have hcz11_3 : w8.cell? ⟨gb200, 3, none⟩ = some (.func (.func 89) #[] #[]) := bc BK200.out 3; have hfz11_0 := blk_frozen BK200.out 0; have hfz11_1 := blk_frozen BK200.out 1; have hfz11_2 := blk_frozen BK200.out 2; have hfz11_3 := blk_frozen BK200.out 3) | ((with_reducible refine gate_callee (f := 87) rfl ?_); refine goesL_ (some 21) rfl rfl Try.func87 (by kernel_rfl) rfl #[.agg #[.int .i64 a0_0, .int .i64 a0_1, .slice A0_2 l0_2.length c0_2, .slice A0_3 l0_3.length c0_3], .int .i64 ji5, .agg #[.int .i64 1, .func (.func 25) #[] #[], .func (.func 88) #[] #[], .func (.func 89) #[] #[]]] rfl (by (try simp only [List.map_toArray, List.map_cons, List.map_nil]); first | done | (simp only [hji5]; rfl) | rfl | (simp only [List.length_drop, List.length_take]; rfl)) ?_; (with_reducible refine (find_plain_up.calls k a0_0 a0_1 _ _ l0_2 _ _ l0_3 ji5 t201 t202 _ ?side1 ?side2 ?side3 ?side4 A6.out).mono ?_); (case side1 => exact kc (Kd.C_below HR0_2.out HB.out)); (case side2 => exact HC0_2.out); (case side3 => exact kc (Kd.C_below HR0_3.out HB.out)); (case side4 => exact HC0_3.out); rintro e w12 ⟨rfl, hb⟩; refine ⟨_, rfl, ?_⟩; replace BK199 := am (blk_below (kp BK199.out) hb); replace BK200 := am (blk_below (kp BK200.out) hb); replace HB := am (below_step (bl2 HB.out GE199.out GE200.out) hb); (try clear hb); (try clear hb2); (try clear hk); (try clear hi); have hcz13_0 : w12.cell? ⟨gb199, 0, none⟩ = some (.int .i64 a0_0) := bc BK199.out 0; have hcz13_1 : w12.cell? ⟨gb199, 1, none⟩ = some (.int .i64 a0_1) := bc BK199.out 1; have hcz13_2 : w12.cell? ⟨gb199, 2, none⟩ = some (.slice A0_2 l0_2.length c0_2) := bc BK199.out 2; have hcz13_3 : w12.cell? ⟨gb199, 3, none⟩ = some (.slice A0_3 l0_3.length c0_3) := bc BK199.out 3; have hfz13_0 := blk_frozen BK199.out 0; have hfz13_1 := blk_frozen BK199.out 1; have hfz13_2 := blk_frozen BK199.out 2; have hfz13_3 := blk_frozen BK199.out 3))
 go_loopg [8, 9, 27] k (fun kq v8 v9 v27 w' => ∃ (x8_1 : Int) (x9_1 : Bool) (x27_1 : Int), v8 = .int .i64 x8_1 ∧ v9 = .bool x9_1 ∧ v27 = .int .i64 x27_1 ∧ Aside0 (find_nearest_up.l0 kq ji5 x8_1 x9_1 l0_3 (l0_3.length : Int) x27_1 1 = some (r1, r2)) ∧ Aside0 (kq ≤ k) ∧ Aside0 (w'.heap[gb199]? = some (.cells #[.int .i64 a0_0, .int .i64 a0_1, (.slice A0_2 l0_2.length c0_2), (.slice A0_3 l0_3.length c0_3)] 28 (0, 0))) ∧ Aside0 (w'.heap[gb200]? = some (.cells #[.int .i64 1, (.func (.func 25) #[] #[]), (.func (.func 88) #[] #[]), (.func (.func 89) #[] #[])] 79 (0, 0))) ∧ Aside0 (Below w.heap.size w w'))
 case atStart => exact ⟨(t201), (t202), (0), sm, sm, sm, H', ⟨Nat.le_refl _⟩, ⟨kp BK199.out⟩, ⟨kp BK200.out⟩, ⟨bl2 HB.out GE199.out GE200.out⟩⟩
 case round =>
  clear H'
  try clear p2
  try clear c5
  try clear c8
  try clear c9
  try clear hcz10_0
  try clear hcz10_1
  try clear hcz10_2
  try clear hcz10_3
  try clear hcz11_0
  try clear hcz11_1
  try clear hcz11_2
  try clear hcz11_3
  try clear hcz13_0
  try clear hcz13_1
  try clear hcz13_2
  try clear hcz13_3
  try clear hfz10_0
  try clear hfz10_1
  try clear hfz10_2
  try clear hfz10_3
  try clear hfz11_0
  try clear hfz11_1
  try clear hfz11_2
  try clear hfz11_3
  try clear hfz13_0
  try clear hfz13_1
  try clear hfz13_2
  try clear hfz13_3
  obtain ⟨x8_1, x9_1, x27_1, rfl, rfl, rfl, HA, HK1, BK199, BK200, HB⟩ := hrel
  cases gk with
  | zero => exact absurd HA.out (by simp [find_nearest_up.l0])
  | succ k1 =>
   have H := HA.out
   clear HA
   simp only [find_nearest_up.l0] at H
   by_cases c14 : x27_1 < (l0_3.length : Int)
   ·rw [if_pos c14] at H
    have c14b0 : decide (x27_1 < (l0_3.length : Int)) = true := decide_eq_true c14
    clear c14
    by_cases c15 : 0 ≤ x27_1
    ·rw [if_pos c15] at H
     have c15b0 : decide (0 ≤ x27_1) = true := decide_eq_true c15
     clear c15
     by_cases c16 : x27_1 < (l0_3.length : Int)
     ·rw [if_pos c16] at H
      have c16b0 : decide (x27_1 < (l0_3.length : Int)) = true := decide_eq_true c16
      clear c16
      replace H := Option.bind_eq_some_iff.mp H
      obtain ⟨⟨t205, t206, t207⟩, A170, H⟩ := H
      try dsimp only at H
      have A17 := am A170
      clear A170
      by_cases c18 : t207 = true
      ·subst c18
       have H1 : ((find_up_2.f t205 t206 ji5).bind fun t209 => (if t209 = true then (if x9_1 = true then (if (wrap64 ((wrap64 (((rd_T70 l0_3 x27_1).f0) - x8_1)) * 1)) < 0 then (find_nearest_up.l0 k1 ji5 ((rd_T70 l0_3 x27_1).f0) true l0_3 (l0_3.length : Int) (wrap64 (x27_1 + 1)) 1) else (find_nearest_up.l0 k1 ji5 x8_1 x9_1 l0_3 (l0_3.length : Int) (wrap64 (x27_1 + 1)) 1)) else (find_nearest_up.l0 k1 ji5 ((rd_T70 l0_3 x27_1).f0) true l0_3 (l0_3.length : Int) (wrap64 (x27_1 + 1)) 1)) else (find_nearest_up.l0 k1 ji5 x8_1 x9_1 l0_3 (l0_3.length : Int) (wrap64 (x27_1 + 1)) 1))) = some (r1, r2) := by rw [if_pos rfl] at H; exact H
       clear H
       have H := H1
       clear H1
       replace H := Option.bind_eq_some_iff.mp H
       obtain ⟨t209, A190, H⟩ := H
       try dsimp only at H
       have A19 := am A190
       clear A190
       by_cases c20 : t209 = true
       ·subst c20
        have H1 : (if x9_1 = true then (if (wrap64 ((wrap64 (((rd_T70 l0_3 x27_1).f0) - x8_1)) * 1)) < 0 then (find_nearest_up.l0 k1 ji5 ((rd_T70 l0_3 x27_1).f0) true l0_3 (l0_3.length : Int) (wrap64 (x27_1 + 1)) 1) else (find_nearest_up.l0 k1 ji5 x8_1 x9_1 l0_3 (l0_3.length : Int) (wrap64 (x27_1 + 1)) 1)) else (find_nearest_up.l0 k1 ji5 ((rd_T70 l0_3 x27_1).f0) true l0_3 (l0_3.length : Int) (wrap64 (x27_1 + 1)) 1)) = some (r1, r2) := by rw [if_pos rfl] at H; exact H
        clear H
        have H := H1
        clear H1
        by_cases c21 : x9_1 = true
        ·subst c21
         have H1 : (if (wrap64 ((wrap64 (((rd_T70 l0_3 x27_1).f0) - x8_1)) * 1)) < 0 then (find_nearest_up.l0 k1 ji5 ((rd_T70 l0_3 x27_1).f0) true l0_3 (l0_3.length : Int) (wrap64 (x27_1 + 1)) 1) else (find_nearest_up.l0 k1 ji5 x8_1 true l0_3 (l0_3.length : Int) (wrap64 (x27_1 + 1)) 1)) = some (r1, r2) := by rw [if_pos rfl] at H; exact H
         clear H
         have H := H1
         clear H1
         by_cases c22 : (wrap64 ((wrap64 (((rd_T70 l0_3 x27_1).f0) - x8_1)) * 1)) < 0
         ·rw [if_pos c22] at H
          have c22b0 : decide ((wrap64 ((wrap64 (((rd_T70 l0_3 x27_1).f0) - x8_1)) * 1)) < 0) = true := decide_eq_true c22
          (try simp only [Int.mul_one, Int.mul_neg, Int.add_zero] at c22b0)
          clear c22
          have H' := am H
          clear H
          have p203 : 0 ≤ (x27_1 : Int) := of_decide_eq_true asm
          have q203 : x27_1 < (l0_3.length : Int) := of_decide_eq_true asm
          obtain ⟨ad203, A203_1, c203_1, e203, hx203_0, hx203_1, hl203_1, hi203_1⟩ := at_T70 HR0_3.out x27_1 p203 q203
          cases e203
          replace hx203_0 := (HB.out.cell (World.block_lt_of_cell? w _ hx203_0)).trans hx203_0
          replace hx203_1 := (HB.out.cell (World.block_lt_of_cell? w _ hx203_1)).trans hx203_1
          have HR203_1 := am hi203_1
          have HC203_1 := am hl203_1
          clear hi203_1 hl203_1
          replace p203 := eq_true p203
          replace q203 := eq_true q203
          go_wp2_with (first | ((with_reducible refine gate_dst (N := 11) rfl ?_); refine bx 11 70 #[.int .i64 0, .slice none 0 0] ?_; intro gb204 hg w23 hbox hb; have BK204 := am (hbox); have GW204 := am ((bz2 hg HB.out GE199.out GE200.out : w.heap.size ≤ gb204)); have GE204 := am ((bz2 hg HB.out GE199.out GE200.out : w.heap.size ≤ gb204)); replace HB := am (below_step (bl2 HB.out GE199.out GE200.out) hb); have NB199_204 := am ((nl hg BK199.out : gb199 ≠ gb204)); have NB204_199 := am ((ng hg BK199.out : gb204 ≠ gb199)); replace BK199 := am (blk_below (kp BK199.out) hb); have NB200_204 := am ((nl hg BK200.out : gb200 ≠ gb204)); have NB204_200 := am ((ng hg BK200.out : gb204 ≠ gb200)); replace BK200 := am (blk_below (kp BK200.out) hb); clear hb hbox hg; have hnb24 := NB204_199.out; have hnc24 := NB199_204.out; have hnb25 := NB204_200.out; have hnc25 := NB200_204.out; have hcz26_0 : w23.cell? ⟨gb204, 0, none⟩ = some (.int .i64 0) := bc BK204.out 0; have hcz26_1 : w23.cell? ⟨gb204, 1, none⟩ = some (.slice none 0 0) := bc BK204.out 1; have hfz26_0 := blk_frozen BK204.out 0; have hfz26_1 := blk_frozen BK204.out 1) | ((with_reducible refine gate_callee (f := 43) rfl ?_); refine goesL_ (some 34) rfl rfl Try.func43 (by kernel_rfl) rfl #[.slice A203_1 ((rd_T70 l0_3 x27_1).f1).length c203_1] rfl ar ?_; (with_reducible refine (spans_Hull.calls _ _ ((rd_T70 l0_3 x27_1).f1) t205 t206 true _ ?side1 ?side2 A17.out).mono ?_); (case side1 => exact Kd.C_below HR203_1.out (bl3 HB.out GE199.out GE200.out GE204.out)); (case side2 => exact HC203_1.out); rintro e w27 ⟨rfl, hb⟩; refine ⟨_, rfl, ?_⟩; replace BK199 := am (blk_below (g := gb199) (o := .cells #[.int .i64 a0_0, .int .i64 a0_1, .slice A0_2 l0_2.length c0_2, .slice (some ad203) l0_3.length c0_3] 28 (0, 0)) (kf BK199.out NB199_204.out) hb); replace BK200 := am (blk_below (g := gb200) (o := .cells #[.int .i64 1, .func (.func 25) #[] #[], .func (.func 88) #[] #[], .func (.func 89) #[] #[]] 79 (0, 0)) (kf BK200.out NB200_204.out) hb); replace BK204 := am (blk_below (g := gb204) (o := .cells #[.int .i64 ((rd_T70 l0_3 x27_1).f0), .slice A203_1 ((rd_T70 l0_3 x27_1).f1).length c203_1] 70 (0, 0)) (by (with_reducible repeat (first | refine blk_drewN ?_ _ | refine blk_drew ?_ | refine blk_alloc ?_ _)); refine blk_put (cs := #[.int .i64 ((rd_T70 l0_3 x27_1).f0), .slice none 0 0]) ?_ 1 _ rfl; (with_reducible repeat (first | refine blk_drewN ?_ _ | refine blk_drew ?_ | refine blk_alloc ?_ _)); refine blk_put (cs := #[.int .i64 0, .slice none 0 0]) ?_ 0 _ rfl; (with_reducible repeat (first | refine blk_drewN ?_ _ | refine blk_drew ?_ | refine blk_alloc ?_ _)); exact BK204.out) hb); replace HB := am (below_step (bl3 HB.out GE199.out GE200.out GE204.out) hb); (try clear hb); (try clear hb2); (try clear hk); (try clear hi)) | ((with_reducible refine gate_dst (N := 12) rfl ?_); refine bx 12 23 #[.int .i64 0, .int .i64 0] ?_; intro gb208 hg w28 hbox hb; have BK208 := am (hbox); have GW208 := am ((bz3 hg HB.out GE199.out GE200.out GE204.out : w.heap.size ≤ gb208)); have GE208 := am ((bz3 hg HB.out GE199.out GE200.out GE204.out : w.heap.size ≤ gb208)); replace HB := am (below_step (bl3 HB.out GE199.out GE200.out GE204.out) hb); have NB199_208 := am ((nl hg BK199.out : gb199 ≠ gb208)); have NB208_199 := am ((ng hg BK199.out : gb208 ≠ gb199)); replace BK199 := am (blk_below (kp BK199.out) hb); have NB200_208 := am ((nl hg BK200.out : gb200 ≠ gb208)); have NB208_200 := am ((ng hg BK200.out : gb208 ≠ gb200)); replace BK200 := am (blk_below (kp BK200.out) hb); have NB204_208 := am ((nl hg BK204.out : gb204 ≠ gb208)); have NB208_204 := am ((ng hg BK204.out : gb208 ≠ gb204)); replace BK204 := am (blk_below (kp BK204.out) hb); clear hb hbox hg; have hnb29 := NB208_199.out; have hnc29 := NB199_208.out; have hnb30 := NB208_200.out; have hnc30 := NB200_208.out; have hnb31 := NB208_204.out; have hnc31 := NB204_208.out; have hcz32_0 : w28.cell? ⟨gb208, 0, none⟩ = some (.int .i64 0) := bc BK208.out 0; have hcz32_1 : w28.cell? ⟨gb208, 1, none⟩ = some (.int .i64 0) := bc BK208.out 1; have hfz32_0 := blk_frozen BK208.out 0; have hfz32_1 := blk_frozen BK208.out 1; have hnb33 := NB200_199.out; have hnc33 := NB199_200.out; have hcz34_0 : w28.cell? ⟨gb200, 0, none⟩ = some (.int .i64 1) := bc BK200.out 0; have hcz34_1 : w28.cell? ⟨gb200, 1, none⟩ = some (.func (.func 25) #[] #[]) := bc BK200.out 1; have hcz34_2 : w28.cell? ⟨gb200, 2, none⟩ = some (.func (.func 88) #[] #[]) := bc BK200.out 2; have hcz34_3 : w28.cell? ⟨gb200, 3, none⟩ = some (.func (.func 89) #[] #[]) := bc BK200.out 3; have hfz34_0 := blk_frozen BK200.out 0; have hfz34_1 := blk_frozen BK200.out 1; have hfz34_2 := blk_frozen BK200.out 2; have hfz34_3 := blk_frozen BK200.out 3) | (go_at_call 89; (with_reducible refine (find_up_2.calls t205 t206 ji5 true _ A19.out).mono ?_); rintro e w35 ⟨rfl, hb⟩; replace BK199 := am (blk_below (g := gb199) (o := .cells #[.int .i64 a0_0, .int .i64 a0_1, .slice A0_2 l0_2.length c0_2, .slice (some ad203) l0_3.length c0_3] 28 (0, 0)) (kf BK199.out NB199_208.out) hb); replace BK200 := am (blk_below (g := gb200) (o := .cells #[.int .i64 1, .func (.func 25) #[] #[], .func (.func 88) #[] #[], .func (.func 89) #[] #[]] 79 (0, 0)) (kf BK200.out NB200_208.out) hb); replace BK204 := am (blk_below (g := gb204) (o := .cells #[.int .i64 ((rd_T70 l0_3 x27_1).f0), .slice A203_1 ((rd_T70 l0_3 x27_1).f1).length c203_1] 70 (0, 0)) (kf BK204.out NB204_208.out) hb); replace BK208 := am (blk_below (g := gb208) (o := .cells #[.int .i64 t205, .int .i64 t206] 23 (0, 0)) (by (with_reducible repeat (first | refine blk_drewN ?_ _ | refine blk_drew ?_ | refine blk_alloc ?_ _)); refine blk_put (cs := #[.int .i64 t205, .int .i64 0]) ?_ 1 _ rfl; (with_reducible repeat (first | refine blk_drewN ?_ _ | refine blk_drew ?_ | refine blk_alloc ?_ _)); refine blk_put (cs := #[.int .i64 0, .int .i64 0]) ?_ 0 _ rfl; (with_reducible repeat (first | refine blk_drewN ?_ _ | refine blk_drew ?_ | refine blk_alloc ?_ _)); exact BK208.out) hb); replace HB := am (below_step (by repeat (first | (with_reducible first | exact HB.out | apply below_alloc | apply pw_below_drewN | apply below_drew1 | refine below_set ?_ GE199.out | refine below_set ?_ GE200.out | refine below_set ?_ GE204.out | refine below_set ?_ GE208.out) | exact HB.out)) hb); (try clear hb); (try clear hb2); (try clear hk); (try clear hi); have hcz36_0 : w35.cell? ⟨gb204, 0, none⟩ = some (.int .i64 ((rd_T70 l0_3 x27_1).f0)) := bc BK204.out 0; have hcz36_1 : w35.cell? ⟨gb204, 1, none⟩ = some (.slice A203_1 ((rd_T70 l0_3 x27_1).f1).length c203_1) := bc BK204.out 1; have hfz36_0 := blk_frozen BK204.out 0; have hfz36_1 := blk_frozen BK204.out 1; have hcz37_0 : w35.cell? ⟨gb200, 0, none⟩ = some (.int .i64 1) := bc BK200.out 0; have hcz37_1 : w35.cell? ⟨gb200, 1, none⟩ = some (.func (.func 25) #[] #[]) := bc BK200.out 1; have hcz37_2 : w35.cell? ⟨gb200, 2, none⟩ = some (.func (.func 88) #[] #[]) := bc BK200.out 2; have hcz37_3 : w35.cell? ⟨gb200, 3, none⟩ = some (.func (.func 89) #[] #[]) := bc BK200.out 3; have hfz37_0 := blk_frozen BK200.out 0; have hfz37_1 := blk_frozen BK200.out 1; have hfz37_2 := blk_frozen BK200.out 2; have hfz37_3 := blk_frozen BK200.out 3))
          go_roundg k1
          case measure => have := HK1.out; omega
          case rel => exact ⟨((rd_T70 l0_3 x27_1).f0), (true), (wrap64 (x27_1 + 1)), sm, sm, sm, H', ⟨by have := HK1.out; omega⟩, ⟨kp BK199.out⟩, ⟨kp BK200.out⟩, ⟨by repeat (first | (with_reducible first | exact HB.out | apply below_alloc | apply pw_below_drewN | apply below_drew1 | refine below_set ?_ GE199.out | refine below_set ?_ GE200.out | refine below_set ?_ GE204.out | refine below_set ?_ GE208.out) | exact HB.out)⟩⟩
         ·rw [if_neg c22] at H
          have c22b0 : decide ((wrap64 ((wrap64 (((rd_T70 l0_3 x27_1).f0) - x8_1)) * 1)) < 0) = false := decide_eq_false c22
          (try simp only [Int.mul_one, Int.mul_neg, Int.add_zero] at c22b0)
          clear c22
          have H' := am H
          clear H
          have p203 : 0 ≤ (x27_1 : Int) := of_decide_eq_true asm
          have q203 : x27_1 < (l0_3.length : Int) := of_decide_eq_true asm
          obtain ⟨ad203, A203_1, c203_1, e203, hx203_0, hx203_1, hl203_1, hi203_1⟩ := at_T70 HR0_3.out x27_1 p203 q203
          cases e203
          replace hx203_0 := (HB.out.cell (World.block_lt_of_cell? w _ hx203_0)).trans hx203_0
          replace hx203_1 := (HB.out.cell (World.block_lt_of_cell? w _ hx203_1)).trans hx203_1
          have HR203_1 := am hi203_1
          have HC203_1 := am hl203_1
          clear hi203_1 hl203_1
          replace p203 := eq_true p203
          replace q203 := eq_true q203
          go_wp2_with (first | ((with_reducible refine gate_dst (N := 11) rfl ?_); refine bx 11 70 #[.int .i64 0, .slice none 0 0] ?_; intro gb204 hg w38 hbox hb; have BK204 := am (hbox); have GW204 := am ((bz2 hg HB.out GE199.out GE200.out : w.heap.size ≤ gb204)); have GE204 := am ((bz2 hg HB.out GE199.out GE200.out : w.heap.size ≤ gb204)); replace HB := am (below_step (bl2 HB.out GE199.out GE200.out) hb); have NB199_204 := am ((nl hg BK199.out : gb199 ≠ gb204)); have NB204_199 := am ((ng hg BK199.out : gb204 ≠ gb199)); replace BK199 := am (blk_below (kp BK199.out) hb); have NB200_204 := am ((nl hg BK200.out : gb200 ≠ gb204)); have NB204_200 := am ((ng hg BK200.out : gb204 ≠ gb200)); replace BK200 := am (blk_below (kp BK200.out) hb); clear hb hbox hg; have hnb39 := NB204_199.out; have hnc39 := NB199_204.out; have hnb40 := NB204_200.out; have hnc40 := NB200_204.out; have hcz41_0 : w38.cell? ⟨gb204, 0, none⟩ = some (.int .i64 0) := bc BK204.out 0; have hcz41_1 : w38.cell? ⟨gb204, 1, none⟩ = some (.slice none 0 0) := bc BK204.out 1; have hfz41_0 := blk_frozen BK204.out 0; have hfz41_1 := blk_frozen BK204.out 1) | ((with_reducible refine gate_callee (f := 43) rfl ?_); refine goesL_ (some 34) rfl rfl Try.func43 (by kernel_rfl) rfl #[.slice A203_1 ((rd_T70 l0_3 x27_1).f1).length c203_1] rfl ar ?_; (with_reducible refine (spans_Hull.calls _ _ ((rd_T70 l0_3 x27_1).f1) t205 t206 true _ ?side1 ?side2 A17.out).mono ?_); (case side1 => exact Kd.C_below HR203_1.out (bl3 HB.out GE199.out GE200.out GE204.out)); (case side2 => exact HC203_1.out); rintro e w42 ⟨rfl, hb⟩; refine ⟨_, rfl, ?_⟩; replace BK199 := am (blk_below (g := gb199) (o := .cells #[.int .i64 a0_0, .int .i64 a0_1, .slice A0_2 l0_2.length c0_2, .slice (some ad203) l0_3.length c0_3] 28 (0, 0)) (kf BK199.out NB199_204.out) hb); replace BK200 := am (blk_below (g := gb200) (o := .cells #[.int .i64 1, .func (.func 25) #[] #[], .func (.func 88) #[] #[], .func (.func 89) #[] #[]] 79 (0, 0)) (kf BK200.out NB200_204.out) hb); replace BK204 := am (blk_below (g := gb204) (o := .cells #[.int .i64 ((rd_T70 l0_3 x27_1).f0), .slice A203_1 ((rd_T70 l0_3 x27_1).f1).length c203_1] 70 (0, 0)) (by (with_reducible repeat (first | refine blk_drewN ?_ _ | refine blk_drew ?_ | refine blk_alloc ?_ _)); refine blk_put (cs := #[.int .i64 ((rd_T70 l0_3 x27_1).f0), .slice none 0 0]) ?_ 1 _ rfl; (with_reducible repeat (first | refine blk_drewN ?_ _ | refine blk_drew ?_ | refine blk_alloc ?_ _)); refine blk_put (cs := #[.int .i64 0, .slice none 0 0]) ?_ 0 _ rfl; (with_reducible repeat (first | refine blk_drewN ?_ _ | refine blk_drew ?_ | refine blk_alloc ?_ _)); exact BK204.out) hb); replace HB := am (below_step (bl3 HB.out GE199.out GE200.out GE204.out) hb); (try clear hb); (try clear hb2); (try clear hk); (try clear hi)) | ((with_reducible refine gate_dst (N := 12) rfl ?_); refine bx 12 23 #[.int .i64 0, .int .i64 0] ?_; intro gb208 hg w43 hbox hb; have BK208 := am (hbox); have GW208 := am ((bz3 hg HB.out GE199.out GE200.out GE204.out : w.heap.size ≤ gb208)); have GE208 := am ((bz3 hg HB.out GE199.out GE200.out GE204.out : w.heap.size ≤ gb208)); replace HB := am (below_step (bl3 HB.out GE199.out GE200.out GE204.out) hb); have NB199_208 := am ((nl hg BK199.out : gb199 ≠ gb208)); have NB208_199 := am ((ng hg BK199.out : gb208 ≠ gb199)); replace BK199 := am (blk_below (kp BK199.out) hb); have NB200_208 := am ((nl hg BK200.out : gb200 ≠ gb208)); have NB208_200 := am ((ng hg BK200.out : gb208 ≠ gb200)); replace BK200 := am (blk_below (kp BK200.out) hb); have NB204_208 := am ((nl hg BK204.out : gb204 ≠ gb208)); have NB208_204 := am ((ng hg BK204.out : gb208 ≠ gb204)); replace BK204 := am (blk_below (kp BK204.out) hb); clear hb hbox hg; have hnb44 := NB208_199.out; have hnc44 := NB199_208.out; have hnb45 := NB208_200.out; have hnc45 := NB200_208.out; have hnb46 := NB208_204.out; have hnc46 := NB204_208.out; have hcz47_0 : w43.cell? ⟨gb208, 0, none⟩ = some (.int .i64 0) := bc BK208.out 0; have hcz47_1 : w43.cell? ⟨gb208, 1, none⟩ = some (.int .i64 0) := bc BK208.out 1; have hfz47_0 := blk_frozen BK208.out 0; have hfz47_1 := blk_frozen BK208.out 1; have hnb48 := NB200_199.out; have hnc48 := NB199_200.out; have hcz49_0 : w43.cell? ⟨gb200, 0, none⟩ = some (.int .i64 1) := bc BK200.out 0; have hcz49_1 : w43.cell? ⟨gb200, 1, none⟩ = some (.func (.func 25) #[] #[]) := bc BK200.out 1; have hcz49_2 : w43.cell? ⟨gb200, 2, none⟩ = some (.func (.func 88) #[] #[]) := bc BK200.out 2; have hcz49_3 : w43.cell? ⟨gb200, 3, none⟩ = some (.func (.func 89) #[] #[]) := bc BK200.out 3; have hfz49_0 := blk_frozen BK200.out 0; have hfz49_1 := blk_frozen BK200.out 1; have hfz49_2 := blk_frozen BK200.out 2; have hfz49_3 := blk_frozen BK200.out 3) | (go_at_call 89; (with_reducible refine (find_up_2.calls t205 t206 ji5 true _ A19.out).mono ?_); rintro e w50 ⟨rfl, hb⟩; replace BK199 := am (blk_below (g := gb199) (o := .cells #[.int .i64 a0_0, .int .i64 a0_1, .slice A0_2 l0_2.length c0_2, .slice (some ad203) l0_3.length c0_3] 28 (0, 0)) (kf BK199.out NB199_208.out) hb); replace BK200 := am (blk_below (g := gb200) (o := .cells #[.int .i64 1, .func (.func 25) #[] #[], .func (.func 88) #[] #[], .func (.func 89) #[] #[]] 79 (0, 0)) (kf BK200.out NB200_208.out) hb); replace BK204 := am (blk_below (g := gb204) (o := .cells #[.int .i64 ((rd_T70 l0_3 x27_1).f0), .slice A203_1 ((rd_T70 l0_3 x27_1).f1).length c203_1] 70 (0, 0)) (kf BK204.out NB204_208.out) hb); replace BK208 := am (blk_below (g := gb208) (o := .cells #[.int .i64 t205, .int .i64 t206] 23 (0, 0)) (by (with_reducible repeat (first | refine blk_drewN ?_ _ | refine blk_drew ?_ | refine blk_alloc ?_ _)); refine blk_put (cs := #[.int .i64 t205, .int .i64 0]) ?_ 1 _ rfl; (with_reducible repeat (first | refine blk_drewN ?_ _ | refine blk_drew ?_ | refine blk_alloc ?_ _)); refine blk_put (cs := #[.int .i64 0, .int .i64 0]) ?_ 0 _ rfl; (with_reducible repeat (first | refine blk_drewN ?_ _ | refine blk_drew ?_ | refine blk_alloc ?_ _)); exact BK208.out) hb); replace HB := am (below_step (by repeat (first | (with_reducible first | exact HB.out | apply below_alloc | apply pw_below_drewN | apply below_drew1 | refine below_set ?_ GE199.out | refine below_set ?_ GE200.out | refine below_set ?_ GE204.out | refine below_set ?_ GE208.out) | exact HB.out)) hb); (try clear hb); (try clear hb2); (try clear hk); (try clear hi); have hcz51_0 : w50.cell? ⟨gb204, 0, none⟩ = some (.int .i64 ((rd_T70 l0_3 x27_1).f0)) := bc BK204.out 0; have hcz51_1 : w50.cell? ⟨gb204, 1, none⟩ = some (.slice A203_1 ((rd_T70 l0_3 x27_1).f1).length c203_1) := bc BK204.out 1; have hfz51_0 := blk_frozen BK204.out 0; have hfz51_1 := blk_frozen BK204.out 1; have hcz52_0 : w50.cell? ⟨gb200, 0, none⟩ = some (.int .i64 1) := bc BK200.out 0; have hcz52_1 : w50.cell? ⟨gb200, 1, none⟩ = some (.func (.func 25) #[] #[]) := bc BK200.out 1; have hcz52_2 : w50.cell? ⟨gb200, 2, none⟩ = some (.func (.func 88) #[] #[]) := bc BK200.out 2; have hcz52_3 : w50.cell? ⟨gb200, 3, none⟩ = some (.func (.func 89) #[] #[]) := bc BK200.out 3; have hfz52_0 := blk_frozen BK200.out 0; have hfz52_1 := blk_frozen BK200.out 1; have hfz52_2 := blk_frozen BK200.out 2; have hfz52_3 := blk_frozen BK200.out 3))
          go_roundg k1
          case measure => have := HK1.out; omega
          case rel => exact ⟨(x8_1), (true), (wrap64 (x27_1 + 1)), sm, sm, sm, H', ⟨by have := HK1.out; omega⟩, ⟨kp BK199.out⟩, ⟨kp BK200.out⟩, ⟨by repeat (first | (with_reducible first | exact HB.out | apply below_alloc | apply pw_below_drewN | apply below_drew1 | refine below_set ?_ GE199.out | refine below_set ?_ GE200.out | refine below_set ?_ GE204.out | refine below_set ?_ GE208.out) | exact HB.out)⟩⟩
        ·replace c21 := Bool.eq_false_iff.mpr c21
         subst c21
         have H1 : (find_nearest_up.l0 k1 ji5 ((rd_T70 l0_3 x27_1).f0) true l0_3 (l0_3.length : Int) (wrap64 (x27_1 + 1)) 1) = some (r1, r2) := by rw [if_neg (show ¬ (false = true) by decide)] at H; exact H
         clear H
         have H := H1
         clear H1
         have H' := am H
         clear H
         have p203 : 0 ≤ (x27_1 : Int) := of_decide_eq_true asm
         have q203 : x27_1 < (l0_3.length : Int) := of_decide_eq_true asm
         obtain ⟨ad203, A203_1, c203_1, e203, hx203_0, hx203_1, hl203_1, hi203_1⟩ := at_T70 HR0_3.out x27_1 p203 q203
         cases e203
         replace hx203_0 := (HB.out.cell (World.block_lt_of_cell? w _ hx203_0)).trans hx203_0
         replace hx203_1 := (HB.out.cell (World.block_lt_of_cell? w _ hx203_1)).trans hx203_1
         have HR203_1 := am hi203_1
         have HC203_1 := am hl203_1
         clear hi203_1 hl203_1
         replace p203 := eq_true p203
         replace q203 := eq_true q203
         go_wp2_with (first | ((with_reducible refine gate_dst (N := 11) rfl ?_); refine bx 11 70 #[.int .i64 0, .slice none 0 0] ?_; intro gb204 hg w53 hbox hb; have BK204 := am (hbox); have GW204 := am ((bz2 hg HB.out GE199.out GE200.out : w.heap.size ≤ gb204)); have GE204 := am ((bz2 hg HB.out GE199.out GE200.out : w.heap.size ≤ gb204)); replace HB := am (below_step (bl2 HB.out GE199.out GE200.out) hb); have NB199_204 := am ((nl hg BK199.out : gb199 ≠ gb204)); have NB204_199 := am ((ng hg BK199.out : gb204 ≠ gb199)); replace BK199 := am (blk_below (kp BK199.out) hb); have NB200_204 := am ((nl hg BK200.out : gb200 ≠ gb204)); have NB204_200 := am ((ng hg BK200.out : gb204 ≠ gb200)); replace BK200 := am (blk_below (kp BK200.out) hb); clear hb hbox hg; have hnb54 := NB204_199.out; have hnc54 := NB199_204.out; have hnb55 := NB204_200.out; have hnc55 := NB200_204.out; have hcz56_0 : w53.cell? ⟨gb204, 0, none⟩ = some (.int .i64 0) := bc BK204.out 0; have hcz56_1 : w53.cell? ⟨gb204, 1, none⟩ = some (.slice none 0 0) := bc BK204.out 1; have hfz56_0 := blk_frozen BK204.out 0; have hfz56_1 := blk_frozen BK204.out 1) | ((with_reducible refine gate_callee (f := 43) rfl ?_); refine goesL_ (some 34) rfl rfl Try.func43 (by kernel_rfl) rfl #[.slice A203_1 ((rd_T70 l0_3 x27_1).f1).length c203_1] rfl ar ?_; (with_reducible refine (spans_Hull.calls _ _ ((rd_T70 l0_3 x27_1).f1) t205 t206 true _ ?side1 ?side2 A17.out).mono ?_); (case side1 => exact Kd.C_below HR203_1.out (bl3 HB.out GE199.out GE200.out GE204.out)); (case side2 => exact HC203_1.out); rintro e w57 ⟨rfl, hb⟩; refine ⟨_, rfl, ?_⟩; replace BK199 := am (blk_below (g := gb199) (o := .cells #[.int .i64 a0_0, .int .i64 a0_1, .slice A0_2 l0_2.length c0_2, .slice (some ad203) l0_3.length c0_3] 28 (0, 0)) (kf BK199.out NB199_204.out) hb); replace BK200 := am (blk_below (g := gb200) (o := .cells #[.int .i64 1, .func (.func 25) #[] #[], .func (.func 88) #[] #[], .func (.func 89) #[] #[]] 79 (0, 0)) (kf BK200.out NB200_204.out) hb); replace BK204 := am (blk_below (g := gb204) (o := .cells #[.int .i64 ((rd_T70 l0_3 x27_1).f0), .slice A203_1 ((rd_T70 l0_3 x27_1).f1).length c203_1] 70 (0, 0)) (by (with_reducible repeat (first | refine blk_drewN ?_ _ | refine blk_drew ?_ | refine blk_alloc ?_ _)); refine blk_put (cs := #[.int .i64 ((rd_T70 l0_3 x27_1).f0), .slice none 0 0]) ?_ 1 _ rfl; (with_reducible repeat (first | refine blk_drewN ?_ _ | refine blk_drew ?_ | refine blk_alloc ?_ _)); refine blk_put (cs := #[.int .i64 0, .slice none 0 0]) ?_ 0 _ rfl; (with_reducible repeat (first | refine blk_drewN ?_ _ | refine blk_drew ?_ | refine blk_alloc ?_ _)); exact BK204.out) hb); replace HB := am (below_step (bl3 HB.out GE199.out GE200.out GE204.out) hb); (try clear hb); (try clear hb2); (try clear hk); (try clear hi)) | ((with_reducible refine gate_dst (N := 12) rfl ?_); refine bx 12 23 #[.int .i64 0, .int .i64 0] ?_; intro gb208 hg w58 hbox hb; have BK208 := am (hbox); have GW208 := am ((bz3 hg HB.out GE199.out GE200.out GE204.out : w.heap.size ≤ gb208)); have GE208 := am ((bz3 hg HB.out GE199.out GE200.out GE204.out : w.heap.size ≤ gb208)); replace HB := am (below_step (bl3 HB.out GE199.out GE200.out GE204.out) hb); have NB199_208 := am ((nl hg BK199.out : gb199 ≠ gb208)); have NB208_199 := am ((ng hg BK199.out : gb208 ≠ gb199)); replace BK199 := am (blk_below (kp BK199.out) hb); have NB200_208 := am ((nl hg BK200.out : gb200 ≠ gb208)); have NB208_200 := am ((ng hg BK200.out : gb208 ≠ gb200)); replace BK200 := am (blk_below (kp BK200.out) hb); have NB204_208 := am ((nl hg BK204.out : gb204 ≠ gb208)); have NB208_204 := am ((ng hg BK204.out : gb208 ≠ gb204)); replace BK204 := am (blk_below (kp BK204.out) hb); clear hb hbox hg; have hnb59 := NB208_199.out; have hnc59 := NB199_208.out; have hnb60 := NB208_200.out; have hnc60 := NB200_208.out; have hnb61 := NB208_204.out; have hnc61 := NB204_208.out; have hcz62_0 : w58.cell? ⟨gb208, 0, none⟩ = some (.int .i64 0) := bc BK208.out 0; have hcz62_1 : w58.cell? ⟨gb208, 1, none⟩ = some (.int .i64 0) := bc BK208.out 1; have hfz62_0 := blk_frozen BK208.out 0; have hfz62_1 := blk_frozen BK208.out 1; have hnb63 := NB200_199.out; have hnc63 := NB199_200.out; have hcz64_0 : w58.cell? ⟨gb200, 0, none⟩ = some (.int .i64 1) := bc BK200.out 0; have hcz64_1 : w58.cell? ⟨gb200, 1, none⟩ = some (.func (.func 25) #[] #[]) := bc BK200.out 1; have hcz64_2 : w58.cell? ⟨gb200, 2, none⟩ = some (.func (.func 88) #[] #[]) := bc BK200.out 2; have hcz64_3 : w58.cell? ⟨gb200, 3, none⟩ = some (.func (.func 89) #[] #[]) := bc BK200.out 3; have hfz64_0 := blk_frozen BK200.out 0; have hfz64_1 := blk_frozen BK200.out 1; have hfz64_2 := blk_frozen BK200.out 2; have hfz64_3 := blk_frozen BK200.out 3) | (go_at_call 89; (with_reducible refine (find_up_2.calls t205 t206 ji5 true _ A19.out).mono ?_); rintro e w65 ⟨rfl, hb⟩; replace BK199 := am (blk_below (g := gb199) (o := .cells #[.int .i64 a0_0, .int .i64 a0_1, .slice A0_2 l0_2.length c0_2, .slice (some ad203) l0_3.length c0_3] 28 (0, 0)) (kf BK199.out NB199_208.out) hb); replace BK200 := am (blk_below (g := gb200) (o := .cells #[.int .i64 1, .func (.func 25) #[] #[], .func (.func 88) #[] #[], .func (.func 89) #[] #[]] 79 (0, 0)) (kf BK200.out NB200_208.out) hb); replace BK204 := am (blk_below (g := gb204) (o := .cells #[.int .i64 ((rd_T70 l0_3 x27_1).f0), .slice A203_1 ((rd_T70 l0_3 x27_1).f1).length c203_1] 70 (0, 0)) (kf BK204.out NB204_208.out) hb); replace BK208 := am (blk_below (g := gb208) (o := .cells #[.int .i64 t205, .int .i64 t206] 23 (0, 0)) (by (with_reducible repeat (first | refine blk_drewN ?_ _ | refine blk_drew ?_ | refine blk_alloc ?_ _)); refine blk_put (cs := #[.int .i64 t205, .int .i64 0]) ?_ 1 _ rfl; (with_reducible repeat (first | refine blk_drewN ?_ _ | refine blk_drew ?_ | refine blk_alloc ?_ _)); refine blk_put (cs := #[.int .i64 0, .int .i64 0]) ?_ 0 _ rfl; (with_reducible repeat (first | refine blk_drewN ?_ _ | refine blk_drew ?_ | refine blk_alloc ?_ _)); exact BK208.out) hb); replace HB := am (below_step (by repeat (first | (with_reducible first | exact HB.out | apply below_alloc | apply pw_below_drewN | apply below_drew1 | refine below_set ?_ GE199.out | refine below_set ?_ GE200.out | refine below_set ?_ GE204.out | refine below_set ?_ GE208.out) | exact HB.out)) hb); (try clear hb); (try clear hb2); (try clear hk); (try clear hi); have hcz66_0 : w65.cell? ⟨gb204, 0, none⟩ = some (.int .i64 ((rd_T70 l0_3 x27_1).f0)) := bc BK204.out 0; have hcz66_1 : w65.cell? ⟨gb204, 1, none⟩ = some (.slice A203_1 ((rd_T70 l0_3 x27_1).f1).length c203_1) := bc BK204.out 1; have hfz66_0 := blk_frozen BK204.out 0; have hfz66_1 := blk_frozen BK204.out 1))
         go_roundg k1
         case measure => have := HK1.out; omega
         case rel => exact ⟨((rd_T70 l0_3 x27_1).f0), (true), (wrap64 (x27_1 + 1)), sm, sm, sm, H', ⟨by have := HK1.out; omega⟩, ⟨kp BK199.out⟩, ⟨kp BK200.out⟩, ⟨by repeat (first | (with_reducible first | exact HB.out | apply below_alloc | apply pw_below_drewN | apply below_drew1 | refine below_set ?_ GE199.out | refine below_set ?_ GE200.out | refine below_set ?_ GE204.out | refine below_set ?_ GE208.out) | exact HB.out)⟩⟩
       ·replace c20 := Bool.eq_false_iff.mpr c20
        subst c20
        have H1 : (find_nearest_up.l0 k1 ji5 x8_1 x9_1 l0_3 (l0_3.length : Int) (wrap64 (x27_1 + 1)) 1) = some (r1, r2) := by rw [if_neg (show ¬ (false = true) by decide)] at H; exact H
        clear H
        have H := H1
        clear H1
        have H' := am H
        clear H
        have p203 : 0 ≤ (x27_1 : Int) := of_decide_eq_true asm
        have q203 : x27_1 < (l0_3.length : Int) := of_decide_eq_true asm
        obtain ⟨ad203, A203_1, c203_1, e203, hx203_0, hx203_1, hl203_1, hi203_1⟩ := at_T70 HR0_3.out x27_1 p203 q203
        cases e203
        replace hx203_0 := (HB.out.cell (World.block_lt_of_cell? w _ hx203_0)).trans hx203_0
        replace hx203_1 := (HB.out.cell (World.block_lt_of_cell? w _ hx203_1)).trans hx203_1
        have HR203_1 := am hi203_1
        have HC203_1 := am hl203_1
        clear hi203_1 hl203_1
        replace p203 := eq_true p203
        replace q203 := eq_true q203
        go_wp2_with (first | ((with_reducible refine gate_dst (N := 11) rfl ?_); refine bx 11 70 #[.int .i64 0, .slice none 0 0] ?_; intro gb204 hg w67 hbox hb; have BK204 := am (hbox); have GW204 := am ((bz2 hg HB.out GE199.out GE200.out : w.heap.size ≤ gb204)); have GE204 := am ((bz2 hg HB.out GE199.out GE200.out : w.heap.size ≤ gb204)); replace HB := am (below_step (bl2 HB.out GE199.out GE200.out) hb); have NB199_204 := am ((nl hg BK199.out : gb199 ≠ gb204)); have NB204_199 := am ((ng hg BK199.out : gb204 ≠ gb199)); replace BK199 := am (blk_below (kp BK199.out) hb); have NB200_204 := am ((nl hg BK200.out : gb200 ≠ gb204)); have NB204_200 := am ((ng hg BK200.out : gb204 ≠ gb200)); replace BK200 := am (blk_below (kp BK200.out) hb); clear hb hbox hg; have hnb68 := NB204_199.out; have hnc68 := NB199_204.out; have hnb69 := NB204_200.out; have hnc69 := NB200_204.out; have hcz70_0 : w67.cell? ⟨gb204, 0, none⟩ = some (.int .i64 0) := bc BK204.out 0; have hcz70_1 : w67.cell? ⟨gb204, 1, none⟩ = some (.slice none 0 0) := bc BK204.out 1; have hfz70_0 := blk_frozen BK204.out 0; have hfz70_1 := blk_frozen BK204.out 1) | ((with_reducible refine gate_callee (f := 43) rfl ?_); refine goesL_ (some 34) rfl rfl Try.func43 (by kernel_rfl) rfl #[.slice A203_1 ((rd_T70 l0_3 x27_1).f1).length c203_1] rfl ar ?_; (with_reducible refine (spans_Hull.calls _ _ ((rd_T70 l0_3 x27_1).f1) t205 t206 true _ ?side1 ?side2 A17.out).mono ?_); (case side1 => exact Kd.C_below HR203_1.out (bl3 HB.out GE199.out GE200.out GE204.out)); (case side2 => exact HC203_1.out); rintro e w71 ⟨rfl, hb⟩; refine ⟨_, rfl, ?_⟩; replace BK199 := am (blk_below (g := gb199) (o := .cells #[.int .i64 a0_0, .int .i64 a0_1, .slice A0_2 l0_2.length c0_2, .slice (some ad203) l0_3.length c0_3] 28 (0, 0)) (kf BK199.out NB199_204.out) hb); replace BK200 := am (blk_below (g := gb200) (o := .cells #[.int .i64 1, .func (.func 25) #[] #[], .func (.func 88) #[] #[], .func (.func 89) #[] #[]] 79 (0, 0)) (kf BK200.out NB200_204.out) hb); replace BK204 := am (blk_below (g := gb204) (o := .cells #[.int .i64 ((rd_T70 l0_3 x27_1).f0), .slice A203_1 ((rd_T70 l0_3 x27_1).f1).length c203_1] 70 (0, 0)) (by (with_reducible repeat (first | refine blk_drewN ?_ _ | refine blk_drew ?_ | refine blk_alloc ?_ _)); refine blk_put (cs := #[.int .i64 ((rd_T70 l0_3 x27_1).f0), .slice none 0 0]) ?_ 1 _ rfl; (with_reducible repeat (first | refine blk_drewN ?_ _ | refine blk_drew ?_ | refine blk_alloc ?_ _)); refine blk_put (cs := #[.int .i64 0, .slice none 0 0]) ?_ 0 _ rfl; (with_reducible repeat (first | refine blk_drewN ?_ _ | refine blk_drew ?_ | refine blk_alloc ?_ _)); exact BK204.out) hb); replace HB := am (below_step (bl3 HB.out GE199.out GE200.out GE204.out) hb); (try clear hb); (try clear hb2); (try clear hk); (try clear hi)) | ((with_reducible refine gate_dst (N := 12) rfl ?_); refine bx 12 23 #[.int .i64 0, .int .i64 0] ?_; intro gb208 hg w72 hbox hb; have BK208 := am (hbox); have GW208 := am ((bz3 hg HB.out GE199.out GE200.out GE204.out : w.heap.size ≤ gb208)); have GE208 := am ((bz3 hg HB.out GE199.out GE200.out GE204.out : w.heap.size ≤ gb208)); replace HB := am (below_step (bl3 HB.out GE199.out GE200.out GE204.out) hb); have NB199_208 := am ((nl hg BK199.out : gb199 ≠ gb208)); have NB208_199 := am ((ng hg BK199.out : gb208 ≠ gb199)); replace BK199 := am (blk_below (kp BK199.out) hb); have NB200_208 := am ((nl hg BK200.out : gb200 ≠ gb208)); have NB208_200 := am ((ng hg BK200.out : gb208 ≠ gb200)); replace BK200 := am (blk_below (kp BK200.out) hb); have NB204_208 := am ((nl hg BK204.out : gb204 ≠ gb208)); have NB208_204 := am ((ng hg BK204.out : gb208 ≠ gb204)); replace BK204 := am (blk_below (kp BK204.out) hb); clear hb hbox hg; have hnb73 := NB208_199.out; have hnc73 := NB199_208.out; have hnb74 := NB208_200.out; have hnc74 := NB200_208.out; have hnb75 := NB208_204.out; have hnc75 := NB204_208.out; have hcz76_0 : w72.cell? ⟨gb208, 0, none⟩ = some (.int .i64 0) := bc BK208.out 0; have hcz76_1 : w72.cell? ⟨gb208, 1, none⟩ = some (.int .i64 0) := bc BK208.out 1; have hfz76_0 := blk_frozen BK208.out 0; have hfz76_1 := blk_frozen BK208.out 1; have hnb77 := NB200_199.out; have hnc77 := NB199_200.out; have hcz78_0 : w72.cell? ⟨gb200, 0, none⟩ = some (.int .i64 1) := bc BK200.out 0; have hcz78_1 : w72.cell? ⟨gb200, 1, none⟩ = some (.func (.func 25) #[] #[]) := bc BK200.out 1; have hcz78_2 : w72.cell? ⟨gb200, 2, none⟩ = some (.func (.func 88) #[] #[]) := bc BK200.out 2; have hcz78_3 : w72.cell? ⟨gb200, 3, none⟩ = some (.func (.func 89) #[] #[]) := bc BK200.out 3; have hfz78_0 := blk_frozen BK200.out 0; have hfz78_1 := blk_frozen BK200.out 1; have hfz78_2 := blk_frozen BK200.out 2; have hfz78_3 := blk_frozen BK200.out 3) | (go_at_call 89; (with_reducible refine (find_up_2.calls t205 t206 ji5 false _ A19.out).mono ?_); rintro e w79 ⟨rfl, hb⟩; replace BK199 := am (blk_below (g := gb199) (o := .cells #[.int .i64 a0_0, .int .i64 a0_1, .slice A0_2 l0_2.length c0_2, .slice (some ad203) l0_3.length c0_3] 28 (0, 0)) (kf BK199.out NB199_208.out) hb); replace BK200 := am (blk_below (g := gb200) (o := .cells #[.int .i64 1, .func (.func 25) #[] #[], .func (.func 88) #[] #[], .func (.func 89) #[] #[]] 79 (0, 0)) (kf BK200.out NB200_208.out) hb); replace BK204 := am (blk_below (g := gb204) (o := .cells #[.int .i64 ((rd_T70 l0_3 x27_1).f0), .slice A203_1 ((rd_T70 l0_3 x27_1).f1).length c203_1] 70 (0, 0)) (kf BK204.out NB204_208.out) hb); replace BK208 := am (blk_below (g := gb208) (o := .cells #[.int .i64 t205, .int .i64 t206] 23 (0, 0)) (by (with_reducible repeat (first | refine blk_drewN ?_ _ | refine blk_drew ?_ | refine blk_alloc ?_ _)); refine blk_put (cs := #[.int .i64 t205, .int .i64 0]) ?_ 1 _ rfl; (with_reducible repeat (first | refine blk_drewN ?_ _ | refine blk_drew ?_ | refine blk_alloc ?_ _)); refine blk_put (cs := #[.int .i64 0, .int .i64 0]) ?_ 0 _ rfl; (with_reducible repeat (first | refine blk_drewN ?_ _ | refine blk_drew ?_ | refine blk_alloc ?_ _)); exact BK208.out) hb); replace HB := am (below_step (by repeat (first | (with_reducible first | exact HB.out | apply below_alloc | apply pw_below_drewN | apply below_drew1 | refine below_set ?_ GE199.out | refine below_set ?_ GE200.out | refine below_set ?_ GE204.out | refine below_set ?_ GE208.out) | exact HB.out)) hb); (try clear hb); (try clear hb2); (try clear hk); (try clear hi)))
        go_roundg k1
        case measure => have := HK1.out; omega
        case rel => exact ⟨(x8_1), (x9_1), (wrap64 (x27_1 + 1)), sm, sm, sm, H', ⟨by have := HK1.out; omega⟩, ⟨kp BK199.out⟩, ⟨kp BK200.out⟩, ⟨by repeat (first | (with_reducible first | exact HB.out | apply below_alloc | apply pw_below_drewN | apply below_drew1 | refine below_set ?_ GE199.out | refine below_set ?_ GE200.out | refine below_set ?_ GE204.out | refine below_set ?_ GE208.out) | exact HB.out)⟩⟩
      ·replace c18 := Bool.eq_false_iff.mpr c18
       subst c18
       have H1 : (find_nearest_up.l0 k1 ji5 x8_1 x9_1 l0_3 (l0_3.length : Int) (wrap64 (x27_1 + 1)) 1) = some (r1, r2) := by rw [if_neg (show ¬ (false = true) by decide)] at H; exact H
       clear H
       have H := H1
       clear H1
       have H' := am H
       clear H
       have p203 : 0 ≤ (x27_1 : Int) := of_decide_eq_true asm
       have q203 : x27_1 < (l0_3.length : Int) := of_decide_eq_true asm
       obtain ⟨ad203, A203_1, c203_1, e203, hx203_0, hx203_1, hl203_1, hi203_1⟩ := at_T70 HR0_3.out x27_1 p203 q203
       cases e203
       replace hx203_0 := (HB.out.cell (World.block_lt_of_cell? w _ hx203_0)).trans hx203_0
       replace hx203_1 := (HB.out.cell (World.block_lt_of_cell? w _ hx203_1)).trans hx203_1
       have HR203_1 := am hi203_1
       have HC203_1 := am hl203_1
       clear hi203_1 hl203_1
       replace p203 := eq_true p203
       replace q203 := eq_true q203
       go_wp2_with (first | ((with_reducible refine gate_dst (N := 11) rfl ?_); refine bx 11 70 #[.int .i64 0, .slice none 0 0] ?_; intro gb204 hg w80 hbox hb; have BK204 := am (hbox); have GW204 := am ((bz2 hg HB.out GE199.out GE200.out : w.heap.size ≤ gb204)); have GE204 := am ((bz2 hg HB.out GE199.out GE200.out : w.heap.size ≤ gb204)); replace HB := am (below_step (bl2 HB.out GE199.out GE200.out) hb); have NB199_204 := am ((nl hg BK199.out : gb199 ≠ gb204)); have NB204_199 := am ((ng hg BK199.out : gb204 ≠ gb199)); replace BK199 := am (blk_below (kp BK199.out) hb); have NB200_204 := am ((nl hg BK200.out : gb200 ≠ gb204)); have NB204_200 := am ((ng hg BK200.out : gb204 ≠ gb200)); replace BK200 := am (blk_below (kp BK200.out) hb); clear hb hbox hg; have hnb81 := NB204_199.out; have hnc81 := NB199_204.out; have hnb82 := NB204_200.out; have hnc82 := NB200_204.out; have hcz83_0 : w80.cell? ⟨gb204, 0, none⟩ = some (.int .i64 0) := bc BK204.out 0; have hcz83_1 : w80.cell? ⟨gb204, 1, none⟩ = some (.slice none 0 0) := bc BK204.out 1; have hfz83_0 := blk_frozen BK204.out 0; have hfz83_1 := blk_frozen BK204.out 1) | ((with_reducible refine gate_callee (f := 43) rfl ?_); refine goesL_ (some 34) rfl rfl Try.func43 (by kernel_rfl) rfl #[.slice A203_1 ((rd_T70 l0_3 x27_1).f1).length c203_1] rfl ar ?_; (with_reducible refine (spans_Hull.calls _ _ ((rd_T70 l0_3 x27_1).f1) t205 t206 false _ ?side1 ?side2 A17.out).mono ?_); (case side1 => exact Kd.C_below HR203_1.out (bl3 HB.out GE199.out GE200.out GE204.out)); (case side2 => exact HC203_1.out); rintro e w84 ⟨rfl, hb⟩; refine ⟨_, rfl, ?_⟩; replace BK199 := am (blk_below (g := gb199) (o := .cells #[.int .i64 a0_0, .int .i64 a0_1, .slice A0_2 l0_2.length c0_2, .slice (some ad203) l0_3.length c0_3] 28 (0, 0)) (kf BK199.out NB199_204.out) hb); replace BK200 := am (blk_below (g := gb200) (o := .cells #[.int .i64 1, .func (.func 25) #[] #[], .func (.func 88) #[] #[], .func (.func 89) #[] #[]] 79 (0, 0)) (kf BK200.out NB200_204.out) hb); replace BK204 := am (blk_below (g := gb204) (o := .cells #[.int .i64 ((rd_T70 l0_3 x27_1).f0), .slice A203_1 ((rd_T70 l0_3 x27_1).f1).length c203_1] 70 (0, 0)) (by (with_reducible repeat (first | refine blk_drewN ?_ _ | refine blk_drew ?_ | refine blk_alloc ?_ _)); refine blk_put (cs := #[.int .i64 ((rd_T70 l0_3 x27_1).f0), .slice none 0 0]) ?_ 1 _ rfl; (with_reducible repeat (first | refine blk_drewN ?_ _ | refine blk_drew ?_ | refine blk_alloc ?_ _)); refine blk_put (cs := #[.int .i64 0, .slice none 0 0]) ?_ 0 _ rfl; (with_reducible repeat (first | refine blk_drewN ?_ _ | refine blk_drew ?_ | refine blk_alloc ?_ _)); exact BK204.out) hb); replace HB := am (below_step (bl3 HB.out GE199.out GE200.out GE204.out) hb); (try clear hb); (try clear hb2); (try clear hk); (try clear hi)) | ((with_reducible refine gate_dst (N := 12) rfl ?_); refine bx 12 23 #[.int .i64 0, .int .i64 0] ?_; intro gb208 hg w85 hbox hb; have BK208 := am (hbox); have GW208 := am ((bz3 hg HB.out GE199.out GE200.out GE204.out : w.heap.size ≤ gb208)); have GE208 := am ((bz3 hg HB.out GE199.out GE200.out GE204.out : w.heap.size ≤ gb208)); replace HB := am (below_step (bl3 HB.out GE199.out GE200.out GE204.out) hb); have NB199_208 := am ((nl hg BK199.out : gb199 ≠ gb208)); have NB208_199 := am ((ng hg BK199.out : gb208 ≠ gb199)); replace BK199 := am (blk_below (kp BK199.out) hb); have NB200_208 := am ((nl hg BK200.out : gb200 ≠ gb208)); have NB208_200 := am ((ng hg BK200.out : gb208 ≠ gb200)); replace BK200 := am (blk_below (kp BK200.out) hb); have NB204_208 := am ((nl hg BK204.out : gb204 ≠ gb208)); have NB208_204 := am ((ng hg BK204.out : gb208 ≠ gb204)); replace BK204 := am (blk_below (kp BK204.out) hb); clear hb hbox hg; have hnb86 := NB208_199.out; have hnc86 := NB199_208.out; have hnb87 := NB208_200.out; have hnc87 := NB200_208.out; have hnb88 := NB208_204.out; have hnc88 := NB204_208.out; have hcz89_0 : w85.cell? ⟨gb208, 0, none⟩ = some (.int .i64 0) := bc BK208.out 0; have hcz89_1 : w85.cell? ⟨gb208, 1, none⟩ = some (.int .i64 0) := bc BK208.out 1; have hfz89_0 := blk_frozen BK208.out 0; have hfz89_1 := blk_frozen BK208.out 1))
       go_roundg k1
       case measure => have := HK1.out; omega
       case rel => exact ⟨(x8_1), (x9_1), (wrap64 (x27_1 + 1)), sm, sm, sm, H', ⟨by have := HK1.out; omega⟩, ⟨kf BK199.out NB199_208.out⟩, ⟨kf BK200.out NB200_208.out⟩, ⟨by repeat (first | (with_reducible first | exact HB.out | apply below_alloc | apply pw_below_drewN | apply below_drew1 | refine below_set ?_ GE199.out | refine below_set ?_ GE200.out | refine below_set ?_ GE204.out | refine below_set ?_ GE208.out) | exact HB.out)⟩⟩
     ·rw [if_neg c16] at H
      exact absurd H (by simp)
    ·rw [if_neg c15] at H
     exact absurd H (by simp)
   ·rw [if_neg c14] at H
    have c14b0 : decide (x27_1 < (l0_3.length : Int)) = false := decide_eq_false c14
    clear c14
    simp only [Option.some.injEq, Prod.mk.injEq] at H
    obtain ⟨rfl, rfl⟩ := H
    go_wp2
    go_ret2
    exact ⟨by first | rfl | (simp [errW_none, errW_some] <;> rfl) | (simp only [← hji4, ← hji5]; first | rfl | (simp [errW_none, errW_some] <;> rfl)) | (simp [*, errW_none, errW_some] <;> rfl), bl2 HB.out GE199.out GE200.out⟩

end Go.Proofs.Ytmbmalkpmanaaaa.P

namespace Go.Proofs.Ytmbmalkpmanaaaa.P
set_option linter.unusedVariables false
set_option linter.unusedSimpArgs false
open Go.RowKit Go.Proofs.YtmbmalkpmanaaaaW.PrintWords Go.Proofs.YtmbmalkpmanaaaaW.PrintLast

def find_up.f : Option Int := some 0
set_option maxRecDepth 100000 in
theorem find_up.calls (r : Int) (w : World) (h : find_up.f = some r) : Calls Try.prog 59 #[] w fun e w' => e = .returned (.agg #[.int .i64 1, .func (.func 25) #[] #[], .func (.func 88) #[] #[], .func (.func 89) #[] #[]]) ∧ Below w.heap.size w w' := by
  go_enter Try.func59, Try.ntmps59
  go_wp2
  exact bodyPost_ret (results_cell_row rfl _ _ w.heap.size 79 #[.int .i64 1, .func (.func 25) #[] #[], .func (.func 88) #[] #[], .func (.func 89) #[] #[]] (0, 0) _ rfl (blk_new _ _) Try.underlying79 rfl (by kernel_rfl)) rfl ⟨rfl, (Below.refl _ _).alloc (Nat.le_refl _) _⟩

def find_down.f : Option Int := some 0
set_option maxRecDepth 100000 in
theorem find_down.calls (r : Int) (w : World) (h : find_down.f = some r) : Calls Try.prog 60 #[] w fun e w' => e = .returned (.agg #[.int .i64 (-1), .func (.func 90) #[] #[], .func (.func 91) #[] #[], .func (.func 92) #[] #[]]) ∧ Below w.heap.size w w' := by
  go_enter Try.func60, Try.ntmps60
  go_wp2
  exact bodyPost_ret (results_cell_row rfl _ _ w.heap.size 79 #[.int .i64 (-1), .func (.func 90) #[] #[], .func (.func 91) #[] #[], .func (.func 92) #[] #[]] (0, 0) _ rfl (blk_new _ _) Try.underlying79 rfl (by kernel_rfl)) rfl ⟨rfl, (Below.refl _ _).alloc (Nat.le_refl _) _⟩
end Go.Proofs.Ytmbmalkpmanaaaa.P

namespace Go.Proofs.Ytmbmalkpmanaaaa.P
open Go.RowKit Go.Proofs.YtmbmalkpmanaaaaW.PrintWords Go.Proofs.YtmbmalkpmanaaaaW.PrintLast Go.Proofs.YtmbmalkpmanaaaaW.PrintMore
attribute [local go_sem] max2_int min2_int max_two min_two max_three min_three max_four min_four   -- for this text's walks alone
set_option linter.unusedVariables false
set_option linter.unusedSimpArgs false

def find_From.f (k : Nat) (a0_0 : Int) (a0_1 : Int) (l0_2 : List (List (S23))) (l0_3 : List (S70)) (a1 : Int) : Option (Int × Bool) := (find_up.f).bind fun t211 => ((find_nearest_up.f k a0_0 a0_1 l0_2 l0_3 a1).bind fun bt212 => (some (bt212.1, bt212.2)))
theorem find_From.mono : ∀ a0 a1 a2 a3 a4 k, LeO (find_From.f k a0 a1 a2 a3 a4) (find_From.f (k + 1) a0 a1 a2 a3 a4) := by
 intro a0 a1 a2 a3 a4 k
 unfold find_From.f
 repeat' first
  | (with_reducible exact find_nearest_up.mono _ _ _ _ _ _)
  | (with_reducible exact LeO.refl _)
  | (with_reducible exact LeO.none _)
  | (with_reducible refine LeO.ite ?_ ?_)
  | (with_reducible refine LeO.bind ?_ (fun _ => ?_))
  | exact find_nearest_up.mono _ _ _ _ _ _
  | exact LeO.none _
  | refine LeO.ite ?_ ?_
  | refine LeO.bind ?_ (fun _ => ?_)
def find_From.T1 : Bool × List (List Nat × List Nat) := (true, [([], []), ([], []), ([], []), ([0, 1, 2, 2], [0, 1, 2]), ([3], [3]), ([3], [3]), ([4, 3, 0, 1, 2, 3, 4, 5], [4]), ([5, 6, 0, 1, 2, 3, 4, 5, 6], [5])])
def find_From.B1 : List Nat := [0, 0, 0, 7, 15, 15, 63, 127]
theorem find_From.tab1 : rtab .any (opsOf Try.f22 1) = find_From.T1 := by kernel_rfl
theorem find_From.bits1 : waitsOk find_From.T1.2 find_From.B1 = true := by kernel_rfl
set_option maxHeartbeats 8000000 in
set_option maxRecDepth 100000 in
theorem find_From.calls (k : Nat) (a0_0 : Int) (a0_1 : Int) (A0_2 : Option Addr) (c0_2 : Nat) (l0_2 : List (List (S23))) (A0_3 : Option Addr) (c0_3 : Nat) (l0_3 : List (S70)) (a1 : Int) (r1 : Int) (r2 : Bool) (w : World) (hr0_2 : Kd.C (Kd.slice 23 k23) w A0_2 l0_2.length l0_2) (hc0_2 : l0_2.length ≤ c0_2) (hr0_3 : Kd.C k70 w A0_3 l0_3.length l0_3) (hc0_3 : l0_3.length ≤ c0_3) (h : find_From.f k a0_0 a0_1 l0_2 l0_3 a1 = some (r1, r2)) :
 Calls Try.prog 22 #[.agg #[.int .i64 a0_0, .int .i64 a0_1, .slice A0_2 l0_2.length c0_2, .slice A0_3 l0_3.length c0_3], .int .i64 a1] w fun e w' => e = .returned (.tuple #[.int .i64 r1, .bool r2]) ∧ Below w.heap.size w w' := by
 have hu28 := Try.underlying28
 have HR0_2 := am hr0_2
 have HC0_2 := am hc0_2
 clear hr0_2 hc0_2
 have HR0_3 := am hr0_3
 have HC0_3 := am hc0_3
 clear hr0_3 hc0_3
 have HB := am (Below.refl w.heap.size w)
 have H : ((find_up.f).bind fun t211 => ((find_nearest_up.f k a0_0 a0_1 l0_2 l0_3 a1).bind fun bt212 => (some (bt212.1, bt212.2)))) = some (r1, r2) := h
 clear h
 replace H := Option.bind_eq_some_iff.mp H
 obtain ⟨t211, A30, H⟩ := H
 try dsimp only at H
 have A3 := am A30
 clear A30
 replace H := Option.bind_eq_some_iff.mp H
 obtain ⟨⟨t212, t213⟩, A40, H⟩ := H
 try dsimp only at H
 have A4 := am A40
 clear A40
 simp only [Option.some.injEq, Prod.mk.injEq] at H
 obtain ⟨rfl, rfl⟩ := H
 go_enter Try.func22, Try.ntmps22
 try go_wp2_with (first | ((with_reducible refine gate_dst (N := 2) rfl ?_); refine bx 2 28 #[.int .i64 a0_0, .int .i64 a0_1, .slice A0_2 l0_2.length c0_2, .slice A0_3 l0_3.length c0_3] ?_; intro gb210 hg w5 hbox hb; have BK210 := am (hbox); have GW210 := am ((bz hg HB.out : w.heap.size ≤ gb210)); have GE210 := am ((bz hg HB.out : w.heap.size ≤ gb210)); replace HB := am (below_step (bl HB.out) hb); clear hb hbox hg))
 replace BK210 := am (blk_drew BK210.out)
 replace HB := am (below_drew1 HB.out)
 refine start_ (n := 8) (S := fun w' => w'.cell? ⟨gb210, 0, none⟩ = some (.int .i64 a0_0) ∧ w'.cell? ⟨gb210, 1, none⟩ = some (.int .i64 a0_1) ∧ w'.cell? ⟨gb210, 2, none⟩ = some (.slice A0_2 l0_2.length c0_2) ∧ w'.cell? ⟨gb210, 3, none⟩ = some (.slice A0_3 l0_3.length c0_3)) (ds := []) (bs 8 0) (by kernel_rfl) rfl rfl ⟨bc BK210.out 0, bc BK210.out 1, bc BK210.out 2, bc BK210.out 3⟩ (fun hHeld => ?_); refine with_tabW find_From.tab1 find_From.bits1 (fun HT_ HW_ => ?_)
 generalize w5.drew = w6 at BK210 HB hHeld ⊢
 refine px 1 7 (bs 8 2) HT_.out ?_
 refine tx 0 6 (bs 8 3) HT_.out HW_.out hHeld ?_
 refine one_ (i := 2) (N := some 8) (bs 8 7) rfl rfl (one_of HT_.out (by kernel_rfl)) (by decide) (fun K hK => ?_)
 refine goes_ Try.func59 (by kernel_rfl) rfl #[] (by rfl) rfl rfl ar ?_
 with_reducible refine (find_up.calls  t211 _ A3.out).mono ?_
 rintro e w7 ⟨rfl, hb⟩
 refine ⟨_, rfl, ?_⟩
 replace BK210 := am (blk_below (kp BK210.out) hb)
 replace HB := am (below_step (bl1 HB.out GE210.out) hb)
 (try clear hb)
 (try clear hb2)
 (try clear hk)
 (try clear hi)
 refine hK.out _ _ ⟨bc BK210.out 0, bc BK210.out 1, bc BK210.out 2, bc BK210.out 3⟩ (fun hHeld => ?_)
 clear hK K
 refine nx ?_
 refine one_ (i := 3) (N := some 9) (bs 8 15) rfl rfl (one_of HT_.out (by kernel_rfl)) (by decide) (fun K hK => ?_)
 refine goes_ Try.func58 (by kernel_rfl) rfl #[.agg #[.int .i64 a0_0, .int .i64 a0_1, .slice A0_2 l0_2.length c0_2, .slice A0_3 l0_3.length c0_3], .int .i64 a1, .agg #[.int .i64 1, .func (.func 25) #[] #[], .func (.func 88) #[] #[], .func (.func 89) #[] #[]]] (by rfl) rfl rfl ar ?_
 with_reducible refine (find_nearest_up.calls k a0_0 a0_1 _ _ l0_2 _ _ l0_3 a1 t212 t213 _ ?side1 ?side2 ?side3 ?side4 A4.out).mono ?_
 (case side1 => exact kc (Kd.C_below HR0_2.out HB.out))
 (case side2 => exact HC0_2.out)
 (case side3 => exact kc (Kd.C_below HR0_3.out HB.out))
 (case side4 => exact HC0_3.out)
 rintro e w8 ⟨rfl, hb⟩
 refine ⟨_, rfl, ?_⟩
 replace BK210 := am (blk_below (kp BK210.out) hb)
 replace HB := am (below_step (bl1 HB.out GE210.out) hb)
 (try clear hb)
 (try clear hb2)
 (try clear hk)
 (try clear hi)
 refine hK.out _ _ ⟨bc BK210.out 0, bc BK210.out 1, bc BK210.out 2, bc BK210.out 3⟩ (fun hHeld => ?_)
 clear hK K
 refine nx ?_
 refine px 4 10 (bs 8 31) HT_.out ?_
 refine px 5 11 (bs 8 63) HT_.out ?_
 refine px 6 4 (bs 8 127) HT_.out ?_
 refine px 7 5 (bs 8 255) HT_.out ?_
 refine done_ (done_of HT_.out (by kernel_rfl)) ?_
 try go_wp2
 go_ret2
 exact ⟨rt, bl1 HB.out GE210.out⟩

end Go.Proofs.Ytmbmalkpmanaaaa.P

namespace Go.Proofs.Ytmbmalkpmanaaaa.P
open Go.RowKit Go.Proofs.YtmbmalkpmanaaaaW.PrintWords Go.Proofs.YtmbmalkpmanaaaaW.PrintLast Go.Proofs.YtmbmalkpmanaaaaW.PrintMore
attribute [local go_sem] max2_int min2_int max_two min_two max_three min_three max_four min_four   -- for this text's walks alone
set_option linter.unusedVariables false
set_option linter.unusedSimpArgs false

def spans_Has_1.f (a0_0 : Int) (a0_1 : Int) (a1 : Int) : Option (Int) := if a0_1 < a1 then (some (-1)) else (if a0_0 > a1 then (some 1) else (some 0))
set_option maxHeartbeats 8000000 in
set_option maxRecDepth 100000 in
theorem spans_Has_1.calls (a0_0 : Int) (a0_1 : Int) (a1 : Int) (r : Int) (w : World) (h : spans_Has_1.f a0_0 a0_1 a1 = some r) :
 Calls Try.prog 62 #[.agg #[.int .i64 a0_0, .int .i64 a0_1], .int .i64 a1] w fun e w' => e = .returned (.int .i64 r) ∧ Below w.heap.size w w' := by
 have hu23 := Try.underlying23
 have HB := am (Below.refl w.heap.size w)
 have H : (if a0_1 < a1 then (some (-1)) else (if a0_0 > a1 then (some 1) else (some 0))) = some r := h
 clear h
 by_cases c3 : a0_1 < a1
 ·rw [if_pos c3] at H
  have c3b0 : decide (a0_1 < a1) = true := decide_eq_true c3
  clear c3
  obtain rfl := Option.some.inj H
  go_enter Try.func62, Try.ntmps62
  go_wp2_with (first | ((with_reducible refine gate_dst (N := 2) rfl ?_); refine bx 2 23 #[.int .i64 a0_0, .int .i64 a0_1] ?_; intro gb1185 hg w4 hbox hb; have BK1185 := am (hbox); have GW1185 := am ((bz hg HB.out : w.heap.size ≤ gb1185)); have GE1185 := am ((bz hg HB.out : w.heap.size ≤ gb1185)); replace HB := am (below_step (bl HB.out) hb); clear hb hbox hg; have hcz5_0 : w4.cell? ⟨gb1185, 0, none⟩ = some (.int .i64 a0_0) := bc BK1185.out 0; have hcz5_1 : w4.cell? ⟨gb1185, 1, none⟩ = some (.int .i64 a0_1) := bc BK1185.out 1; have hfz5_0 := blk_frozen BK1185.out 0; have hfz5_1 := blk_frozen BK1185.out 1))
  go_ret
  exact ⟨rt, bl1 HB.out GE1185.out⟩
 ·rw [if_neg c3] at H
  have c3b0 : decide (a0_1 < a1) = false := decide_eq_false c3
  clear c3
  by_cases c6 : a0_0 > a1
  ·rw [if_pos c6] at H
   have c6b0 : decide (a1 < a0_0) = true := decide_eq_true c6
   clear c6
   obtain rfl := Option.some.inj H
   go_enter Try.func62, Try.ntmps62
   go_wp2_with (first | ((with_reducible refine gate_dst (N := 2) rfl ?_); refine bx 2 23 #[.int .i64 a0_0, .int .i64 a0_1] ?_; intro gb1185 hg w7 hbox hb; have BK1185 := am (hbox); have GW1185 := am ((bz hg HB.out : w.heap.size ≤ gb1185)); have GE1185 := am ((bz hg HB.out : w.heap.size ≤ gb1185)); replace HB := am (below_step (bl HB.out) hb); clear hb hbox hg; have hcz8_0 : w7.cell? ⟨gb1185, 0, none⟩ = some (.int .i64 a0_0) := bc BK1185.out 0; have hcz8_1 : w7.cell? ⟨gb1185, 1, none⟩ = some (.int .i64 a0_1) := bc BK1185.out 1; have hfz8_0 := blk_frozen BK1185.out 0; have hfz8_1 := blk_frozen BK1185.out 1))
   go_ret
   exact ⟨rt, bl1 HB.out GE1185.out⟩
  ·rw [if_neg c6] at H
   have c6b0 : decide (a1 < a0_0) = false := decide_eq_false c6
   clear c6
   obtain rfl := Option.some.inj H
   go_enter Try.func62, Try.ntmps62
   go_wp2_with (first | ((with_reducible refine gate_dst (N := 2) rfl ?_); refine bx 2 23 #[.int .i64 a0_0, .int .i64 a0_1] ?_; intro gb1185 hg w9 hbox hb; have BK1185 := am (hbox); have GW1185 := am ((bz hg HB.out : w.heap.size ≤ gb1185)); have GE1185 := am ((bz hg HB.out : w.heap.size ≤ gb1185)); replace HB := am (below_step (bl HB.out) hb); clear hb hbox hg; have hcz10_0 : w9.cell? ⟨gb1185, 0, none⟩ = some (.int .i64 a0_0) := bc BK1185.out 0; have hcz10_1 : w9.cell? ⟨gb1185, 1, none⟩ = some (.int .i64 a0_1) := bc BK1185.out 1; have hfz10_0 := blk_frozen BK1185.out 0; have hfz10_1 := blk_frozen BK1185.out 1))
   go_ret
   exact ⟨rt, bl1 HB.out GE1185.out⟩

end Go.Proofs.Ytmbmalkpmanaaaa.P

namespace Go.Proofs.Ytmbmalkpmanaaaa.P
open Go.RowKit Go.Proofs.YtmbmalkpmanaaaaW.PrintWords Go.Proofs.YtmbmalkpmanaaaaW.PrintLast Go.Proofs.YtmbmalkpmanaaaaW.PrintMore
attribute [local go_sem] max2_int min2_int max_two min_two max_three min_three max_four min_four   -- for this text's walks alone
set_option linter.unusedVariables false
set_option linter.unusedSimpArgs false

def slices_BinarySearchFunc_Span_int.l0 : Nat → List (S23) → Int → Int → Int → Int → Option (Int × Bool)
 | 0, _, _, _, _, _ => none
 | k + 1, x0, x1, x8, x9, x10 => if x9 < x10 then (if 0 ≤ (wrap64 ((IntKind.u64.wrap (wrap64 (x9 + x10))) / 2)) then (if (wrap64 ((IntKind.u64.wrap (wrap64 (x9 + x10))) / 2)) < (x0.length : Int) then ((spans_Has_1.f ((rd_T23 x0 (wrap64 ((IntKind.u64.wrap (wrap64 (x9 + x10))) / 2))).f0) ((rd_T23 x0 (wrap64 ((IntKind.u64.wrap (wrap64 (x9 + x10))) / 2))).f1) x1).bind fun t1187 => (if t1187 < 0 then (slices_BinarySearchFunc_Span_int.l0 k x0 x1 x8 (wrap64 ((wrap64 ((IntKind.u64.wrap (wrap64 (x9 + x10))) / 2)) + 1)) x10) else (slices_BinarySearchFunc_Span_int.l0 k x0 x1 x8 x9 (wrap64 ((IntKind.u64.wrap (wrap64 (x9 + x10))) / 2))))) else (none)) else (none)) else (if x9 < x8 then (if 0 ≤ x9 then (if x9 < (x0.length : Int) then ((spans_Has_1.f ((rd_T23 x0 x9).f0) ((rd_T23 x0 x9).f1) x1).bind fun t1189 => (some (x9, (t1189 == 0)))) else (none)) else (none)) else (some (x9, false)))
def slices_BinarySearchFunc_Span_int.f (k : Nat) (l0 : List (S23)) (a1 : Int)  : Option (Int × Bool) := slices_BinarySearchFunc_Span_int.l0 k l0 a1 (l0.length : Int) 0 (l0.length : Int)
theorem slices_BinarySearchFunc_Span_int.mono_l : ∀ k, (∀ y0 y1 y2 y3 y4, LeO (slices_BinarySearchFunc_Span_int.l0 k y0 y1 y2 y3 y4) (slices_BinarySearchFunc_Span_int.l0 (k + 1) y0 y1 y2 y3 y4))
 | 0 => fun _ _ _ _ _ r h => by simp [slices_BinarySearchFunc_Span_int.l0] at h
 | k + 1 => by
  have ih0 := slices_BinarySearchFunc_Span_int.mono_l k
  ·intro y0 y1 y2 y3 y4
   unfold slices_BinarySearchFunc_Span_int.l0
   repeat' first
   | (with_reducible exact ih0 _ _ _ _ _)
   | (with_reducible exact LeO.refl _)
   | (with_reducible exact LeO.none _)
   | (with_reducible refine LeO.ite ?_ ?_)
   | (with_reducible refine LeO.bind ?_ (fun _ => ?_))
   | exact ih0 _ _ _ _ _
   | exact LeO.none _
   | refine LeO.ite ?_ ?_
   | refine LeO.bind ?_ (fun _ => ?_)
theorem slices_BinarySearchFunc_Span_int.mono : ∀ a0 a1 k, LeO (slices_BinarySearchFunc_Span_int.f k a0 a1) (slices_BinarySearchFunc_Span_int.f (k + 1) a0 a1) := by
 intro a0 a1 k
 have ih0 := slices_BinarySearchFunc_Span_int.mono_l k
 unfold slices_BinarySearchFunc_Span_int.f
 repeat' first
  | (with_reducible exact ih0 _ _ _ _ _)
  | (with_reducible exact LeO.refl _)
  | (with_reducible exact LeO.none _)
  | (with_reducible refine LeO.ite ?_ ?_)
  | (with_reducible refine LeO.bind ?_ (fun _ => ?_))
  | exact ih0 _ _ _ _ _
  | exact LeO.none _
  | refine LeO.ite ?_ ?_
  | refine LeO.bind ?_ (fun _ => ?_)
set_option maxHeartbeats 8000000 in
set_option maxRecDepth 100000 in
theorem slices_BinarySearchFunc_Span_int.calls (k : Nat) (A0 : Option Addr) (c0 : Nat) (l0 : List (S23)) (a1 : Int)  (r1 : Int) (r2 : Bool) (w : World) (hr0 : Kd.C k23 w A0 l0.length l0) (hc0 : l0.length ≤ c0) (h : slices_BinarySearchFunc_Span_int.f k l0 a1 = some (r1, r2)) :
 Calls Try.prog 61 #[.slice A0 l0.length c0, .int .i64 a1, .func (.func 62) #[] #[]] w fun e w' => e = .returned (.tuple #[.int .i64 r1, .bool r2]) ∧ Below w.heap.size w w' := by
 have hu23 := Try.underlying23
 have HR0 := am hr0
 have HC0 := am hc0
 clear hr0 hc0
 have HB := am (Below.refl w.heap.size w)
 have H : (slices_BinarySearchFunc_Span_int.l0 k l0 a1 (l0.length : Int) 0 (l0.length : Int)) = some (r1, r2) := h
 clear h
 have H' := am H
 clear H
 go_enter Try.func61, Try.ntmps61
 go_wp2
 go_loopg [9, 10] k (fun kq v9 v10 w' => ∃ (x9_1 : Int) (x10_1 : Int), v9 = .int .i64 x9_1 ∧ v10 = .int .i64 x10_1 ∧ Aside0 (slices_BinarySearchFunc_Span_int.l0 kq l0 a1 (l0.length : Int) x9_1 x10_1 = some (r1, r2)) ∧ Aside0 (kq ≤ k) ∧ Aside0 (Below w.heap.size w w'))
 case atStart => exact ⟨(0), ((l0.length : Int)), sm, sm, H', ⟨Nat.le_refl _⟩, ⟨bl HB.out⟩⟩
 case round =>
  clear H'
  try clear p2
  obtain ⟨x9_1, x10_1, rfl, rfl, HA, HK1, HB⟩ := hrel
  cases gk with
  | zero => exact absurd HA.out (by simp [slices_BinarySearchFunc_Span_int.l0])
  | succ k1 =>
   have H := HA.out
   clear HA
   simp only [slices_BinarySearchFunc_Span_int.l0] at H
   by_cases c4 : x9_1 < x10_1
   ·rw [if_pos c4] at H
    have c4b0 : decide (x9_1 < x10_1) = true := decide_eq_true c4
    clear c4
    obtain ⟨ji5, hji5⟩ : ∃ j_ : Int, (wrap64 ((IntKind.u64.wrap (wrap64 (x9_1 + x10_1))) / 2)) = j_ := ⟨_, rfl⟩
    replace H : (if 0 ≤ (ji5) then (if (ji5) < (l0.length : Int) then ((spans_Has_1.f ((rd_T23 l0 (ji5)).f0) ((rd_T23 l0 (ji5)).f1) a1).bind fun t1187 => (if t1187 < 0 then (slices_BinarySearchFunc_Span_int.l0 k1 l0 a1 (l0.length : Int) (wrap64 ((ji5) + 1)) x10_1) else (slices_BinarySearchFunc_Span_int.l0 k1 l0 a1 (l0.length : Int) x9_1 ji5))) else (none)) else (none)) = some (r1, r2) := by first | (rw [hji5] at H; exact H) | (simp only [hji5] at H ⊢; exact H)
    have hji5w : (IntKind.i64.wrap ((IntKind.u64.wrap (wrap64 (x9_1 + x10_1))) / 2)) = ji5 := (i64_w _).trans hji5
    by_cases c6 : 0 ≤ (ji5)
    ·rw [if_pos c6] at H
     have c6b0 : decide (0 ≤ (ji5)) = true := decide_eq_true c6
     clear c6
     by_cases c7 : (ji5) < (l0.length : Int)
     ·rw [if_pos c7] at H
      have c7b0 : decide ((ji5) < (l0.length : Int)) = true := decide_eq_true c7
      clear c7
      replace H := Option.bind_eq_some_iff.mp H
      obtain ⟨t1187, A80, H⟩ := H
      try dsimp only at H
      have A8 := am A80
      clear A80
      by_cases c9 : t1187 < 0
      ·rw [if_pos c9] at H
       have c9b0 : decide (t1187 < 0) = true := decide_eq_true c9
       clear c9
       have H' := am H
       clear H
       have p1186 : 0 ≤ ((ji5) : Int) := of_decide_eq_true asm
       have q1186 : (ji5) < (l0.length : Int) := of_decide_eq_true asm
       obtain ⟨ad1186, e1186, hx1186_0, hx1186_1⟩ := at_T23 HR0.out (ji5) p1186 q1186
       cases e1186
       replace hx1186_0 := (HB.out.cell (World.block_lt_of_cell? w _ hx1186_0)).trans hx1186_0
       replace hx1186_1 := (HB.out.cell (World.block_lt_of_cell? w _ hx1186_1)).trans hx1186_1
       replace p1186 := eq_true p1186
       replace q1186 := eq_true q1186
       go_wp2_with (first | (go_at_call 62; (with_reducible refine (spans_Has_1.calls ((rd_T23 l0 (ji5)).f0) ((rd_T23 l0 (ji5)).f1) a1 t1187 _ A8.out).mono ?_); rintro e w10 ⟨rfl, hb⟩; replace HB := am (below_step (bl HB.out) hb); (try clear hb); (try clear hb2); (try clear hk); (try clear hi)))
       go_roundg k1
       case measure => have := HK1.out; omega
       case rel => exact ⟨(wrap64 ((ji5) + 1)), (x10_1), (by first | rfl | (simp; done) | (simp only [← hji5] <;> (first | rfl | simp)) | (simp [*]; done)), sm, H', ⟨by have := HK1.out; omega⟩, ⟨bl HB.out⟩⟩
      ·rw [if_neg c9] at H
       have c9b0 : decide (t1187 < 0) = false := decide_eq_false c9
       clear c9
       have H' := am H
       clear H
       have p1186 : 0 ≤ ((ji5) : Int) := of_decide_eq_true asm
       have q1186 : (ji5) < (l0.length : Int) := of_decide_eq_true asm
       obtain ⟨ad1186, e1186, hx1186_0, hx1186_1⟩ := at_T23 HR0.out (ji5) p1186 q1186
       cases e1186
       replace hx1186_0 := (HB.out.cell (World.block_lt_of_cell? w _ hx1186_0)).trans hx1186_0
       replace hx1186_1 := (HB.out.cell (World.block_lt_of_cell? w _ hx1186_1)).trans hx1186_1
       replace p1186 := eq_true p1186
       replace q1186 := eq_true q1186
       go_wp2_with (first | (go_at_call 62; (with_reducible refine (spans_Has_1.calls ((rd_T23 l0 (ji5)).f0) ((rd_T23 l0 (ji5)).f1) a1 t1187 _ A8.out).mono ?_); rintro e w11 ⟨rfl, hb⟩; replace HB := am (below_step (bl HB.out) hb); (try clear hb); (try clear hb2); (try clear hk); (try clear hi)))
       go_roundg k1
       case measure => have := HK1.out; omega
       case rel => exact ⟨(x9_1), (ji5), sm, (by first | rfl | (simp; done) | (simp only [← hji5] <;> (first | rfl | simp)) | (simp [*]; done)), H', ⟨by have := HK1.out; omega⟩, ⟨bl HB.out⟩⟩
     ·rw [if_neg c7] at H
      exact absurd H (by simp)
    ·rw [if_neg c6] at H
     exact absurd H (by simp)
   ·rw [if_neg c4] at H
    have c4b0 : decide (x9_1 < x10_1) = false := decide_eq_false c4
    clear c4
    by_cases c12 : x9_1 < (l0.length : Int)
    ·rw [if_pos c12] at H
     have c12b0 : decide (x9_1 < (l0.length : Int)) = true := decide_eq_true c12
     clear c12
     by_cases c13 : 0 ≤ x9_1
     ·rw [if_pos c13] at H
      have c13b0 : decide (0 ≤ x9_1) = true := decide_eq_true c13
      clear c13
      by_cases c14 : x9_1 < (l0.length : Int)
      ·rw [if_pos c14] at H
       have c14b0 : decide (x9_1 < (l0.length : Int)) = true := decide_eq_true c14
       clear c14
       replace H := Option.bind_eq_some_iff.mp H
       obtain ⟨t1189, A150, H⟩ := H
       try dsimp only at H
       have A15 := am A150
       clear A150
       simp only [Option.some.injEq, Prod.mk.injEq] at H
       obtain ⟨rfl, rfl⟩ := H
       have p1188 : 0 ≤ (x9_1 : Int) := of_decide_eq_true asm
       have q1188 : x9_1 < (l0.length : Int) := of_decide_eq_true asm
       obtain ⟨ad1188, e1188, hx1188_0, hx1188_1⟩ := at_T23 HR0.out x9_1 p1188 q1188
       cases e1188
       replace hx1188_0 := (HB.out.cell (World.block_lt_of_cell? w _ hx1188_0)).trans hx1188_0
       replace hx1188_1 := (HB.out.cell (World.block_lt_of_cell? w _ hx1188_1)).trans hx1188_1
       replace p1188 := eq_true p1188
       replace q1188 := eq_true q1188
       go_wp2_with (first | (go_at_call 62; (with_reducible refine (spans_Has_1.calls ((rd_T23 l0 x9_1).f0) ((rd_T23 l0 x9_1).f1) a1 t1189 _ A15.out).mono ?_); rintro e w16 ⟨rfl, hb⟩; replace HB := am (below_step (bl HB.out) hb); (try clear hb); (try clear hb2); (try clear hk); (try clear hi)))
       go_ret2
       exact ⟨rt, bl HB.out⟩
      ·rw [if_neg c14] at H
       exact absurd H (by simp)
     ·rw [if_neg c13] at H
      exact absurd H (by simp)
    ·rw [if_neg c12] at H
     have c12b0 : decide (x9_1 < (l0.length : Int)) = false := decide_eq_false c12
     clear c12
     simp only [Option.some.injEq, Prod.mk.injEq] at H
     obtain ⟨rfl, rfl⟩ := H
     go_wp2
     go_ret2
     exact ⟨rt, bl HB.out⟩

end Go.Proofs.Ytmbmalkpmanaaaa.P

namespace Go.Proofs.Ytmbmalkpmanaaaa.P
open Go.RowKit Go.Proofs.YtmbmalkpmanaaaaW.PrintWords Go.Proofs.YtmbmalkpmanaaaaW.PrintLast Go.Proofs.YtmbmalkpmanaaaaW.PrintMore
attribute [local go_sem] max2_int min2_int max_two min_two max_three min_three max_four min_four   -- for this text's walks alone
set_option linter.unusedVariables false
set_option linter.unusedSimpArgs false

def spans_Has.f (k : Nat) (l0 : List (S23)) (a1 : Int) : Option (Bool) := (slices_BinarySearchFunc_Span_int.f k l0 a1).bind fun bt1190 => (if bt1190.2 = true then (some (decide (bt1190.1 < (l0.length : Int)))) else (some false))
theorem spans_Has.mono : ∀ a0 a1 k, LeO (spans_Has.f k a0 a1) (spans_Has.f (k + 1) a0 a1) := by
 intro a0 a1 k
 unfold spans_Has.f
 repeat' first
  | (with_reducible exact slices_BinarySearchFunc_Span_int.mono _ _ _)
  | (with_reducible exact LeO.refl _)
  | (with_reducible exact LeO.none _)
  | (with_reducible refine LeO.ite ?_ ?_)
  | (with_reducible refine LeO.bind ?_ (fun _ => ?_))
  | exact slices_BinarySearchFunc_Span_int.mono _ _ _
  | exact LeO.none _
  | refine LeO.ite ?_ ?_
  | refine LeO.bind ?_ (fun _ => ?_)
set_option maxHeartbeats 8000000 in
set_option maxRecDepth 100000 in
theorem spans_Has.calls (k : Nat) (A0 : Option Addr) (c0 : Nat) (l0 : List (S23)) (a1 : Int) (r : Bool) (w : World) (hr0 : Kd.C k23 w A0 l0.length l0) (hc0 : l0.length ≤ c0) (h : spans_Has.f k l0 a1 = some r) :
 Calls Try.prog 24 #[.slice A0 l0.length c0, .int .i64 a1] w fun e w' => e = .returned (.bool r) ∧ Below w.heap.size w w' := by
 have HR0 := am hr0
 have HC0 := am hc0
 clear hr0 hc0
 have HB := am (Below.refl w.heap.size w)
 have H : ((slices_BinarySearchFunc_Span_int.f k l0 a1).bind fun bt1190 => (if bt1190.2 = true then (some (decide (bt1190.1 < (l0.length : Int)))) else (some false))) = some r := h
 clear h
 replace H := Option.bind_eq_some_iff.mp H
 obtain ⟨⟨t1190, t1191⟩, A30, H⟩ := H
 try dsimp only at H
 have A3 := am A30
 clear A30
 by_cases c4 : t1191 = true
 ·subst c4
  have H1 : (some (decide (t1190 < (l0.length : Int)))) = some r := by rw [if_pos rfl] at H; exact H
  clear H
  have H := H1
  clear H1
  obtain rfl := Option.some.inj H
  go_enter Try.func24, Try.ntmps24
  go_wp2_with (first | ((with_reducible refine gate_callee (f := 61) rfl ?_); refine goesL_ (some 10) rfl rfl Try.func61 (by kernel_rfl) rfl #[.slice A0 l0.length c0, .int .i64 a1, .func (.func 62) #[] #[]] rfl ar ?_; (with_reducible refine (slices_BinarySearchFunc_Span_int.calls k _ _ l0 a1 t1190 true _ ?side1 ?side2 A3.out).mono ?_); (case side1 => exact kc HR0.out); (case side2 => exact HC0.out); rintro e w5 ⟨rfl, hb⟩; refine ⟨_, rfl, ?_⟩; replace HB := am (below_step (bl HB.out) hb); (try clear hb); (try clear hb2); (try clear hk); (try clear hi)))
  go_ret
  exact ⟨rt, bl HB.out⟩
 ·replace c4 := Bool.eq_false_iff.mpr c4
  subst c4
  have H1 : (some false) = some r := by rw [if_neg (show ¬ (false = true) by decide)] at H; exact H
  clear H
  have H := H1
  clear H1
  obtain rfl := Option.some.inj H
  go_enter Try.func24, Try.ntmps24
  go_wp2_with (first | ((with_reducible refine gate_callee (f := 61) rfl ?_); refine goesL_ (some 10) rfl rfl Try.func61 (by kernel_rfl) rfl #[.slice A0 l0.length c0, .int .i64 a1, .func (.func 62) #[] #[]] rfl ar ?_; (with_reducible refine (slices_BinarySearchFunc_Span_int.calls k _ _ l0 a1 t1190 false _ ?side1 ?side2 A3.out).mono ?_); (case side1 => exact kc HR0.out); (case side2 => exact HC0.out); rintro e w6 ⟨rfl, hb⟩; refine ⟨_, rfl, ?_⟩; replace HB := am (below_step (bl HB.out) hb); (try clear hb); (try clear hb2); (try clear hk); (try clear hi)))
  go_ret
  exact ⟨rt, bl HB.out⟩

end Go.Proofs.Ytmbmalkpmanaaaa.P

namespace Go.Proofs.Ytmbmalkpmanaaaa.P
open Go.RowKit Go.Proofs.YtmbmalkpmanaaaaW.PrintWords Go.Proofs.YtmbmalkpmanaaaaW.PrintLast Go.Proofs.YtmbmalkpmanaaaaW.PrintMore
attribute [local go_sem] max2_int min2_int max_two min_two max_three min_three max_four min_four   -- for this text's walks alone
set_option linter.unusedVariables false
set_option linter.unusedSimpArgs false

def find_At.f (k : Nat) (a0_0 : Int) (a0_1 : Int) (l0_2 : List (List (S23))) (l0_3 : List (S70)) (a1 : Int) : Option (Int × Bool) := (find_From.f k a0_0 a0_1 l0_2 l0_3 a1).bind fun bt222 => (if bt222.2 = true then ((gran_Get.f k a0_0 a0_1 l0_2 l0_3 bt222.1).bind fun bt224 => ((spans_Has.f k bt224.1 a1).bind fun t228 => (if t228 = true then (some (bt222.1, true)) else (some (0, false))))) else (some (0, false)))
theorem find_At.mono : ∀ a0 a1 a2 a3 a4 k, LeO (find_At.f k a0 a1 a2 a3 a4) (find_At.f (k + 1) a0 a1 a2 a3 a4) := by
 intro a0 a1 a2 a3 a4 k
 unfold find_At.f
 repeat' first
  | (with_reducible exact find_From.mono _ _ _ _ _ _)
  | (with_reducible exact gran_Get.mono _ _ _ _ _ _)
  | (with_reducible exact spans_Has.mono _ _ _)
  | (with_reducible exact LeO.refl _)
  | (with_reducible exact LeO.none _)
  | (with_reducible refine LeO.ite ?_ ?_)
  | (with_reducible refine LeO.bind ?_ (fun _ => ?_))
  | exact find_From.mono _ _ _ _ _ _
  | exact gran_Get.mono _ _ _ _ _ _
  | exact spans_Has.mono _ _ _
  | exact LeO.none _
  | refine LeO.ite ?_ ?_
  | refine LeO.bind ?_ (fun _ => ?_)
set_option maxHeartbeats 8000000 in
set_option maxRecDepth 100000 in
theorem find_At.calls (k : Nat) (a0_0 : Int) (a0_1 : Int) (A0_2 : Option Addr) (c0_2 : Nat) (l0_2 : List (List (S23))) (A0_3 : Option Addr) (c0_3 : Nat) (l0_3 : List (S70)) (a1 : Int) (r1 : Int) (r2 : Bool) (w : World) (hr0_2 : Kd.C (Kd.slice 23 k23) w A0_2 l0_2.length l0_2) (hc0_2 : l0_2.length ≤ c0_2) (hr0_3 : Kd.C k70 w A0_3 l0_3.length l0_3) (hc0_3 : l0_3.length ≤ c0_3) (h : find_At.f k a0_0 a0_1 l0_2 l0_3 a1 = some (r1, r2)) :
 Calls Try.prog 21 #[.agg #[.int .i64 a0_0, .int .i64 a0_1, .slice A0_2 l0_2.length c0_2, .slice A0_3 l0_3.length c0_3], .int .i64 a1] w fun e w' => e = .returned (.tuple #[.int .i64 r1, .bool r2]) ∧ Below w.heap.size w w' := by
 have hu28 := Try.underlying28
 have HR0_2 := am hr0_2
 have HC0_2 := am hc0_2
 clear hr0_2 hc0_2
 have HR0_3 := am hr0_3
 have HC0_3 := am hc0_3
 clear hr0_3 hc0_3
 have HB := am (Below.refl w.heap.size w)
 have H : ((find_From.f k a0_0 a0_1 l0_2 l0_3 a1).bind fun bt222 => (if bt222.2 = true then ((gran_Get.f k a0_0 a0_1 l0_2 l0_3 bt222.1).bind fun bt224 => ((spans_Has.f k bt224.1 a1).bind fun t228 => (if t228 = true then (some (bt222.1, true)) else (some (0, false))))) else (some (0, false)))) = some (r1, r2) := h
 clear h
 replace H := Option.bind_eq_some_iff.mp H
 obtain ⟨⟨t222, t223⟩, A30, H⟩ := H
 try dsimp only at H
 have A3 := am A30
 clear A30
 by_cases c4 : t223 = true
 ·subst c4
  have H1 : ((gran_Get.f k a0_0 a0_1 l0_2 l0_3 t222).bind fun bt224 => ((spans_Has.f k bt224.1 a1).bind fun t228 => (if t228 = true then (some (t222, true)) else (some (0, false))))) = some (r1, r2) := by rw [if_pos rfl] at H; exact H
  clear H
  have H := H1
  clear H1
  replace H := Option.bind_eq_some_iff.mp H
  obtain ⟨⟨t224, t227⟩, A50, H⟩ := H
  try dsimp only at H
  have A5 := am A50
  clear A50
  replace H := Option.bind_eq_some_iff.mp H
  obtain ⟨t228, A60, H⟩ := H
  try dsimp only at H
  have A6 := am A60
  clear A60
  by_cases c7 : t228 = true
  ·subst c7
   have H1 : (some (t222, true)) = some (r1, r2) := by rw [if_pos rfl] at H; exact H
   clear H
   have H := H1
   clear H1
   simp only [Option.some.injEq, Prod.mk.injEq] at H
   obtain ⟨rfl, rfl⟩ := H
   go_enter Try.func21, Try.ntmps21
   go_wp2_with (first | ((with_reducible refine gate_dst (N := 2) rfl ?_); refine bx 2 28 #[.int .i64 a0_0, .int .i64 a0_1, .slice A0_2 l0_2.length c0_2, .slice A0_3 l0_3.length c0_3] ?_; intro gb221 hg w8 hbox hb; have BK221 := am (hbox); have GW221 := am ((bz hg HB.out : w.heap.size ≤ gb221)); have GE221 := am ((bz hg HB.out : w.heap.size ≤ gb221)); replace HB := am (below_step (bl HB.out) hb); clear hb hbox hg; have hcz9_0 : w8.cell? ⟨gb221, 0, none⟩ = some (.int .i64 a0_0) := bc BK221.out 0; have hcz9_1 : w8.cell? ⟨gb221, 1, none⟩ = some (.int .i64 a0_1) := bc BK221.out 1; have hcz9_2 : w8.cell? ⟨gb221, 2, none⟩ = some (.slice A0_2 l0_2.length c0_2) := bc BK221.out 2; have hcz9_3 : w8.cell? ⟨gb221, 3, none⟩ = some (.slice A0_3 l0_3.length c0_3) := bc BK221.out 3; have hfz9_0 := blk_frozen BK221.out 0; have hfz9_1 := blk_frozen BK221.out 1; have hfz9_2 := blk_frozen BK221.out 2; have hfz9_3 := blk_frozen BK221.out 3) | ((with_reducible refine gate_callee (f := 22) rfl ?_); refine goesL_ (some 13) rfl rfl Try.func22 (by kernel_rfl) rfl #[.agg #[.int .i64 a0_0, .int .i64 a0_1, .slice A0_2 l0_2.length c0_2, .slice A0_3 l0_3.length c0_3], .int .i64 a1] rfl ar ?_; (with_reducible refine (find_From.calls k a0_0 a0_1 _ _ l0_2 _ _ l0_3 a1 t222 true _ ?side1 ?side2 ?side3 ?side4 A3.out).mono ?_); (case side1 => exact kc (Kd.C_below HR0_2.out HB.out)); (case side2 => exact HC0_2.out); (case side3 => exact kc (Kd.C_below HR0_3.out HB.out)); (case side4 => exact HC0_3.out); rintro e w10 ⟨rfl, hb⟩; refine ⟨_, rfl, ?_⟩; replace BK221 := am (blk_below (kp BK221.out) hb); replace HB := am (below_step (bl1 HB.out GE221.out) hb); (try clear hb); (try clear hb2); (try clear hk); (try clear hi); have hcz11_0 : w10.cell? ⟨gb221, 0, none⟩ = some (.int .i64 a0_0) := bc BK221.out 0; have hcz11_1 : w10.cell? ⟨gb221, 1, none⟩ = some (.int .i64 a0_1) := bc BK221.out 1; have hcz11_2 : w10.cell? ⟨gb221, 2, none⟩ = some (.slice A0_2 l0_2.length c0_2) := bc BK221.out 2; have hcz11_3 : w10.cell? ⟨gb221, 3, none⟩ = some (.slice A0_3 l0_3.length c0_3) := bc BK221.out 3; have hfz11_0 := blk_frozen BK221.out 0; have hfz11_1 := blk_frozen BK221.out 1; have hfz11_2 := blk_frozen BK221.out 2; have hfz11_3 := blk_frozen BK221.out 3) | ((with_reducible refine gate_callee (f := 18) rfl ?_); refine goesL_ (some 21) rfl rfl Try.func18 (by kernel_rfl) rfl #[.agg #[.int .i64 a0_0, .int .i64 a0_1, .slice A0_2 l0_2.length c0_2, .slice A0_3 l0_3.length c0_3], .int .i64 t222] rfl ar ?_; (with_reducible refine (gran_Get.calls k a0_0 a0_1 _ _ l0_2 _ _ l0_3 t222 t224 t227 _ ?side1 ?side2 ?side3 ?side4 A5.out).mono ?_); (case side1 => exact kc (Kd.C_below HR0_2.out HB.out)); (case side2 => exact HC0_2.out); (case side3 => exact kc (Kd.C_below HR0_3.out HB.out)); (case side4 => exact HC0_3.out); rintro e w12 ⟨v225, rfl, ho0, hb⟩; refine ⟨_, rfl, ?_⟩; have HO226 := am (Kd.R_lower ho0 (below_size (bl1 HB.out GE221.out))); replace BK221 := am (blk_below (kp BK221.out) hb); replace HB := am (below_step (bl1 HB.out GE221.out) hb); (try clear hb); (try clear hb2); (try clear hk); (try clear hi); (try clear ho0); obtain ⟨Ao13, co13, eo13⟩ := Kd.R_slice HO226.out; subst eo13) | ((with_reducible refine gate_callee (f := 24) rfl ?_); refine goesL_ (some 26) rfl rfl Try.func24 (by kernel_rfl) rfl #[.slice Ao13 t224.length co13, .int .i64 a1] rfl ar ?_; (with_reducible refine (spans_Has.calls k _ _ t224 a1 true _ ?side1 ?side2 A6.out).mono ?_); (case side1 => exact kc (Kd.R_reads' HO226.out).2.2); (case side2 => exact (Kd.R_reads' HO226.out).2.1); rintro e w14 ⟨rfl, hb⟩; refine ⟨_, rfl, ?_⟩; replace HO226 := am (Kd.R_below (kr HO226.out) hb); replace BK221 := am (blk_below (kp BK221.out) hb); replace HB := am (below_step (bl1 HB.out GE221.out) hb); (try clear hb); (try clear hb2); (try clear hk); (try clear hi)))
   go_ret2
   exact ⟨rt, bl1 HB.out GE221.out⟩
  ·replace c7 := Bool.eq_false_iff.mpr c7
   subst c7
   have H1 : (some (0, false)) = some (r1, r2) := by rw [if_neg (show ¬ (false = true) by decide)] at H; exact H
   clear H
   have H := H1
   clear H1
   simp only [Option.some.injEq, Prod.mk.injEq] at H
   obtain ⟨rfl, rfl⟩ := H
   go_enter Try.func21, Try.ntmps21
   go_wp2_with (first | ((with_reducible refine gate_dst (N := 2) rfl ?_); refine bx 2 28 #[.int .i64 a0_0, .int .i64 a0_1, .slice A0_2 l0_2.length c0_2, .slice A0_3 l0_3.length c0_3] ?_; intro gb221 hg w15 hbox hb; have BK221 := am (hbox); have GW221 := am ((bz hg HB.out : w.heap.size ≤ gb221)); have GE221 := am ((bz hg HB.out : w.heap.size ≤ gb221)); replace HB := am (below_step (bl HB.out) hb); clear hb hbox hg; have hcz16_0 : w15.cell? ⟨gb221, 0, none⟩ = some (.int .i64 a0_0) := bc BK221.out 0; have hcz16_1 : w15.cell? ⟨gb221, 1, none⟩ = some (.int .i64 a0_1) := bc BK221.out 1; have hcz16_2 : w15.cell? ⟨gb221, 2, none⟩ = some (.slice A0_2 l0_2.length c0_2) := bc BK221.out 2; have hcz16_3 : w15.cell? ⟨gb221, 3, none⟩ = some (.slice A0_3 l0_3.length c0_3) := bc BK221.out 3; have hfz16_0 := blk_frozen BK221.out 0; have hfz16_1 := blk_frozen BK221.out 1; have hfz16_2 := blk_frozen BK221.out 2; have hfz16_3 := blk_frozen BK221.out 3) | ((with_reducible refine gate_callee (f := 22) rfl ?_); refine goesL_ (some 13) rfl rfl Try.func22 (by kernel_rfl) rfl #[.agg #[.int .i64 a0_0, .int .i64 a0_1, .slice A0_2 l0_2.length c0_2, .slice A0_3 l0_3.length c0_3], .int .i64 a1] rfl ar ?_; (with_reducible refine (find_From.calls k a0_0 a0_1 _ _ l0_2 _ _ l0_3 a1 t222 true _ ?side1 ?side2 ?side3 ?side4 A3.out).mono ?_); (case side1 => exact kc (Kd.C_below HR0_2.out HB.out)); (case side2 => exact HC0_2.out); (case side3 => exact kc (Kd.C_below HR0_3.out HB.out)); (case side4 => exact HC0_3.out); rintro e w17 ⟨rfl, hb⟩; refine ⟨_, rfl, ?_⟩; replace BK221 := am (blk_below (kp BK221.out) hb); replace HB := am (below_step (bl1 HB.out GE221.out) hb); (try clear hb); (try clear hb2); (try clear hk); (try clear hi); have hcz18_0 : w17.cell? ⟨gb221, 0, none⟩ = some (.int .i64 a0_0) := bc BK221.out 0; have hcz18_1 : w17.cell? ⟨gb221, 1, none⟩ = some (.int .i64 a0_1) := bc BK221.out 1; have hcz18_2 : w17.cell? ⟨gb221, 2, none⟩ = some (.slice A0_2 l0_2.length c0_2) := bc BK221.out 2; have hcz18_3 : w17.cell? ⟨gb221, 3, none⟩ = some (.slice A0_3 l0_3.length c0_3) := bc BK221.out 3; have hfz18_0 := blk_frozen BK221.out 0; have hfz18_1 := blk_frozen BK221.out 1; have hfz18_2 := blk_frozen BK221.out 2; have hfz18_3 := blk_frozen BK221.out 3) | ((with_reducible refine gate_callee (f := 18) rfl ?_); refine goesL_ (some 21) rfl rfl Try.func18 (by kernel_rfl) rfl #[.agg #[.int .i64 a0_0, .int .i64 a0_1, .slice A0_2 l0_2.length c0_2, .slice A0_3 l0_3.length c0_3], .int .i64 t222] rfl ar ?_; (with_reducible refine (gran_Get.calls k a0_0 a0_1 _ _ l0_2 _ _ l0_3 t222 t224 t227 _ ?side1 ?side2 ?side3 ?side4 A5.out).mono ?_); (case side1 => exact kc (Kd.C_below HR0_2.out HB.out)); (case side2 => exact HC0_2.out); (case side3 => exact kc (Kd.C_below HR0_3.out HB.out)); (case side4 => exact HC0_3.out); rintro e w19 ⟨v225, rfl, ho0, hb⟩; refine ⟨_, rfl, ?_⟩; have HO226 := am (Kd.R_lower ho0 (below_size (bl1 HB.out GE221.out))); replace BK221 := am (blk_below (kp BK221.out) hb); replace HB := am (below_step (bl1 HB.out GE221.out) hb); (try clear hb); (try clear hb2); (try clear hk); (try clear hi); (try clear ho0); obtain ⟨Ao20, co20, eo20⟩ := Kd.R_slice HO226.out; subst eo20) | ((with_reducible refine gate_callee (f := 24) rfl ?_); refine goesL_ (some 26) rfl rfl Try.func24 (by kernel_rfl) rfl #[.slice Ao20 t224.length co20, .int .i64 a1] rfl ar ?_; (with_reducible refine (spans_Has.calls k _ _ t224 a1 false _ ?side1 ?side2 A6.out).mono ?_); (case side1 => exact kc (Kd.R_reads' HO226.out).2.2); (case side2 => exact (Kd.R_reads' HO226.out).2.1); rintro e w21 ⟨rfl, hb⟩; refine ⟨_, rfl, ?_⟩; replace HO226 := am (Kd.R_below (kr HO226.out) hb); replace BK221 := am (blk_below (kp BK221.out) hb); replace HB := am (below_step (bl1 HB.out GE221.out) hb); (try clear hb); (try clear hb2); (try clear hk); (try clear hi)))
   go_ret2
   exact ⟨rt, bl1 HB.out GE221.out⟩
 ·replace c4 := Bool.eq_false_iff.mpr c4
  subst c4
  have H1 : (some (0, false)) = some (r1, r2) := by rw [if_neg (show ¬ (false = true) by decide)] at H; exact H
  clear H
  have H := H1
  clear H1
  simp only [Option.some.injEq, Prod.mk.injEq] at H
  obtain ⟨rfl, rfl⟩ := H
  go_enter Try.func21, Try.ntmps21
  go_wp2_with (first | ((with_reducible refine gate_dst (N := 2) rfl ?_); refine bx 2 28 #[.int .i64 a0_0, .int .i64 a0_1, .slice A0_2 l0_2.length c0_2, .slice A0_3 l0_3.length c0_3] ?_; intro gb221 hg w22 hbox hb; have BK221 := am (hbox); have GW221 := am ((bz hg HB.out : w.heap.size ≤ gb221)); have GE221 := am ((bz hg HB.out : w.heap.size ≤ gb221)); replace HB := am (below_step (bl HB.out) hb); clear hb hbox hg; have hcz23_0 : w22.cell? ⟨gb221, 0, none⟩ = some (.int .i64 a0_0) := bc BK221.out 0; have hcz23_1 : w22.cell? ⟨gb221, 1, none⟩ = some (.int .i64 a0_1) := bc BK221.out 1; have hcz23_2 : w22.cell? ⟨gb221, 2, none⟩ = some (.slice A0_2 l0_2.length c0_2) := bc BK221.out 2; have hcz23_3 : w22.cell? ⟨gb221, 3, none⟩ = some (.slice A0_3 l0_3.length c0_3) := bc BK221.out 3; have hfz23_0 := blk_frozen BK221.out 0; have hfz23_1 := blk_frozen BK221.out 1; have hfz23_2 := blk_frozen BK221.out 2; have hfz23_3 := blk_frozen BK221.out 3) | ((with_reducible refine gate_callee (f := 22) rfl ?_); refine goesL_ (some 13) rfl rfl Try.func22 (by kernel_rfl) rfl #[.agg #[.int .i64 a0_0, .int .i64 a0_1, .slice A0_2 l0_2.length c0_2, .slice A0_3 l0_3.length c0_3], .int .i64 a1] rfl ar ?_; (with_reducible refine (find_From.calls k a0_0 a0_1 _ _ l0_2 _ _ l0_3 a1 t222 false _ ?side1 ?side2 ?side3 ?side4 A3.out).mono ?_); (case side1 => exact kc (Kd.C_below HR0_2.out HB.out)); (case side2 => exact HC0_2.out); (case side3 => exact kc (Kd.C_below HR0_3.out HB.out)); (case side4 => exact HC0_3.out); rintro e w24 ⟨rfl, hb⟩; refine ⟨_, rfl, ?_⟩; replace BK221 := am (blk_below (kp BK221.out) hb); replace HB := am (below_step (bl1 HB.out GE221.out) hb); (try clear hb); (try clear hb2); (try clear hk); (try clear hi)))
  go_ret2
  exact ⟨rt, bl1 HB.out GE221.out⟩

end Go.Proofs.Ytmbmalkpmanaaaa.P

namespace Go.Proofs.Ytmbmalkpmanaaaa.P
open Go.RowKit Go.Proofs.YtmbmalkpmanaaaaW.PrintWords Go.Proofs.YtmbmalkpmanaaaaW.PrintLast Go.Proofs.YtmbmalkpmanaaaaW.PrintMore
attribute [local go_sem] max2_int min2_int max_two min_two max_three min_three max_four min_four   -- for this text's walks alone
set_option linter.unusedVariables false
set_option linter.unusedSimpArgs false

def find_down_2.f (a0_0 : Int) (a0_1 : Int) (a1 : Int) : Option (Bool) := some (decide (a0_0 ≤ a1))
set_option maxHeartbeats 8000000 in
set_option maxRecDepth 100000 in
theorem find_down_2.calls (a0_0 : Int) (a0_1 : Int) (a1 : Int) (r : Bool) (w : World) (h : find_down_2.f a0_0 a0_1 a1 = some r) :
 Calls Try.prog 92 #[.agg #[.int .i64 a0_0, .int .i64 a0_1], .int .i64 a1] w fun e w' => e = .returned (.bool r) ∧ Below w.heap.size w w' := by
 have hu23 := Try.underlying23
 have HB := am (Below.refl w.heap.size w)
 have H : (some (decide (a0_0 ≤ a1))) = some r := h
 clear h
 obtain rfl := Option.some.inj H
 go_enter Try.func92, Try.ntmps92
 go_wp2_with (first | ((with_reducible refine gate_dst (N := 2) rfl ?_); refine bx 2 23 #[.int .i64 a0_0, .int .i64 a0_1] ?_; intro gb190 hg w3 hbox hb; have BK190 := am (hbox); have GW190 := am ((bz hg HB.out : w.heap.size ≤ gb190)); have GE190 := am ((bz hg HB.out : w.heap.size ≤ gb190)); replace HB := am (below_step (bl HB.out) hb); clear hb hbox hg; have hcz4_0 : w3.cell? ⟨gb190, 0, none⟩ = some (.int .i64 a0_0) := bc BK190.out 0; have hcz4_1 : w3.cell? ⟨gb190, 1, none⟩ = some (.int .i64 a0_1) := bc BK190.out 1; have hfz4_0 := blk_frozen BK190.out 0; have hfz4_1 := blk_frozen BK190.out 1))
 go_ret
 exact ⟨rt, bl1 HB.out GE190.out⟩

end Go.Proofs.Ytmbmalkpmanaaaa.P

namespace Go.Proofs.Ytmbmalkpmanaaaa.P
open Go.RowKit Go.Proofs.YtmbmalkpmanaaaaW.PrintWords Go.Proofs.YtmbmalkpmanaaaaW.PrintLast Go.Proofs.YtmbmalkpmanaaaaW.PrintMore
attribute [local go_sem] max2_int min2_int max_two min_two max_three min_three max_four min_four   -- for this text's walks alone
set_option linter.unusedVariables false
set_option linter.unusedSimpArgs false

def find_down_1.f (k : Nat) (a0_0 : Int) (a0_1 : Int) (a1 : Int) (a2 : Int) : Option (Int) := (safe_Floor.f k (wrap64 (a1 - a0_0)) a2).bind fun bt187 => (some bt187.1)
theorem find_down_1.mono : ∀ a0 a1 a2 a3 k, LeO (find_down_1.f k a0 a1 a2 a3) (find_down_1.f (k + 1) a0 a1 a2 a3) := by
 intro a0 a1 a2 a3 k
 unfold find_down_1.f
 repeat' first
  | (with_reducible exact safe_Floor.mono _ _ _)
  | (with_reducible exact LeO.refl _)
  | (with_reducible exact LeO.none _)
  | (with_reducible refine LeO.ite ?_ ?_)
  | (with_reducible refine LeO.bind ?_ (fun _ => ?_))
  | exact safe_Floor.mono _ _ _
  | exact LeO.none _
  | refine LeO.ite ?_ ?_
  | refine LeO.bind ?_ (fun _ => ?_)
set_option maxHeartbeats 8000000 in
set_option maxRecDepth 100000 in
theorem find_down_1.calls (k : Nat) (a0_0 : Int) (a0_1 : Int) (a1 : Int) (a2 : Int) (r : Int) (w : World) (h : find_down_1.f k a0_0 a0_1 a1 a2 = some r) :
 Calls Try.prog 91 #[.agg #[.int .i64 a0_0, .int .i64 a0_1], .int .i64 a1, .int .i64 a2] w fun e w' => e = .returned (.int .i64 r) ∧ Below w.heap.size w w' := by
 have hu23 := Try.underlying23
 have HB := am (Below.refl w.heap.size w)
 have H : ((safe_Floor.f k (wrap64 (a1 - a0_0)) a2).bind fun bt187 => (some bt187.1)) = some r := h
 clear h
 replace H := Option.bind_eq_some_iff.mp H
 obtain ⟨⟨t187, t188, t189⟩, A40, H⟩ := H
 try dsimp only at H
 have A4 := am A40
 clear A40
 obtain rfl := Option.some.inj H
 go_enter Try.func91, Try.ntmps91
 go_wp2_with (first | ((with_reducible refine gate_dst (N := 3) rfl ?_); refine bx 3 23 #[.int .i64 a0_0, .int .i64 a0_1] ?_; intro gb186 hg w5 hbox hb; have BK186 := am (hbox); have GW186 := am ((bz hg HB.out : w.heap.size ≤ gb186)); have GE186 := am ((bz hg HB.out : w.heap.size ≤ gb186)); replace HB := am (below_step (bl HB.out) hb); clear hb hbox hg; have hcz6_0 : w5.cell? ⟨gb186, 0, none⟩ = some (.int .i64 a0_0) := bc BK186.out 0; have hcz6_1 : w5.cell? ⟨gb186, 1, none⟩ = some (.int .i64 a0_1) := bc BK186.out 1; have hfz6_0 := blk_frozen BK186.out 0; have hfz6_1 := blk_frozen BK186.out 1) | ((with_reducible refine gate_callee (f := 85) rfl ?_); refine goesL_ (some 16) rfl rfl Try.func85 (by kernel_rfl) rfl #[.int .i64 (wrap64 (a1 - a0_0)), .int .i64 a2] rfl ar ?_; (with_reducible refine (safe_Floor.calls k (wrap64 (a1 - a0_0)) a2 t187 t188 t189 _ A4.out).mono ?_); rintro e w' ⟨rfl, ⟨nd, rfl⟩⟩; refine ⟨_, rfl, ?_⟩))
 go_ret
 exact ⟨rt, bl1 HB.out GE186.out⟩

end Go.Proofs.Ytmbmalkpmanaaaa.P

namespace Go.Proofs.Ytmbmalkpmanaaaa.P
open Go.RowKit Go.Proofs.YtmbmalkpmanaaaaW.PrintWords Go.Proofs.YtmbmalkpmanaaaaW.PrintLast Go.Proofs.YtmbmalkpmanaaaaW.PrintMore
attribute [local go_sem] max2_int min2_int max_two min_two max_three min_three max_four min_four   -- for this text's walks alone
set_option linter.unusedVariables false
set_option linter.unusedSimpArgs false

def find_place_dn.l0 : Nat → Int → Int → Bool → List (List (S23)) → Int → Int → Int → Int → List (List (S23)) → List (S70) → Int → Option (Int × Bool)
 | 0, _, _, _, _, _, _, _, _, _, _, _ => none
 | k + 1, x1, x8, x9, x16, x17, x18, x192000, x192001, x192002, x192003, x193000 => if x18 < x17 then (if 0 ≤ x18 then (if x18 < (x16.length : Int) then ((spans_Hull.f (rd_L2 x16 x18)).bind fun bt194 => (if bt194.2.2 = true then ((find_down_1.f k bt194.1 bt194.2.1 x1 x192000).bind fun t198 => (if x9 = true then (if (wrap64 ((wrap64 ((wrap64 ((wrap64 (t198 * x192001)) + x18)) - x8)) * x193000)) < 0 then (find_place_dn.l0 k x1 (wrap64 ((wrap64 (t198 * x192001)) + x18)) true x16 x17 (wrap64 (x18 + 1)) x192000 x192001 x192002 x192003 x193000) else (find_place_dn.l0 k x1 x8 x9 x16 x17 (wrap64 (x18 + 1)) x192000 x192001 x192002 x192003 x193000)) else (find_place_dn.l0 k x1 (wrap64 ((wrap64 (t198 * x192001)) + x18)) true x16 x17 (wrap64 (x18 + 1)) x192000 x192001 x192002 x192003 x193000))) else (find_place_dn.l0 k x1 x8 x9 x16 x17 (wrap64 (x18 + 1)) x192000 x192001 x192002 x192003 x193000))) else (none)) else (none)) else (some (x8, x9))
def find_place_dn.f (k : Nat) (a0_0 : Int) (a0_1 : Int) (l0_2 : List (List (S23))) (l0_3 : List (S70)) (a1 : Int)  : Option (Int × Bool) := find_place_dn.l0 k a1 0 false l0_2 (l0_2.length : Int) 0 a0_0 a0_1 l0_2 l0_3 (-1)
theorem find_place_dn.mono_l : ∀ k, (∀ y0 y1 y2 y3 y4 y5 y6 y7 y8 y9 y10, LeO (find_place_dn.l0 k y0 y1 y2 y3 y4 y5 y6 y7 y8 y9 y10) (find_place_dn.l0 (k + 1) y0 y1 y2 y3 y4 y5 y6 y7 y8 y9 y10))
 | 0 => fun _ _ _ _ _ _ _ _ _ _ _ r h => by simp [find_place_dn.l0] at h
 | k + 1 => by
  have ih0 := find_place_dn.mono_l k
  ·intro y0 y1 y2 y3 y4 y5 y6 y7 y8 y9 y10
   unfold find_place_dn.l0
   repeat' first
   | (with_reducible exact ih0 _ _ _ _ _ _ _ _ _ _ _)
   | (with_reducible exact find_down_1.mono _ _ _ _ _)
   | (with_reducible exact LeO.refl _)
   | (with_reducible exact LeO.none _)
   | (with_reducible refine LeO.ite ?_ ?_)
   | (with_reducible refine LeO.bind ?_ (fun _ => ?_))
   | exact ih0 _ _ _ _ _ _ _ _ _ _ _
   | exact find_down_1.mono _ _ _ _ _
   | exact LeO.none _
   | refine LeO.ite ?_ ?_
   | refine LeO.bind ?_ (fun _ => ?_)
theorem find_place_dn.mono : ∀ a0 a1 a2 a3 a4 k, LeO (find_place_dn.f k a0 a1 a2 a3 a4) (find_place_dn.f (k + 1) a0 a1 a2 a3 a4) := by
 intro a0 a1 a2 a3 a4 k
 have ih0 := find_place_dn.mono_l k
 unfold find_place_dn.f
 repeat' first
  | (with_reducible exact ih0 _ _ _ _ _ _ _ _ _ _ _)
  | (with_reducible exact find_down_1.mono _ _ _ _ _)
  | (with_reducible exact LeO.refl _)
  | (with_reducible exact LeO.none _)
  | (with_reducible refine LeO.ite ?_ ?_)
  | (with_reducible refine LeO.bind ?_ (fun _ => ?_))
  | exact ih0 _ _ _ _ _ _ _ _ _ _ _
  | exact find_down_1.mono _ _ _ _ _
  | exact LeO.none _
  | refine LeO.ite ?_ ?_
  | refine LeO.bind ?_ (fun _ => ?_)
def find_place_dn.T7 : Bool × List (List Nat × List Nat) := (true, [([], []), ([0], [0]), ([], []), ([], []), ([], []), ([4], [4]), ([1, 2, 3, 5], [1, 2, 3, 5]), ([], []), ([7], [7]), ([6, 8], [6, 8]), ([], []), ([9, 10], [9, 10]), ([11, 6, 0, 1, 2, 3, 4, 5, 6, 7, 8, 9, 10, 11], [11])])
def find_place_dn.B7 : List Nat := [0, 1, 0, 0, 0, 16, 63, 0, 128, 511, 0, 2047, 4095]
theorem find_place_dn.tab7 : rtab .any (opsOf Try.f105 7) = find_place_dn.T7 := by kernel_rfl
theorem find_place_dn.bits7 : waitsOk find_place_dn.T7.2 find_place_dn.B7 = true := by kernel_rfl
set_option maxHeartbeats 8000000 in
set_option maxRecDepth 100000 in
theorem find_place_dn.calls (k : Nat) (a0_0 : Int) (a0_1 : Int) (A0_2 : Option Addr) (c0_2 : Nat) (l0_2 : List (List (S23))) (A0_3 : Option Addr) (c0_3 : Nat) (l0_3 : List (S70)) (a1 : Int)  (r1 : Int) (r2 : Bool) (w : World) (hr0_2 : Kd.C (Kd.slice 23 k23) w A0_2 l0_2.length l0_2) (hc0_2 : l0_2.length ≤ c0_2) (hr0_3 : Kd.C k70 w A0_3 l0_3.length l0_3) (hc0_3 : l0_3.length ≤ c0_3) (h : find_place_dn.f k a0_0 a0_1 l0_2 l0_3 a1 = some (r1, r2)) :
 Calls Try.prog 105 #[.agg #[.int .i64 a0_0, .int .i64 a0_1, .slice A0_2 l0_2.length c0_2, .slice A0_3 l0_3.length c0_3], .int .i64 a1, .agg #[.int .i64 (-1), .func (.func 90) #[] #[], .func (.func 91) #[] #[], .func (.func 92) #[] #[]]] w fun e w' => e = .returned (.tuple #[.int .i64 r1, .bool r2]) ∧ Below w.heap.size w w' := by
 have hu28 := Try.underlying28
 have hu79 := Try.underlying79
 have hu23 := Try.underlying23
 have HR0_2 := am hr0_2
 have HC0_2 := am hc0_2
 clear hr0_2 hc0_2
 have HR0_3 := am hr0_3
 have HC0_3 := am hc0_3
 clear hr0_3 hc0_3
 have HB := am (Below.refl w.heap.size w)
 have H : (find_place_dn.l0 k a1 0 false l0_2 (l0_2.length : Int) 0 a0_0 a0_1 l0_2 l0_3 (-1)) = some (r1, r2) := h
 clear h
 have H' := am H
 clear H
 go_enter Try.func105, Try.ntmps105
 go_wp2_with (first | ((with_reducible refine gate_dst (N := 3) rfl ?_); refine bx 3 28 #[.int .i64 a0_0, .int .i64 a0_1, .slice A0_2 l0_2.length c0_2, .slice A0_3 l0_3.length c0_3] ?_; intro gb191 hg w4 hbox hb; have BK191 := am (hbox); have GW191 := am ((bz hg HB.out : w.heap.size ≤ gb191)); have GE191 := am ((bz hg HB.out : w.heap.size ≤ gb191)); replace HB := am (below_step (bl HB.out) hb); clear hb hbox hg) | ((with_reducible refine gate_dst (N := 5) rfl ?_); refine bx 5 79 #[.int .i64 (-1), .func (.func 90) #[] #[], .func (.func 91) #[] #[], .func (.func 92) #[] #[]] ?_; intro gb192 hg w5 hbox hb; have BK192 := am (hbox); have GW192 := am ((bz1 hg HB.out GE191.out : w.heap.size ≤ gb192)); have GE192 := am ((bz1 hg HB.out GE191.out : w.heap.size ≤ gb192)); replace HB := am (below_step (bl1 HB.out GE191.out) hb); have NB191_192 := am ((nl hg BK191.out : gb191 ≠ gb192)); have NB192_191 := am ((ng hg BK191.out : gb192 ≠ gb191)); replace BK191 := am (blk_below (kp BK191.out) hb); clear hb hbox hg; have hnb6 := NB191_192.out; have hnc6 := NB192_191.out; have hcz7_0 : w5.cell? ⟨gb191, 0, none⟩ = some (.int .i64 a0_0) := bc BK191.out 0; have hcz7_1 : w5.cell? ⟨gb191, 1, none⟩ = some (.int .i64 a0_1) := bc BK191.out 1; have hcz7_2 : w5.cell? ⟨gb191, 2, none⟩ = some (.slice A0_2 l0_2.length c0_2) := bc BK191.out 2; have hcz7_3 : w5.cell? ⟨gb191, 3, none⟩ = some (.slice A0_3 l0_3.length c0_3) := bc BK191.out 3; have hfz7_0 := blk_frozen BK191.out 0; have hfz7_1 := blk_frozen BK191.out 1; have hfz7_2 := blk_frozen BK191.out 2; have hfz7_3 := blk_frozen BK191.out 3))
 go_loopg [8, 9, 18] k (fun kq v8 v9 v18 w' => ∃ (x8_1 : Int) (x9_1 : Bool) (x18_1 : Int), v8 = .int .i64 x8_1 ∧ v9 = .bool x9_1 ∧ v18 = .int .i64 x18_1 ∧ Aside0 (find_place_dn.l0 kq a1 x8_1 x9_1 l0_2 (l0_2.length : Int) x18_1 a0_0 a0_1 l0_2 l0_3 (-1) = some (r1, r2)) ∧ Aside0 (kq ≤ k) ∧ Aside0 (w'.heap[gb191]? = some (.cells #[.int .i64 a0_0, .int .i64 a0_1, (.slice A0_2 l0_2.length c0_2), (.slice A0_3 l0_3.length c0_3)] 28 (0, 0))) ∧ Aside0 (w'.heap[gb192]? = some (.cells #[.int .i64 (-1), (.func (.func 90) #[] #[]), (.func (.func 91) #[] #[]), (.func (.func 92) #[] #[])] 79 (0, 0))) ∧ Aside0 (Below w.heap.size w w'))
 case atStart => exact ⟨(0), (false), (0), sm, sm, sm, H', ⟨Nat.le_refl _⟩, ⟨kp BK191.out⟩, ⟨kp BK192.out⟩, ⟨bl2 HB.out GE191.out GE192.out⟩⟩
 case round =>
  clear H'
  try clear c1
  try clear p2
  try clear c6
  try clear hcz7_0
  try clear hcz7_1
  try clear hcz7_2
  try clear hcz7_3
  try clear hfz7_0
  try clear hfz7_1
  try clear hfz7_2
  try clear hfz7_3
  obtain ⟨x8_1, x9_1, x18_1, rfl, rfl, rfl, HA, HK1, BK191, BK192, HB⟩ := hrel
  cases gk with
  | zero => exact absurd HA.out (by simp [find_place_dn.l0])
  | succ k1 =>
   have H := HA.out
   clear HA
   simp only [find_place_dn.l0] at H
   by_cases c8 : x18_1 < (l0_2.length : Int)
   ·rw [if_pos c8] at H
    have c8b0 : decide (x18_1 < (l0_2.length : Int)) = true := decide_eq_true c8
    clear c8
    by_cases c9 : 0 ≤ x18_1
    ·rw [if_pos c9] at H
     have c9b0 : decide (0 ≤ x18_1) = true := decide_eq_true c9
     clear c9
     by_cases c10 : x18_1 < (l0_2.length : Int)
     ·rw [if_pos c10] at H
      have c10b0 : decide (x18_1 < (l0_2.length : Int)) = true := decide_eq_true c10
      clear c10
      replace H := Option.bind_eq_some_iff.mp H
      obtain ⟨⟨t194, t195, t196⟩, A110, H⟩ := H
      try dsimp only at H
      have A11 := am A110
      clear A110
      by_cases c12 : t196 = true
      ·subst c12
       have H1 : ((find_down_1.f k1 t194 t195 a1 a0_0).bind fun t198 => (if x9_1 = true then (if (wrap64 ((wrap64 ((wrap64 ((wrap64 (t198 * a0_1)) + x18_1)) - x8_1)) * (-1))) < 0 then (find_place_dn.l0 k1 a1 (wrap64 ((wrap64 (t198 * a0_1)) + x18_1)) true l0_2 (l0_2.length : Int) (wrap64 (x18_1 + 1)) a0_0 a0_1 l0_2 l0_3 (-1)) else (find_place_dn.l0 k1 a1 x8_1 x9_1 l0_2 (l0_2.length : Int) (wrap64 (x18_1 + 1)) a0_0 a0_1 l0_2 l0_3 (-1))) else (find_place_dn.l0 k1 a1 (wrap64 ((wrap64 (t198 * a0_1)) + x18_1)) true l0_2 (l0_2.length : Int) (wrap64 (x18_1 + 1)) a0_0 a0_1 l0_2 l0_3 (-1)))) = some (r1, r2) := by rw [if_pos rfl] at H; exact H
       clear H
       have H := H1
       clear H1
       replace H := Option.bind_eq_some_iff.mp H
       obtain ⟨t198, A130, H⟩ := H
       try dsimp only at H
       have A13 := am A130
       clear A130
       by_cases c14 : x9_1 = true
       ·subst c14
        have H1 : (if (wrap64 ((wrap64 ((wrap64 ((wrap64 (t198 * a0_1)) + x18_1)) - x8_1)) * (-1))) < 0 then (find_place_dn.l0 k1 a1 (wrap64 ((wrap64 (t198 * a0_1)) + x18_1)) true l0_2 (l0_2.length : Int) (wrap64 (x18_1 + 1)) a0_0 a0_1 l0_2 l0_3 (-1)) else (find_place_dn.l0 k1 a1 x8_1 true l0_2 (l0_2.length : Int) (wrap64 (x18_1 + 1)) a0_0 a0_1 l0_2 l0_3 (-1))) = some (r1, r2) := by rw [if_pos rfl] at H; exact H
        clear H
        have H := H1
        clear H1
        by_cases c15 : (wrap64 ((wrap64 ((wrap64 ((wrap64 (t198 * a0_1)) + x18_1)) - x8_1)) * (-1))) < 0
        ·rw [if_pos c15] at H
         have c15b0 : decide ((wrap64 ((wrap64 ((wrap64 ((wrap64 (t198 * a0_1)) + x18_1)) - x8_1)) * (-1))) < 0) = true := decide_eq_true c15
         (try simp only [Int.mul_one, Int.mul_neg, Int.add_zero] at c15b0)
         clear c15
         have H' := am H
         clear H
         have p193 : 0 ≤ (x18_1 : Int) := of_decide_eq_true asm
         have q193 : x18_1 < (l0_2.length : Int) := of_decide_eq_true asm
         obtain ⟨ad193, A193_0, c193_0, e193, hx193_0, hl193_0, hi193_0⟩ := at_L2 HR0_2.out x18_1 p193 q193
         cases e193
         replace hx193_0 := (HB.out.cell (World.block_lt_of_cell? w _ hx193_0)).trans hx193_0
         have HR193_0 := am hi193_0
         have HC193_0 := am hl193_0
         clear hi193_0 hl193_0
         replace p193 := eq_true p193
         replace q193 := eq_true q193
         try go_wp2_with (first | ((with_reducible refine gate_callee (f := 43) rfl ?_); refine goesL_ (some 25) rfl rfl Try.func43 (by kernel_rfl) rfl #[.slice A193_0 (rd_L2 l0_2 x18_1).length c193_0] rfl ar ?_; (with_reducible refine (spans_Hull.calls _ _ (rd_L2 l0_2 x18_1) t194 t195 true _ ?side1 ?side2 A11.out).mono ?_); (case side1 => exact kc (Kd.C_below HR193_0.out HB.out)); (case side2 => exact HC193_0.out); rintro e w16 ⟨rfl, hb⟩; refine ⟨_, rfl, ?_⟩; replace BK191 := am (blk_below (kp BK191.out) hb); replace BK192 := am (blk_below (kp BK192.out) hb); replace HB := am (below_step (bl2 HB.out GE191.out GE192.out) hb); (try clear hb); (try clear hb2); (try clear hk); (try clear hi)) | ((with_reducible refine gate_dst (N := 12) rfl ?_); refine bx 12 23 #[.int .i64 0, .int .i64 0] ?_; intro gb197 hg w17 hbox hb; have BK197 := am (hbox); have GW197 := am ((bz2 hg HB.out GE191.out GE192.out : w.heap.size ≤ gb197)); have GE197 := am ((bz2 hg HB.out GE191.out GE192.out : w.heap.size ≤ gb197)); replace HB := am (below_step (bl2 HB.out GE191.out GE192.out) hb); have NB191_197 := am ((nl hg BK191.out : gb191 ≠ gb197)); have NB197_191 := am ((ng hg BK191.out : gb197 ≠ gb191)); replace BK191 := am (blk_below (kp BK191.out) hb); have NB192_197 := am ((nl hg BK192.out : gb192 ≠ gb197)); have NB197_192 := am ((ng hg BK192.out : gb197 ≠ gb192)); replace BK192 := am (blk_below (kp BK192.out) hb); clear hb hbox hg; have hnb18 := NB197_191.out; have hnc18 := NB191_197.out; have hnb19 := NB197_192.out; have hnc19 := NB192_197.out; have hcz20_0 : w17.cell? ⟨gb197, 0, none⟩ = some (.int .i64 0) := bc BK197.out 0; have hcz20_1 : w17.cell? ⟨gb197, 1, none⟩ = some (.int .i64 0) := bc BK197.out 1; have hfz20_0 := blk_frozen BK197.out 0; have hfz20_1 := blk_frozen BK197.out 1))
         have n0_ : Aside0 (((w17.setCell ⟨gb197, 0, none⟩ (.int .i64 t194)).setCell ⟨gb197, 1, none⟩ (.int .i64 t195)).heap[gb191]? = some (.cells #[.int .i64 a0_0, .int .i64 a0_1, .slice (some ad193) l0_2.length c0_2, .slice A0_3 l0_3.length c0_3] 28 (0, 0))) := ⟨kf BK191.out NB191_197.out⟩
         have n1_ : Aside0 (((w17.setCell ⟨gb197, 0, none⟩ (.int .i64 t194)).setCell ⟨gb197, 1, none⟩ (.int .i64 t195)).heap[gb192]? = some (.cells #[.int .i64 (-1), .func (.func 90) #[] #[], .func (.func 91) #[] #[], .func (.func 92) #[] #[]] 79 (0, 0))) := ⟨kf BK192.out NB192_197.out⟩
         have n2_ : Aside0 (((w17.setCell ⟨gb197, 0, none⟩ (.int .i64 t194)).setCell ⟨gb197, 1, none⟩ (.int .i64 t195)).heap[gb197]? = some (.cells #[.int .i64 t194, .int .i64 t195] 23 (0, 0))) := ⟨by (with_reducible repeat (first | refine blk_drewN ?_ _ | refine blk_drew ?_ | refine blk_alloc ?_ _)); refine blk_put (cs := #[.int .i64 t194, .int .i64 0]) ?_ 1 _ rfl; (with_reducible repeat (first | refine blk_drewN ?_ _ | refine blk_drew ?_ | refine blk_alloc ?_ _)); refine blk_put (cs := #[.int .i64 0, .int .i64 0]) ?_ 0 _ rfl; (with_reducible repeat (first | refine blk_drewN ?_ _ | refine blk_drew ?_ | refine blk_alloc ?_ _)); exact BK197.out⟩
         have n3_ : Aside0 (Below w.heap.size w ((w17.setCell ⟨gb197, 0, none⟩ (.int .i64 t194)).setCell ⟨gb197, 1, none⟩ (.int .i64 t195))) := ⟨bl3 HB.out GE191.out GE192.out GE197.out⟩
         (try clear BK191)
         (try clear BK192)
         (try clear BK197)
         (try clear HB)
         generalize ((w17.setCell ⟨gb197, 0, none⟩ (.int .i64 t194)).setCell ⟨gb197, 1, none⟩ (.int .i64 t195)) = w21 at n0_ n1_ n2_ n3_ ⊢
         have BK191 := n0_
         have BK192 := n1_
         have BK197 := n2_
         have HB := n3_
         clear n0_ n1_ n2_ n3_
         replace BK191 := am (blk_drew BK191.out)
         replace BK192 := am (blk_drew BK192.out)
         replace BK197 := am (blk_drew BK197.out)
         replace HB := am (below_drew1 HB.out)
         refine start_ (n := 13) (S := fun w' => w'.cell? ⟨gb192, 0, none⟩ = some (.int .i64 (-1)) ∧ w'.cell? ⟨gb192, 1, none⟩ = some (.func (.func 90) #[] #[]) ∧ w'.cell? ⟨gb192, 2, none⟩ = some (.func (.func 91) #[] #[]) ∧ w'.cell? ⟨gb192, 3, none⟩ = some (.func (.func 92) #[] #[]) ∧ w'.cell? ⟨gb197, 0, none⟩ = some (.int .i64 t194) ∧ w'.cell? ⟨gb197, 1, none⟩ = some (.int .i64 t195) ∧ w'.cell? ⟨gb191, 0, none⟩ = some (.int .i64 a0_0) ∧ w'.cell? ⟨gb191, 1, none⟩ = some (.int .i64 a0_1) ∧ w'.cell? ⟨gb191, 2, none⟩ = some (.slice (some ad193) l0_2.length c0_2) ∧ w'.cell? ⟨gb191, 3, none⟩ = some (.slice A0_3 l0_3.length c0_3)) (ds := []) (bs 13 0) (by kernel_rfl) rfl rfl ⟨bc BK192.out 0, bc BK192.out 1, bc BK192.out 2, bc BK192.out 3, bc BK197.out 0, bc BK197.out 1, bc BK191.out 0, bc BK191.out 1, bc BK191.out 2, bc BK191.out 3⟩ (fun hHeld => ?_); refine with_tabW find_place_dn.tab7 find_place_dn.bits7 (fun HT_ HW_ => ?_)
         generalize w21.drew = w22 at BK191 BK192 BK197 HB hHeld ⊢
         refine px 0 30 (bs 13 1) HT_.out ?_
         refine px 3 33 (bs 13 9) HT_.out ?_
         refine px 4 34 (bs 13 25) HT_.out ?_
         refine px 7 37 (bs 13 153) HT_.out ?_
         refine px 10 40 (bs 13 1177) HT_.out ?_
         refine tx 1 31 (bs 13 1179) HT_.out HW_.out hHeld ?_
         refine tx 2 32 (bs 13 1183) HT_.out HW_.out hHeld ?_
         refine tx 5 35 (bs 13 1215) HT_.out HW_.out hHeld ?_
         refine tx 8 38 (bs 13 1471) HT_.out HW_.out hHeld ?_
         refine one_ (i := 6) (N := some 36) (bs 13 1535) rfl rfl (one_of HT_.out (by kernel_rfl)) (by decide) (fun K hK => ?_)
         first | refine goes_ Try.func91 (by kernel_rfl) rfl #[.agg #[.int .i64 t194, .int .i64 t195], .int .i64 a1, .int .i64 a0_0] (by rfl) rfl rfl ar ?_ | refine goesV_ Try.func91 (by kernel_rfl) rfl #[.agg #[.int .i64 t194, .int .i64 t195], .int .i64 a1, .int .i64 a0_0] (by rfl) rfl rfl rfl ar ?_
         with_reducible refine (find_down_1.calls k1 t194 t195 a1 a0_0 t198 _ A13.out).mono ?_
         rintro e w23 ⟨rfl, hb⟩
         refine ⟨_, rfl, ?_⟩
         replace BK191 := am (blk_below (kp BK191.out) hb)
         replace BK192 := am (blk_below (kp BK192.out) hb)
         replace BK197 := am (blk_below (kp BK197.out) hb)
         replace HB := am (below_step (bl3 HB.out GE191.out GE192.out GE197.out) hb)
         (try clear hb)
         (try clear hb2)
         (try clear hk)
         (try clear hi)
         refine hK.out _ _ ⟨bc BK192.out 0, bc BK192.out 1, bc BK192.out 2, bc BK192.out 3, bc BK197.out 0, bc BK197.out 1, bc BK191.out 0, bc BK191.out 1, bc BK191.out 2, bc BK191.out 3⟩ (fun hHeld => ?_)
         clear hK K
         refine nx ?_
         refine px 9 39 (bs 13 2047) HT_.out ?_
         refine px 11 41 (bs 13 4095) HT_.out ?_
         refine px 12 14 (bs 13 8191) HT_.out ?_
         refine done_ (done_of HT_.out (by kernel_rfl)) ?_
         have hnb24 := NB192_191.out
         have hnc24 := NB191_192.out
         have hcz25_0 : w23.cell? ⟨gb192, 0, none⟩ = some (.int .i64 (-1)) := bc BK192.out 0
         have hcz25_1 : w23.cell? ⟨gb192, 1, none⟩ = some (.func (.func 90) #[] #[]) := bc BK192.out 1
         have hcz25_2 : w23.cell? ⟨gb192, 2, none⟩ = some (.func (.func 91) #[] #[]) := bc BK192.out 2
         have hcz25_3 : w23.cell? ⟨gb192, 3, none⟩ = some (.func (.func 92) #[] #[]) := bc BK192.out 3
         have hfz25_0 := blk_frozen BK192.out 0
         have hfz25_1 := blk_frozen BK192.out 1
         have hfz25_2 := blk_frozen BK192.out 2
         have hfz25_3 := blk_frozen BK192.out 3
         try go_wp2
         go_roundg k1
         case measure => have := HK1.out; omega
         case rel => exact ⟨(wrap64 ((wrap64 (t198 * a0_1)) + x18_1)), (true), (wrap64 (x18_1 + 1)), sm, sm, sm, H', ⟨by have := HK1.out; omega⟩, ⟨kp BK191.out⟩, ⟨kp BK192.out⟩, ⟨bl3 HB.out GE191.out GE192.out GE197.out⟩⟩
        ·rw [if_neg c15] at H
         have c15b0 : decide ((wrap64 ((wrap64 ((wrap64 ((wrap64 (t198 * a0_1)) + x18_1)) - x8_1)) * (-1))) < 0) = false := decide_eq_false c15
         (try simp only [Int.mul_one, Int.mul_neg, Int.add_zero] at c15b0)
         clear c15
         have H' := am H
         clear H
         have p193 : 0 ≤ (x18_1 : Int) := of_decide_eq_true asm
         have q193 : x18_1 < (l0_2.length : Int) := of_decide_eq_true asm
         obtain ⟨ad193, A193_0, c193_0, e193, hx193_0, hl193_0, hi193_0⟩ := at_L2 HR0_2.out x18_1 p193 q193
         cases e193
         replace hx193_0 := (HB.out.cell (World.block_lt_of_cell? w _ hx193_0)).trans hx193_0
         have HR193_0 := am hi193_0
         have HC193_0 := am hl193_0
         clear hi193_0 hl193_0
         replace p193 := eq_true p193
         replace q193 := eq_true q193
         try go_wp2_with (first | ((with_reducible refine gate_callee (f := 43) rfl ?_); refine goesL_ (some 25) rfl rfl Try.func43 (by kernel_rfl) rfl #[.slice A193_0 (rd_L2 l0_2 x18_1).length c193_0] rfl ar ?_; (with_reducible refine (spans_Hull.calls _ _ (rd_L2 l0_2 x18_1) t194 t195 true _ ?side1 ?side2 A11.out).mono ?_); (case side1 => exact kc (Kd.C_below HR193_0.out HB.out)); (case side2 => exact HC193_0.out); rintro e w26 ⟨rfl, hb⟩; refine ⟨_, rfl, ?_⟩; replace BK191 := am (blk_below (kp BK191.out) hb); replace BK192 := am (blk_below (kp BK192.out) hb); replace HB := am (below_step (bl2 HB.out GE191.out GE192.out) hb); (try clear hb); (try clear hb2); (try clear hk); (try clear hi)) | ((with_reducible refine gate_dst (N := 12) rfl ?_); refine bx 12 23 #[.int .i64 0, .int .i64 0] ?_; intro gb197 hg w27 hbox hb; have BK197 := am (hbox); have GW197 := am ((bz2 hg HB.out GE191.out GE192.out : w.heap.size ≤ gb197)); have GE197 := am ((bz2 hg HB.out GE191.out GE192.out : w.heap.size ≤ gb197)); replace HB := am (below_step (bl2 HB.out GE191.out GE192.out) hb); have NB191_197 := am ((nl hg BK191.out : gb191 ≠ gb197)); have NB197_191 := am ((ng hg BK191.out : gb197 ≠ gb191)); replace BK191 := am (blk_below (kp BK191.out) hb); have NB192_197 := am ((nl hg BK192.out : gb192 ≠ gb197)); have NB197_192 := am ((ng hg BK192.out : gb197 ≠ gb192)); replace BK192 := am (blk_below (kp BK192.out) hb); clear hb hbox hg; have hnb28 := NB197_191.out; have hnc28 := NB191_197.out; have hnb29 := NB197_192.out; have hnc29 := NB192_197.out; have hcz30_0 : w27.cell? ⟨gb197, 0, none⟩ = some (.int .i64 0) := bc BK197.out 0; have hcz30_1 : w27.cell? ⟨gb197, 1, none⟩ = some (.int .i64 0) := bc BK197.out 1; have hfz30_0 := blk_frozen BK197.out 0; have hfz30_1 := blk_frozen BK197.out 1))
         have n0_ : Aside0 (((w27.setCell ⟨gb197, 0, none⟩ (.int .i64 t194)).setCell ⟨gb197, 1, none⟩ (.int .i64 t195)).heap[gb191]? = some (.cells #[.int .i64 a0_0, .int .i64 a0_1, .slice (some ad193) l0_2.length c0_2, .slice A0_3 l0_3.length c0_3] 28 (0, 0))) := ⟨kf BK191.out NB191_197.out⟩
         have n1_ : Aside0 (((w27.setCell ⟨gb197, 0, none⟩ (.int .i64 t194)).setCell ⟨gb197, 1, none⟩ (.int .i64 t195)).heap[gb192]? = some (.cells #[.int .i64 (-1), .func (.func 90) #[] #[], .func (.func 91) #[] #[], .func (.func 92) #[] #[]] 79 (0, 0))) := ⟨kf BK192.out NB192_197.out⟩
         have n2_ : Aside0 (((w27.setCell ⟨gb197, 0, none⟩ (.int .i64 t194)).setCell ⟨gb197, 1, none⟩ (.int .i64 t195)).heap[gb197]? = some (.cells #[.int .i64 t194, .int .i64 t195] 23 (0, 0))) := ⟨by (with_reducible repeat (first | refine blk_drewN ?_ _ | refine blk_drew ?_ | refine blk_alloc ?_ _)); refine blk_put (cs := #[.int .i64 t194, .int .i64 0]) ?_ 1 _ rfl; (with_reducible repeat (first | refine blk_drewN ?_ _ | refine blk_drew ?_ | refine blk_alloc ?_ _)); refine blk_put (cs := #[.int .i64 0, .int .i64 0]) ?_ 0 _ rfl; (with_reducible repeat (first | refine blk_drewN ?_ _ | refine blk_drew ?_ | refine blk_alloc ?_ _)); exact BK197.out⟩
         have n3_ : Aside0 (Below w.heap.size w ((w27.setCell ⟨gb197, 0, none⟩ (.int .i64 t194)).setCell ⟨gb197, 1, none⟩ (.int .i64 t195))) := ⟨bl3 HB.out GE191.out GE192.out GE197.out⟩
         (try clear BK191)
         (try clear BK192)
         (try clear BK197)
         (try clear HB)
         generalize ((w27.setCell ⟨gb197, 0, none⟩ (.int .i64 t194)).setCell ⟨gb197, 1, none⟩ (.int .i64 t195)) = w31 at n0_ n1_ n2_ n3_ ⊢
         have BK191 := n0_
         have BK192 := n1_
         have BK197 := n2_
         have HB := n3_
         clear n0_ n1_ n2_ n3_
         replace BK191 := am (blk_drew BK191.out)
         replace BK192 := am (blk_drew BK192.out)
         replace BK197 := am (blk_drew BK197.out)
         replace HB := am (below_drew1 HB.out)
         refine start_ (n := 13) (S := fun w' => w'.cell? ⟨gb192, 0, none⟩ = some (.int .i64 (-1)) ∧ w'.cell? ⟨gb192, 1, none⟩ = some (.func (.func 90) #[] #[]) ∧ w'.cell? ⟨gb192, 2, none⟩ = some (.func (.func 91) #[] #[]) ∧ w'.cell? ⟨gb192, 3, none⟩ = some (.func (.func 92) #[] #[]) ∧ w'.cell? ⟨gb197, 0, none⟩ = some (.int .i64 t194) ∧ w'.cell? ⟨gb197, 1, none⟩ = some (.int .i64 t195) ∧ w'.cell? ⟨gb191, 0, none⟩ = some (.int .i64 a0_0) ∧ w'.cell? ⟨gb191, 1, none⟩ = some (.int .i64 a0_1) ∧ w'.cell? ⟨gb191, 2, none⟩ = some (.slice (some ad193) l0_2.length c0_2) ∧ w'.cell? ⟨gb191, 3, none⟩ = some (.slice A0_3 l0_3.length c0_3)) (ds := []) (bs 13 0) (by kernel_rfl) rfl rfl ⟨bc BK192.out 0, bc BK192.out 1, bc BK192.out 2, bc BK192.out 3, bc BK197.out 0, bc BK197.out 1, bc BK191.out 0, bc BK191.out 1, bc BK191.out 2, bc BK191.out 3⟩ (fun hHeld => ?_); refine with_tabW find_place_dn.tab7 find_place_dn.bits7 (fun HT_ HW_ => ?_)
         generalize w31.drew = w32 at BK191 BK192 BK197 HB hHeld ⊢
         refine px 0 30 (bs 13 1) HT_.out ?_
         refine px 3 33 (bs 13 9) HT_.out ?_
         refine px 4 34 (bs 13 25) HT_.out ?_
         refine px 7 37 (bs 13 153) HT_.out ?_
         refine px 10 40 (bs 13 1177) HT_.out ?_
         refine tx 1 31 (bs 13 1179) HT_.out HW_.out hHeld ?_
         refine tx 2 32 (bs 13 1183) HT_.out HW_.out hHeld ?_
         refine tx 5 35 (bs 13 1215) HT_.out HW_.out hHeld ?_
         refine tx 8 38 (bs 13 1471) HT_.out HW_.out hHeld ?_
         refine one_ (i := 6) (N := some 36) (bs 13 1535) rfl rfl (one_of HT_.out (by kernel_rfl)) (by decide) (fun K hK => ?_)
         first | refine goes_ Try.func91 (by kernel_rfl) rfl #[.agg #[.int .i64 t194, .int .i64 t195], .int .i64 a1, .int .i64 a0_0] (by rfl) rfl rfl ar ?_ | refine goesV_ Try.func91 (by kernel_rfl) rfl #[.agg #[.int .i64 t194, .int .i64 t195], .int .i64 a1, .int .i64 a0_0] (by rfl) rfl rfl rfl ar ?_
         with_reducible refine (find_down_1.calls k1 t194 t195 a1 a0_0 t198 _ A13.out).mono ?_
         rintro e w33 ⟨rfl, hb⟩
         refine ⟨_, rfl, ?_⟩
         replace BK191 := am (blk_below (kp BK191.out) hb)
         replace BK192 := am (blk_below (kp BK192.out) hb)
         replace BK197 := am (blk_below (kp BK197.out) hb)
         replace HB := am (below_step (bl3 HB.out GE191.out GE192.out GE197.out) hb)
         (try clear hb)
         (try clear hb2)
         (try clear hk)
         (try clear hi)
         refine hK.out _ _ ⟨bc BK192.out 0, bc BK192.out 1, bc BK192.out 2, bc BK192.out 3, bc BK197.out 0, bc BK197.out 1, bc BK191.out 0, bc BK191.out 1, bc BK191.out 2, bc BK191.out 3⟩ (fun hHeld => ?_)
         clear hK K
         refine nx ?_
         refine px 9 39 (bs 13 2047) HT_.out ?_
         refine px 11 41 (bs 13 4095) HT_.out ?_
         refine px 12 14 (bs 13 8191) HT_.out ?_
         refine done_ (done_of HT_.out (by kernel_rfl)) ?_
         have hnb34 := NB192_191.out
         have hnc34 := NB191_192.out
         have hcz35_0 : w33.cell? ⟨gb192, 0, none⟩ = some (.int .i64 (-1)) := bc BK192.out 0
         have hcz35_1 : w33.cell? ⟨gb192, 1, none⟩ = some (.func (.func 90) #[] #[]) := bc BK192.out 1
         have hcz35_2 : w33.cell? ⟨gb192, 2, none⟩ = some (.func (.func 91) #[] #[]) := bc BK192.out 2
         have hcz35_3 : w33.cell? ⟨gb192, 3, none⟩ = some (.func (.func 92) #[] #[]) := bc BK192.out 3
         have hfz35_0 := blk_frozen BK192.out 0
         have hfz35_1 := blk_frozen BK192.out 1
         have hfz35_2 := blk_frozen BK192.out 2
         have hfz35_3 := blk_frozen BK192.out 3
         try go_wp2
         go_roundg k1
         case measure => have := HK1.out; omega
         case rel => exact ⟨(x8_1), (true), (wrap64 (x18_1 + 1)), sm, sm, sm, H', ⟨by have := HK1.out; omega⟩, ⟨kp BK191.out⟩, ⟨kp BK192.out⟩, ⟨bl3 HB.out GE191.out GE192.out GE197.out⟩⟩
       ·replace c14 := Bool.eq_false_iff.mpr c14
        subst c14
        have H1 : (find_place_dn.l0 k1 a1 (wrap64 ((wrap64 (t198 * a0_1)) + x18_1)) true l0_2 (l0_2.length : Int) (wrap64 (x18_1 + 1)) a0_0 a0_1 l0_2 l0_3 (-1)) = some (r1, r2) := by rw [if_neg (show ¬ (false = true) by decide)] at H; exact H
        clear H
        have H := H1
        clear H1
        have H' := am H
        clear H
        have p193 : 0 ≤ (x18_1 : Int) := of_decide_eq_true asm
        have q193 : x18_1 < (l0_2.length : Int) := of_decide_eq_true asm
        obtain ⟨ad193, A193_0, c193_0, e193, hx193_0, hl193_0, hi193_0⟩ := at_L2 HR0_2.out x18_1 p193 q193
        cases e193
        replace hx193_0 := (HB.out.cell (World.block_lt_of_cell? w _ hx193_0)).trans hx193_0
        have HR193_0 := am hi193_0
        have HC193_0 := am hl193_0
        clear hi193_0 hl193_0
        replace p193 := eq_true p193
        replace q193 := eq_true q193
        try go_wp2_with (first | ((with_reducible refine gate_callee (f := 43) rfl ?_); refine goesL_ (some 25) rfl rfl Try.func43 (by kernel_rfl) rfl #[.slice A193_0 (rd_L2 l0_2 x18_1).length c193_0] rfl ar ?_; (with_reducible refine (spans_Hull.calls _ _ (rd_L2 l0_2 x18_1) t194 t195 true _ ?side1 ?side2 A11.out).mono ?_); (case side1 => exact kc (Kd.C_below HR193_0.out HB.out)); (case side2 => exact HC193_0.out); rintro e w36 ⟨rfl, hb⟩; refine ⟨_, rfl, ?_⟩; replace BK191 := am (blk_below (kp BK191.out) hb); replace BK192 := am (blk_below (kp BK192.out) hb); replace HB := am (below_step (bl2 HB.out GE191.out GE192.out) hb); (try clear hb); (try clear hb2); (try clear hk); (try clear hi)) | ((with_reducible refine gate_dst (N := 12) rfl ?_); refine bx 12 23 #[.int .i64 0, .int .i64 0] ?_; intro gb197 hg w37 hbox hb; have BK197 := am (hbox); have GW197 := am ((bz2 hg HB.out GE191.out GE192.out : w.heap.size ≤ gb197)); have GE197 := am ((bz2 hg HB.out GE191.out GE192.out : w.heap.size ≤ gb197)); replace HB := am (below_step (bl2 HB.out GE191.out GE192.out) hb); have NB191_197 := am ((nl hg BK191.out : gb191 ≠ gb197)); have NB197_191 := am ((ng hg BK191.out : gb197 ≠ gb191)); replace BK191 := am (blk_below (kp BK191.out) hb); have NB192_197 := am ((nl hg BK192.out : gb192 ≠ gb197)); have NB197_192 := am ((ng hg BK192.out : gb197 ≠ gb192)); replace BK192 := am (blk_below (kp BK192.out) hb); clear hb hbox hg; have hnb38 := NB197_191.out; have hnc38 := NB191_197.out; have hnb39 := NB197_192.out; have hnc39 := NB192_197.out; have hcz40_0 : w37.cell? ⟨gb197, 0, none⟩ = some (.int .i64 0) := bc BK197.out 0; have hcz40_1 : w37.cell? ⟨gb197, 1, none⟩ = some (.int .i64 0) := bc BK197.out 1; have hfz40_0 := blk_frozen BK197.out 0; have hfz40_1 := blk_frozen BK197.out 1))
        have n0_ : Aside0 (((w37.setCell ⟨gb197, 0, none⟩ (.int .i64 t194)).setCell ⟨gb197, 1, none⟩ (.int .i64 t195)).heap[gb191]? = some (.cells #[.int .i64 a0_0, .int .i64 a0_1, .slice (some ad193) l0_2.length c0_2, .slice A0_3 l0_3.length c0_3] 28 (0, 0))) := ⟨kf BK191.out NB191_197.out⟩
        have n1_ : Aside0 (((w37.setCell ⟨gb197, 0, none⟩ (.int .i64 t194)).setCell ⟨gb197, 1, none⟩ (.int .i64 t195)).heap[gb192]? = some (.cells #[.int .i64 (-1), .func (.func 90) #[] #[], .func (.func 91) #[] #[], .func (.func 92) #[] #[]] 79 (0, 0))) := ⟨kf BK192.out NB192_197.out⟩
        have n2_ : Aside0 (((w37.setCell ⟨gb197, 0, none⟩ (.int .i64 t194)).setCell ⟨gb197, 1, none⟩ (.int .i64 t195)).heap[gb197]? = some (.cells #[.int .i64 t194, .int .i64 t195] 23 (0, 0))) := ⟨by (with_reducible repeat (first | refine blk_drewN ?_ _ | refine blk_drew ?_ | refine blk_alloc ?_ _)); refine blk_put (cs := #[.int .i64 t194, .int .i64 0]) ?_ 1 _ rfl; (with_reducible repeat (first | refine blk_drewN ?_ _ | refine blk_drew ?_ | refine blk_alloc ?_ _)); refine blk_put (cs := #[.int .i64 0, .int .i64 0]) ?_ 0 _ rfl; (with_reducible repeat (first | refine blk_drewN ?_ _ | refine blk_drew ?_ | refine blk_alloc ?_ _)); exact BK197.out⟩
        have n3_ : Aside0 (Below w.heap.size w ((w37.setCell ⟨gb197, 0, none⟩ (.int .i64 t194)).setCell ⟨gb197, 1, none⟩ (.int .i64 t195))) := ⟨bl3 HB.out GE191.out GE192.out GE197.out⟩
        (try clear BK191)
        (try clear BK192)
        (try clear BK197)
        (try clear HB)
        generalize ((w37.setCell ⟨gb197, 0, none⟩ (.int .i64 t194)).setCell ⟨gb197, 1, none⟩ (.int .i64 t195)) = w41 at n0_ n1_ n2_ n3_ ⊢
        have BK191 := n0_
        have BK192 := n1_
        have BK197 := n2_
        have HB := n3_
        clear n0_ n1_ n2_ n3_
        replace BK191 := am (blk_drew BK191.out)
        replace BK192 := am (blk_drew BK192.out)
        replace BK197 := am (blk_drew BK197.out)
        replace HB := am (below_drew1 HB.out)
        refine start_ (n := 13) (S := fun w' => w'.cell? ⟨gb192, 0, none⟩ = some (.int .i64 (-1)) ∧ w'.cell? ⟨gb192, 1, none⟩ = some (.func (.func 90) #[] #[]) ∧ w'.cell? ⟨gb192, 2, none⟩ = some (.func (.func 91) #[] #[]) ∧ w'.cell? ⟨gb192, 3, none⟩ = some (.func (.func 92) #[] #[]) ∧ w'.cell? ⟨gb197, 0, none⟩ = some (.int .i64 t194) ∧ w'.cell? ⟨gb197, 1, none⟩ = some (.int .i64 t195) ∧ w'.cell? ⟨gb191, 0, none⟩ = some (.int .i64 a0_0) ∧ w'.cell? ⟨gb191, 1, none⟩ = some (.int .i64 a0_1) ∧ w'.cell? ⟨gb191, 2, none⟩ = some (.slice (some ad193) l0_2.length c0_2) ∧ w'.cell? ⟨gb191, 3, none⟩ = some (.slice A0_3 l0_3.length c0_3)) (ds := []) (bs 13 0) (by kernel_rfl) rfl rfl ⟨bc BK192.out 0, bc BK192.out 1, bc BK192.out 2, bc BK192.out 3, bc BK197.out 0, bc BK197.out 1, bc BK191.out 0, bc BK191.out 1, bc BK191.out 2, bc BK191.out 3⟩ (fun hHeld => ?_); refine with_tabW find_place_dn.tab7 find_place_dn.bits7 (fun HT_ HW_ => ?_)
        generalize w41.drew = w42 at BK191 BK192 BK197 HB hHeld ⊢
        refine px 0 30 (bs 13 1) HT_.out ?_
        refine px 3 33 (bs 13 9) HT_.out ?_
        refine px 4 34 (bs 13 25) HT_.out ?_
        refine px 7 37 (bs 13 153) HT_.out ?_
        refine px 10 40 (bs 13 1177) HT_.out ?_
        refine tx 1 31 (bs 13 1179) HT_.out HW_.out hHeld ?_
        refine tx 2 32 (bs 13 1183) HT_.out HW_.out hHeld ?_
        refine tx 5 35 (bs 13 1215) HT_.out HW_.out hHeld ?_
        refine tx 8 38 (bs 13 1471) HT_.out HW_.out hHeld ?_
        refine one_ (i := 6) (N := some 36) (bs 13 1535) rfl rfl (one_of HT_.out (by kernel_rfl)) (by decide) (fun K hK => ?_)
        first | refine goes_ Try.func91 (by kernel_rfl) rfl #[.agg #[.int .i64 t194, .int .i64 t195], .int .i64 a1, .int .i64 a0_0] (by rfl) rfl rfl ar ?_ | refine goesV_ Try.func91 (by kernel_rfl) rfl #[.agg #[.int .i64 t194, .int .i64 t195], .int .i64 a1, .int .i64 a0_0] (by rfl) rfl rfl rfl ar ?_
        with_reducible refine (find_down_1.calls k1 t194 t195 a1 a0_0 t198 _ A13.out).mono ?_
        rintro e w43 ⟨rfl, hb⟩
        refine ⟨_, rfl, ?_⟩
        replace BK191 := am (blk_below (kp BK191.out) hb)
        replace BK192 := am (blk_below (kp BK192.out) hb)
        replace BK197 := am (blk_below (kp BK197.out) hb)
        replace HB := am (below_step (bl3 HB.out GE191.out GE192.out GE197.out) hb)
        (try clear hb)
        (try clear hb2)
        (try clear hk)
        (try clear hi)
        refine hK.out _ _ ⟨bc BK192.out 0, bc BK192.out 1, bc BK192.out 2, bc BK192.out 3, bc BK197.out 0, bc BK197.out 1, bc BK191.out 0, bc BK191.out 1, bc BK191.out 2, bc BK191.out 3⟩ (fun hHeld => ?_)
        clear hK K
        refine nx ?_
        refine px 9 39 (bs 13 2047) HT_.out ?_
        refine px 11 41 (bs 13 4095) HT_.out ?_
        refine px 12 14 (bs 13 8191) HT_.out ?_
        refine done_ (done_of HT_.out (by kernel_rfl)) ?_
        try go_wp2
        go_roundg k1
        case measure => have := HK1.out; omega
        case rel => exact ⟨(wrap64 ((wrap64 (t198 * a0_1)) + x18_1)), (true), (wrap64 (x18_1 + 1)), sm, sm, sm, H', ⟨by have := HK1.out; omega⟩, ⟨kp BK191.out⟩, ⟨kp BK192.out⟩, ⟨bl3 HB.out GE191.out GE192.out GE197.out⟩⟩
      ·replace c12 := Bool.eq_false_iff.mpr c12
       subst c12
       have H1 : (find_place_dn.l0 k1 a1 x8_1 x9_1 l0_2 (l0_2.length : Int) (wrap64 (x18_1 + 1)) a0_0 a0_1 l0_2 l0_3 (-1)) = some (r1, r2) := by rw [if_neg (show ¬ (false = true) by decide)] at H; exact H
       clear H
       have H := H1
       clear H1
       have H' := am H
       clear H
       have p193 : 0 ≤ (x18_1 : Int) := of_decide_eq_true asm
       have q193 : x18_1 < (l0_2.length : Int) := of_decide_eq_true asm
       obtain ⟨ad193, A193_0, c193_0, e193, hx193_0, hl193_0, hi193_0⟩ := at_L2 HR0_2.out x18_1 p193 q193
       cases e193
       replace hx193_0 := (HB.out.cell (World.block_lt_of_cell? w _ hx193_0)).trans hx193_0
       have HR193_0 := am hi193_0
       have HC193_0 := am hl193_0
       clear hi193_0 hl193_0
       replace p193 := eq_true p193
       replace q193 := eq_true q193
       go_wp2_with (first | ((with_reducible refine gate_callee (f := 43) rfl ?_); refine goesL_ (some 25) rfl rfl Try.func43 (by kernel_rfl) rfl #[.slice A193_0 (rd_L2 l0_2 x18_1).length c193_0] rfl ar ?_; (with_reducible refine (spans_Hull.calls _ _ (rd_L2 l0_2 x18_1) t194 t195 false _ ?side1 ?side2 A11.out).mono ?_); (case side1 => exact kc (Kd.C_below HR193_0.out HB.out)); (case side2 => exact HC193_0.out); rintro e w44 ⟨rfl, hb⟩; refine ⟨_, rfl, ?_⟩; replace BK191 := am (blk_below (kp BK191.out) hb); replace BK192 := am (blk_below (kp BK192.out) hb); replace HB := am (below_step (bl2 HB.out GE191.out GE192.out) hb); (try clear hb); (try clear hb2); (try clear hk); (try clear hi)) | ((with_reducible refine gate_dst (N := 12) rfl ?_); refine bx 12 23 #[.int .i64 0, .int .i64 0] ?_; intro gb197 hg w45 hbox hb; have BK197 := am (hbox); have GW197 := am ((bz2 hg HB.out GE191.out GE192.out : w.heap.size ≤ gb197)); have GE197 := am ((bz2 hg HB.out GE191.out GE192.out : w.heap.size ≤ gb197)); replace HB := am (below_step (bl2 HB.out GE191.out GE192.out) hb); have NB191_197 := am ((nl hg BK191.out : gb191 ≠ gb197)); have NB197_191 := am ((ng hg BK191.out : gb197 ≠ gb191)); replace BK191 := am (blk_below (kp BK191.out) hb); have NB192_197 := am ((nl hg BK192.out : gb192 ≠ gb197)); have NB197_192 := am ((ng hg BK192.out : gb197 ≠ gb192)); replace BK192 := am (blk_below (kp BK192.out) hb); clear hb hbox hg; have hnb46 := NB197_191.out; have hnc46 := NB191_197.out; have hnb47 := NB197_192.out; have hnc47 := NB192_197.out; have hcz48_0 : w45.cell? ⟨gb197, 0, none⟩ = some (.int .i64 0) := bc BK197.out 0; have hcz48_1 : w45.cell? ⟨gb197, 1, none⟩ = some (.int .i64 0) := bc BK197.out 1; have hfz48_0 := blk_frozen BK197.out 0; have hfz48_1 := blk_frozen BK197.out 1))
       go_roundg k1
       case measure => have := HK1.out; omega
       case rel => exact ⟨(x8_1), (x9_1), (wrap64 (x18_1 + 1)), sm, sm, sm, H', ⟨by have := HK1.out; omega⟩, ⟨kf BK191.out NB191_197.out⟩, ⟨kf BK192.out NB192_197.out⟩, ⟨bl3 HB.out GE191.out GE192.out GE197.out⟩⟩
     ·rw [if_neg c10] at H
      exact absurd H (by simp)
    ·rw [if_neg c9] at H
     exact absurd H (by simp)
   ·rw [if_neg c8] at H
    have c8b0 : decide (x18_1 < (l0_2.length : Int)) = false := decide_eq_false c8
    clear c8
    simp only [Option.some.injEq, Prod.mk.injEq] at H
    obtain ⟨rfl, rfl⟩ := H
    go_wp2
    go_ret2
    exact ⟨rt, bl2 HB.out GE191.out GE192.out⟩

end Go.Proofs.Ytmbmalkpmanaaaa.P

namespace Go.Proofs.Ytmbmalkpmanaaaa.P
open Go.RowKit Go.Proofs.YtmbmalkpmanaaaaW.PrintWords Go.Proofs.YtmbmalkpmanaaaaW.PrintLast Go.Proofs.YtmbmalkpmanaaaaW.PrintMore
attribute [local go_sem] max2_int min2_int max_two min_two max_three min_three max_four min_four   -- for this text's walks alone
set_option linter.unusedVariables false
set_option linter.unusedSimpArgs false

def gran_Before.f (k : Nat) (a0_0 : Int) (a0_1 : Int) (l0_2 : List (List (S23))) (l0_3 : List (S70)) (a1 : Int) : Option (Int × Bool) := if a1 ≤ (-1099511627776) then (some (0, false)) else ((gran_step.f k a0_0 a0_1 l0_2 l0_3 (mn (wrap64 (a1 - 1)) 1099511627776) (-1)).bind fun bt2098 => (some (bt2098.1, bt2098.2)))
theorem gran_Before.mono : ∀ a0 a1 a2 a3 a4 k, LeO (gran_Before.f k a0 a1 a2 a3 a4) (gran_Before.f (k + 1) a0 a1 a2 a3 a4) := by
 intro a0 a1 a2 a3 a4 k
 unfold gran_Before.f
 repeat' first
  | (with_reducible exact gran_step.mono _ _ _ _ _ _ _)
  | (with_reducible exact LeO.refl _)
  | (with_reducible exact LeO.none _)
  | (with_reducible refine LeO.ite ?_ ?_)
  | (with_reducible refine LeO.bind ?_ (fun _ => ?_))
  | exact gran_step.mono _ _ _ _ _ _ _
  | exact LeO.none _
  | refine LeO.ite ?_ ?_
  | refine LeO.bind ?_ (fun _ => ?_)
set_option maxHeartbeats 8000000 in
set_option maxRecDepth 100000 in
theorem gran_Before.calls (k : Nat) (a0_0 : Int) (a0_1 : Int) (A0_2 : Option Addr) (c0_2 : Nat) (l0_2 : List (List (S23))) (A0_3 : Option Addr) (c0_3 : Nat) (l0_3 : List (S70)) (a1 : Int) (r1 : Int) (r2 : Bool) (w : World) (hr0_2 : Kd.C (Kd.slice 23 k23) w A0_2 l0_2.length l0_2) (hc0_2 : l0_2.length ≤ c0_2) (hr0_3 : Kd.C k70 w A0_3 l0_3.length l0_3) (hc0_3 : l0_3.length ≤ c0_3) (h : gran_Before.f k a0_0 a0_1 l0_2 l0_3 a1 = some (r1, r2)) :
 Calls Try.prog 90 #[.agg #[.int .i64 a0_0, .int .i64 a0_1, .slice A0_2 l0_2.length c0_2, .slice A0_3 l0_3.length c0_3], .int .i64 a1] w fun e w' => e = .returned (.tuple #[.int .i64 r1, .bool r2]) ∧ Below w.heap.size w w' := by
 have hu28 := Try.underlying28
 have HR0_2 := am hr0_2
 have HC0_2 := am hc0_2
 clear hr0_2 hc0_2
 have HR0_3 := am hr0_3
 have HC0_3 := am hc0_3
 clear hr0_3 hc0_3
 have HB := am (Below.refl w.heap.size w)
 have H : (if a1 ≤ (-1099511627776) then (some (0, false)) else ((gran_step.f k a0_0 a0_1 l0_2 l0_3 (mn (wrap64 (a1 - 1)) 1099511627776) (-1)).bind fun bt2098 => (some (bt2098.1, bt2098.2)))) = some (r1, r2) := h
 clear h
 by_cases c3 : a1 ≤ (-1099511627776)
 ·rw [if_pos c3] at H
  have c3b0 : decide (a1 ≤ (-1099511627776)) = true := decide_eq_true c3
  clear c3
  simp only [Option.some.injEq, Prod.mk.injEq] at H
  obtain ⟨rfl, rfl⟩ := H
  go_enter Try.func90, Try.ntmps90
  go_wp2_with (first | ((with_reducible refine gate_dst (N := 2) rfl ?_); refine bx 2 28 #[.int .i64 a0_0, .int .i64 a0_1, .slice A0_2 l0_2.length c0_2, .slice A0_3 l0_3.length c0_3] ?_; intro gb2097 hg w4 hbox hb; have BK2097 := am (hbox); have GW2097 := am ((bz hg HB.out : w.heap.size ≤ gb2097)); have GE2097 := am ((bz hg HB.out : w.heap.size ≤ gb2097)); replace HB := am (below_step (bl HB.out) hb); clear hb hbox hg))
  go_ret2
  exact ⟨rt, bl1 HB.out GE2097.out⟩
 ·rw [if_neg c3] at H
  have c3b0 : decide (a1 ≤ (-1099511627776)) = false := decide_eq_false c3
  clear c3
  obtain ⟨ji5, hji5⟩ : ∃ j_ : Int, (mn (wrap64 (a1 - 1)) 1099511627776) = j_ := ⟨_, rfl⟩
  replace H : ((gran_step.f k a0_0 a0_1 l0_2 l0_3 (ji5) (-1)).bind fun bt2098 => (some (bt2098.1, bt2098.2))) = some (r1, r2) := by first | (rw [hji5] at H; exact H) | (simp only [hji5] at H ⊢; exact H)
  (try (have hji5h : ji5 ≤ 1099511627776 := by (rw [← hji5]; unfold mn; (repeat' split) <;> omega)))
  (try (have hji5g : ji5 ≤ 64 := by omega))
  have hji5_ : (if 1099511627776 < (wrap64 (a1 - 1)) then 1099511627776 else (wrap64 (a1 - 1))) = ji5 := hji5
  replace H := Option.bind_eq_some_iff.mp H
  obtain ⟨⟨t2098, t2099⟩, A60, H⟩ := H
  try dsimp only at H
  have A6 := am A60
  clear A60
  simp only [Option.some.injEq, Prod.mk.injEq] at H
  obtain ⟨rfl, rfl⟩ := H
  go_enter Try.func90, Try.ntmps90
  go_wp2_with (first | ((with_reducible refine gate_dst (N := 2) rfl ?_); refine bx 2 28 #[.int .i64 a0_0, .int .i64 a0_1, .slice A0_2 l0_2.length c0_2, .slice A0_3 l0_3.length c0_3] ?_; intro gb2097 hg w7 hbox hb; have BK2097 := am (hbox); have GW2097 := am ((bz hg HB.out : w.heap.size ≤ gb2097)); have GE2097 := am ((bz hg HB.out : w.heap.size ≤ gb2097)); replace HB := am (below_step (bl HB.out) hb); clear hb hbox hg; have hcz8_0 : w7.cell? ⟨gb2097, 0, none⟩ = some (.int .i64 a0_0) := bc BK2097.out 0; have hcz8_1 : w7.cell? ⟨gb2097, 1, none⟩ = some (.int .i64 a0_1) := bc BK2097.out 1; have hcz8_2 : w7.cell? ⟨gb2097, 2, none⟩ = some (.slice A0_2 l0_2.length c0_2) := bc BK2097.out 2; have hcz8_3 : w7.cell? ⟨gb2097, 3, none⟩ = some (.slice A0_3 l0_3.length c0_3) := bc BK2097.out 3; have hfz8_0 := blk_frozen BK2097.out 0; have hfz8_1 := blk_frozen BK2097.out 1; have hfz8_2 := blk_frozen BK2097.out 2; have hfz8_3 := blk_frozen BK2097.out 3) | ((with_reducible refine gate_callee (f := 63) rfl ?_); refine goesL_ (some 12) rfl rfl Try.func63 (by kernel_rfl) rfl #[.agg #[.int .i64 a0_0, .int .i64 a0_1, .slice A0_2 l0_2.length c0_2, .slice A0_3 l0_3.length c0_3], .int .i64 ji5, .int .i64 (-1)] rfl (by (try simp only [List.map_toArray, List.map_cons, List.map_nil]); first | done | (simp only [hji5]; rfl) | rfl | (simp only [List.length_drop, List.length_take]; rfl)) ?_; (with_reducible refine (gran_step.calls k a0_0 a0_1 _ _ l0_2 _ _ l0_3 ji5 (-1) t2098 t2099 _ ?side1 ?side2 ?side3 ?side4 A6.out).mono ?_); (case side1 => exact kc (Kd.C_below HR0_2.out HB.out)); (case side2 => exact HC0_2.out); (case side3 => exact kc (Kd.C_below HR0_3.out HB.out)); (case side4 => exact HC0_3.out); rintro e w9 ⟨rfl, hb⟩; refine ⟨_, rfl, ?_⟩; replace BK2097 := am (blk_below (kp BK2097.out) hb); replace HB := am (below_step (bl1 HB.out GE2097.out) hb); (try clear hb); (try clear hb2); (try clear hk); (try clear hi)))
  go_ret2
  exact ⟨by first | rfl | (simp [errW_none, errW_some] <;> rfl) | (simp only [← hji5]; first | rfl | (simp [errW_none, errW_some] <;> rfl)) | (simp [*, errW_none, errW_some] <;> rfl), bl1 HB.out GE2097.out⟩

end Go.Proofs.Ytmbmalkpmanaaaa.P

namespace Go.Proofs.Ytmbmalkpmanaaaa.P
set_option linter.unusedVariables false
set_option linter.unusedSimpArgs false
open Go.RowKit Go.Proofs.YtmbmalkpmanaaaaW.PrintWords Go.Proofs.YtmbmalkpmanaaaaW.PrintLast Go.Proofs.YtmbmalkpmanaaaaW.PrintMore

def find_plain_dn.l1 : Nat → Int → Bool → Int → Int → Int → List (List S23) → List Gr → Option (Int × Bool)
  | 0, _, _, _, _, _, _, _ => none
  | k + 1, i, ok, beyond, p, c, core, odd => if ok = true then (if beyond < 2 then ((gran_Get.f k p c core [] i).bind fun g => if g.2 = 0 then if fitsB i = true then if cntI (oddsI odd) i = 0 then some (i, true) else (gran_Before.f k p c core [] i).bind fun n => find_plain_dn.l1 k n.1 n.2 beyond p c core odd else none else (gran_Before.f k p c core [] i).bind fun n => find_plain_dn.l1 k n.1 n.2 (wrap64 (beyond + 1)) p c core odd) else some (0, false)) else some (0, false)
def find_plain_dn.f (k : Nat) (p c : Int) (core : List (List S23)) (odd : List Gr) (t : Int) : Option (Int × Bool) :=
  if odd.length < 1000000000 ∧ odd.all (fun g => fitsB g.f0) = true then (find_place_dn.f k p c core odd t).bind fun a => if a.2 = true then (gran_Before.f k p c core [] (wrap64 (a.1 - (-1)))).bind fun n => find_plain_dn.l1 k n.1 n.2 0 p c core odd else some (0, false) else none

theorem find_plain_dn.mono_l : ∀ (k : Nat) (i : Int) (ok : Bool) (b p c : Int) (core : List (List S23)) (odd : List Gr), LeO (find_plain_dn.l1 k i ok b p c core odd) (find_plain_dn.l1 (k + 1) i ok b p c core odd)
  | 0, _, _, _, _, _, _, _ => fun r h => by simp [find_plain_dn.l1] at h
  | k + 1, i, ok, b, p, c, core, odd => by
    have ih := find_plain_dn.mono_l k
    unfold find_plain_dn.l1
    repeat' first
      | (with_reducible exact ih _ _ _ _ _ _ _)
      | (with_reducible exact gran_Get.mono _ _ _ _ _ _)
      | (with_reducible exact gran_Before.mono _ _ _ _ _ _)
      | (with_reducible exact LeO.refl _)
      | (with_reducible exact LeO.none _)
      | (with_reducible refine LeO.ite ?_ ?_)
      | (with_reducible refine LeO.bind ?_ (fun _ => ?_))
theorem find_plain_dn.mono (p c : Int) (core : List (List S23)) (odd : List Gr) (t : Int) (k : Nat) : LeO (find_plain_dn.f k p c core odd t) (find_plain_dn.f (k + 1) p c core odd t) := by
  unfold find_plain_dn.f
  repeat' first
    | (with_reducible exact find_plain_dn.mono_l _ _ _ _ _ _ _ _)
    | (with_reducible exact find_place_dn.mono _ _ _ _ _ _)
    | (with_reducible exact gran_Before.mono _ _ _ _ _ _)
    | (with_reducible exact LeO.refl _)
    | (with_reducible exact LeO.none _)
    | (with_reducible refine LeO.ite ?_ ?_)
    | (with_reducible refine LeO.bind ?_ (fun _ => ?_))

set_option maxHeartbeats 8000000 in
set_option maxRecDepth 100000 in
theorem find_plain_dn.calls (k : Nat) (a0_0 : Int) (a0_1 : Int) (A0_2 : Option Addr) (c0_2 : Nat) (l0_2 : List (List (S23))) (A0_3 : Option Addr) (c0_3 : Nat) (l0_3 : List (S70)) (a1 : Int)  (r1 : Int) (r2 : Bool) (w : World) (hr0_2 : Kd.C (Kd.slice 23 k23) w A0_2 l0_2.length l0_2) (hc0_2 : l0_2.length ≤ c0_2) (hr0_3 : Kd.C k70 w A0_3 l0_3.length l0_3) (hc0_3 : l0_3.length ≤ c0_3) (h : find_plain_dn.f k a0_0 a0_1 l0_2 l0_3 a1 = some (r1, r2)) :
    Calls Try.prog 87 #[.agg #[.int .i64 a0_0, .int .i64 a0_1, .slice A0_2 l0_2.length c0_2, .slice A0_3 l0_3.length c0_3], .int .i64 a1, .agg #[.int .i64 (-1), .func (.func 90) #[] #[], .func (.func 91) #[] #[], .func (.func 92) #[] #[]]] w fun e w' => e = .returned (.tuple #[.int .i64 r1, .bool r2]) ∧ Below w.heap.size w w' := by
  have hmm := @run_makeMap Try.prog
  have HR2 := Aside0.mk hr0_2
  have HC2 := Aside0.mk hc0_2
  have HR3 := Aside0.mk hr0_3
  have HC3 := Aside0.mk hc0_3
  unfold find_plain_dn.f at h
  by_cases hlen : l0_3.length < 1000000000 ∧ l0_3.all (fun g => fitsB g.f0) = true
  case neg => rw [if_neg hlen] at h; cases h
  rw [if_pos hlen] at h
  obtain ⟨⟨i0, ok0⟩, hpl, h⟩ := Option.bind_eq_some_iff.mp h
  have HP := Aside0.mk hpl
  have HL := Aside0.mk hlen
  have H := Aside0.mk h
  clear hr0_2 hc0_2 hr0_3 hc0_3 h hpl hlen
  go_enter Try.func87, Try.ntmps87
  go_wp2_with fail
  refine (find_place_dn.calls k a0_0 a0_1 A0_2 c0_2 l0_2 A0_3 c0_3 l0_3 a1 i0 ok0 _ ?_ HC2.out ?_ HC3.out HP.out).mono ?_
  · exact Kd.C_below HR2.out (by repeat (first | exact Below.refl _ _ | apply below_alloc))
  · exact Kd.C_below HR3.out (by repeat (first | exact Below.refl _ _ | apply below_alloc))
  rintro e w1 ⟨rfl, hb1⟩
  have HB1 := Aside0.mk (((((Below.refl w.heap.size w).alloc (Nat.le_refl _) _).alloc (by simp) _).alloc (by simp; try omega) _).trans (hb1.mono (by simp; try omega)))
  have BK3 : Aside0 (w1.heap[w.heap.size]? = some (.cells #[.int .i64 a0_0, .int .i64 a0_1, .slice A0_2 l0_2.length c0_2, .slice A0_3 l0_3.length c0_3] 28 (0, 0))) := ⟨blk_below (blk_alloc (blk_alloc (blk_new w _) _) _) hb1⟩
  have BK5 : Aside0 (w1.heap[w.heap.size + 1]? = some (.cells #[.int .i64 (-1), .func (.func 90) #[] #[], .func (.func 91) #[] #[], .func (.func 92) #[] #[]] 79 (0, 0))) := ⟨by have := blk_below (blk_alloc (blk_new (w.alloc _) _) _) hb1; simpa using this⟩
  have BK8 : Aside0 (w1.heap[w.heap.size + 1 + 1]? = some (.cells #[.int .i64 a0_0, .int .i64 a0_1, .slice A0_2 l0_2.length c0_2, .slice none 0 0] 28 (0, 0))) := ⟨by have := blk_below (blk_new ((w.alloc _).alloc _) _) hb1; simpa using this⟩
  have SZ : Aside0 (w.heap.size + 3 ≤ w1.heap.size) := ⟨by have := hb1.size; simp at this; omega⟩
  clear hb1
  cases ok0
  · go_wp2
    have h := H.out
    simp at h
    obtain ⟨rfl, rfl⟩ := h
    go_ret2
    exact ⟨rfl, HB1.out⟩
  · have hc3 : (w1.alloc (.map #[] 0)).cell? ⟨w.heap.size, 3, none⟩ = some (.slice A0_3 l0_3.length c0_3) := (blk_cell (blk_alloc BK3.out _) 3).trans rfl
    have hf3 := blk_frozen (blk_alloc BK3.out (.map #[] 0)) 3
    go_wp2_with fail
    clear hc3 hf3
    have HX := H.out
    rw [if_pos trivial] at HX
    obtain ⟨⟨n1, n2⟩, hn, HX⟩ := Option.bind_eq_some_iff.mp HX
    have HN := Aside0.mk hn
    have H2 := Aside0.mk HX
    clear H HX hn
    go_loopw [37] (fun v wr => ∃ m : Nat, Aside0 (m ≤ l0_3.length) ∧ v = .int .i64 (m : Int) ∧ Aside0 (wr.heap[w.heap.size]? = some (.cells #[.int .i64 a0_0, .int .i64 a0_1, .slice A0_2 l0_2.length c0_2, .slice A0_3 l0_3.length c0_3] 28 (0, 0))) ∧ Aside0 (wr.heap[w.heap.size + 1]? = some (.cells #[.int .i64 (-1), .func (.func 90) #[] #[], .func (.func 91) #[] #[], .func (.func 92) #[] #[]] 79 (0, 0))) ∧ Aside0 (wr.heap[w.heap.size + 1 + 1]? = some (.cells #[.int .i64 a0_0, .int .i64 a0_1, .slice A0_2 l0_2.length c0_2, .slice none 0 0] 28 (0, 0))) ∧ Aside0 (OMap wr w1.heap.size (oddsI (l0_3.take m))) ∧ Aside0 (Below w.heap.size w wr)) (fun v _ => l0_3.length - (intOf v).toNat)
    case atStart => exact ⟨0, ⟨Nat.zero_le _⟩, rfl, ⟨blk_alloc BK3.out _⟩, ⟨blk_alloc BK5.out _⟩, ⟨blk_alloc BK8.out _⟩, ⟨OMap.made w1⟩, ⟨HB1.out.alloc HB1.out.size _⟩⟩
    case round =>
      clear BK3 BK5 BK8 HB1
      obtain ⟨m, hm, rfl, BK3, BK5, BK8, OM, HB⟩ := hrel
      by_cases hlt : m < l0_3.length
      · obtain ⟨ad, A1, c1, e, hx0, hx1, hl1, hi1⟩ := at_T70 HR3.out (m : Int) (by omega) (by omega)
        subst e
        have hy : rd_T70 l0_3 (m : Int) = l0_3[m] := by simp [rd_T70, hlt]
        have hwf : fitsB (rd_T70 l0_3 (m : Int)).f0 = true := by
          rw [hy]; exact List.all_eq_true.1 HL.out.2 _ (List.getElem_mem hlt)
        have htk : oddsI (l0_3.take (m + 1)) = oddsI (l0_3.take m) ++ [(rd_T70 l0_3 (m : Int)).f0] := by
          rw [hy, List.take_succ_eq_append_getElem hlt]; exact List.map_append
        have hln : (oddsI (l0_3.take m)).length < maxLen := by simp only [oddsI, List.length_map, List.length_take]; have := HL.out.1; unfold maxLen; omega
        have HTK := Aside0.mk htk
        have HWF := Aside0.mk (wf_fitsB hwf)
        have HLN := Aside0.mk hln
        have HLT := Aside0.mk hlt
        have hw : wrap64 ((m : Int) + 1) = ((m + 1 : Nat) : Int) := by have := HL.out.1; unfold wrap64; omega
        have HW := Aside0.mk hw
        clear hy hwf htk hln hw
        replace hx0 := (HB.out.cell (World.block_lt_of_cell? w _ hx0)).trans hx0
        replace hx1 := (HB.out.cell (World.block_lt_of_cell? w _ hx1)).trans hx1
        have p0 : 0 ≤ (m : Int) := by omega
        have p1 : (m : Int) < (l0_3.length : Int) := by omega
        obtain ⟨x, hx⟩ : ∃ x : Int, (m : Int) = x := ⟨_, rfl⟩
        rw [hx] at p0 p1 hx0 hx1 HTK HWF HW ⊢
        have HXX := Aside0.mk hx
        clear hx hlt
        have p2 : decide (x < (l0_3.length : Int)) = true := decide_eq_true p1
        replace p0 := eq_true p0
        replace p1 := eq_true p1
        go_wp2_with (first
          | (at_lookup; refine OMap.lookup (b := w1.heap.size) (l := oddsI (l0_3.take m)) (OMap.heap OM.out (Below.heap_alloc wr _ _ OM.out.lt)) rfl _ _ rfl rfl _ HWF.out rfl ?_)
          | (at_mapUpdate; refine OMap.update (b := w1.heap.size) (l := oddsI (l0_3.take m)) (OMap.heap OM.out (Below.heap_alloc wr _ _ OM.out.lt)) rfl _ _ _ rfl rfl HLN.out _ HWF.out rfl rfl ?_; intro w4 om4 gr4; have OM4 := Aside0.mk om4; have GR4 := Aside0.mk gr4; clear om4 gr4))
        go_roundw
        case rel =>
          have hne : ∀ g, g < w.heap.size + 3 → some g ≠ some w1.heap.size := fun g hg e => by have := SZ.out; injection e; omega
          exact ⟨m + 1, ⟨HLT.out⟩, by rw [HW.out], ⟨blk_grown (blk_alloc BK3.out _) GR4.out (hne _ (by omega))⟩, ⟨blk_grown (blk_alloc BK5.out _) GR4.out (hne _ (by omega))⟩, ⟨blk_grown (blk_alloc BK8.out _) GR4.out (hne _ (by omega))⟩,
            ⟨by rw [HTK.out]; exact OM4.out⟩, ⟨(HB.out.alloc HB.out.size _).grown GR4.out (HB.out.alloc HB.out.size _).size (fun j hj => by cases hj; have := SZ.out; omega)⟩⟩
        case measure => have := HLT.out; have := HW.out; have := HXX.out; simp only [intOf]; omega
      · have hmm2 : m = l0_3.length := by have := hm.out; omega
        subst hmm2
        have OM2 : Aside0 (OMap wr w1.heap.size (oddsI l0_3)) := ⟨by have := OM.out; rwa [List.take_length] at this⟩
        clear OM hlt hm
        have hc0 := (blk_cell BK5.out 0).trans rfl
        have hc1 := (blk_cell BK5.out 1).trans rfl
        have h80 := (blk_cell BK8.out 0).trans rfl
        have h81 := (blk_cell BK8.out 1).trans rfl
        have h82 := (blk_cell BK8.out 2).trans rfl
        have h83 := (blk_cell BK8.out 3).trans rfl
        have p2 : decide ((l0_3.length : Int) < (l0_3.length : Int)) = false := by simp
        go_wp2_with fail
        refine (gran_Before.calls k a0_0 a0_1 A0_2 c0_2 l0_2 none 0 [] _ n1 n2 _ (Kd.C_below HR2.out HB.out) HC2.out (Kd.C_nil _ _) (Nat.le_refl _) HN.out).mono ?_
        rintro e w5 ⟨rfl, hb5⟩
        have n5 := Aside0.mk (blk_below BK5.out hb5)
        have n8 := Aside0.mk (blk_below BK8.out hb5)
        have nm := Aside0.mk (OMap.heap OM2.out (hb5.block _ OM2.out.lt))
        have nb := Aside0.mk (below_step HB.out hb5)
        clear BK3 BK5 BK8 OM2 HB hc0 hc1 h80 h81 h82 h83 hb5 p2
        go_wp2_with fail
        go_loopg [9, 10, 14] k (fun kq v9 v10 v14 w' => ∃ (i : Int) (ok : Bool) (by_ : Int), v9 = .int .i64 i ∧ v10 = .bool ok ∧ v14 = .int .i64 by_ ∧ Aside0 (find_plain_dn.l1 kq i ok by_ a0_0 a0_1 l0_2 l0_3 = some (r1, r2)) ∧ Aside0 (kq ≤ k) ∧ Aside0 (w'.heap[w.heap.size + 1]? = some (.cells #[.int .i64 (-1), .func (.func 90) #[] #[], .func (.func 91) #[] #[], .func (.func 92) #[] #[]] 79 (0, 0))) ∧ Aside0 (w'.heap[w.heap.size + 1 + 1]? = some (.cells #[.int .i64 a0_0, .int .i64 a0_1, .slice A0_2 l0_2.length c0_2, .slice none 0 0] 28 (0, 0))) ∧ Aside0 (OMap w' w1.heap.size (oddsI l0_3)) ∧ Aside0 (Below w.heap.size w w'))
        case atStart => exact ⟨n1, n2, 0, rfl, rfl, rfl, H2, ⟨Nat.le_refl _⟩, n5, n8, nm, nb⟩
        case round =>
          clear n5 n8 nm nb H2 HN
          obtain ⟨i, ok, by_, rfl, rfl, rfl, HA, HK1, BK5, BK8, OM, HB⟩ := hrel
          cases gk with
          | zero => exact absurd HA.out (by simp [find_plain_dn.l1])
          | succ k1 =>
            have hc0 := (blk_cell BK5.out 0).trans rfl
            have hc1 := (blk_cell BK5.out 1).trans rfl
            have h80 := (blk_cell BK8.out 0).trans rfl
            have h81 := (blk_cell BK8.out 1).trans rfl
            have h82 := (blk_cell BK8.out 2).trans rfl
            have h83 := (blk_cell BK8.out 3).trans rfl
            have H := HA.out
            clear HA
            simp only [find_plain_dn.l1] at H
            cases ok
            · simp at H
              obtain ⟨rfl, rfl⟩ := H
              go_wp2
              all_goals (go_ret2; exact ⟨rfl, HB.out⟩)
            · rw [if_pos rfl] at H
              by_cases cb : by_ < 2
              · rw [if_pos cb] at H
                obtain ⟨⟨l, e⟩, hg, H⟩ := Option.bind_eq_some_iff.mp H
                have cb0 : decide (by_ < 2) = true := decide_eq_true cb
                clear cb
                have HG := Aside0.mk hg
                have H' := Aside0.mk H
                clear hg H
                go_wp2_with fail
                refine (gran_Get.calls k1 a0_0 a0_1 A0_2 c0_2 l0_2 none 0 [] i l e _ (Kd.C_below HR2.out HB.out) HC2.out (Kd.C_nil _ _) (Nat.le_refl _) HG.out).mono ?_
                rintro e' w6 ⟨v, rfl, hR, hb6⟩
                have n5 := Aside0.mk (blk_below BK5.out hb6)
                have n8 := Aside0.mk (blk_below BK8.out hb6)
                have nm := Aside0.mk (OMap.heap OM.out (hb6.block _ OM.out.lt))
                have nb := Aside0.mk (below_step HB.out hb6)
                clear BK5 BK8 OM HB hc0 hc1 h80 h81 h82 h83 hb6 hR
                have BK5 := n5
                have BK8 := n8
                have OM := nm
                have HB := nb
                clear n5 n8 nm nb
                have hc0 := (blk_cell BK5.out 0).trans rfl
                have hc1 := (blk_cell BK5.out 1).trans rfl
                have h80 := (blk_cell BK8.out 0).trans rfl
                have h81 := (blk_cell BK8.out 1).trans rfl
                have h82 := (blk_cell BK8.out 2).trans rfl
                have h83 := (blk_cell BK8.out 3).trans rfl
                have H := H'.out
                clear H'
                by_cases ce : e = 0
                · subst ce
                  rw [if_pos rfl] at H
                  by_cases cf : fitsB i = true
                  case neg => rw [if_neg cf] at H; cases H
                  rw [if_pos cf] at H
                  have HWF := Aside0.mk (wf_fitsB cf)
                  clear cf
                  by_cases cz : cntI (oddsI l0_3) i = 0
                  · rw [if_pos cz] at H
                    simp only [Option.some.injEq, Prod.mk.injEq] at H
                    obtain ⟨e1, rfl⟩ := H
                    have E1 := Aside0.mk e1
                    clear e1
                    have cz0 : (cntI (oddsI l0_3) i == 0) = true := by simpa using cz
                    have cz1 : decide (cntI (oddsI l0_3) i = 0) = true := by simpa using cz
                    go_wp2_with (at_lookup; refine OMap.lookup (b := w1.heap.size) (l := oddsI l0_3) OM.out rfl _ _ rfl rfl _ HWF.out rfl ?_)
                    go_ret2
                    exact ⟨by simp [E1.out], HB.out⟩
                  · rw [if_neg cz] at H
                    have cz0 : (cntI (oddsI l0_3) i == 0) = false := by simpa using cz
                    have cz1 : decide (cntI (oddsI l0_3) i = 0) = false := by simpa using cz
                    clear cz
                    obtain ⟨⟨m1, m2⟩, hn, H⟩ := Option.bind_eq_some_iff.mp H
                    have HN := Aside0.mk hn
                    have H' := Aside0.mk H
                    clear hn H
                    go_wp2_with (first | (at_lookup; refine OMap.lookup (b := w1.heap.size) (l := oddsI l0_3) OM.out rfl _ _ rfl rfl _ HWF.out rfl ?_) | fail)
                    refine (gran_Before.calls k1 a0_0 a0_1 A0_2 c0_2 l0_2 none 0 [] _ m1 m2 _ (Kd.C_below HR2.out HB.out) HC2.out (Kd.C_nil _ _) (Nat.le_refl _) HN.out).mono ?_
                    rintro e w7 ⟨rfl, hb7⟩
                    have n5 := Aside0.mk (blk_below BK5.out hb7)
                    have n8 := Aside0.mk (blk_below BK8.out hb7)
                    have nm := Aside0.mk (OMap.heap OM.out (hb7.block _ OM.out.lt))
                    have nb := Aside0.mk (below_step HB.out hb7)
                    clear BK5 BK8 OM HB hc0 hc1 h80 h81 h82 h83 hb7
                    go_wp2
                    go_roundg k1
                    case measure => exact Nat.lt_succ_self _
                    case rel => exact ⟨m1, m2, _, rfl, rfl, rfl, H', ⟨Nat.le_of_succ_le HK1.out⟩, n5, n8, nm, nb⟩
                · rw [if_neg ce] at H
                  have ce0 : (e != 0) = true := by simpa using ce
                  have ce1 : (e == 0) = false := by simpa using ce
                  clear ce
                  obtain ⟨⟨m1, m2⟩, hn, H⟩ := Option.bind_eq_some_iff.mp H
                  have HN := Aside0.mk hn
                  have H' := Aside0.mk H
                  clear hn H
                  go_wp2_with fail
                  refine (gran_Before.calls k1 a0_0 a0_1 A0_2 c0_2 l0_2 none 0 [] _ m1 m2 _ (Kd.C_below HR2.out HB.out) HC2.out (Kd.C_nil _ _) (Nat.le_refl _) HN.out).mono ?_
                  rintro e w7 ⟨rfl, hb7⟩
                  have n5 := Aside0.mk (blk_below BK5.out hb7)
                  have n8 := Aside0.mk (blk_below BK8.out hb7)
                  have nm := Aside0.mk (OMap.heap OM.out (hb7.block _ OM.out.lt))
                  have nb := Aside0.mk (below_step HB.out hb7)
                  clear BK5 BK8 OM HB hc0 hc1 h80 h81 h82 h83 hb7
                  go_wp2
                  go_roundg k1
                  case measure => exact Nat.lt_succ_self _
                  case rel => exact ⟨m1, m2, _, rfl, rfl, rfl, H', ⟨Nat.le_of_succ_le HK1.out⟩, n5, n8, nm, nb⟩
              · rw [if_neg cb] at H
                have cb0 : decide (by_ < 2) = false := decide_eq_false cb
                clear cb
                cases H
                go_wp2
                all_goals (go_ret2; exact ⟨rfl, HB.out⟩)
end Go.Proofs.Ytmbmalkpmanaaaa.P

namespace Go.Proofs.Ytmbmalkpmanaaaa.P
open Go.RowKit Go.Proofs.YtmbmalkpmanaaaaW.PrintWords Go.Proofs.YtmbmalkpmanaaaaW.PrintLast Go.Proofs.YtmbmalkpmanaaaaW.PrintMore
attribute [local go_sem] max2_int min2_int max_two min_two max_three min_three max_four min_four   -- for this text's walks alone
set_option linter.unusedVariables false
set_option linter.unusedSimpArgs false

def find_nearest_dn.l0 : Nat → Int → Int → Bool → List (S70) → Int → Int → Int → Option (Int × Bool)
 | 0, _, _, _, _, _, _, _ => none
 | k + 1, x1, x8, x9, x25, x26, x27, x201000 => if x27 < x26 then (if 0 ≤ x27 then (if x27 < (x25.length : Int) then ((spans_Hull.f ((rd_T70 x25 x27).f1)).bind fun bt205 => (if bt205.2.2 = true then ((find_down_2.f bt205.1 bt205.2.1 x1).bind fun t209 => (if t209 = true then (if x9 = true then (if (wrap64 ((wrap64 (((rd_T70 x25 x27).f0) - x8)) * x201000)) < 0 then (find_nearest_dn.l0 k x1 ((rd_T70 x25 x27).f0) true x25 x26 (wrap64 (x27 + 1)) x201000) else (find_nearest_dn.l0 k x1 x8 x9 x25 x26 (wrap64 (x27 + 1)) x201000)) else (find_nearest_dn.l0 k x1 ((rd_T70 x25 x27).f0) true x25 x26 (wrap64 (x27 + 1)) x201000)) else (find_nearest_dn.l0 k x1 x8 x9 x25 x26 (wrap64 (x27 + 1)) x201000))) else (find_nearest_dn.l0 k x1 x8 x9 x25 x26 (wrap64 (x27 + 1)) x201000))) else (none)) else (none)) else (some (x8, x9))
def find_nearest_dn.f (k : Nat) (a0_0 : Int) (a0_1 : Int) (l0_2 : List (List (S23))) (l0_3 : List (S70)) (a1 : Int)  : Option (Int × Bool) := (find_plain_dn.f k a0_0 a0_1 l0_2 l0_3 (mx (mn a1 1099511627777) (-1099511627777))).bind fun bt201 => (find_nearest_dn.l0 k (mx (mn a1 1099511627777) (-1099511627777)) bt201.1 bt201.2 l0_3 (l0_3.length : Int) 0 (-1))
theorem find_nearest_dn.mono_l : ∀ k, (∀ y0 y1 y2 y3 y4 y5 y6, LeO (find_nearest_dn.l0 k y0 y1 y2 y3 y4 y5 y6) (find_nearest_dn.l0 (k + 1) y0 y1 y2 y3 y4 y5 y6))
 | 0 => fun _ _ _ _ _ _ _ r h => by simp [find_nearest_dn.l0] at h
 | k + 1 => by
  have ih0 := find_nearest_dn.mono_l k
  ·intro y0 y1 y2 y3 y4 y5 y6
   unfold find_nearest_dn.l0
   repeat' first
   | (with_reducible exact ih0 _ _ _ _ _ _ _)
   | (with_reducible exact find_plain_dn.mono _ _ _ _ _ _)
   | (with_reducible exact LeO.refl _)
   | (with_reducible exact LeO.none _)
   | (with_reducible refine LeO.ite ?_ ?_)
   | (with_reducible refine LeO.bind ?_ (fun _ => ?_))
   | exact ih0 _ _ _ _ _ _ _
   | exact find_plain_dn.mono _ _ _ _ _ _
   | exact LeO.none _
   | refine LeO.ite ?_ ?_
   | refine LeO.bind ?_ (fun _ => ?_)
theorem find_nearest_dn.mono : ∀ a0 a1 a2 a3 a4 k, LeO (find_nearest_dn.f k a0 a1 a2 a3 a4) (find_nearest_dn.f (k + 1) a0 a1 a2 a3 a4) := by
 intro a0 a1 a2 a3 a4 k
 have ih0 := find_nearest_dn.mono_l k
 unfold find_nearest_dn.f
 repeat' first
  | (with_reducible exact ih0 _ _ _ _ _ _ _)
  | (with_reducible exact find_plain_dn.mono _ _ _ _ _ _)
  | (with_reducible exact LeO.refl _)
  | (with_reducible exact LeO.none _)
  | (with_reducible refine LeO.ite ?_ ?_)
  | (with_reducible refine LeO.bind ?_ (fun _ => ?_))
  | exact ih0 _ _ _ _ _ _ _
  | exact find_plain_dn.mono _ _ _ _ _ _
  | exact LeO.none _
  | refine LeO.ite ?_ ?_
  | refine LeO.bind ?_ (fun _ => ?_)
set_option maxHeartbeats 8000000 in
set_option maxRecDepth 100000 in
theorem find_nearest_dn.calls (k : Nat) (a0_0 : Int) (a0_1 : Int) (A0_2 : Option Addr) (c0_2 : Nat) (l0_2 : List (List (S23))) (A0_3 : Option Addr) (c0_3 : Nat) (l0_3 : List (S70)) (a1 : Int)  (r1 : Int) (r2 : Bool) (w : World) (hr0_2 : Kd.C (Kd.slice 23 k23) w A0_2 l0_2.length l0_2) (hc0_2 : l0_2.length ≤ c0_2) (hr0_3 : Kd.C k70 w A0_3 l0_3.length l0_3) (hc0_3 : l0_3.length ≤ c0_3) (h : find_nearest_dn.f k a0_0 a0_1 l0_2 l0_3 a1 = some (r1, r2)) :
 Calls Try.prog 58 #[.agg #[.int .i64 a0_0, .int .i64 a0_1, .slice A0_2 l0_2.length c0_2, .slice A0_3 l0_3.length c0_3], .int .i64 a1, .agg #[.int .i64 (-1), .func (.func 90) #[] #[], .func (.func 91) #[] #[], .func (.func 92) #[] #[]]] w fun e w' => e = .returned (.tuple #[.int .i64 r1, .bool r2]) ∧ Below w.heap.size w w' := by
 have hu28 := Try.underlying28
 have hu79 := Try.underlying79
 have hu70 := Try.underlying70
 have hu23 := Try.underlying23
 have HR0_2 := am hr0_2
 have HC0_2 := am hc0_2
 clear hr0_2 hc0_2
 have HR0_3 := am hr0_3
 have HC0_3 := am hc0_3
 clear hr0_3 hc0_3
 have HB := am (Below.refl w.heap.size w)
 have H : ((find_plain_dn.f k a0_0 a0_1 l0_2 l0_3 (mx (mn a1 1099511627777) (-1099511627777))).bind fun bt201 => (find_nearest_dn.l0 k (mx (mn a1 1099511627777) (-1099511627777)) bt201.1 bt201.2 l0_3 (l0_3.length : Int) 0 (-1))) = some (r1, r2) := h
 clear h
 obtain ⟨ji4, hji4⟩ : ∃ j_ : Int, (mn a1 1099511627777) = j_ := ⟨_, rfl⟩
 replace H : ((find_plain_dn.f k a0_0 a0_1 l0_2 l0_3 (mx (ji4) (-1099511627777))).bind fun bt201 => (find_nearest_dn.l0 k (mx (ji4) (-1099511627777)) bt201.1 bt201.2 l0_3 (l0_3.length : Int) 0 (-1))) = some (r1, r2) := by first | (rw [hji4] at H; exact H) | (simp only [hji4] at H ⊢; exact H)
 (try (have hji4h : ji4 ≤ 1099511627777 := by (rw [← hji4]; unfold mn; (repeat' split) <;> omega)))
 (try (have hji4g : ji4 ≤ 64 := by omega))
 have hji4_ : (if 1099511627777 < a1 then 1099511627777 else a1) = ji4 := hji4
 obtain ⟨ji5, hji5⟩ : ∃ j_ : Int, (mx (ji4) (-1099511627777)) = j_ := ⟨_, rfl⟩
 replace H : ((find_plain_dn.f k a0_0 a0_1 l0_2 l0_3 (ji5)).bind fun bt201 => (find_nearest_dn.l0 k ji5 bt201.1 bt201.2 l0_3 (l0_3.length : Int) 0 (-1))) = some (r1, r2) := by first | (rw [hji5] at H; exact H) | (simp only [hji5] at H ⊢; exact H)
 have hji5_ : (if (ji4) < (-1099511627777) then (-1099511627777) else (ji4)) = ji5 := hji5
 replace H := Option.bind_eq_some_iff.mp H
 obtain ⟨⟨t201, t202⟩, A60, H⟩ := H
 try dsimp only at H
 have A6 := am A60
 clear A60
 have H' := am H
 clear H
 go_enter Try.func58, Try.ntmps58
 go_wp2_with (first | ((with_reducible refine gate_dst (N := 3) rfl ?_); refine bx 3 28 #[.int .i64 a0_0, .int .i64 a0_1, .slice A0_2 l0_2.length c0_2, .slice A0_3 l0_3.length c0_3] ?_; intro gb199 hg w7 hbox hb; have BK199 := am (hbox); have GW199 := am ((bz hg HB.out : w.heap.size ≤ gb199)); have GE199 := am ((bz hg HB.out : w.heap.size ≤ gb199)); replace HB := am (below_step (bl HB.out) hb); clear hb hbox hg) | ((with_reducible refine gate_dst (N := 5) rfl ?_); refine bx 5 79 #[.int .i64 (-1), .func (.func 90) #[] #[], .func (.func 91) #[] #[], .func (.func 92) #[] #[]] ?_; intro gb200 hg w8 hbox hb; have BK200 := am (hbox); have GW200 := am ((bz1 hg HB.out GE199.out : w.heap.size ≤ gb200)); have GE200 := am ((bz1 hg HB.out GE199.out : w.heap.size ≤ gb200)); replace HB := am (below_step (bl1 HB.out GE199.out) hb); have NB199_200 := am ((nl hg BK199.out : gb199 ≠ gb200)); have NB200_199 := am ((ng hg BK199.out : gb200 ≠ gb199)); replace BK199 := am (blk_below (kp BK199.out) hb); clear hb hbox hg; have hnb9 := NB199_200.out; have hnc9 := NB200_199.out; have hcz10_0 : w8.cell? ⟨gb199, 0, none⟩ = some (.int .i64 a0_0) := bc BK199.out 0; have hcz10_1 : w8.cell? ⟨gb199, 1, none⟩ = some (.int .i64 a0_1) := bc BK199.out 1; have hcz10_2 : w8.cell? ⟨gb199, 2, none⟩ = some (.slice A0_2 l0_2.length c0_2) := bc BK199.out 2; have hcz10_3 : w8.cell? ⟨gb199, 3, none⟩ = some (.slice A0_3 l0_3.length c0_3) := bc BK199.out 3; have hfz10_0 := blk_frozen BK199.out 0; have hfz10_1 := blk_frozen BK199.out 1; have hfz10_2 := blk_frozen BK199.out 2; have hfz10_3 := blk_frozen BK199.out 3; have hcz11_0 : w8.cell? ⟨gb200, 0, none⟩ = some (.int .i64 (-1)) := bc BK200.out 0; have hcz11_1 : w8.cell? ⟨gb200, 1, none⟩ = some (.func (.func 90) #[] #[]) := bc BK200.out 1; have hcz11_2 : w8.cell? ⟨gb200, 2, none⟩ = some (.func (.func 91) #[] #[]) := bc BK200.out 2; have hcz11_3 : w8.cell? ⟨gb200, 3, none⟩ = some (.func (.func 92) #[] #[]) := bc BK200.out 3; have hfz11_0 := blk_frozen BK200.out 0; have hfz11_1 := blk_frozen BK200.out 1; have hfz11_2 := blk_frozen BK200.out 2; have hfz11_3 := blk_frozen BK200.out 3) | ((with_reducible refine gate_callee (f := 87) rfl ?_); refine goesL_ (some 21) rfl rfl Try.func87 (by kernel_rfl) rfl #[.agg #[.int .i64 a0_0, .int .i64 a0_1, .slice A0_2 l0_2.length c0_2, .slice A0_3 l0_3.length c0_3], .int .i64 ji5, .agg #[.int .i64 (-1), .func (.func 90) #[] #[], .func (.func 91) #[] #[], .func (.func 92) #[] #[]]] rfl (by (try simp only [List.map_toArray, List.map_cons, List.map_nil]); first | done | (simp only [hji5]; rfl) | rfl | (simp only [List.length_drop, List.length_take]; rfl)) ?_; (with_reducible refine (find_plain_dn.calls k a0_0 a0_1 _ _ l0_2 _ _ l0_3 ji5 t201 t202 _ ?side1 ?side2 ?side3 ?side4 A6.out).mono ?_); (case side1 => exact kc (Kd.C_below HR0_2.out HB.out)); (case side2 => exact HC0_2.out); (case side3 => exact kc (Kd.C_below HR0_3.out HB.out)); (case side4 => exact HC0_3.out); rintro e w12 ⟨rfl, hb⟩; refine ⟨_, rfl, ?_⟩; replace BK199 := am (blk_below (kp BK199.out) hb); replace BK200 := am (blk_below (kp BK200.out) hb); replace HB := am (below_step (bl2 HB.out GE199.out GE200.out) hb); (try clear hb); (try clear hb2); (try clear hk); (try clear hi); have hcz13_0 : w12.cell? ⟨gb199, 0, none⟩ = some (.int .i64 a0_0) := bc BK199.out 0; have hcz13_1 : w12.cell? ⟨gb199, 1, none⟩ = some (.int .i64 a0_1) := bc BK199.out 1; have hcz13_2 : w12.cell? ⟨gb199, 2, none⟩ = some (.slice A0_2 l0_2.length c0_2) := bc BK199.out 2; have hcz13_3 : w12.cell? ⟨gb199, 3, none⟩ = some (.slice A0_3 l0_3.length c0_3) := bc BK199.out 3; have hfz13_0 := blk_frozen BK199.out 0; have hfz13_1 := blk_frozen BK199.out 1; have hfz13_2 := blk_frozen BK199.out 2; have hfz13_3 := blk_frozen BK199.out 3))
 go_loopg [8, 9, 27] k (fun kq v8 v9 v27 w' => ∃ (x8_1 : Int) (x9_1 : Bool) (x27_1 : Int), v8 = .int .i64 x8_1 ∧ v9 = .bool x9_1 ∧ v27 = .int .i64 x27_1 ∧ Aside0 (find_nearest_dn.l0 kq ji5 x8_1 x9_1 l0_3 (l0_3.length : Int) x27_1 (-1) = some (r1, r2)) ∧ Aside0 (kq ≤ k) ∧ Aside0 (w'.heap[gb199]? = some (.cells #[.int .i64 a0_0, .int .i64 a0_1, (.slice A0_2 l0_2.length c0_2), (.slice A0_3 l0_3.length c0_3)] 28 (0, 0))) ∧ Aside0 (w'.heap[gb200]? = some (.cells #[.int .i64 (-1), (.func (.func 90) #[] #[]), (.func (.func 91) #[] #[]), (.func (.func 92) #[] #[])] 79 (0, 0))) ∧ Aside0 (Below w.heap.size w w'))
 case atStart => exact ⟨(t201), (t202), (0), sm, sm, sm, H', ⟨Nat.le_refl _⟩, ⟨kp BK199.out⟩, ⟨kp BK200.out⟩, ⟨bl2 HB.out GE199.out GE200.out⟩⟩
 case round =>
  clear H'
  try clear p2
  try clear c5
  try clear c8
  try clear c9
  try clear hcz10_0
  try clear hcz10_1
  try clear hcz10_2
  try clear hcz10_3
  try clear hcz11_0
  try clear hcz11_1
  try clear hcz11_2
  try clear hcz11_3
  try clear hcz13_0
  try clear hcz13_1
  try clear hcz13_2
  try clear hcz13_3
  try clear hfz10_0
  try clear hfz10_1
  try clear hfz10_2
  try clear hfz10_3
  try clear hfz11_0
  try clear hfz11_1
  try clear hfz11_2
  try clear hfz11_3
  try clear hfz13_0
  try clear hfz13_1
  try clear hfz13_2
  try clear hfz13_3
  obtain ⟨x8_1, x9_1, x27_1, rfl, rfl, rfl, HA, HK1, BK199, BK200, HB⟩ := hrel
  cases gk with
  | zero => exact absurd HA.out (by simp [find_nearest_dn.l0])
  | succ k1 =>
   have H := HA.out
   clear HA
   simp only [find_nearest_dn.l0] at H
   by_cases c14 : x27_1 < (l0_3.length : Int)
   ·rw [if_pos c14] at H
    have c14b0 : decide (x27_1 < (l0_3.length : Int)) = true := decide_eq_true c14
    clear c14
    by_cases c15 : 0 ≤ x27_1
    ·rw [if_pos c15] at H
     have c15b0 : decide (0 ≤ x27_1) = true := decide_eq_true c15
     clear c15
     by_cases c16 : x27_1 < (l0_3.length : Int)
     ·rw [if_pos c16] at H
      have c16b0 : decide (x27_1 < (l0_3.length : Int)) = true := decide_eq_true c16
      clear c16
      replace H := Option.bind_eq_some_iff.mp H
      obtain ⟨⟨t205, t206, t207⟩, A170, H⟩ := H
      try dsimp only at H
      have A17 := am A170
      clear A170
      by_cases c18 : t207 = true
      ·subst c18
       have H1 : ((find_down_2.f t205 t206 ji5).bind fun t209 => (if t209 = true then (if x9_1 = true then (if (wrap64 ((wrap64 (((rd_T70 l0_3 x27_1).f0) - x8_1)) * (-1))) < 0 then (find_nearest_dn.l0 k1 ji5 ((rd_T70 l0_3 x27_1).f0) true l0_3 (l0_3.length : Int) (wrap64 (x27_1 + 1)) (-1)) else (find_nearest_dn.l0 k1 ji5 x8_1 x9_1 l0_3 (l0_3.length : Int) (wrap64 (x27_1 + 1)) (-1))) else (find_nearest_dn.l0 k1 ji5 ((rd_T70 l0_3 x27_1).f0) true l0_3 (l0_3.length : Int) (wrap64 (x27_1 + 1)) (-1))) else (find_nearest_dn.l0 k1 ji5 x8_1 x9_1 l0_3 (l0_3.length : Int) (wrap64 (x27_1 + 1)) (-1)))) = some (r1, r2) := by rw [if_pos rfl] at H; exact H
       clear H
       have H := H1
       clear H1
       replace H := Option.bind_eq_some_iff.mp H
       obtain ⟨t209, A190, H⟩ := H
       try dsimp only at H
       have A19 := am A190
       clear A190
       by_cases c20 : t209 = true
       ·subst c20
        have H1 : (if x9_1 = true then (if (wrap64 ((wrap64 (((rd_T70 l0_3 x27_1).f0) - x8_1)) * (-1))) < 0 then (find_nearest_dn.l0 k1 ji5 ((rd_T70 l0_3 x27_1).f0) true l0_3 (l0_3.length : Int) (wrap64 (x27_1 + 1)) (-1)) else (find_nearest_dn.l0 k1 ji5 x8_1 x9_1 l0_3 (l0_3.length : Int) (wrap64 (x27_1 + 1)) (-1))) else (find_nearest_dn.l0 k1 ji5 ((rd_T70 l0_3 x27_1).f0) true l0_3 (l0_3.length : Int) (wrap64 (x27_1 + 1)) (-1))) = some (r1, r2) := by rw [if_pos rfl] at H; exact H
        clear H
        have H := H1
        clear H1
        by_cases c21 : x9_1 = true
        ·subst c21
         have H1 : (if (wrap64 ((wrap64 (((rd_T70 l0_3 x27_1).f0) - x8_1)) * (-1))) < 0 then (find_nearest_dn.l0 k1 ji5 ((rd_T70 l0_3 x27_1).f0) true l0_3 (l0_3.length : Int) (wrap64 (x27_1 + 1)) (-1)) else (find_nearest_dn.l0 k1 ji5 x8_1 true l0_3 (l0_3.length : Int) (wrap64 (x27_1 + 1)) (-1))) = some (r1, r2) := by rw [if_pos rfl] at H; exact H
         clear H
         have H := H1
         clear H1
         by_cases c22 : (wrap64 ((wrap64 (((rd_T70 l0_3 x27_1).f0) - x8_1)) * (-1))) < 0
         ·rw [if_pos c22] at H
          have c22b0 : decide ((wrap64 ((wrap64 (((rd_T70 l0_3 x27_1).f0) - x8_1)) * (-1))) < 0) = true := decide_eq_true c22
          (try simp only [Int.mul_one, Int.mul_neg, Int.add_zero] at c22b0)
          clear c22
          have H' := am H
          clear H
          have p203 : 0 ≤ (x27_1 : Int) := of_decide_eq_true asm
          have q203 : x27_1 < (l0_3.length : Int) := of_decide_eq_true asm
          obtain ⟨ad203, A203_1, c203_1, e203, hx203_0, hx203_1, hl203_1, hi203_1⟩ := at_T70 HR0_3.out x27_1 p203 q203
          cases e203
          replace hx203_0 := (HB.out.cell (World.block_lt_of_cell? w _ hx203_0)).trans hx203_0
          replace hx203_1 := (HB.out.cell (World.block_lt_of_cell? w _ hx203_1)).trans hx203_1
          have HR203_1 := am hi203_1
          have HC203_1 := am hl203_1
          clear hi203_1 hl203_1
          replace p203 := eq_true p203
          replace q203 := eq_true q203
          go_wp2_with (first | ((with_reducible refine gate_dst (N := 11) rfl ?_); refine bx 11 70 #[.int .i64 0, .slice none 0 0] ?_; intro gb204 hg w23 hbox hb; have BK204 := am (hbox); have GW204 := am ((bz2 hg HB.out GE199.out GE200.out : w.heap.size ≤ gb204)); have GE204 := am ((bz2 hg HB.out GE199.out GE200.out : w.heap.size ≤ gb204)); replace HB := am (below_step (bl2 HB.out GE199.out GE200.out) hb); have NB199_204 := am ((nl hg BK199.out : gb199 ≠ gb204)); have NB204_199 := am ((ng hg BK199.out : gb204 ≠ gb199)); replace BK199 := am (blk_below (kp BK199.out) hb); have NB200_204 := am ((nl hg BK200.out : gb200 ≠ gb204)); have NB204_200 := am ((ng hg BK200.out : gb204 ≠ gb200)); replace BK200 := am (blk_below (kp BK200.out) hb); clear hb hbox hg; have hnb24 := NB204_199.out; have hnc24 := NB199_204.out; have hnb25 := NB204_200.out; have hnc25 := NB200_204.out; have hcz26_0 : w23.cell? ⟨gb204, 0, none⟩ = some (.int .i64 0) := bc BK204.out 0; have hcz26_1 : w23.cell? ⟨gb204, 1, none⟩ = some (.slice none 0 0) := bc BK204.out 1; have hfz26_0 := blk_frozen BK204.out 0; have hfz26_1 := blk_frozen BK204.out 1) | ((with_reducible refine gate_callee (f := 43) rfl ?_); refine goesL_ (some 34) rfl rfl Try.func43 (by kernel_rfl) rfl #[.slice A203_1 ((rd_T70 l0_3 x27_1).f1).length c203_1] rfl ar ?_; (with_reducible refine (spans_Hull.calls _ _ ((rd_T70 l0_3 x27_1).f1) t205 t206 true _ ?side1 ?side2 A17.out).mono ?_); (case side1 => exact Kd.C_below HR203_1.out (bl3 HB.out GE199.out GE200.out GE204.out)); (case side2 => exact HC203_1.out); rintro e w27 ⟨rfl, hb⟩; refine ⟨_, rfl, ?_⟩; replace BK199 := am (blk_below (g := gb199) (o := .cells #[.int .i64 a0_0, .int .i64 a0_1, .slice A0_2 l0_2.length c0_2, .slice (some ad203) l0_3.length c0_3] 28 (0, 0)) (kf BK199.out NB199_204.out) hb); replace BK200 := am (blk_below (g := gb200) (o := .cells #[.int .i64 (-1), .func (.func 90) #[] #[], .func (.func 91) #[] #[], .func (.func 92) #[] #[]] 79 (0, 0)) (kf BK200.out NB200_204.out) hb); replace BK204 := am (blk_below (g := gb204) (o := .cells #[.int .i64 ((rd_T70 l0_3 x27_1).f0), .slice A203_1 ((rd_T70 l0_3 x27_1).f1).length c203_1] 70 (0, 0)) (by (with_reducible repeat (first | refine blk_drewN ?_ _ | refine blk_drew ?_ | refine blk_alloc ?_ _)); refine blk_put (cs := #[.int .i64 ((rd_T70 l0_3 x27_1).f0), .slice none 0 0]) ?_ 1 _ rfl; (with_reducible repeat (first | refine blk_drewN ?_ _ | refine blk_drew ?_ | refine blk_alloc ?_ _)); refine blk_put (cs := #[.int .i64 0, .slice none 0 0]) ?_ 0 _ rfl; (with_reducible repeat (first | refine blk_drewN ?_ _ | refine blk_drew ?_ | refine blk_alloc ?_ _)); exact BK204.out) hb); replace HB := am (below_step (bl3 HB.out GE199.out GE200.out GE204.out) hb); (try clear hb); (try clear hb2); (try clear hk); (try clear hi)) | ((with_reducible refine gate_dst (N := 12) rfl ?_); refine bx 12 23 #[.int .i64 0, .int .i64 0] ?_; intro gb208 hg w28 hbox hb; have BK208 := am (hbox); have GW208 := am ((bz3 hg HB.out GE199.out GE200.out GE204.out : w.heap.size ≤ gb208)); have GE208 := am ((bz3 hg HB.out GE199.out GE200.out GE204.out : w.heap.size ≤ gb208)); replace HB := am (below_step (bl3 HB.out GE199.out GE200.out GE204.out) hb); have NB199_208 := am ((nl hg BK199.out : gb199 ≠ gb208)); have NB208_199 := am ((ng hg BK199.out : gb208 ≠ gb199)); replace BK199 := am (blk_below (kp BK199.out) hb); have NB200_208 := am ((nl hg BK200.out : gb200 ≠ gb208)); have NB208_200 := am ((ng hg BK200.out : gb208 ≠ gb200)); replace BK200 := am (blk_below (kp BK200.out) hb); have NB204_208 := am ((nl hg BK204.out : gb204 ≠ gb208)); have NB208_204 := am ((ng hg BK204.out : gb208 ≠ gb204)); replace BK204 := am (blk_below (kp BK204.out) hb); clear hb hbox hg; have hnb29 := NB208_199.out; have hnc29 := NB199_208.out; have hnb30 := NB208_200.out; have hnc30 := NB200_208.out; have hnb31 := NB208_204.out; have hnc31 := NB204_208.out; have hcz32_0 : w28.cell? ⟨gb208, 0, none⟩ = some (.int .i64 0) := bc BK208.out 0; have hcz32_1 : w28.cell? ⟨gb208, 1, none⟩ = some (.int .i64 0) := bc BK208.out 1; have hfz32_0 := blk_frozen BK208.out 0; have hfz32_1 := blk_frozen BK208.out 1; have hnb33 := NB200_199.out; have hnc33 := NB199_200.out; have hcz34_0 : w28.cell? ⟨gb200, 0, none⟩ = some (.int .i64 (-1)) := bc BK200.out 0; have hcz34_1 : w28.cell? ⟨gb200, 1, none⟩ = some (.func (.func 90) #[] #[]) := bc BK200.out 1; have hcz34_2 : w28.cell? ⟨gb200, 2, none⟩ = some (.func (.func 91) #[] #[]) := bc BK200.out 2; have hcz34_3 : w28.cell? ⟨gb200, 3, none⟩ = some (.func (.func 92) #[] #[]) := bc BK200.out 3; have hfz34_0 := blk_frozen BK200.out 0; have hfz34_1 := blk_frozen BK200.out 1; have hfz34_2 := blk_frozen BK200.out 2; have hfz34_3 := blk_frozen BK200.out 3) | (go_at_call 92; (with_reducible refine (find_down_2.calls t205 t206 ji5 true _ A19.out).mono ?_); rintro e w35 ⟨rfl, hb⟩; replace BK199 := am (blk_below (g := gb199) (o := .cells #[.int .i64 a0_0, .int .i64 a0_1, .slice A0_2 l0_2.length c0_2, .slice (some ad203) l0_3.length c0_3] 28 (0, 0)) (kf BK199.out NB199_208.out) hb); replace BK200 := am (blk_below (g := gb200) (o := .cells #[.int .i64 (-1), .func (.func 90) #[] #[], .func (.func 91) #[] #[], .func (.func 92) #[] #[]] 79 (0, 0)) (kf BK200.out NB200_208.out) hb); replace BK204 := am (blk_below (g := gb204) (o := .cells #[.int .i64 ((rd_T70 l0_3 x27_1).f0), .slice A203_1 ((rd_T70 l0_3 x27_1).f1).length c203_1] 70 (0, 0)) (kf BK204.out NB204_208.out) hb); replace BK208 := am (blk_below (g := gb208) (o := .cells #[.int .i64 t205, .int .i64 t206] 23 (0, 0)) (by (with_reducible repeat (first | refine blk_drewN ?_ _ | refine blk_drew ?_ | refine blk_alloc ?_ _)); refine blk_put (cs := #[.int .i64 t205, .int .i64 0]) ?_ 1 _ rfl; (with_reducible repeat (first | refine blk_drewN ?_ _ | refine blk_drew ?_ | refine blk_alloc ?_ _)); refine blk_put (cs := #[.int .i64 0, .int .i64 0]) ?_ 0 _ rfl; (with_reducible repeat (first | refine blk_drewN ?_ _ | refine blk_drew ?_ | refine blk_alloc ?_ _)); exact BK208.out) hb); replace HB := am (below_step (by repeat (first | (with_reducible first | exact HB.out | apply below_alloc | apply pw_below_drewN | apply below_drew1 | refine below_set ?_ GE199.out | refine below_set ?_ GE200.out | refine below_set ?_ GE204.out | refine below_set ?_ GE208.out) | exact HB.out)) hb); (try clear hb); (try clear hb2); (try clear hk); (try clear hi); have hcz36_0 : w35.cell? ⟨gb204, 0, none⟩ = some (.int .i64 ((rd_T70 l0_3 x27_1).f0)) := bc BK204.out 0; have hcz36_1 : w35.cell? ⟨gb204, 1, none⟩ = some (.slice A203_1 ((rd_T70 l0_3 x27_1).f1).length c203_1) := bc BK204.out 1; have hfz36_0 := blk_frozen BK204.out 0; have hfz36_1 := blk_frozen BK204.out 1; have hcz37_0 : w35.cell? ⟨gb200, 0, none⟩ = some (.int .i64 (-1)) := bc BK200.out 0; have hcz37_1 : w35.cell? ⟨gb200, 1, none⟩ = some (.func (.func 90) #[] #[]) := bc BK200.out 1; have hcz37_2 : w35.cell? ⟨gb200, 2, none⟩ = some (.func (.func 91) #[] #[]) := bc BK200.out 2; have hcz37_3 : w35.cell? ⟨gb200, 3, none⟩ = some (.func (.func 92) #[] #[]) := bc BK200.out 3; have hfz37_0 := blk_frozen BK200.out 0; have hfz37_1 := blk_frozen BK200.out 1; have hfz37_2 := blk_frozen BK200.out 2; have hfz37_3 := blk_frozen BK200.out 3))
          go_roundg k1
          case measure => have := HK1.out; omega
          case rel => exact ⟨((rd_T70 l0_3 x27_1).f0), (true), (wrap64 (x27_1 + 1)), sm, sm, sm, H', ⟨by have := HK1.out; omega⟩, ⟨kp BK199.out⟩, ⟨kp BK200.out⟩, ⟨by repeat (first | (with_reducible first | exact HB.out | apply below_alloc | apply pw_below_drewN | apply below_drew1 | refine below_set ?_ GE199.out | refine below_set ?_ GE200.out | refine below_set ?_ GE204.out | refine below_set ?_ GE208.out) | exact HB.out)⟩⟩
         ·rw [if_neg c22] at H
          have c22b0 : decide ((wrap64 ((wrap64 (((rd_T70 l0_3 x27_1).f0) - x8_1)) * (-1))) < 0) = false := decide_eq_false c22
          (try simp only [Int.mul_one, Int.mul_neg, Int.add_zero] at c22b0)
          clear c22
          have H' := am H
          clear H
          have p203 : 0 ≤ (x27_1 : Int) := of_decide_eq_true asm
          have q203 : x27_1 < (l0_3.length : Int) := of_decide_eq_true asm
          obtain ⟨ad203, A203_1, c203_1, e203, hx203_0, hx203_1, hl203_1, hi203_1⟩ := at_T70 HR0_3.out x27_1 p203 q203
          cases e203
          replace hx203_0 := (HB.out.cell (World.block_lt_of_cell? w _ hx203_0)).trans hx203_0
          replace hx203_1 := (HB.out.cell (World.block_lt_of_cell? w _ hx203_1)).trans hx203_1
          have HR203_1 := am hi203_1
          have HC203_1 := am hl203_1
          clear hi203_1 hl203_1
          replace p203 := eq_true p203
          replace q203 := eq_true q203
          go_wp2_with (first | ((with_reducible refine gate_dst (N := 11) rfl ?_); refine bx 11 70 #[.int .i64 0, .slice none 0 0] ?_; intro gb204 hg w38 hbox hb; have BK204 := am (hbox); have GW204 := am ((bz2 hg HB.out GE199.out GE200.out : w.heap.size ≤ gb204)); have GE204 := am ((bz2 hg HB.out GE199.out GE200.out : w.heap.size ≤ gb204)); replace HB := am (below_step (bl2 HB.out GE199.out GE200.out) hb); have NB199_204 := am ((nl hg BK199.out : gb199 ≠ gb204)); have NB204_199 := am ((ng hg BK199.out : gb204 ≠ gb199)); replace BK199 := am (blk_below (kp BK199.out) hb); have NB200_204 := am ((nl hg BK200.out : gb200 ≠ gb204)); have NB204_200 := am ((ng hg BK200.out : gb204 ≠ gb200)); replace BK200 := am (blk_below (kp BK200.out) hb); clear hb hbox hg; have hnb39 := NB204_199.out; have hnc39 := NB199_204.out; have hnb40 := NB204_200.out; have hnc40 := NB200_204.out; have hcz41_0 : w38.cell? ⟨gb204, 0, none⟩ = some (.int .i64 0) := bc BK204.out 0; have hcz41_1 : w38.cell? ⟨gb204, 1, none⟩ = some (.slice none 0 0) := bc BK204.out 1; have hfz41_0 := blk_frozen BK204.out 0; have hfz41_1 := blk_frozen BK204.out 1) | ((with_reducible refine gate_callee (f := 43) rfl ?_); refine goesL_ (some 34) rfl rfl Try.func43 (by kernel_rfl) rfl #[.slice A203_1 ((rd_T70 l0_3 x27_1).f1).length c203_1] rfl ar ?_; (with_reducible refine (spans_Hull.calls _ _ ((rd_T70 l0_3 x27_1).f1) t205 t206 true _ ?side1 ?side2 A17.out).mono ?_); (case side1 => exact Kd.C_below HR203_1.out (bl3 HB.out GE199.out GE200.out GE204.out)); (case side2 => exact HC203_1.out); rintro e w42 ⟨rfl, hb⟩; refine ⟨_, rfl, ?_⟩; replace BK199 := am (blk_below (g := gb199) (o := .cells #[.int .i64 a0_0, .int .i64 a0_1, .slice A0_2 l0_2.length c0_2, .slice (some ad203) l0_3.length c0_3] 28 (0, 0)) (kf BK199.out NB199_204.out) hb); replace BK200 := am (blk_below (g := gb200) (o := .cells #[.int .i64 (-1), .func (.func 90) #[] #[], .func (.func 91) #[] #[], .func (.func 92) #[] #[]] 79 (0, 0)) (kf BK200.out NB200_204.out) hb); replace BK204 := am (blk_below (g := gb204) (o := .cells #[.int .i64 ((rd_T70 l0_3 x27_1).f0), .slice A203_1 ((rd_T70 l0_3 x27_1).f1).length c203_1] 70 (0, 0)) (by (with_reducible repeat (first | refine blk_drewN ?_ _ | refine blk_drew ?_ | refine blk_alloc ?_ _)); refine blk_put (cs := #[.int .i64 ((rd_T70 l0_3 x27_1).f0), .slice none 0 0]) ?_ 1 _ rfl; (with_reducible repeat (first | refine blk_drewN ?_ _ | refine blk_drew ?_ | refine blk_alloc ?_ _)); refine blk_put (cs := #[.int .i64 0, .slice none 0 0]) ?_ 0 _ rfl; (with_reducible repeat (first | refine blk_drewN ?_ _ | refine blk_drew ?_ | refine blk_alloc ?_ _)); exact BK204.out) hb); replace HB := am (below_step (bl3 HB.out GE199.out GE200.out GE204.out) hb); (try clear hb); (try clear hb2); (try clear hk); (try clear hi)) | ((with_reducible refine gate_dst (N := 12) rfl ?_); refine bx 12 23 #[.int .i64 0, .int .i64 0] ?_; intro gb208 hg w43 hbox hb; have BK208 := am (hbox); have GW208 := am ((bz3 hg HB.out GE199.out GE200.out GE204.out : w.heap.size ≤ gb208)); have GE208 := am ((bz3 hg HB.out GE199.out GE200.out GE204.out : w.heap.size ≤ gb208)); replace HB := am (below_step (bl3 HB.out GE199.out GE200.out GE204.out) hb); have NB199_208 := am ((nl hg BK199.out : gb199 ≠ gb208)); have NB208_199 := am ((ng hg BK199.out : gb208 ≠ gb199)); replace BK199 := am (blk_below (kp BK199.out) hb); have NB200_208 := am ((nl hg BK200.out : gb200 ≠ gb208)); have NB208_200 := am ((ng hg BK200.out : gb208 ≠ gb200)); replace BK200 := am (blk_below (kp BK200.out) hb); have NB204_208 := am ((nl hg BK204.out : gb204 ≠ gb208)); have NB208_204 := am ((ng hg BK204.out : gb208 ≠ gb204)); replace BK204 := am (blk_below (kp BK204.out) hb); clear hb hbox hg; have hnb44 := NB208_199.out; have hnc44 := NB199_208.out; have hnb45 := NB208_200.out; have hnc45 := NB200_208.out; have hnb46 := NB208_204.out; have hnc46 := NB204_208.out; have hcz47_0 : w43.cell? ⟨gb208, 0, none⟩ = some (.int .i64 0) := bc BK208.out 0; have hcz47_1 : w43.cell? ⟨gb208, 1, none⟩ = some (.int .i64 0) := bc BK208.out 1; have hfz47_0 := blk_frozen BK208.out 0; have hfz47_1 := blk_frozen BK208.out 1; have hnb48 := NB200_199.out; have hnc48 := NB199_200.out; have hcz49_0 : w43.cell? ⟨gb200, 0, none⟩ = some (.int .i64 (-1)) := bc BK200.out 0; have hcz49_1 : w43.cell? ⟨gb200, 1, none⟩ = some (.func (.func 90) #[] #[]) := bc BK200.out 1; have hcz49_2 : w43.cell? ⟨gb200, 2, none⟩ = some (.func (.func 91) #[] #[]) := bc BK200.out 2; have hcz49_3 : w43.cell? ⟨gb200, 3, none⟩ = some (.func (.func 92) #[] #[]) := bc BK200.out 3; have hfz49_0 := blk_frozen BK200.out 0; have hfz49_1 := blk_frozen BK200.out 1; have hfz49_2 := blk_frozen BK200.out 2; have hfz49_3 := blk_frozen BK200.out 3) | (go_at_call 92; (with_reducible refine (find_down_2.calls t205 t206 ji5 true _ A19.out).mono ?_); rintro e w50 ⟨rfl, hb⟩; replace BK199 := am (blk_below (g := gb199) (o := .cells #[.int .i64 a0_0, .int .i64 a0_1, .slice A0_2 l0_2.length c0_2, .slice (some ad203) l0_3.length c0_3] 28 (0, 0)) (kf BK199.out NB199_208.out) hb); replace BK200 := am (blk_below (g := gb200) (o := .cells #[.int .i64 (-1), .func (.func 90) #[] #[], .func (.func 91) #[] #[], .func (.func 92) #[] #[]] 79 (0, 0)) (kf BK200.out NB200_208.out) hb); replace BK204 := am (blk_below (g := gb204) (o := .cells #[.int .i64 ((rd_T70 l0_3 x27_1).f0), .slice A203_1 ((rd_T70 l0_3 x27_1).f1).length c203_1] 70 (0, 0)) (kf BK204.out NB204_208.out) hb); replace BK208 := am (blk_below (g := gb208) (o := .cells #[.int .i64 t205, .int .i64 t206] 23 (0, 0)) (by (with_reducible repeat (first | refine blk_drewN ?_ _ | refine blk_drew ?_ | refine blk_alloc ?_ _)); refine blk_put (cs := #[.int .i64 t205, .int .i64 0]) ?_ 1 _ rfl; (with_reducible repeat (first | refine blk_drewN ?_ _ | refine blk_drew ?_ | refine blk_alloc ?_ _)); refine blk_put (cs := #[.int .i64 0, .int .i64 0]) ?_ 0 _ rfl; (with_reducible repeat (first | refine blk_drewN ?_ _ | refine blk_drew ?_ | refine blk_alloc ?_ _)); exact BK208.out) hb); replace HB := am (below_step (by repeat (first | (with_reducible first | exact HB.out | apply below_alloc | apply pw_below_drewN | apply below_drew1 | refine below_set ?_ GE199.out | refine below_set ?_ GE200.out | refine below_set ?_ GE204.out | refine below_set ?_ GE208.out) | exact HB.out)) hb); (try clear hb); (try clear hb2); (try clear hk); (try clear hi); have hcz51_0 : w50.cell? ⟨gb204, 0, none⟩ = some (.int .i64 ((rd_T70 l0_3 x27_1).f0)) := bc BK204.out 0; have hcz51_1 : w50.cell? ⟨gb204, 1, none⟩ = some (.slice A203_1 ((rd_T70 l0_3 x27_1).f1).length c203_1) := bc BK204.out 1; have hfz51_0 := blk_frozen BK204.out 0; have hfz51_1 := blk_frozen BK204.out 1; have hcz52_0 : w50.cell? ⟨gb200, 0, none⟩ = some (.int .i64 (-1)) := bc BK200.out 0; have hcz52_1 : w50.cell? ⟨gb200, 1, none⟩ = some (.func (.func 90) #[] #[]) := bc BK200.out 1; have hcz52_2 : w50.cell? ⟨gb200, 2, none⟩ = some (.func (.func 91) #[] #[]) := bc BK200.out 2; have hcz52_3 : w50.cell? ⟨gb200, 3, none⟩ = some (.func (.func 92) #[] #[]) := bc BK200.out 3; have hfz52_0 := blk_frozen BK200.out 0; have hfz52_1 := blk_frozen BK200.out 1; have hfz52_2 := blk_frozen BK200.out 2; have hfz52_3 := blk_frozen BK200.out 3))
          go_roundg k1
          case measure => have := HK1.out; omega
          case rel => exact ⟨(x8_1), (true), (wrap64 (x27_1 + 1)), sm, sm, sm, H', ⟨by have := HK1.out; omega⟩, ⟨kp BK199.out⟩, ⟨kp BK200.out⟩, ⟨by repeat (first | (with_reducible first | exact HB.out | apply below_alloc | apply pw_below_drewN | apply below_drew1 | refine below_set ?_ GE199.out | refine below_set ?_ GE200.out | refine below_set ?_ GE204.out | refine below_set ?_ GE208.out) | exact HB.out)⟩⟩
        ·replace c21 := Bool.eq_false_iff.mpr c21
         subst c21
         have H1 : (find_nearest_dn.l0 k1 ji5 ((rd_T70 l0_3 x27_1).f0) true l0_3 (l0_3.length : Int) (wrap64 (x27_1 + 1)) (-1)) = some (r1, r2) := by rw [if_neg (show ¬ (false = true) by decide)] at H; exact H
         clear H
         have H := H1
         clear H1
         have H' := am H
         clear H
         have p203 : 0 ≤ (x27_1 : Int) := of_decide_eq_true asm
         have q203 : x27_1 < (l0_3.length : Int) := of_decide_eq_true asm
         obtain ⟨ad203, A203_1, c203_1, e203, hx203_0, hx203_1, hl203_1, hi203_1⟩ := at_T70 HR0_3.out x27_1 p203 q203
         cases e203
         replace hx203_0 := (HB.out.cell (World.block_lt_of_cell? w _ hx203_0)).trans hx203_0
         replace hx203_1 := (HB.out.cell (World.block_lt_of_cell? w _ hx203_1)).trans hx203_1
         have HR203_1 := am hi203_1
         have HC203_1 := am hl203_1
         clear hi203_1 hl203_1
         replace p203 := eq_true p203
         replace q203 := eq_true q203
         go_wp2_with (first | ((with_reducible refine gate_dst (N := 11) rfl ?_); refine bx 11 70 #[.int .i64 0, .slice none 0 0] ?_; intro gb204 hg w53 hbox hb; have BK204 := am (hbox); have GW204 := am ((bz2 hg HB.out GE199.out GE200.out : w.heap.size ≤ gb204)); have GE204 := am ((bz2 hg HB.out GE199.out GE200.out : w.heap.size ≤ gb204)); replace HB := am (below_step (bl2 HB.out GE199.out GE200.out) hb); have NB199_204 := am ((nl hg BK199.out : gb199 ≠ gb204)); have NB204_199 := am ((ng hg BK199.out : gb204 ≠ gb199)); replace BK199 := am (blk_below (kp BK199.out) hb); have NB200_204 := am ((nl hg BK200.out : gb200 ≠ gb204)); have NB204_200 := am ((ng hg BK200.out : gb204 ≠ gb200)); replace BK200 := am (blk_below (kp BK200.out) hb); clear hb hbox hg; have hnb54 := NB204_199.out; have hnc54 := NB199_204.out; have hnb55 := NB204_200.out; have hnc55 := NB200_204.out; have hcz56_0 : w53.cell? ⟨gb204, 0, none⟩ = some (.int .i64 0) := bc BK204.out 0; have hcz56_1 : w53.cell? ⟨gb204, 1, none⟩ = some (.slice none 0 0) := bc BK204.out 1; have hfz56_0 := blk_frozen BK204.out 0; have hfz56_1 := blk_frozen BK204.out 1) | ((with_reducible refine gate_callee (f := 43) rfl ?_); refine goesL_ (some 34) rfl rfl Try.func43 (by kernel_rfl) rfl #[.slice A203_1 ((rd_T70 l0_3 x27_1).f1).length c203_1] rfl ar ?_; (with_reducible refine (spans_Hull.calls _ _ ((rd_T70 l0_3 x27_1).f1) t205 t206 true _ ?side1 ?side2 A17.out).mono ?_); (case side1 => exact Kd.C_below HR203_1.out (bl3 HB.out GE199.out GE200.out GE204.out)); (case side2 => exact HC203_1.out); rintro e w57 ⟨rfl, hb⟩; refine ⟨_, rfl, ?_⟩; replace BK199 := am (blk_below (g := gb199) (o := .cells #[.int .i64 a0_0, .int .i64 a0_1, .slice A0_2 l0_2.length c0_2, .slice (some ad203) l0_3.length c0_3] 28 (0, 0)) (kf BK199.out NB199_204.out) hb); replace BK200 := am (blk_below (g := gb200) (o := .cells #[.int .i64 (-1), .func (.func 90) #[] #[], .func (.func 91) #[] #[], .func (.func 92) #[] #[]] 79 (0, 0)) (kf BK200.out NB200_204.out) hb); replace BK204 := am (blk_below (g := gb204) (o := .cells #[.int .i64 ((rd_T70 l0_3 x27_1).f0), .slice A203_1 ((rd_T70 l0_3 x27_1).f1).length c203_1] 70 (0, 0)) (by (with_reducible repeat (first | refine blk_drewN ?_ _ | refine blk_drew ?_ | refine blk_alloc ?_ _)); refine blk_put (cs := #[.int .i64 ((rd_T70 l0_3 x27_1).f0), .slice none 0 0]) ?_ 1 _ rfl; (with_reducible repeat (first | refine blk_drewN ?_ _ | refine blk_drew ?_ | refine blk_alloc ?_ _)); refine blk_put (cs := #[.int .i64 0, .slice none 0 0]) ?_ 0 _ rfl; (with_reducible repeat (first | refine blk_drewN ?_ _ | refine blk_drew ?_ | refine blk_alloc ?_ _)); exact BK204.out) hb); replace HB := am (below_step (bl3 HB.out GE199.out GE200.out GE204.out) hb); (try clear hb); (try clear hb2); (try clear hk); (try clear hi)) | ((with_reducible refine gate_dst (N := 12) rfl ?_); refine bx 12 23 #[.int .i64 0, .int .i64 0] ?_; intro gb208 hg w58 hbox hb; have BK208 := am (hbox); have GW208 := am ((bz3 hg HB.out GE199.out GE200.out GE204.out : w.heap.size ≤ gb208)); have GE208 := am ((bz3 hg HB.out GE199.out GE200.out GE204.out : w.heap.size ≤ gb208)); replace HB := am (below_step (bl3 HB.out GE199.out GE200.out GE204.out) hb); have NB199_208 := am ((nl hg BK199.out : gb199 ≠ gb208)); have NB208_199 := am ((ng hg BK199.out : gb208 ≠ gb199)); replace BK199 := am (blk_below (kp BK199.out) hb); have NB200_208 := am ((nl hg BK200.out : gb200 ≠ gb208)); have NB208_200 := am ((ng hg BK200.out : gb208 ≠ gb200)); replace BK200 := am (blk_below (kp BK200.out) hb); have NB204_208 := am ((nl hg BK204.out : gb204 ≠ gb208)); have NB208_204 := am ((ng hg BK204.out : gb208 ≠ gb204)); replace BK204 := am (blk_below (kp BK204.out) hb); clear hb hbox hg; have hnb59 := NB208_199.out; have hnc59 := NB199_208.out; have hnb60 := NB208_200.out; have hnc60 := NB200_208.out; have hnb61 := NB208_204.out; have hnc61 := NB204_208.out; have hcz62_0 : w58.cell? ⟨gb208, 0, none⟩ = some (.int .i64 0) := bc BK208.out 0; have hcz62_1 : w58.cell? ⟨gb208, 1, none⟩ = some (.int .i64 0) := bc BK208.out 1; have hfz62_0 := blk_frozen BK208.out 0; have hfz62_1 := blk_frozen BK208.out 1; have hnb63 := NB200_199.out; have hnc63 := NB199_200.out; have hcz64_0 : w58.cell? ⟨gb200, 0, none⟩ = some (.int .i64 (-1)) := bc BK200.out 0; have hcz64_1 : w58.cell? ⟨gb200, 1, none⟩ = some (.func (.func 90) #[] #[]) := bc BK200.out 1; have hcz64_2 : w58.cell? ⟨gb200, 2, none⟩ = some (.func (.func 91) #[] #[]) := bc BK200.out 2; have hcz64_3 : w58.cell? ⟨gb200, 3, none⟩ = some (.func (.func 92) #[] #[]) := bc BK200.out 3; have hfz64_0 := blk_frozen BK200.out 0; have hfz64_1 := blk_frozen BK200.out 1; have hfz64_2 := blk_frozen BK200.out 2; have hfz64_3 := blk_frozen BK200.out 3) | (go_at_call 92; (with_reducible refine (find_down_2.calls t205 t206 ji5 true _ A19.out).mono ?_); rintro e w65 ⟨rfl, hb⟩; replace BK199 := am (blk_below (g := gb199) (o := .cells #[.int .i64 a0_0, .int .i64 a0_1, .slice A0_2 l0_2.length c0_2, .slice (some ad203) l0_3.length c0_3] 28 (0, 0)) (kf BK199.out NB199_208.out) hb); replace BK200 := am (blk_below (g := gb200) (o := .cells #[.int .i64 (-1), .func (.func 90) #[] #[], .func (.func 91) #[] #[], .func (.func 92) #[] #[]] 79 (0, 0)) (kf BK200.out NB200_208.out) hb); replace BK204 := am (blk_below (g := gb204) (o := .cells #[.int .i64 ((rd_T70 l0_3 x27_1).f0), .slice A203_1 ((rd_T70 l0_3 x27_1).f1).length c203_1] 70 (0, 0)) (kf BK204.out NB204_208.out) hb); replace BK208 := am (blk_below (g := gb208) (o := .cells #[.int .i64 t205, .int .i64 t206] 23 (0, 0)) (by (with_reducible repeat (first | refine blk_drewN ?_ _ | refine blk_drew ?_ | refine blk_alloc ?_ _)); refine blk_put (cs := #[.int .i64 t205, .int .i64 0]) ?_ 1 _ rfl; (with_reducible repeat (first | refine blk_drewN ?_ _ | refine blk_drew ?_ | refine blk_alloc ?_ _)); refine blk_put (cs := #[.int .i64 0, .int .i64 0]) ?_ 0 _ rfl; (with_reducible repeat (first | refine blk_drewN ?_ _ | refine blk_drew ?_ | refine blk_alloc ?_ _)); exact BK208.out) hb); replace HB := am (below_step (by repeat (first | (with_reducible first | exact HB.out | apply below_alloc | apply pw_below_drewN | apply below_drew1 | refine below_set ?_ GE199.out | refine below_set ?_ GE200.out | refine below_set ?_ GE204.out | refine below_set ?_ GE208.out) | exact HB.out)) hb); (try clear hb); (try clear hb2); (try clear hk); (try clear hi); have hcz66_0 : w65.cell? ⟨gb204, 0, none⟩ = some (.int .i64 ((rd_T70 l0_3 x27_1).f0)) := bc BK204.out 0; have hcz66_1 : w65.cell? ⟨gb204, 1, none⟩ = some (.slice A203_1 ((rd_T70 l0_3 x27_1).f1).length c203_1) := bc BK204.out 1; have hfz66_0 := blk_frozen BK204.out 0; have hfz66_1 := blk_frozen BK204.out 1))
         go_roundg k1
         case measure => have := HK1.out; omega
         case rel => exact ⟨((rd_T70 l0_3 x27_1).f0), (true), (wrap64 (x27_1 + 1)), sm, sm, sm, H', ⟨by have := HK1.out; omega⟩, ⟨kp BK199.out⟩, ⟨kp BK200.out⟩, ⟨by repeat (first | (with_reducible first | exact HB.out | apply below_alloc | apply pw_below_drewN | apply below_drew1 | refine below_set ?_ GE199.out | refine below_set ?_ GE200.out | refine below_set ?_ GE204.out | refine below_set ?_ GE208.out) | exact HB.out)⟩⟩
       ·replace c20 := Bool.eq_false_iff.mpr c20
        subst c20
        have H1 : (find_nearest_dn.l0 k1 ji5 x8_1 x9_1 l0_3 (l0_3.length : Int) (wrap64 (x27_1 + 1)) (-1)) = some (r1, r2) := by rw [if_neg (show ¬ (false = true) by decide)] at H; exact H
        clear H
        have H := H1
        clear H1
        have H' := am H
        clear H
        have p203 : 0 ≤ (x27_1 : Int) := of_decide_eq_true asm
        have q203 : x27_1 < (l0_3.length : Int) := of_decide_eq_true asm
        obtain ⟨ad203, A203_1, c203_1, e203, hx203_0, hx203_1, hl203_1, hi203_1⟩ := at_T70 HR0_3.out x27_1 p203 q203
        cases e203
        replace hx203_0 := (HB.out.cell (World.block_lt_of_cell? w _ hx203_0)).trans hx203_0
        replace hx203_1 := (HB.out.cell (World.block_lt_of_cell? w _ hx203_1)).trans hx203_1
        have HR203_1 := am hi203_1
        have HC203_1 := am hl203_1
        clear hi203_1 hl203_1
        replace p203 := eq_true p203
        replace q203 := eq_true q203
        go_wp2_with (first | ((with_reducible refine gate_dst (N := 11) rfl ?_); refine bx 11 70 #[.int .i64 0, .slice none 0 0] ?_; intro gb204 hg w67 hbox hb; have BK204 := am (hbox); have GW204 := am ((bz2 hg HB.out GE199.out GE200.out : w.heap.size ≤ gb204)); have GE204 := am ((bz2 hg HB.out GE199.out GE200.out : w.heap.size ≤ gb204)); replace HB := am (below_step (bl2 HB.out GE199.out GE200.out) hb); have NB199_204 := am ((nl hg BK199.out : gb199 ≠ gb204)); have NB204_199 := am ((ng hg BK199.out : gb204 ≠ gb199)); replace BK199 := am (blk_below (kp BK199.out) hb); have NB200_204 := am ((nl hg BK200.out : gb200 ≠ gb204)); have NB204_200 := am ((ng hg BK200.out : gb204 ≠ gb200)); replace BK200 := am (blk_below (kp BK200.out) hb); clear hb hbox hg; have hnb68 := NB204_199.out; have hnc68 := NB199_204.out; have hnb69 := NB204_200.out; have hnc69 := NB200_204.out; have hcz70_0 : w67.cell? ⟨gb204, 0, none⟩ = some (.int .i64 0) := bc BK204.out 0; have hcz70_1 : w67.cell? ⟨gb204, 1, none⟩ = some (.slice none 0 0) := bc BK204.out 1; have hfz70_0 := blk_frozen BK204.out 0; have hfz70_1 := blk_frozen BK204.out 1) | ((with_reducible refine gate_callee (f := 43) rfl ?_); refine goesL_ (some 34) rfl rfl Try.func43 (by kernel_rfl) rfl #[.slice A203_1 ((rd_T70 l0_3 x27_1).f1).length c203_1] rfl ar ?_; (with_reducible refine (spans_Hull.calls _ _ ((rd_T70 l0_3 x27_1).f1) t205 t206 true _ ?side1 ?side2 A17.out).mono ?_); (case side1 => exact Kd.C_below HR203_1.out (bl3 HB.out GE199.out GE200.out GE204.out)); (case side2 => exact HC203_1.out); rintro e w71 ⟨rfl, hb⟩; refine ⟨_, rfl, ?_⟩; replace BK199 := am (blk_below (g := gb199) (o := .cells #[.int .i64 a0_0, .int .i64 a0_1, .slice A0_2 l0_2.length c0_2, .slice (some ad203) l0_3.length c0_3] 28 (0, 0)) (kf BK199.out NB199_204.out) hb); replace BK200 := am (blk_below (g := gb200) (o := .cells #[.int .i64 (-1), .func (.func 90) #[] #[], .func (.func 91) #[] #[], .func (.func 92) #[] #[]] 79 (0, 0)) (kf BK200.out NB200_204.out) hb); replace BK204 := am (blk_below (g := gb204) (o := .cells #[.int .i64 ((rd_T70 l0_3 x27_1).f0), .slice A203_1 ((rd_T70 l0_3 x27_1).f1).length c203_1] 70 (0, 0)) (by (with_reducible repeat (first | refine blk_drewN ?_ _ | refine blk_drew ?_ | refine blk_alloc ?_ _)); refine blk_put (cs := #[.int .i64 ((rd_T70 l0_3 x27_1).f0), .slice none 0 0]) ?_ 1 _ rfl; (with_reducible repeat (first | refine blk_drewN ?_ _ | refine blk_drew ?_ | refine blk_alloc ?_ _)); refine blk_put (cs := #[.int .i64 0, .slice none 0 0]) ?_ 0 _ rfl; (with_reducible repeat (first | refine blk_drewN ?_ _ | refine blk_drew ?_ | refine blk_alloc ?_ _)); exact BK204.out) hb); replace HB := am (below_step (bl3 HB.out GE199.out GE200.out GE204.out) hb); (try clear hb); (try clear hb2); (try clear hk); (try clear hi)) | ((with_reducible refine gate_dst (N := 12) rfl ?_); refine bx 12 23 #[.int .i64 0, .int .i64 0] ?_; intro gb208 hg w72 hbox hb; have BK208 := am (hbox); have GW208 := am ((bz3 hg HB.out GE199.out GE200.out GE204.out : w.heap.size ≤ gb208)); have GE208 := am ((bz3 hg HB.out GE199.out GE200.out GE204.out : w.heap.size ≤ gb208)); replace HB := am (below_step (bl3 HB.out GE199.out GE200.out GE204.out) hb); have NB199_208 := am ((nl hg BK199.out : gb199 ≠ gb208)); have NB208_199 := am ((ng hg BK199.out : gb208 ≠ gb199)); replace BK199 := am (blk_below (kp BK199.out) hb); have NB200_208 := am ((nl hg BK200.out : gb200 ≠ gb208)); have NB208_200 := am ((ng hg BK200.out : gb208 ≠ gb200)); replace BK200 := am (blk_below (kp BK200.out) hb); have NB204_208 := am ((nl hg BK204.out : gb204 ≠ gb208)); have NB208_204 := am ((ng hg BK204.out : gb208 ≠ gb204)); replace BK204 := am (blk_below (kp BK204.out) hb); clear hb hbox hg; have hnb73 := NB208_199.out; have hnc73 := NB199_208.out; have hnb74 := NB208_200.out; have hnc74 := NB200_208.out; have hnb75 := NB208_204.out; have hnc75 := NB204_208.out; have hcz76_0 : w72.cell? ⟨gb208, 0, none⟩ = some (.int .i64 0) := bc BK208.out 0; have hcz76_1 : w72.cell? ⟨gb208, 1, none⟩ = some (.int .i64 0) := bc BK208.out 1; have hfz76_0 := blk_frozen BK208.out 0; have hfz76_1 := blk_frozen BK208.out 1; have hnb77 := NB200_199.out; have hnc77 := NB199_200.out; have hcz78_0 : w72.cell? ⟨gb200, 0, none⟩ = some (.int .i64 (-1)) := bc BK200.out 0; have hcz78_1 : w72.cell? ⟨gb200, 1, none⟩ = some (.func (.func 90) #[] #[]) := bc BK200.out 1; have hcz78_2 : w72.cell? ⟨gb200, 2, none⟩ = some (.func (.func 91) #[] #[]) := bc BK200.out 2; have hcz78_3 : w72.cell? ⟨gb200, 3, none⟩ = some (.func (.func 92) #[] #[]) := bc BK200.out 3; have hfz78_0 := blk_frozen BK200.out 0; have hfz78_1 := blk_frozen BK200.out 1; have hfz78_2 := blk_frozen BK200.out 2; have hfz78_3 := blk_frozen BK200.out 3) | (go_at_call 92; (with_reducible refine (find_down_2.calls t205 t206 ji5 false _ A19.out).mono ?_); rintro e w79 ⟨rfl, hb⟩; replace BK199 := am (blk_below (g := gb199) (o := .cells #[.int .i64 a0_0, .int .i64 a0_1, .slice A0_2 l0_2.length c0_2, .slice (some ad203) l0_3.length c0_3] 28 (0, 0)) (kf BK199.out NB199_208.out) hb); replace BK200 := am (blk_below (g := gb200) (o := .cells #[.int .i64 (-1), .func (.func 90) #[] #[], .func (.func 91) #[] #[], .func (.func 92) #[] #[]] 79 (0, 0)) (kf BK200.out NB200_208.out) hb); replace BK204 := am (blk_below (g := gb204) (o := .cells #[.int .i64 ((rd_T70 l0_3 x27_1).f0), .slice A203_1 ((rd_T70 l0_3 x27_1).f1).length c203_1] 70 (0, 0)) (kf BK204.out NB204_208.out) hb); replace BK208 := am (blk_below (g := gb208) (o := .cells #[.int .i64 t205, .int .i64 t206] 23 (0, 0)) (by (with_reducible repeat (first | refine blk_drewN ?_ _ | refine blk_drew ?_ | refine blk_alloc ?_ _)); refine blk_put (cs := #[.int .i64 t205, .int .i64 0]) ?_ 1 _ rfl; (with_reducible repeat (first | refine blk_drewN ?_ _ | refine blk_drew ?_ | refine blk_alloc ?_ _)); refine blk_put (cs := #[.int .i64 0, .int .i64 0]) ?_ 0 _ rfl; (with_reducible repeat (first | refine blk_drewN ?_ _ | refine blk_drew ?_ | refine blk_alloc ?_ _)); exact BK208.out) hb); replace HB := am (below_step (by repeat (first | (with_reducible first | exact HB.out | apply below_alloc | apply pw_below_drewN | apply below_drew1 | refine below_set ?_ GE199.out | refine below_set ?_ GE200.out | refine below_set ?_ GE204.out | refine below_set ?_ GE208.out) | exact HB.out)) hb); (try clear hb); (try clear hb2); (try clear hk); (try clear hi)))
        go_roundg k1
        case measure => have := HK1.out; omega
        case rel => exact ⟨(x8_1), (x9_1), (wrap64 (x27_1 + 1)), sm, sm, sm, H', ⟨by have := HK1.out; omega⟩, ⟨kp BK199.out⟩, ⟨kp BK200.out⟩, ⟨by repeat (first | (with_reducible first | exact HB.out | apply below_alloc | apply pw_below_drewN | apply below_drew1 | refine below_set ?_ GE199.out | refine below_set ?_ GE200.out | refine below_set ?_ GE204.out | refine below_set ?_ GE208.out) | exact HB.out)⟩⟩
      ·replace c18 := Bool.eq_false_iff.mpr c18
       subst c18
       have H1 : (find_nearest_dn.l0 k1 ji5 x8_1 x9_1 l0_3 (l0_3.length : Int) (wrap64 (x27_1 + 1)) (-1)) = some (r1, r2) := by rw [if_neg (show ¬ (false = true) by decide)] at H; exact H
       clear H
       have H := H1
       clear H1
       have H' := am H
       clear H
       have p203 : 0 ≤ (x27_1 : Int) := of_decide_eq_true asm
       have q203 : x27_1 < (l0_3.length : Int) := of_decide_eq_true asm
       obtain ⟨ad203, A203_1, c203_1, e203, hx203_0, hx203_1, hl203_1, hi203_1⟩ := at_T70 HR0_3.out x27_1 p203 q203
       cases e203
       replace hx203_0 := (HB.out.cell (World.block_lt_of_cell? w _ hx203_0)).trans hx203_0
       replace hx203_1 := (HB.out.cell (World.block_lt_of_cell? w _ hx203_1)).trans hx203_1
       have HR203_1 := am hi203_1
       have HC203_1 := am hl203_1
       clear hi203_1 hl203_1
       replace p203 := eq_true p203
       replace q203 := eq_true q203
       go_wp2_with (first | ((with_reducible refine gate_dst (N := 11) rfl ?_); refine bx 11 70 #[.int .i64 0, .slice none 0 0] ?_; intro gb204 hg w80 hbox hb; have BK204 := am (hbox); have GW204 := am ((bz2 hg HB.out GE199.out GE200.out : w.heap.size ≤ gb204)); have GE204 := am ((bz2 hg HB.out GE199.out GE200.out : w.heap.size ≤ gb204)); replace HB := am (below_step (bl2 HB.out GE199.out GE200.out) hb); have NB199_204 := am ((nl hg BK199.out : gb199 ≠ gb204)); have NB204_199 := am ((ng hg BK199.out : gb204 ≠ gb199)); replace BK199 := am (blk_below (kp BK199.out) hb); have NB200_204 := am ((nl hg BK200.out : gb200 ≠ gb204)); have NB204_200 := am ((ng hg BK200.out : gb204 ≠ gb200)); replace BK200 := am (blk_below (kp BK200.out) hb); clear hb hbox hg; have hnb81 := NB204_199.out; have hnc81 := NB199_204.out; have hnb82 := NB204_200.out; have hnc82 := NB200_204.out; have hcz83_0 : w80.cell? ⟨gb204, 0, none⟩ = some (.int .i64 0) := bc BK204.out 0; have hcz83_1 : w80.cell? ⟨gb204, 1, none⟩ = some (.slice none 0 0) := bc BK204.out 1; have hfz83_0 := blk_frozen BK204.out 0; have hfz83_1 := blk_frozen BK204.out 1) | ((with_reducible refine gate_callee (f := 43) rfl ?_); refine goesL_ (some 34) rfl rfl Try.func43 (by kernel_rfl) rfl #[.slice A203_1 ((rd_T70 l0_3 x27_1).f1).length c203_1] rfl ar ?_; (with_reducible refine (spans_Hull.calls _ _ ((rd_T70 l0_3 x27_1).f1) t205 t206 false _ ?side1 ?side2 A17.out).mono ?_); (case side1 => exact Kd.C_below HR203_1.out (bl3 HB.out GE199.out GE200.out GE204.out)); (case side2 => exact HC203_1.out); rintro e w84 ⟨rfl, hb⟩; refine ⟨_, rfl, ?_⟩; replace BK199 := am (blk_below (g := gb199) (o := .cells #[.int .i64 a0_0, .int .i64 a0_1, .slice A0_2 l0_2.length c0_2, .slice (some ad203) l0_3.length c0_3] 28 (0, 0)) (kf BK199.out NB199_204.out) hb); replace BK200 := am (blk_below (g := gb200) (o := .cells #[.int .i64 (-1), .func (.func 90) #[] #[], .func (.func 91) #[] #[], .func (.func 92) #[] #[]] 79 (0, 0)) (kf BK200.out NB200_204.out) hb); replace BK204 := am (blk_below (g := gb204) (o := .cells #[.int .i64 ((rd_T70 l0_3 x27_1).f0), .slice A203_1 ((rd_T70 l0_3 x27_1).f1).length c203_1] 70 (0, 0)) (by (with_reducible repeat (first | refine blk_drewN ?_ _ | refine blk_drew ?_ | refine blk_alloc ?_ _)); refine blk_put (cs := #[.int .i64 ((rd_T70 l0_3 x27_1).f0), .slice none 0 0]) ?_ 1 _ rfl; (with_reducible repeat (first | refine blk_drewN ?_ _ | refine blk_drew ?_ | refine blk_alloc ?_ _)); refine blk_put (cs := #[.int .i64 0, .slice none 0 0]) ?_ 0 _ rfl; (with_reducible repeat (first | refine blk_drewN ?_ _ | refine blk_drew ?_ | refine blk_alloc ?_ _)); exact BK204.out) hb); replace HB := am (below_step (bl3 HB.out GE199.out GE200.out GE204.out) hb); (try clear hb); (try clear hb2); (try clear hk); (try clear hi)) | ((with_reducible refine gate_dst (N := 12) rfl ?_); refine bx 12 23 #[.int .i64 0, .int .i64 0] ?_; intro gb208 hg w85 hbox hb; have BK208 := am (hbox); have GW208 := am ((bz3 hg HB.out GE199.out GE200.out GE204.out : w.heap.size ≤ gb208)); have GE208 := am ((bz3 hg HB.out GE199.out GE200.out GE204.out : w.heap.size ≤ gb208)); replace HB := am (below_step (bl3 HB.out GE199.out GE200.out GE204.out) hb); have NB199_208 := am ((nl hg BK199.out : gb199 ≠ gb208)); have NB208_199 := am ((ng hg BK199.out : gb208 ≠ gb199)); replace BK199 := am (blk_below (kp BK199.out) hb); have NB200_208 := am ((nl hg BK200.out : gb200 ≠ gb208)); have NB208_200 := am ((ng hg BK200.out : gb208 ≠ gb200)); replace BK200 := am (blk_below (kp BK200.out) hb); have NB204_208 := am ((nl hg BK204.out : gb204 ≠ gb208)); have NB208_204 := am ((ng hg BK204.out : gb208 ≠ gb204)); replace BK204 := am (blk_below (kp BK204.out) hb); clear hb hbox hg; have hnb86 := NB208_199.out; have hnc86 := NB199_208.out; have hnb87 := NB208_200.out; have hnc87 := NB200_208.out; have hnb88 := NB208_204.out; have hnc88 := NB204_208.out; have hcz89_0 : w85.cell? ⟨gb208, 0, none⟩ = some (.int .i64 0) := bc BK208.out 0; have hcz89_1 : w85.cell? ⟨gb208, 1, none⟩ = some (.int .i64 0) := bc BK208.out 1; have hfz89_0 := blk_frozen BK208.out 0; have hfz89_1 := blk_frozen BK208.out 1))
       go_roundg k1
       case measure => have := HK1.out; omega
       case rel => exact ⟨(x8_1), (x9_1), (wrap64 (x27_1 + 1)), sm, sm, sm, H', ⟨by have := HK1.out; omega⟩, ⟨kf BK199.out NB199_208.out⟩, ⟨kf BK200.out NB200_208.out⟩, ⟨by repeat (first | (with_reducible first | exact HB.out | apply below_alloc | apply pw_below_drewN | apply below_drew1 | refine below_set ?_ GE199.out | refine below_set ?_ GE200.out | refine below_set ?_ GE204.out | refine below_set ?_ GE208.out) | exact HB.out)⟩⟩
     ·rw [if_neg c16] at H
      exact absurd H (by simp)
    ·rw [if_neg c15] at H
     exact absurd H (by simp)
   ·rw [if_neg c14] at H
    have c14b0 : decide (x27_1 < (l0_3.length : Int)) = false := decide_eq_false c14
    clear c14
    simp only [Option.some.injEq, Prod.mk.injEq] at H
    obtain ⟨rfl, rfl⟩ := H
    go_wp2
    go_ret2
    exact ⟨by first | rfl | (simp [errW_none, errW_some] <;> rfl) | (simp only [← hji4, ← hji5]; first | rfl | (simp [errW_none, errW_some] <;> rfl)) | (simp [*, errW_none, errW_some] <;> rfl), bl2 HB.out GE199.out GE200.out⟩

end Go.Proofs.Ytmbmalkpmanaaaa.P

namespace Go.Proofs.Ytmbmalkpmanaaaa.P
open Go.RowKit Go.Proofs.YtmbmalkpmanaaaaW.PrintWords Go.Proofs.YtmbmalkpmanaaaaW.PrintLast Go.Proofs.YtmbmalkpmanaaaaW.PrintMore
attribute [local go_sem] max2_int min2_int max_two min_two max_three min_three max_four min_four   -- for this text's walks alone
set_option linter.unusedVariables false
set_option linter.unusedSimpArgs false

def find_Till.f (k : Nat) (a0_0 : Int) (a0_1 : Int) (l0_2 : List (List (S23))) (l0_3 : List (S70)) (a1 : Int) : Option (Int × Bool) := (find_down.f).bind fun t223 => ((find_nearest_dn.f k a0_0 a0_1 l0_2 l0_3 a1).bind fun bt224 => (some (bt224.1, bt224.2)))
theorem find_Till.mono : ∀ a0 a1 a2 a3 a4 k, LeO (find_Till.f k a0 a1 a2 a3 a4) (find_Till.f (k + 1) a0 a1 a2 a3 a4) := by
 intro a0 a1 a2 a3 a4 k
 unfold find_Till.f
 repeat' first
  | (with_reducible exact find_nearest_dn.mono _ _ _ _ _ _)
  | (with_reducible exact LeO.refl _)
  | (with_reducible exact LeO.none _)
  | (with_reducible refine LeO.ite ?_ ?_)
  | (with_reducible refine LeO.bind ?_ (fun _ => ?_))
  | exact find_nearest_dn.mono _ _ _ _ _ _
  | exact LeO.none _
  | refine LeO.ite ?_ ?_
  | refine LeO.bind ?_ (fun _ => ?_)
def find_Till.T1 : Bool × List (List Nat × List Nat) := (true, [([], []), ([], []), ([], []), ([0, 1, 2, 2], [0, 1, 2]), ([3], [3]), ([3], [3]), ([4, 3, 0, 1, 2, 3, 4, 5], [4]), ([5, 6, 0, 1, 2, 3, 4, 5, 6], [5])])
def find_Till.B1 : List Nat := [0, 0, 0, 7, 15, 15, 63, 127]
theorem find_Till.tab1 : rtab .any (opsOf Try.f23 1) = find_Till.T1 := by kernel_rfl
theorem find_Till.bits1 : waitsOk find_Till.T1.2 find_Till.B1 = true := by kernel_rfl
set_option maxHeartbeats 8000000 in
set_option maxRecDepth 100000 in
theorem find_Till.calls (k : Nat) (a0_0 : Int) (a0_1 : Int) (A0_2 : Option Addr) (c0_2 : Nat) (l0_2 : List (List (S23))) (A0_3 : Option Addr) (c0_3 : Nat) (l0_3 : List (S70)) (a1 : Int) (r1 : Int) (r2 : Bool) (w : World) (hr0_2 : Kd.C (Kd.slice 23 k23) w A0_2 l0_2.length l0_2) (hc0_2 : l0_2.length ≤ c0_2) (hr0_3 : Kd.C k70 w A0_3 l0_3.length l0_3) (hc0_3 : l0_3.length ≤ c0_3) (h : find_Till.f k a0_0 a0_1 l0_2 l0_3 a1 = some (r1, r2)) :
 Calls Try.prog 23 #[.agg #[.int .i64 a0_0, .int .i64 a0_1, .slice A0_2 l0_2.length c0_2, .slice A0_3 l0_3.length c0_3], .int .i64 a1] w fun e w' => e = .returned (.tuple #[.int .i64 r1, .bool r2]) ∧ Below w.heap.size w w' := by
 have hu28 := Try.underlying28
 have HR0_2 := am hr0_2
 have HC0_2 := am hc0_2
 clear hr0_2 hc0_2
 have HR0_3 := am hr0_3
 have HC0_3 := am hc0_3
 clear hr0_3 hc0_3
 have HB := am (Below.refl w.heap.size w)
 have H : ((find_down.f).bind fun t223 => ((find_nearest_dn.f k a0_0 a0_1 l0_2 l0_3 a1).bind fun bt224 => (some (bt224.1, bt224.2)))) = some (r1, r2) := h
 clear h
 replace H := Option.bind_eq_some_iff.mp H
 obtain ⟨t223, A30, H⟩ := H
 try dsimp only at H
 have A3 := am A30
 clear A30
 replace H := Option.bind_eq_some_iff.mp H
 obtain ⟨⟨t224, t225⟩, A40, H⟩ := H
 try dsimp only at H
 have A4 := am A40
 clear A40
 simp only [Option.some.injEq, Prod.mk.injEq] at H
 obtain ⟨rfl, rfl⟩ := H
 go_enter Try.func23, Try.ntmps23
 try go_wp2_with (first | ((with_reducible refine gate_dst (N := 2) rfl ?_); refine bx 2 28 #[.int .i64 a0_0, .int .i64 a0_1, .slice A0_2 l0_2.length c0_2, .slice A0_3 l0_3.length c0_3] ?_; intro gb222 hg w5 hbox hb; have BK222 := am (hbox); have GW222 := am ((bz hg HB.out : w.heap.size ≤ gb222)); have GE222 := am ((bz hg HB.out : w.heap.size ≤ gb222)); replace HB := am (below_step (bl HB.out) hb); clear hb hbox hg))
 replace BK222 := am (blk_drew BK222.out)
 replace HB := am (below_drew1 HB.out)
 refine start_ (n := 8) (S := fun w' => w'.cell? ⟨gb222, 0, none⟩ = some (.int .i64 a0_0) ∧ w'.cell? ⟨gb222, 1, none⟩ = some (.int .i64 a0_1) ∧ w'.cell? ⟨gb222, 2, none⟩ = some (.slice A0_2 l0_2.length c0_2) ∧ w'.cell? ⟨gb222, 3, none⟩ = some (.slice A0_3 l0_3.length c0_3)) (ds := []) (bs 8 0) (by kernel_rfl) rfl rfl ⟨bc BK222.out 0, bc BK222.out 1, bc BK222.out 2, bc BK222.out 3⟩ (fun hHeld => ?_); refine with_tabW find_Till.tab1 find_Till.bits1 (fun HT_ HW_ => ?_)
 generalize w5.drew = w6 at BK222 HB hHeld ⊢
 refine px 1 7 (bs 8 2) HT_.out ?_
 refine tx 0 6 (bs 8 3) HT_.out HW_.out hHeld ?_
 refine one_ (i := 2) (N := some 8) (bs 8 7) rfl rfl (one_of HT_.out (by kernel_rfl)) (by decide) (fun K hK => ?_)
 refine goes_ Try.func60 (by kernel_rfl) rfl #[] (by rfl) rfl rfl ar ?_
 with_reducible refine (find_down.calls  t223 _ A3.out).mono ?_
 rintro e w7 ⟨rfl, hb⟩
 refine ⟨_, rfl, ?_⟩
 replace BK222 := am (blk_below (kp BK222.out) hb)
 replace HB := am (below_step (bl1 HB.out GE222.out) hb)
 (try clear hb)
 (try clear hb2)
 (try clear hk)
 (try clear hi)
 refine hK.out _ _ ⟨bc BK222.out 0, bc BK222.out 1, bc BK222.out 2, bc BK222.out 3⟩ (fun hHeld => ?_)
 clear hK K
 refine nx ?_
 refine one_ (i := 3) (N := some 9) (bs 8 15) rfl rfl (one_of HT_.out (by kernel_rfl)) (by decide) (fun K hK => ?_)
 refine goes_ Try.func58 (by kernel_rfl) rfl #[.agg #[.int .i64 a0_0, .int .i64 a0_1, .slice A0_2 l0_2.length c0_2, .slice A0_3 l0_3.length c0_3], .int .i64 a1, .agg #[.int .i64 (-1), .func (.func 90) #[] #[], .func (.func 91) #[] #[], .func (.func 92) #[] #[]]] (by rfl) rfl rfl ar ?_
 with_reducible refine (find_nearest_dn.calls k a0_0 a0_1 _ _ l0_2 _ _ l0_3 a1 t224 t225 _ ?side1 ?side2 ?side3 ?side4 A4.out).mono ?_
 (case side1 => exact kc (Kd.C_below HR0_2.out HB.out))
 (case side2 => exact HC0_2.out)
 (case side3 => exact kc (Kd.C_below HR0_3.out HB.out))
 (case side4 => exact HC0_3.out)
 rintro e w8 ⟨rfl, hb⟩
 refine ⟨_, rfl, ?_⟩
 replace BK222 := am (blk_below (kp BK222.out) hb)
 replace HB := am (below_step (bl1 HB.out GE222.out) hb)
 (try clear hb)
 (try clear hb2)
 (try clear hk)
 (try clear hi)
 refine hK.out _ _ ⟨bc BK222.out 0, bc BK222.out 1, bc BK222.out 2, bc BK222.out 3⟩ (fun hHeld => ?_)
 clear hK K
 refine nx ?_
 refine px 4 10 (bs 8 31) HT_.out ?_
 refine px 5 11 (bs 8 63) HT_.out ?_
 refine px 6 4 (bs 8 127) HT_.out ?_
 refine px 7 5 (bs 8 255) HT_.out ?_
 refine done_ (done_of HT_.out (by kernel_rfl)) ?_
 try go_wp2
 go_ret2
 exact ⟨rt, bl1 HB.out GE222.out⟩

end Go.Proofs.Ytmbmalkpmanaaaa.P

namespace Go.Proofs.Ytmbmalkpmanaaaa.P
set_option linter.unusedVariables false
set_option linter.unusedSimpArgs false
open Go.RowKit Go.Proofs.YtmbmalkpmanaaaaW.PrintWords Go.Proofs.YtmbmalkpmanaaaaW.PrintLast

def IsC (W : World) (g1 g2 : Nat) (want : Int) (ok : Bool) : Prop := W.heap[g1]? = some (.cells #[.int .i64 want] 3 (0, 0)) ∧ W.heap[g2]? = some (.cells #[.bool ok] 4 (0, 0))
theorem IsC.below {W W' : World} {g1 g2 : Nat} {want : Int} {ok : Bool} (h : IsC W g1 g2 want ok) (hb : Below W.heap.size W W') : IsC W' g1 g2 want ok := ⟨blk_below h.1 hb, blk_below h.2 hb⟩
def epactlaw07_is.f (want : Int) (ok : Bool) : Option Int := some 0
theorem epactlaw07_is.calls (want : Int) (ok : Bool) (r : Int) (w : World) (h : epactlaw07_is.f want ok = some r) : Calls Try.prog 20 #[.int .i64 want, .bool ok] w fun e w' =>
    ∃ g1 g2, e = .returned (.func (.func 57) #[] #[.pointer (some ⟨g1, 0, none⟩), .pointer (some ⟨g2, 0, none⟩)]) ∧ IsC w' g1 g2 want ok ∧ Below w.heap.size w w' := by
  go_enter Try.func20, Try.ntmps20
  go_wp2
  go_ret
  refine ⟨w.heap.size, w.heap.size + 1, rfl, ⟨blk_alloc (blk_new w _) _, ?_⟩, ((Below.refl _ _).alloc (Nat.le_refl _) _).alloc (by simp) _⟩
  have := blk_new (w.alloc (.cells #[.int .i64 want] 3)) (.cells #[.bool ok] 4)
  simpa using this
def epactlaw07_is_1.f (want : Int) (ok : Bool) (i : Int) (found : Bool) : Option Bool := some (decide (i = want) && (found == ok))
theorem epactlaw07_is_1.calls (want : Int) (ok : Bool) (i : Int) (found : Bool) (r : Bool) (w : World) (h : epactlaw07_is_1.f want ok i found = some r) (g1 g2 : Nat) (hI : IsC w g1 g2 want ok) : Calls Try.prog 57 #[.int .i64 i, .bool found, .pointer (some ⟨g1, 0, none⟩), .pointer (some ⟨g2, 0, none⟩)] w fun e w' =>
    e = .returned (.bool r) ∧ Below w.heap.size w w' := by
  have h1 := (blk_cell hI.1 0).trans rfl
  have h2 := (blk_cell hI.2 0).trans rfl
  clear hI
  cases h
  by_cases e : i = want
  · subst e
    have e1 : (i == i) = true := by simp
    cases found <;> cases ok
    all_goals
      go_enter Try.func57, Try.ntmps57
      go_wp2
      go_ret
      exact ⟨by simp, Below.refl _ _⟩
  · have e1 : (i == want) = false := by simpa using e
    have e2 : decide (i = want) = false := by simpa using e
    have E := Aside0.mk e2
    clear e e2
    go_enter Try.func57, Try.ntmps57
    go_wp2
    go_ret
    exact ⟨by rw [E.out]; rfl, Below.refl _ _⟩
end Go.Proofs.Ytmbmalkpmanaaaa.P

namespace Go.Proofs.Ytmbmalkpmanaaaa.RangeL
set_option linter.unusedVariables false
set_option linter.unusedSimpArgs false
open Go Go.RowKit

variable {F : Fence} {n : Nat} {P : Program}

def StillB (B : Nat) (Pv : Nat → Prop) (J : World → Prop) : Prop :=
  ∀ W W' row, J W → W.grownBy W' row → (∀ r, row = some r → (B ≤ r ∧ ∃ o : Obj, W.heap[r]? = some o ∧ o.isWalk = true) ∨ (Pv r ∧ ∃ o : Obj, W.heap[r]? = some o ∧ o.isCells = true)) → J W'
theorem grown_below {W W' : World} (h : Below W.heap.size W W') : W.grownBy W' none := ⟨h.os, h.tape, h.output, h.size, fun k hk _ => h.block k hk⟩
theorem StillB.below {B : Nat} {Pv : Nat → Prop} {J : World → Prop} (h : StillB B Pv J) {W W' : World} (hj : J W) (hb : Below W.heap.size W W') : J W' := h W W' none hj (grown_below hb) (fun r e => by cases e)

def SeqL {β : Type} (F : Fence) (n : Nat) (P : Program) (g : Nat) (lb : Array Value) (Enc : β → Array Value → World → Prop) (Kp : World → World → Prop) (Pv : Nat → Prop) (xs : List β) (w : World) : Prop :=
  ∀ (l : Nat) (J : List β → World → Prop) (Jx : World → Prop) (W : World), Below w.heap.size w W → (∀ s, StillB W.heap.size Pv (J s)) → StillB W.heap.size Pv Jx →
    (∀ pre b r args W1, xs = pre ++ b :: r → J pre W1 → Enc b args W1 → YieldAt F (n - 1) P l args W1 fun e W' =>
      (e = .returned (.bool true) ∧ J (pre ++ [b]) W' ∧ Kp W1 W') ∨ (e = .returned (.bool false) ∧ Jx W')) →
    J [] W →
    CallsIn F n P g (#[.func (.yield l) #[] #[]] ++ lb) W fun e W' => (∃ v, e = .returned v) ∧ (J xs W' ∨ Jx W')

def Mine (B : Nat) (Pv : Nat → Prop) (I : World → Prop) : Prop :=
  ∀ W W' row, I W → W.grownBy W' row → (∀ r, row = some r → (B ≤ r ∧ ∃ o : Obj, W.heap[r]? = some o ∧ o.isCells = false) ∨ Pv r) → I W'
theorem Mine.putObj {B : Nat} {Pv : Nat → Prop} {I : World → Prop} (h : Mine B Pv I) {W : World} {l : Nat} {o : Obj} (o' : Obj) (hs : I W) (hB : B ≤ l) (hl : W.heap[l]? = some o) (ho : o.isCells = false) : I (W.putObj l o') :=
  h W _ (some l) hs (grownBy_putObj' W l o') (fun r e => by cases e; exact .inl ⟨hB, o, hl, ho⟩)
theorem Mine.alloc {B : Nat} {Pv : Nat → Prop} {I : World → Prop} (h : Mine B Pv I) {W : World} (o : Obj) (hs : I W) : I (W.alloc o) :=
  h W _ none hs (World.grownBy_alloc W o none) (fun r e => by cases e)
theorem Mine.still {B B' : Nat} {Pv : Nat → Prop} {I : World → Prop} (h : Mine B Pv I) (hB : B ≤ B') : StillB B' Pv I := fun W W' row hs hg hr =>
  h W W' row hs hg (fun r e => by
    rcases hr r e with ⟨a, o, ho, hw⟩ | ⟨hp, _⟩
    · exact .inl ⟨by omega, o, ho, Obj.not_cells_of_walk hw⟩
    · exact .inr hp)

def roundPostL {β : Type} (B : Nat) (Kp : World → World → Prop) (I : List β → World → Prop) (Ix : Code → World → Prop) (xs : List β) (W : World) : Exit → Act → World → Prop
  | .normal, _, W' => KeepsFrom B W W' ∧ Kp W W' ∧ I xs W'
  | .ret, _, W' => KeepsFrom B W W' ∧ Ix .ret W'
  | .exit id, _, W' => KeepsFrom B W W' ∧ Ix (.exit id) W'
  | .goto t, _, W' => KeepsFrom B W W' ∧ Ix (.goto t) W'
  | _, _, _ => False

theorem wpIn_rangeL {β : Type} {g : Operand} {ps : Array Tmp} {assign body : Code} {Q : Exit → Act → World → Prop} {a : Act} {w : World}
    (hro : F.round = none) (h1 : 1 ≤ n) {gf : Nat} {lb : Array Value} (hg : a.eval g = .func (.func gf) #[] lb) (hFg : F.fn gf) (eg : ∀ args w, (callFunc gf args).run P w = .ok (.enter gf args) w)
    {Enc : β → Array Value → World → Prop} {Kp : World → World → Prop} {Pv : Nat → Prop} {xs : List β} {w0 : World} (hseq : SeqL F (n - 1) P gf lb Enc Kp Pv xs w0)
    (hKt : ∀ {A B C : World}, Kp A B → Kp B C → Kp A C) (hKb : ∀ (W : World) (l : Nat) (o o' : Obj), w.heap.size ≤ l → W.heap[l]? = some o → o.isCells = false → o.isWalk = false → Kp W (W.putObj l o')) (hb0 : Below w0.heap.size w0 w) (hps : ∀ b args W, Enc b args W → args.size = ps.size)
    (I : List β → World → Prop) (Ix : Code → World → Prop) (hI : ∀ s, Mine w.heap.size Pv (I s)) (hIx : ∀ c, Mine w.heap.size Pv (Ix c)) (h0 : I [] w) (Ax : List β → β → Act → World → Prop) (hAx : ∀ pre b a', Mine w.heap.size Pv (Ax pre b a'))
    (hassign : ∀ (l : Nat) (pre : List β) (b : β) (args : Array Value) (W : World) (K : Act → World → Prop), I pre W → Enc b args W → (∀ a' W', KeepsFrom w.heap.size W W' → Kp W W' → Ax pre b a' W' → K a' W') →
      assign.wpIn (F.inRound l) (n - 1 - 1) P (Exit.then K (fun _ _ _ => False)) { tmps := (ps.zip args).foldl (fun t (p, v) => t.setIfInBounds p v) a.tmps, defers := [] } W)
    (hbody : ∀ (l : Nat) (pre : List β) (b : β) (r : List β) (a' : Act) (W : World), xs = pre ++ b :: r → Ax pre b a' W → body.wpIn (F.inRound l) (n - 1 - 1) P (roundPostL w.heap.size Kp I Ix (pre ++ [b]) W) a' W)
    (hdone : ∀ (D : Nat) (W : World), w.heap.size ≤ D → I xs W → W.heap[D]? = some (.deferred (some [])) → Q .normal { a with defers := { target := .collected D, args := #[] } :: a.defers } W)
    (hstop : ∀ (D : Nat) (c : Code) (W : World), w.heap.size ≤ D → Ix c W → W.heap[D]? = some (.deferred (some [])) → c.wpIn F n P Q { a with defers := { target := .collected D, args := #[] } :: a.defers } W) :
    (Code.rangeFunc g ps assign body).wpIn F n P Q a w := by
  refine wpIn_rangeFunc ?_
  intro fn hfn
  rw [hro]
  obtain ⟨rec, hrec⟩ : ∃ rec : LoopState → Option Code → Loop, rec = fun st pe => { state := st, pending := pe, fn, tmps := a.tmps, params := ps, assign, body, defers := w.heap.size } := ⟨_, rfl⟩
  obtain ⟨W1, hW1⟩ : ∃ W1, (w.alloc (.deferred (some []))).alloc (.loop (rec .ready none)) = W1 := ⟨_, rfl⟩
  have hL1 : W1.heap[w.heap.size + 1]? = some (.loop (rec .ready none)) := by
    rw [← hW1]; have := World.alloc_heap_new (w.alloc (.deferred (some []))) (.loop (rec .ready none)); rwa [World.size_alloc] at this
  have hK1 : W1.heap[w.heap.size]? = some (.deferred (some [])) := by
    rw [← hW1]; exact (Below.heap_alloc _ _ _ (by simp)).trans (World.alloc_heap_new w _)
  have hI1 : I [] W1 := by rw [← hW1]; exact (hI _).alloc _ ((hI _).alloc _ h0)
  have hb1 : Below w0.heap.size w0 W1 := by
    rw [← hW1]; exact hb0.trans ((((Below.refl _ w).alloc (Nat.le_refl _) _).alloc (by simp) _).mono hb0.size)
  refine ⟨w.heap.size + 1, [{ target := .collected w.heap.size, args := #[] }], W1, { target := .fn (.func gf) lb, args := #[.func (.yield (w.heap.size + 1)) #[] #[]] }, W1, gf,
    #[.func (.yield (w.heap.size + 1)) #[] #[]] ++ lb, W1, ?_, ?_, ?_, ?_, fun _ => h1, ?_⟩
  · rw [← hW1, hrec]; exact run_enterLoop_outer _ _ _ _ _
  · simp only [resolve, hg]
    simp [go_sem]
  · intro f' hf'; simp [Target.leads] at hf'; subst hf'; exact hFg
  · simp [invoke, go_sem, eg]
  · -- THE ITERATOR's CONTRACT, AT THE CALLER's INVARIANT WITH THE TWO FACTS OF BOOK-KEEPING BESIDE IT
    have hdl : ∀ {A B : World} {row : Option Nat} {k : Nat} {o : Obj}, A.grownBy B row → (∀ r, row = some r → (W1.heap.size ≤ r ∧ ∃ o : Obj, A.heap[r]? = some o ∧ o.isWalk = true) ∨ (Pv r ∧ ∃ o : Obj, A.heap[r]? = some o ∧ o.isCells = true)) → A.heap[k]? = some o → o.isCells = false → o.isWalk = false → B.heap[k]? = some o := by
      intro A B row k o hg' hr hk ho hw
      refine (hg'.block k (Array.getElem?_eq_some_iff.1 hk).1 (fun e => ?_)).trans hk
      rcases hr k e.symm with ⟨_, q, hq, hc⟩ | ⟨_, q, hq, hc⟩
      · rw [hk] at hq; cases hq; rw [hw] at hc; cases hc
      · rw [hk] at hq; cases hq; rw [ho] at hc; cases hc
    have hsz1 : w.heap.size ≤ W1.heap.size := by rw [← hW1]; simp; omega
    refine (hseq (w.heap.size + 1)
      (fun pre W => I pre W ∧ W.heap[w.heap.size + 1]? = some (.loop (rec .ready none)) ∧ W.heap[w.heap.size]? = some (.deferred (some [])))
      (fun W => ∃ c, Ix c W ∧ W.heap[w.heap.size + 1]? = some (.loop (rec .done (some c))) ∧ W.heap[w.heap.size]? = some (.deferred (some [])))
      W1 hb1
      (fun s A B row hs hg' hr => ⟨(hI s).still hsz1 A B row hs.1 hg' hr, hdl hg' hr hs.2.1 rfl rfl, hdl hg' hr hs.2.2 rfl rfl⟩)
      (fun A B row hs hg' hr => by
        obtain ⟨c, hc, hl, hk⟩ := hs
        exact ⟨c, (hIx c).still hsz1 A B row hc hg' hr, hdl hg' hr hl rfl rfl, hdl hg' hr hk rfl rfl⟩)
      ?_ ⟨hI1, hL1, hK1⟩).mono ?_
    · -- ONE ROUND
      rintro pre x r args W hxs ⟨hi, hl, hk⟩ henc
      have hlt : w.heap.size + 1 < W.heap.size := (Array.getElem?_eq_some_iff.1 hl).1
      have hy := run_yield (P := P) (args := args) hl (by rw [hrec]; exact hps _ _ _ henc)
      rw [hrec] at hy
      refine ⟨fn, _, assign, body, hy, roundIn_of_wpIn hfn (hassign _ pre x args W _ hi henc ?_)⟩
      clear hy
      intro a' Wa hkfa hkpa hax
      replace hl := hkfa.same _ _ (by omega) hl rfl
      replace hk := hkfa.same _ _ (Nat.le_refl _) hk rfl
      replace hlt : w.heap.size + 1 < Wa.heap.size := (Array.getElem?_eq_some_iff.1 hl).1
      clear hi henc
      revert hkpa hkfa
      generalize W = Wb
      intro hkfa hkpa
      obtain ⟨W, rfl⟩ : ∃ W, W = Wa := ⟨_, rfl⟩
      refine ⟨_, run_beginRound hl (by rw [hrec]), ?_⟩
      have hl2 : (W.putObj (w.heap.size + 1) (.loop { rec .ready none with state := .busy })).heap[w.heap.size + 1]? = some (.loop { rec .ready none with state := .busy }) := World.putObj_heap_same hlt
      have hk2 : (W.putObj (w.heap.size + 1) (.loop { rec .ready none with state := .busy })).heap[w.heap.size]? = some (.deferred (some [])) := (World.putObj_heap_other (by omega)).trans hk
      have hw2 : Kp W (W.putObj (w.heap.size + 1) (.loop { rec .ready none with state := .busy })) := hKb _ _ _ _ (by omega) hl rfl rfl
      refine wpIn_mono (hbody _ pre x r a' _ hxs ((hAx pre x a').putObj _ hax (by omega) hl rfl)) ?_
      have fin : ∀ (jump : Option Code) (W3 : World), KeepsFrom w.heap.size (W.putObj (w.heap.size + 1) (.loop { rec .ready none with state := .busy })) W3 →
          (Instr.endRound (w.heap.size + 1) jump).run P W3 = .ok (.bool jump.isNone) (W3.putObj (w.heap.size + 1) (.loop (rec (if jump.isNone then .ready else .done) jump))) ∧
          W3.heap[w.heap.size + 1]? = some (.loop { rec .ready none with state := .busy }) ∧
          (W3.putObj (w.heap.size + 1) (.loop (rec (if jump.isNone then .ready else .done) jump))).heap[w.heap.size + 1]? = some (.loop (rec (if jump.isNone then .ready else .done) jump)) ∧
          (W3.putObj (w.heap.size + 1) (.loop (rec (if jump.isNone then .ready else .done) jump))).heap[w.heap.size]? = some (.deferred (some [])) := fun jump W3 hk3 => by
        have hl3 := hk3.same _ _ (by omega) hl2 rfl
        have := run_endRound (P := P) jump hl3
        rw [hrec] at this ⊢
        exact ⟨this, by rw [hrec] at hl3; exact hl3, World.putObj_heap_same (Array.getElem?_eq_some_iff.1 hl3).1, (World.putObj_heap_other (by omega)).trans (hk3.same _ _ (Nat.le_refl _) hk2 rfl)⟩
      rintro e a3 W3 hp
      cases e with
      | normal =>
        obtain ⟨hk3, hkp3, hi3⟩ := hp
        obtain ⟨hr, hl3, hl4, hk4⟩ := fin none W3 hk3
        exact ⟨_, _, hr, .inl ⟨rfl, ⟨(hI _).putObj _ hi3 (by omega) hl3 rfl, hl4, hk4⟩, hKt hkpa (hKt (hKt hw2 hkp3) (hKb _ _ _ _ (by omega) hl3 rfl rfl))⟩⟩
      | ret =>
        obtain ⟨hk3, hi3⟩ := hp
        obtain ⟨hr, hl3, hl4, hk4⟩ := fin (some .ret) W3 hk3
        exact ⟨_, _, hr, .inr ⟨rfl, .ret, (hIx _).putObj _ hi3 (by omega) hl3 rfl, hl4, hk4⟩⟩
      | exit id =>
        obtain ⟨hk3, hi3⟩ := hp
        obtain ⟨hr, hl3, hl4, hk4⟩ := fin (some (.exit id)) W3 hk3
        exact ⟨_, _, hr, .inr ⟨rfl, .exit id, (hIx _).putObj _ hi3 (by omega) hl3 rfl, hl4, hk4⟩⟩
      | goto t =>
        obtain ⟨hk3, hi3⟩ := hp
        obtain ⟨hr, hl3, hl4, hk4⟩ := fin (some (.goto t)) W3 hk3
        exact ⟨_, _, hr, .inr ⟨rfl, .goto t, (hIx _).putObj _ hi3 (by omega) hl3 rfl, hl4, hk4⟩⟩
      | panic ch => exact hp.elim
      | outgrown => exact hp.elim
    · -- BEHIND THE ITERATOR
      rintro e W2 ⟨⟨v, rfl⟩, (⟨hi, hl, hk⟩ | ⟨c, hi, hl, hk⟩)⟩
      · exact ⟨none, _, by have := run_endLoop (P := P) hl (by rw [hrec]; simp); rw [hrec] at this; exact this, hdone _ _ (Nat.le_refl _) ((hI _).putObj _ hi (by omega) hl rfl) ((World.putObj_heap_other (by omega)).trans hk)⟩
      · exact ⟨some c, _, by have := run_endLoop (P := P) hl (by rw [hrec]; simp); rw [hrec] at this; exact this, hstop _ c _ (Nat.le_refl _) ((hIx c).putObj _ hi (by omega) hl rfl) ((World.putObj_heap_other (by omega)).trans hk)⟩


end Go.Proofs.Ytmbmalkpmanaaaa.RangeL

namespace Go.Proofs.Ytmbmalkpmanaaaa.P
set_option linter.unusedVariables false
set_option linter.unusedSimpArgs false
open Go.RowKit Go.Shelf Go.Proofs.YtmbmalkpmanaaaaW.PrintWords Go.Proofs.YtmbmalkpmanaaaaW.PrintLast Go.Proofs.YtmbmalkpmanaaaaW.PrintMore Go.Proofs.Ytmbmalkpmanaaaa.RangeL
attribute [local go_sem] Oper.semAt_some

def EncIL (n₁ : Nat) (b : Int × List Sp) (args : Array Value) (W : World) : Prop := ∃ A c, args = #[.int .i64 b.1, .slice A b.2.length c] ∧ b.2.length ≤ c ∧ (∀ ad, A = some ad → n₁ ≤ ad.block) ∧ Kd.C k23 W A b.2.length b.2
def KpI (n₀ B1 B2 : Nat) (W W' : World) : Prop := Below n₀ W W' ∧ W'.heap[B1]? = W.heap[B1]? ∧ W'.heap[B2]? = W.heap[B2]?
def find_between.l : Nat → Int → Bool → Int → Int → Int → List (List S23) → List S70 → Option (List (Int × List Sp))
  | 0, _, _, _, _, _, _, _ => none
  | k + 1, i, ok, h1, p, c, core, odd => if ok = true then (gran_Get.f k p c core odd i).bind fun g => if g.2 = 0 then (if 0 < g.1.length then (if (rd_T23 g.1 0).f0 > h1 then some [] else (gran_Behind.f k p c core odd i).bind fun n => (find_between.l k n.1 n.2 h1 p c core odd).map (fun r => (i, g.1) :: r)) else none) else some [] else some []
def find_between.f (k : Nat) (p c : Int) (core : List (List S23)) (odd : List S70) (h0 h1 : Int) : Option (List (Int × List Sp)) :=
  (find_From.f k p c core odd h0).bind fun a => find_between.l k a.1 a.2 h1 p c core odd

set_option maxHeartbeats 8000000 in
set_option maxRecDepth 100000 in
theorem between_seq (n : Nat) (hn : 1 ≤ n) (k : Nat) (a0_0 : Int) (a0_1 : Int) (A0_2 : Option Addr) (c0_2 : Nat) (l0_2 : List (List (S23))) (A0_3 : Option Addr) (c0_3 : Nat) (l0_3 : List (S70)) (h0 h1 : Int) (xs : List (Int × List Sp))
    (w0 w : World) (B1 B2 : Nat) (hr0_2 : Kd.C (Kd.slice 23 k23) w0 A0_2 l0_2.length l0_2) (hc0_2 : l0_2.length ≤ c0_2) (hr0_3 : Kd.C k70 w0 A0_3 l0_3.length l0_3) (hc0_3 : l0_3.length ≤ c0_3)
    (hb0 : Below w0.heap.size w0 w)
    (bk1 : w.heap[B1]? = some (.cells #[.int .i64 a0_0, .int .i64 a0_1, .slice A0_2 l0_2.length c0_2, .slice A0_3 l0_3.length c0_3] 28 (0, 0)))
    (bk2 : w.heap[B2]? = some (.cells #[.int .i64 h0, .int .i64 h1] 23 (0, 0)))
    (h : find_between.f k a0_0 a0_1 l0_2 l0_3 h0 h1 = some xs) :
    SeqL Fence.wide n Try.prog 79 #[.pointer (some ⟨B1, 0, none⟩), .pointer (some ⟨B2, 0, none⟩)] (EncIL w.heap.size) (KpI w0.heap.size B1 B2) (fun _ => False) xs w := by
  intro l J Jx W hW hJ hJx hY hj0
  have HR2 := Aside0.mk hr0_2
  have HC2 := Aside0.mk hc0_2
  have HR3 := Aside0.mk hr0_3
  have HC3 := Aside0.mk hc0_3
  have BK1 := Aside0.mk (blk_below bk1 hW)
  have BK2 := Aside0.mk (blk_below bk2 hW)
  have HB := Aside0.mk (hb0.trans (hW.mono hb0.size))
  have SZ := Aside0.mk hW.size
  have HJ := Aside0.mk hJ
  have HJX := Aside0.mk hJx
  have HY := Aside0.mk hY
  have J0 := Aside0.mk hj0
  obtain ⟨⟨i0, ok0⟩, hf, h⟩ := Option.bind_eq_some_iff.mp h
  have HF := Aside0.mk hf
  have H := Aside0.mk h
  clear hr0_2 hc0_2 hr0_3 hc0_3 bk1 bk2 hb0 hJ hJx hY hj0 hf h hW
  have hc0 := (blk_cell BK1.out 0).trans rfl
  have hc1 := (blk_cell BK1.out 1).trans rfl
  have hc2 := (blk_cell BK1.out 2).trans rfl
  have hc3 := (blk_cell BK1.out 3).trans rfl
  have hd0 := (blk_cell BK2.out 0).trans rfl
  refine callsIn_of_wp Try.func79 rfl trivial ?_ rfl
  simp only [Try.ntmps79, List.size_toArray, List.length_cons, List.length_nil, Nat.reduceAdd, Nat.reduceSub, Array.replicate_succ, Array.replicate_zero, List.push_toArray, List.append_toArray, List.nil_append, List.cons_append]
  gi_wp2_with fail
  refine ⟨trivial, ?_⟩
  refine (callsIn_wide.2 (find_From.calls k a0_0 a0_1 A0_2 c0_2 l0_2 A0_3 c0_3 l0_3 h0 i0 ok0 _ (Kd.C_below HR2.out HB.out) HC2.out (Kd.C_below HR3.out HB.out) HC3.out HF.out)).mono ?_
  rintro e w1 ⟨rfl, hb1⟩
  have n1 := Aside0.mk (blk_below BK1.out hb1)
  have n2 := Aside0.mk (blk_below BK2.out hb1)
  have nb := Aside0.mk (HB.out.trans (hb1.mono HB.out.size))
  have nj := Aside0.mk ((HJ.out []).below J0.out hb1)
  have nz := Aside0.mk (Nat.le_trans SZ.out hb1.size)
  clear BK1 BK2 HB J0 hc0 hc1 hc2 hc3 hd0 hb1 SZ
  gi_wp2_with fail
  gi_loopg [4, 5] k (fun kq v4 v5 wr => ∃ (i : Int) (ok : Bool) (pre : List (Int × List Sp)), v4 = .int .i64 i ∧ v5 = .bool ok ∧ Aside0 (∃ rest, xs = pre ++ rest ∧ find_between.l kq i ok h1 a0_0 a0_1 l0_2 l0_3 = some rest) ∧ Aside0 (kq ≤ k) ∧ Aside0 (wr.heap[B1]? = some (.cells #[.int .i64 a0_0, .int .i64 a0_1, .slice A0_2 l0_2.length c0_2, .slice A0_3 l0_3.length c0_3] 28 (0, 0))) ∧ Aside0 (wr.heap[B2]? = some (.cells #[.int .i64 h0, .int .i64 h1] 23 (0, 0))) ∧ Aside0 (Below w0.heap.size w0 wr) ∧ Aside0 (J pre wr) ∧ Aside0 (w.heap.size ≤ wr.heap.size))
  case atStart => exact ⟨i0, ok0, [], rfl, rfl, ⟨xs, rfl, H.out⟩, ⟨Nat.le_refl _⟩, n1, n2, nb, nj, nz⟩
  case round =>
    clear n1 n2 nb nj nz H HF
    obtain ⟨i, ok, pre, rfl, rfl, HA, HK1, BK1, BK2, HB, HJP, SZ⟩ := hrel
    obtain ⟨rest, hxs, H⟩ := HA.out
    have HXS := Aside0.mk hxs
    clear HA hxs
    cases gk with
    | zero => exact absurd H (by simp [find_between.l])
    | succ k1 =>
      have hc0 := (blk_cell BK1.out 0).trans rfl
      have hc1 := (blk_cell BK1.out 1).trans rfl
      have hc2 := (blk_cell BK1.out 2).trans rfl
      have hc3 := (blk_cell BK1.out 3).trans rfl
      have hd0 := (blk_cell BK2.out 0).trans rfl
      have hd1 := (blk_cell BK2.out 1).trans rfl
      simp only [find_between.l] at H
      cases ok
      · simp at H
        subst H
        gi_wp2
        go_end0
        exact ⟨⟨_, rfl⟩, .inl (by have := HXS.out; rw [List.append_nil] at this; rw [this]; exact HJP.out)⟩
      · rw [if_pos rfl] at H
        obtain ⟨⟨l1, e1⟩, hg, H⟩ := Option.bind_eq_some_iff.mp H
        have HG := Aside0.mk hg
        have H' := Aside0.mk H
        clear hg H
        gi_wp2_with fail
        refine ⟨trivial, ?_⟩
        refine (callsIn_wide.2 (gran_Get.calls k1 a0_0 a0_1 A0_2 c0_2 l0_2 A0_3 c0_3 l0_3 i l1 e1 _ (Kd.C_below HR2.out HB.out) HC2.out (Kd.C_below HR3.out HB.out) HC3.out HG.out)).mono ?_
        rintro e' w2 ⟨v, rfl, hR, hb2⟩
        obtain ⟨A, c, rfl⟩ := Kd.R_slice hR
        have hbs : ∀ ad, A = some ad → w.heap.size ≤ ad.block := by
          intro ad e
          obtain ⟨inner, ho⟩ := Kd.R_own hR
          rcases ho.2 with ⟨e2, _⟩ | ⟨g, cap, cur, e2, hg, _⟩
          · injection e2 with e2; rw [e] at e2; cases e2
          · injection e2 with e2; rw [e] at e2; cases e2; exact Nat.le_trans SZ.out hg
        have HBS := Aside0.mk hbs
        have nz := Aside0.mk (Nat.le_trans SZ.out hb2.size)
        clear hbs SZ
        obtain ⟨_, hlc, hC⟩ := Kd.R_reads' hR
        have HLC := Aside0.mk hlc
        have HC := Aside0.mk hC
        have n1 := Aside0.mk (blk_below BK1.out hb2)
        have n2 := Aside0.mk (blk_below BK2.out hb2)
        have nb := Aside0.mk (HB.out.trans (hb2.mono HB.out.size))
        have nj := Aside0.mk ((HJ.out pre).below HJP.out hb2)
        clear BK1 BK2 HB HJP hc0 hc1 hc2 hc3 hd0 hd1 hb2 hR hlc hC
        have BK1 := n1
        have BK2 := n2
        have HB := nb
        have HJP := nj
        clear n1 n2 nb nj
        have hc0 := (blk_cell BK1.out 0).trans rfl
        have hc1 := (blk_cell BK1.out 1).trans rfl
        have hc2 := (blk_cell BK1.out 2).trans rfl
        have hc3 := (blk_cell BK1.out 3).trans rfl
        have hd0 := (blk_cell BK2.out 0).trans rfl
        have hd1 := (blk_cell BK2.out 1).trans rfl
        have H := H'.out
        clear H'
        by_cases ce : e1 = 0
        · subst ce
          rw [if_pos rfl] at H
          by_cases cl : 0 < l1.length
          case neg => rw [if_neg cl] at H; cases H
          rw [if_pos cl] at H
          obtain ⟨ad, e, hx0, hx1⟩ := at_T23 HC.out 0 (by omega) (by omega)
          subst e
          rw [show (0 : Int).toNat * 2 = 0 from rfl, Addr.add_zero'] at hx0 hx1
          by_cases cg : (rd_T23 l1 0).f0 > h1
          · rw [if_pos cg] at H
            cases H
            have cg1 : decide (h1 < (rd_T23 l1 0).f0) = true := decide_eq_true cg
            have cl1 : decide ((0 : Int) < (l1.length : Int)) = true := decide_eq_true (by omega)
            have hmo : Try.prog.follows .mixedOrders = true := by kernel_rfl
            clear cg
            gi_wp2_with fail
            refine wpIn_region_quiet_lit rfl hmo (by kernel_rfl) ?_
            repeat (gi_big_quiet_step (fail))
            refine wpQuietIn_step (fun _ _ _ _ => trivial) (fun K hK => ?_)
            go_simp
            refine hK _ ?_
            clear hK K
            repeat (gi_big_quiet_step (fail))
            refine wpQuietIn_nil ?_
            rintro w' ⟨nq, rfl⟩
            gi_wp2
            refine bodyPost_ret (results_none rfl _ _ _) rfl ?_
            exact ⟨⟨_, rfl⟩, .inl (by have := HXS.out; rw [List.append_nil] at this; rw [this]; exact (HJ.out pre).below HJP.out (pw_below_drewN (Below.refl _ _) nq))⟩
          · rw [if_neg cg] at H
            have cg1 : decide (h1 < (rd_T23 l1 0).f0) = false := decide_eq_false cg
            have cl1 : decide ((0 : Int) < (l1.length : Int)) = true := decide_eq_true (by omega)
            have hmo : Try.prog.follows .mixedOrders = true := by kernel_rfl
            clear cg
            obtain ⟨⟨m1, m2⟩, hn, H⟩ := Option.bind_eq_some_iff.mp H
            obtain ⟨rest1, h2, rfl⟩ := Option.map_eq_some_iff.mp H
            have HN := Aside0.mk hn
            have H2 := Aside0.mk h2
            clear hn h2 H
            have hjd : J pre w2.drew := (HJ.out pre).below HJP.out (below_drew (Below.refl _ _))
            obtain ⟨fn, tmps, assign, body, hy, hR⟩ := HY.out pre (i, l1) rest1 #[.int .i64 i, .slice (some ad) l1.length c] w2.drew HXS.out hjd ⟨_, _, rfl, HLC.out, HBS.out, Kd.C_drew HC.out⟩
            have HR := Aside0.mk hR
            clear hR hjd
            gi_wp2_with fail
            refine wpIn_region_any hmo ?_
            refine wpAnyIn_take (i := 0) (v := ?_) rfl rfl (by kernel_rfl) (by kernel_rfl) (by kernel_rfl) (fun _ _ _ h => h) ⟨Or.inl ⟨by rfl, ?_⟩, fun _ => rfl⟩ ?_
            rotate_left
            · intro w
              go_simp
              with_reducible rfl
            refine wpAnyIn_take (i := 1) (v := ?_) rfl rfl (by kernel_rfl) (by kernel_rfl) (by kernel_rfl) (fun _ _ _ h => h) ⟨Or.inl ⟨by rfl, ?_⟩, fun _ => rfl⟩ ?_
            rotate_left
            · intro w
              go_simp
              with_reducible rfl
            refine wpAnyIn_take (i := 2) (v := ?_) rfl rfl (by kernel_rfl) (by kernel_rfl) (by kernel_rfl) (fun _ _ _ h => h) ⟨Or.inl ⟨by rfl, ?_⟩, fun _ => rfl⟩ ?_
            rotate_left
            · intro w
              go_simp
              with_reducible rfl
            refine wpAnyIn_take (i := 3) (v := ?_) rfl rfl (by kernel_rfl) (by kernel_rfl) (by kernel_rfl) (fun _ _ _ h => h) ⟨Or.inl ⟨by rfl, ?_⟩, fun _ => rfl⟩ ?_
            rotate_left
            · intro w
              go_simp
              with_reducible rfl
            refine wpAnyIn_take (i := 4) (v := ?_) rfl rfl (by kernel_rfl) (by kernel_rfl) (by kernel_rfl) (fun _ _ _ h => h) ⟨Or.inl ⟨by rfl, ?_⟩, fun _ => rfl⟩ ?_
            rotate_left
            · intro w
              go_simp
              with_reducible rfl
            refine wpAnyIn_take (i := 5) (v := ?_) rfl rfl (by kernel_rfl) (by kernel_rfl) (by kernel_rfl) (fun _ _ _ h => h) ⟨Or.inl ⟨by rfl, ?_⟩, fun _ => rfl⟩ ?_
            rotate_left
            · intro w
              go_simp
              with_reducible rfl
            refine wpAnyIn_take (i := 7) (v := ?_) rfl rfl (by kernel_rfl) (by kernel_rfl) (by kernel_rfl) (fun _ _ _ h => h) ⟨Or.inl ⟨by rfl, ?_⟩, fun _ => rfl⟩ ?_
            rotate_left
            · intro w
              go_simp
              with_reducible rfl
            refine wpAnyIn_ready (rs := [6, 8]) (by kernel_rfl) (by simp) ?_
            refine AllReadyIn.cons rfl (fun K hK => ?_) (AllReadyIn.cons rfl (fun K hK => ?_) AllReadyIn.nil)
            all_goals
              go_simp
              refine hK _ _ ?_
              clear hK K
            refine wpAnyIn_ready (rs := [8]) (by kernel_rfl) (by simp) ?_
            rotate_left
            refine wpAnyIn_ready (rs := [6]) (by kernel_rfl) (by simp) ?_
            rotate_left
            all_goals
              refine AllReadyIn.cons rfl (fun K hK => ?_) AllReadyIn.nil
              go_simp
              refine hK _ _ ?_
              clear hK K
              refine wpAnyIn_take (i := 9) (v := ?_) rfl rfl (by kernel_rfl) (by kernel_rfl) (by kernel_rfl) (fun _ _ _ h => h) ⟨Or.inl ⟨by rfl, ?_⟩, fun _ => rfl⟩ ?_
              rotate_left
              · intro w
                go_simp
                with_reducible rfl
              refine wpAnyIn_take (i := 10) (v := ?_) rfl rfl (by kernel_rfl) (by kernel_rfl) (by kernel_rfl) (fun _ _ _ h => h) ⟨Or.inl ⟨by rfl, ?_⟩, fun _ => rfl⟩ ?_
              rotate_left
              · intro w
                go_simp
                with_reducible rfl
              refine wpAnyIn_take (i := 11) (v := ?_) rfl rfl (by kernel_rfl) (by kernel_rfl) (by kernel_rfl) (fun _ _ _ h => h) ⟨Or.inl ⟨by rfl, ?_⟩, fun _ => rfl⟩ ?_
              rotate_left
              · intro w
                go_simp
                with_reducible rfl
              refine wpAnyIn_take (i := 12) (v := ?_) rfl rfl (by kernel_rfl) (by kernel_rfl) (by kernel_rfl) (fun _ _ _ h => h) ⟨Or.inl ⟨by rfl, ?_⟩, fun _ => rfl⟩ ?_
              rotate_left
              · intro w
                go_simp
                with_reducible rfl
              refine wpAnyIn_take (i := 13) (v := ?_) rfl rfl (by kernel_rfl) (by kernel_rfl) (by kernel_rfl) (fun _ _ _ h => h) ⟨Or.inl ⟨by rfl, ?_⟩, fun _ => rfl⟩ ?_
              rotate_left
              · intro w
                go_simp
                with_reducible rfl
              refine wpAnyIn_take (i := 14) (v := ?_) rfl rfl (by kernel_rfl) (by kernel_rfl) (by kernel_rfl) (fun _ _ _ h => h) ⟨Or.inl ⟨by rfl, ?_⟩, fun _ => rfl⟩ ?_
              rotate_left
              · intro w
                go_simp
                with_reducible rfl
              refine wpAnyIn_ready (rs := [15]) (by kernel_rfl) (by simp) ?_
              refine AllReadyIn.cons rfl (fun K hK => ?_) AllReadyIn.nil
              go_simp
              refine HR.out.mono ?_
              rintro e W3 (⟨rfl, hj3, hk3⟩ | ⟨rfl, hj3⟩)
              · refine hK _ _ ?_
                clear hK K
                refine wpAnyIn_take (i := 16) (v := ?_) rfl rfl (by kernel_rfl) (by kernel_rfl) (by kernel_rfl) (fun _ _ _ h => h) ⟨Or.inl ⟨by rfl, ?_⟩, fun _ => rfl⟩ ?_
                rotate_left
                · intro w
                  go_simp
                  with_reducible rfl
                refine wpAnyIn_take (i := 17) (v := ?_) rfl rfl (by kernel_rfl) (by kernel_rfl) (by kernel_rfl) (fun _ _ _ h => h) ⟨Or.inl ⟨by rfl, ?_⟩, fun _ => rfl⟩ ?_
                rotate_left
                · intro w
                  go_simp
                  with_reducible rfl
                refine wpAnyIn_done (by kernel_rfl) ?_ _
                have n1 := Aside0.mk (hk3.2.1.trans (blk_drew BK1.out))
                have n2 := Aside0.mk (hk3.2.2.trans (blk_drew BK2.out))
                have nb := Aside0.mk ((below_drew1 HB.out).trans hk3.1)
                have nj := Aside0.mk hj3
                have nz := Aside0.mk (Nat.le_trans nz.out hk3.1.size)
                clear BK1 BK2 HB HJP HC hc0 hc1 hc2 hc3 hd0 hd1 hx0 hx1 hy hj3 hk3 HR
                have BK1 := n1
                have BK2 := n2
                have HB := nb
                have HJP := nj
                clear n1 n2 nb nj
                have hc0 := (blk_cell BK1.out 0).trans rfl
                have hc1 := (blk_cell BK1.out 1).trans rfl
                have hc2 := (blk_cell BK1.out 2).trans rfl
                have hc3 := (blk_cell BK1.out 3).trans rfl
                gi_wp2_with fail
                refine ⟨trivial, ?_⟩
                refine (callsIn_wide.2 (gran_Behind.calls k1 a0_0 a0_1 A0_2 c0_2 l0_2 A0_3 c0_3 l0_3 i m1 m2 _ (Kd.C_below HR2.out HB.out) HC2.out (Kd.C_below HR3.out HB.out) HC3.out HN.out)).mono ?_
                rintro e w4 ⟨rfl, hb4⟩
                have n1 := Aside0.mk (blk_below BK1.out hb4)
                have n2 := Aside0.mk (blk_below BK2.out hb4)
                have nb := Aside0.mk (HB.out.trans (hb4.mono HB.out.size))
                have nj := Aside0.mk ((HJ.out _).below HJP.out hb4)
                have nz := Aside0.mk (Nat.le_trans nz.out hb4.size)
                clear BK1 BK2 HB HJP hc0 hc1 hc2 hc3 hb4
                gi_wp2
                gi_roundg k1
                case measure => exact Nat.lt_succ_self _
                case rel => exact ⟨m1, m2, pre ++ [(i, l1)], rfl, rfl, ⟨rest1, by rw [HXS.out]; simp, H2.out⟩, ⟨Nat.le_of_succ_le HK1.out⟩, n1, n2, nb, nj, nz⟩
              · refine hK _ _ ?_
                clear hK K
                refine wpAnyIn_take (i := 16) (v := ?_) rfl rfl (by kernel_rfl) (by kernel_rfl) (by kernel_rfl) (fun _ _ _ h => h) ⟨Or.inl ⟨by rfl, ?_⟩, fun _ => rfl⟩ ?_
                rotate_left
                · intro w
                  go_simp
                  with_reducible rfl
                refine wpAnyIn_take (i := 17) (v := ?_) rfl rfl (by kernel_rfl) (by kernel_rfl) (by kernel_rfl) (fun _ _ _ h => h) ⟨Or.inl ⟨by rfl, ?_⟩, fun _ => rfl⟩ ?_
                rotate_left
                · intro w
                  go_simp
                  with_reducible rfl
                refine wpAnyIn_done (by kernel_rfl) ?_ _
                gi_wp2
                refine bodyPost_ret (results_none rfl _ _ _) rfl ?_
                exact ⟨⟨_, rfl⟩, .inr hj3⟩
        · rw [if_neg ce] at H
          cases H
          have ce0 : (e1 != 0) = true := by simpa using ce
          have ce1 : (e1 == 0) = false := by simpa using ce
          clear ce
          have hmo : Try.prog.follows .mixedOrders = true := by kernel_rfl
          gi_wp2_with fail
          refine wpIn_region_quiet_lit rfl hmo (by kernel_rfl) ?_
          repeat (gi_big_quiet_step (fail))
          refine wpQuietIn_step (fun _ _ _ _ => trivial) (fun K hK => ?_)
          go_simp
          refine hK _ ?_
          clear hK K
          repeat (gi_big_quiet_step (fail))
          refine wpQuietIn_nil ?_
          rintro w' ⟨nq, rfl⟩
          gi_wp2
          refine bodyPost_ret (results_none rfl _ _ _) rfl ?_
          exact ⟨⟨_, rfl⟩, .inl (by have := HXS.out; rw [List.append_nil] at this; rw [this]; exact (HJ.out pre).below HJP.out (pw_below_drewN (Below.refl _ _) nq))⟩
end Go.Proofs.Ytmbmalkpmanaaaa.P


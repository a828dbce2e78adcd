/- Lemmas for laws of chapter 7: what the functions that they reach compute. No condition of its own. -/
import Derived.Test.YtmbmalkpmanaaaaYG2
import Derived.Test.YtmbmalkpmanaaaaYG10
import Derived.Test.YtmbmalkpmanaaaaYG8
import Derived.Test.YtmbmalkpmanaaaaYG6
import Derived.Test.YtmbmalkpmanaaaaYG7
import Derived.Sort.LoopGhostIn
import Derived.Sort.QuietTacIn
import Derived.Sort.BigQuietIn
import Derived.Outline
import Derived.Test.YtmbmalkpmanaaaaYG4
namespace Go.Proofs.Ytmbmalkpmanaaaa.P
set_option linter.unusedVariables false
set_option linter.unusedSimpArgs false
open Go.RowKit Go.Shelf Go.Proofs.YtmbmalkpmanaaaaW.aK Go.Proofs.YtmbmalkpmanaaaaW.bK Go.Proofs.YtmbmalkpmanaaaaW.bM Go.Proofs.Ytmbmalkpmanaaaa.akT
attribute [local go_sem] Oper.semAt_some
def ayk (n₁ : Nat) (b : Int × List Sp) (args : Array Value) (W : World) : Prop := ∃ A c, args = #[.int .i64 b.1, .slice A b.2.length c] ∧ b.2.length ≤ c ∧ (∀ ad, A = some ad → n₁ ≤ ad.block) ∧ Kd.C k23 W A b.2.length b.2
def KpI (n₀ B1 B2 : Nat) (W W' : World) : Prop := Below n₀ W W' ∧ W'.heap[B1]? = W.heap[B1]? ∧ W'.heap[B2]? = W.heap[B2]?
def fF.l : Nat → Int → Bool → Int → Int → Int → List (List S23) → List S70 → Option (List (Int × List Sp))
  | 0, _, _, _, _, _, _, _ => none
  | k + 1, i, ok, h1, p, c, core, odd => if ok = true then (eO.f k p c core odd i).bind fun g => if g.2 = 0 then (if 0 < g.1.length then (if (aT g.1 0).f0 > h1 then some [] else (fT.f k p c core odd i).bind fun n => (fF.l k n.1 n.2 h1 p c core odd).map (fun r => (i, g.1) :: r)) else none) else some [] else some []
def fF.f (k : Nat) (p c : Int) (core : List (List S23)) (odd : List S70) (h0 h1 : Int) : Option (List (Int × List Sp)) :=
  (bP.f k p c core odd h0).bind fun a => fF.l k a.1 a.2 h1 p c core odd
set_option maxHeartbeats 8000000 in
set_option maxRecDepth 100000 in
theorem agw (n : Nat) (hn : 1 ≤ n) (k : Nat) (aQ : Int) (aR : Int) (cu : Option Addr) (bW : Nat) (aH : List (List (S23))) (dz : Option Addr) (bZ : Nat) (av : List (S70)) (h0 h1 : Int) (xs : List (Int × List Sp))
    (w0 w : World) (B1 B2 : Nat) (iF : Kd.C (Kd.slice 23 k23) w0 cu aH.length aH) (iG : aH.length ≤ bW) (iw : Kd.C k70 w0 dz av.length av) (iy : av.length ≤ bZ)
    (hb0 : Below w0.heap.size w0 w)
    (bk1 : w.heap[B1]? = some (.cells #[.int .i64 aQ, .int .i64 aR, .slice cu aH.length bW, .slice dz av.length bZ] 28 (0, 0)))
    (bk2 : w.heap[B2]? = some (.cells #[.int .i64 h0, .int .i64 h1] 23 (0, 0)))
    (h : fF.f k aQ aR aH av h0 h1 = some xs) :
    aAU Fence.wide n Try.prog 79 #[.pointer (some ⟨B1, 0, none⟩), .pointer (some ⟨B2, 0, none⟩)] (ayk w.heap.size) (KpI w0.heap.size B1 B2) (fun _ => False) xs w := by
  intro l J Jx W hW hJ hJx hY hj0
  have HR2 := ay.mk iF
  have HC2 := ay.mk iG
  have HR3 := ay.mk iw
  have HC3 := ay.mk iy
  have BK1 := ay.mk (ak bk1 hW)
  have BK2 := ay.mk (ak bk2 hW)
  have HB := ay.mk (hb0.trans (hW.mono hb0.size))
  have SZ := ay.mk hW.size
  have HJ := ay.mk hJ
  have HJX := ay.mk hJx
  have HY := ay.mk hY
  have J0 := ay.mk hj0
  obtain ⟨⟨i0, ok0⟩, hf, h⟩ := Option.bind_eq_some_iff.mp h
  have HF := ay.mk hf
  have H := ay.mk h
  clear iF iG iw iy bk1 bk2 hb0 hJ hJx hY hj0 hf h hW
  have hc0 := (cO BK1.out 0).trans rfl
  have hc1 := (cO BK1.out 1).trans rfl
  have hc2 := (cO BK1.out 2).trans rfl
  have hc3 := (cO BK1.out 3).trans rfl
  have hd0 := (cO BK2.out 0).trans rfl
  refine callsIn_of_wp Try.func79 rfl trivial ?_ rfl
  simp only [Try.ntmps79, List.size_toArray, List.length_cons, List.length_nil, Nat.reduceAdd, Nat.reduceSub, Array.replicate_succ, Array.replicate_zero, List.push_toArray, List.append_toArray, List.nil_append, List.cons_append]
  gi_wp2_with fail
  refine ⟨trivial, ?_⟩
  refine (callsIn_wide.2 (bP.calls k aQ aR cu bW aH dz bZ av h0 i0 ok0 _ (Kd.bf HR2.out HB.out) HC2.out (Kd.bf HR3.out HB.out) HC3.out HF.out)).mono ?_
  rintro e w1 ⟨rfl, hb1⟩
  have n1 := ay.mk (ak BK1.out hb1)
  have n2 := ay.mk (ak BK2.out hb1)
  have nb := ay.mk (HB.out.trans (hb1.mono HB.out.size))
  have nj := ay.mk ((HJ.out []).below J0.out hb1)
  have nz := ay.mk (Nat.le_trans SZ.out hb1.size)
  clear BK1 BK2 HB J0 hc0 hc1 hc2 hc3 hd0 hb1 SZ
  gi_wp2_with fail
  gi_loopg [4, 5] k (fun kq v4 v5 wr => ∃ (i : Int) (ok : Bool) (pre : List (Int × List Sp)), v4 = .int .i64 i ∧ v5 = .bool ok ∧ ay (∃ rest, xs = pre ++ rest ∧ fF.l kq i ok h1 aQ aR aH av = some rest) ∧ ay (kq ≤ k) ∧ ay (wr.heap[B1]? = some (.cells #[.int .i64 aQ, .int .i64 aR, .slice cu aH.length bW, .slice dz av.length bZ] 28 (0, 0))) ∧ ay (wr.heap[B2]? = some (.cells #[.int .i64 h0, .int .i64 h1] 23 (0, 0))) ∧ ay (Below w0.heap.size w0 wr) ∧ ay (J pre wr) ∧ ay (w.heap.size ≤ wr.heap.size))
  case atStart => exact ⟨i0, ok0, [], rfl, rfl, ⟨xs, rfl, H.out⟩, ⟨Nat.le_refl _⟩, n1, n2, nb, nj, nz⟩
  case round =>
    clear n1 n2 nb nj nz H HF
    obtain ⟨i, ok, pre, rfl, rfl, HA, HK1, BK1, BK2, HB, HJP, SZ⟩ := hrel
    obtain ⟨rest, hxs, H⟩ := HA.out
    have HXS := ay.mk hxs
    clear HA hxs
    cases gk with
    | zero => exact absurd H (by simp [fF.l])
    | succ k1 =>
      have hc0 := (cO BK1.out 0).trans rfl
      have hc1 := (cO BK1.out 1).trans rfl
      have hc2 := (cO BK1.out 2).trans rfl
      have hc3 := (cO BK1.out 3).trans rfl
      have hd0 := (cO BK2.out 0).trans rfl
      have hd1 := (cO BK2.out 1).trans rfl
      simp only [fF.l] at H
      cases ok
      · simp at H
        subst H
        gi_wp2
        go_end0
        exact ⟨⟨_, rfl⟩, .inl (by have := HXS.out; rw [List.append_nil] at this; rw [this]; exact HJP.out)⟩
      · rw [if_pos rfl] at H
        obtain ⟨⟨l1, e1⟩, hg, H⟩ := Option.bind_eq_some_iff.mp H
        have HG := ay.mk hg
        have H' := ay.mk H
        clear hg H
        gi_wp2_with fail
        refine ⟨trivial, ?_⟩
        refine (callsIn_wide.2 (eO.calls k1 aQ aR cu bW aH dz bZ av i l1 e1 _ (Kd.bf HR2.out HB.out) HC2.out (Kd.bf HR3.out HB.out) HC3.out HG.out)).mono ?_
        rintro e' w2 ⟨v, rfl, hR, hb2⟩
        obtain ⟨A, c, rfl⟩ := Kd.iW hR
        have hbs : ∀ ad, A = some ad → w.heap.size ≤ ad.block := by
          intro ad e
          obtain ⟨inner, ho⟩ := Kd.amg hR
          rcases ho.2 with ⟨e2, _⟩ | ⟨g, cap, cur, e2, hg, _⟩
          · injection e2 with e2; rw [e] at e2; cases e2
          · injection e2 with e2; rw [e] at e2; cases e2; exact Nat.le_trans SZ.out hg
        have HBS := ay.mk hbs
        have nz := ay.mk (Nat.le_trans SZ.out hb2.size)
        clear hbs SZ
        obtain ⟨_, hlc, hC⟩ := Kd.bS hR
        have HLC := ay.mk hlc
        have HC := ay.mk hC
        have n1 := ay.mk (ak BK1.out hb2)
        have n2 := ay.mk (ak BK2.out hb2)
        have nb := ay.mk (HB.out.trans (hb2.mono HB.out.size))
        have nj := ay.mk ((HJ.out pre).below HJP.out hb2)
        clear BK1 BK2 HB HJP hc0 hc1 hc2 hc3 hd0 hd1 hb2 hR hlc hC
        have BK1 := n1
        have BK2 := n2
        have HB := nb
        have HJP := nj
        clear n1 n2 nb nj
        have hc0 := (cO BK1.out 0).trans rfl
        have hc1 := (cO BK1.out 1).trans rfl
        have hc2 := (cO BK1.out 2).trans rfl
        have hc3 := (cO BK1.out 3).trans rfl
        have hd0 := (cO BK2.out 0).trans rfl
        have hd1 := (cO BK2.out 1).trans rfl
        have H := H'.out
        clear H'
        by_cases ce : e1 = 0
        · subst ce
          rw [if_pos rfl] at H
          by_cases cl : 0 < l1.length
          case neg => rw [if_neg cl] at H; cases H
          rw [if_pos cl] at H
          obtain ⟨ad, e, hx0, hx1⟩ := jW HC.out 0 (by omega) (by omega)
          subst e
          rw [show (0 : Int).toNat * 2 = 0 from rfl, Addr.add_zero'] at hx0 hx1
          by_cases cg : (aT l1 0).f0 > h1
          · rw [if_pos cg] at H
            cases H
            have cg1 : decide (h1 < (aT l1 0).f0) = true := decide_eq_true cg
            have cl1 : decide ((0 : Int) < (l1.length : Int)) = true := decide_eq_true (by omega)
            have hmo : Try.prog.follows .mixedOrders = true := by kernel_rfl
            clear cg
            gi_wp2_with fail
            refine wpIn_region_quiet_lit rfl hmo (by kernel_rfl) ?_
            repeat (gi_big_quiet_step (fail))
            refine wpQuietIn_step (fun _ _ _ _ => trivial) (fun K hK => ?_)
            go_simp
            refine hK _ ?_
            clear hK K
            repeat (gi_big_quiet_step (fail))
            refine wpQuietIn_nil ?_
            rintro w' ⟨nq, rfl⟩
            gi_wp2
            refine bodyPost_ret (results_none rfl _ _ _) rfl ?_
            exact ⟨⟨_, rfl⟩, .inl (by have := HXS.out; rw [List.append_nil] at this; rw [this]; exact (HJ.out pre).below HJP.out (dN (Below.refl _ _) nq))⟩
          · rw [if_neg cg] at H
            have cg1 : decide (h1 < (aT l1 0).f0) = false := decide_eq_false cg
            have cl1 : decide ((0 : Int) < (l1.length : Int)) = true := decide_eq_true (by omega)
            have hmo : Try.prog.follows .mixedOrders = true := by kernel_rfl
            clear cg
            obtain ⟨⟨m1, m2⟩, hn, H⟩ := Option.bind_eq_some_iff.mp H
            obtain ⟨att, h2, rfl⟩ := Option.map_eq_some_iff.mp H
            have HN := ay.mk hn
            have H2 := ay.mk h2
            clear hn h2 H
            have hjd : J pre w2.drew := (HJ.out pre).below HJP.out (uV (Below.refl _ _))
            obtain ⟨fn, tmps, assign, body, hy, hR⟩ := HY.out pre (i, l1) att #[.int .i64 i, .slice (some ad) l1.length c] w2.drew HXS.out hjd ⟨_, _, rfl, HLC.out, HBS.out, Kd.yw HC.out⟩
            have HR := ay.mk hR
            clear hR hjd
            gi_wp2_with fail
            refine wpIn_region_any hmo ?_
            refine wpAnyIn_take (i := 0) (v := ?_) rfl rfl (by kernel_rfl) (by kernel_rfl) (by kernel_rfl) (fun _ _ _ h => h) ⟨Or.inl ⟨by rfl, ?_⟩, fun _ => rfl⟩ ?_
            rotate_left
            · intro w
              go_simp
              with_reducible rfl
            refine wpAnyIn_take (i := 1) (v := ?_) rfl rfl (by kernel_rfl) (by kernel_rfl) (by kernel_rfl) (fun _ _ _ h => h) ⟨Or.inl ⟨by rfl, ?_⟩, fun _ => rfl⟩ ?_
            rotate_left
            · intro w
              go_simp
              with_reducible rfl
            refine wpAnyIn_take (i := 2) (v := ?_) rfl rfl (by kernel_rfl) (by kernel_rfl) (by kernel_rfl) (fun _ _ _ h => h) ⟨Or.inl ⟨by rfl, ?_⟩, fun _ => rfl⟩ ?_
            rotate_left
            · intro w
              go_simp
              with_reducible rfl
            refine wpAnyIn_take (i := 3) (v := ?_) rfl rfl (by kernel_rfl) (by kernel_rfl) (by kernel_rfl) (fun _ _ _ h => h) ⟨Or.inl ⟨by rfl, ?_⟩, fun _ => rfl⟩ ?_
            rotate_left
            · intro w
              go_simp
              with_reducible rfl
            refine wpAnyIn_take (i := 4) (v := ?_) rfl rfl (by kernel_rfl) (by kernel_rfl) (by kernel_rfl) (fun _ _ _ h => h) ⟨Or.inl ⟨by rfl, ?_⟩, fun _ => rfl⟩ ?_
            rotate_left
            · intro w
              go_simp
              with_reducible rfl
            refine wpAnyIn_take (i := 5) (v := ?_) rfl rfl (by kernel_rfl) (by kernel_rfl) (by kernel_rfl) (fun _ _ _ h => h) ⟨Or.inl ⟨by rfl, ?_⟩, fun _ => rfl⟩ ?_
            rotate_left
            · intro w
              go_simp
              with_reducible rfl
            refine wpAnyIn_take (i := 7) (v := ?_) rfl rfl (by kernel_rfl) (by kernel_rfl) (by kernel_rfl) (fun _ _ _ h => h) ⟨Or.inl ⟨by rfl, ?_⟩, fun _ => rfl⟩ ?_
            rotate_left
            · intro w
              go_simp
              with_reducible rfl
            refine wpAnyIn_ready (rs := [6, 8]) (by kernel_rfl) (by simp) ?_
            refine AllReadyIn.cons rfl (fun K hK => ?_) (AllReadyIn.cons rfl (fun K hK => ?_) AllReadyIn.nil)
            all_goals
              go_simp
              refine hK _ _ ?_
              clear hK K
            refine wpAnyIn_ready (rs := [8]) (by kernel_rfl) (by simp) ?_
            rotate_left
            refine wpAnyIn_ready (rs := [6]) (by kernel_rfl) (by simp) ?_
            rotate_left
            all_goals
              refine AllReadyIn.cons rfl (fun K hK => ?_) AllReadyIn.nil
              go_simp
              refine hK _ _ ?_
              clear hK K
              refine wpAnyIn_take (i := 9) (v := ?_) rfl rfl (by kernel_rfl) (by kernel_rfl) (by kernel_rfl) (fun _ _ _ h => h) ⟨Or.inl ⟨by rfl, ?_⟩, fun _ => rfl⟩ ?_
              rotate_left
              · intro w
                go_simp
                with_reducible rfl
              refine wpAnyIn_take (i := 10) (v := ?_) rfl rfl (by kernel_rfl) (by kernel_rfl) (by kernel_rfl) (fun _ _ _ h => h) ⟨Or.inl ⟨by rfl, ?_⟩, fun _ => rfl⟩ ?_
              rotate_left
              · intro w
                go_simp
                with_reducible rfl
              refine wpAnyIn_take (i := 11) (v := ?_) rfl rfl (by kernel_rfl) (by kernel_rfl) (by kernel_rfl) (fun _ _ _ h => h) ⟨Or.inl ⟨by rfl, ?_⟩, fun _ => rfl⟩ ?_
              rotate_left
              · intro w
                go_simp
                with_reducible rfl
              refine wpAnyIn_take (i := 12) (v := ?_) rfl rfl (by kernel_rfl) (by kernel_rfl) (by kernel_rfl) (fun _ _ _ h => h) ⟨Or.inl ⟨by rfl, ?_⟩, fun _ => rfl⟩ ?_
              rotate_left
              · intro w
                go_simp
                with_reducible rfl
              refine wpAnyIn_take (i := 13) (v := ?_) rfl rfl (by kernel_rfl) (by kernel_rfl) (by kernel_rfl) (fun _ _ _ h => h) ⟨Or.inl ⟨by rfl, ?_⟩, fun _ => rfl⟩ ?_
              rotate_left
              · intro w
                go_simp
                with_reducible rfl
              refine wpAnyIn_take (i := 14) (v := ?_) rfl rfl (by kernel_rfl) (by kernel_rfl) (by kernel_rfl) (fun _ _ _ h => h) ⟨Or.inl ⟨by rfl, ?_⟩, fun _ => rfl⟩ ?_
              rotate_left
              · intro w
                go_simp
                with_reducible rfl
              refine wpAnyIn_ready (rs := [15]) (by kernel_rfl) (by simp) ?_
              refine AllReadyIn.cons rfl (fun K hK => ?_) AllReadyIn.nil
              go_simp
              refine HR.out.mono ?_
              rintro e W3 (⟨rfl, hj3, hk3⟩ | ⟨rfl, hj3⟩)
              · refine hK _ _ ?_
                clear hK K
                refine wpAnyIn_take (i := 16) (v := ?_) rfl rfl (by kernel_rfl) (by kernel_rfl) (by kernel_rfl) (fun _ _ _ h => h) ⟨Or.inl ⟨by rfl, ?_⟩, fun _ => rfl⟩ ?_
                rotate_left
                · intro w
                  go_simp
                  with_reducible rfl
                refine wpAnyIn_take (i := 17) (v := ?_) rfl rfl (by kernel_rfl) (by kernel_rfl) (by kernel_rfl) (fun _ _ _ h => h) ⟨Or.inl ⟨by rfl, ?_⟩, fun _ => rfl⟩ ?_
                rotate_left
                · intro w
                  go_simp
                  with_reducible rfl
                refine wpAnyIn_done (by kernel_rfl) ?_ _
                have n1 := ay.mk (hk3.2.1.trans (aI BK1.out))
                have n2 := ay.mk (hk3.2.2.trans (aI BK2.out))
                have nb := ay.mk ((dx HB.out).trans hk3.1)
                have nj := ay.mk hj3
                have nz := ay.mk (Nat.le_trans nz.out hk3.1.size)
                clear BK1 BK2 HB HJP HC hc0 hc1 hc2 hc3 hd0 hd1 hx0 hx1 hy hj3 hk3 HR
                have BK1 := n1
                have BK2 := n2
                have HB := nb
                have HJP := nj
                clear n1 n2 nb nj
                have hc0 := (cO BK1.out 0).trans rfl
                have hc1 := (cO BK1.out 1).trans rfl
                have hc2 := (cO BK1.out 2).trans rfl
                have hc3 := (cO BK1.out 3).trans rfl
                gi_wp2_with fail
                refine ⟨trivial, ?_⟩
                refine (callsIn_wide.2 (fT.calls k1 aQ aR cu bW aH dz bZ av i m1 m2 _ (Kd.bf HR2.out HB.out) HC2.out (Kd.bf HR3.out HB.out) HC3.out HN.out)).mono ?_
                rintro e w4 ⟨rfl, hb4⟩
                have n1 := ay.mk (ak BK1.out hb4)
                have n2 := ay.mk (ak BK2.out hb4)
                have nb := ay.mk (HB.out.trans (hb4.mono HB.out.size))
                have nj := ay.mk ((HJ.out _).below HJP.out hb4)
                have nz := ay.mk (Nat.le_trans nz.out hb4.size)
                clear BK1 BK2 HB HJP hc0 hc1 hc2 hc3 hb4
                gi_wp2
                gi_roundg k1
                case measure => exact Nat.lt_succ_self _
                case rel => exact ⟨m1, m2, pre ++ [(i, l1)], rfl, rfl, ⟨att, by rw [HXS.out]; simp, H2.out⟩, ⟨Nat.le_of_succ_le HK1.out⟩, n1, n2, nb, nj, nz⟩
              · refine hK _ _ ?_
                clear hK K
                refine wpAnyIn_take (i := 16) (v := ?_) rfl rfl (by kernel_rfl) (by kernel_rfl) (by kernel_rfl) (fun _ _ _ h => h) ⟨Or.inl ⟨by rfl, ?_⟩, fun _ => rfl⟩ ?_
                rotate_left
                · intro w
                  go_simp
                  with_reducible rfl
                refine wpAnyIn_take (i := 17) (v := ?_) rfl rfl (by kernel_rfl) (by kernel_rfl) (by kernel_rfl) (fun _ _ _ h => h) ⟨Or.inl ⟨by rfl, ?_⟩, fun _ => rfl⟩ ?_
                rotate_left
                · intro w
                  go_simp
                  with_reducible rfl
                refine wpAnyIn_done (by kernel_rfl) ?_ _
                gi_wp2
                refine bodyPost_ret (results_none rfl _ _ _) rfl ?_
                exact ⟨⟨_, rfl⟩, .inr hj3⟩
        · rw [if_neg ce] at H
          cases H
          have ce0 : (e1 != 0) = true := by simpa using ce
          have ce1 : (e1 == 0) = false := by simpa using ce
          clear ce
          have hmo : Try.prog.follows .mixedOrders = true := by kernel_rfl
          gi_wp2_with fail
          refine wpIn_region_quiet_lit rfl hmo (by kernel_rfl) ?_
          repeat (gi_big_quiet_step (fail))
          refine wpQuietIn_step (fun _ _ _ _ => trivial) (fun K hK => ?_)
          go_simp
          refine hK _ ?_
          clear hK K
          repeat (gi_big_quiet_step (fail))
          refine wpQuietIn_nil ?_
          rintro w' ⟨nq, rfl⟩
          gi_wp2
          refine bodyPost_ret (results_none rfl _ _ _) rfl ?_
          exact ⟨⟨_, rfl⟩, .inl (by have := HXS.out; rw [List.append_nil] at this; rw [this]; exact (HJ.out pre).below HJP.out (dN (Below.refl _ _) nq))⟩
end Go.Proofs.Ytmbmalkpmanaaaa.P
namespace Go.Proofs.Ytmbmalkpmanaaaa.P
open Go.RowKit Go.Proofs.YtmbmalkpmanaaaaW.aK Go.Proofs.YtmbmalkpmanaaaaW.bK Go.Proofs.YtmbmalkpmanaaaaW.bM
attribute [local go_sem] dS dU fG fH dB dD dV dW   -- for this text's walks alone
set_option linter.unusedVariables false
set_option linter.unusedSimpArgs false
def bE.l0 : Nat → List (S23) → List (S23) → Int → Int → Option (Bool)
 | 0, _, _, _, _ => none
 | k + 1, x0, x5, x6, x7 => if x7 < x6 then (if 0 ≤ x7 then (if x7 < (x5.length : Int) then ((gJ.f ((aT x5 x7).f0)).bind fun ayl => (if ayl = true then ((gJ.f ((aT x5 x7).f1)).bind fun atu => (if atu = true then (if ((aT x5 x7).f0) > ((aT x5 x7).f1) then (some false) else (if x7 > 0 then (if 0 ≤ (wrap64 (x7 - 1)) then (if (wrap64 (x7 - 1)) < (x0.length : Int) then (if ((aT x5 x7).f0) < (wrap64 (((aT x0 (wrap64 (x7 - 1))).f1) + 2)) then (some false) else (bE.l0 k x0 x5 x6 (wrap64 (x7 + 1)))) else (none)) else (none)) else (bE.l0 k x0 x5 x6 (wrap64 (x7 + 1))))) else (some false))) else (some false))) else (none)) else (none)) else (some true)
def bE.f (k : Nat) (l0 : List (S23)) : Option (Bool) := bE.l0 k l0 l0 (l0.length : Int) 0
theorem bE.iX : ∀ k, (∀ y0 y1 y2 y3, LeO (bE.l0 k y0 y1 y2 y3) (bE.l0 (k + 1) y0 y1 y2 y3))
 | 0 => fun _ _ _ _ r h => by simp [bE.l0] at h
 | k + 1 => by
  have ih0 := bE.iX k
  ·intro y0 y1 y2 y3
   unfold bE.l0
   repeat' first
   | (with_reducible exact ih0 _ _ _ _)
   | (with_reducible exact LeO.refl _)
   | (with_reducible exact LeO.none _)
   | (with_reducible refine LeO.ite ?_ ?_)
   | (with_reducible refine LeO.bind ?_ (fun _ => ?_))
   | exact ih0 _ _ _ _
   | exact LeO.none _
   | refine LeO.ite ?_ ?_
   | refine LeO.bind ?_ (fun _ => ?_)
theorem bE.mono : ∀ a0 k, LeO (bE.f k a0) (bE.f (k + 1) a0) := by
 intro a0 k
 have ih0 := bE.iX k
 unfold bE.f
 repeat' first
  | (with_reducible exact ih0 _ _ _ _)
  | (with_reducible exact LeO.refl _)
  | (with_reducible exact LeO.none _)
  | (with_reducible refine LeO.ite ?_ ?_)
  | (with_reducible refine LeO.bind ?_ (fun _ => ?_))
  | exact ih0 _ _ _ _
  | exact LeO.none _
  | refine LeO.ite ?_ ?_
  | refine LeO.bind ?_ (fun _ => ?_)
def bE.T4 : Bool × List (List Nat × List Nat) := (true, [([], []), ([0], [0]), ([1], [1]), ([2], [2]), ([3, 2], [3]), ([4], [4]), ([5, 4], [4, 5]), ([6, 4, 4], [4, 6]), ([7, 4], [4, 7]), ([4, 8], [4, 8]), ([9, 7], [9]), ([10], [10]), ([11, 10], [10, 11]), ([10], [10]), ([13, 10], [10, 13]), ([12, 14, 10], [10, 12, 14]), ([10, 15], [10, 15]), ([16, 10], [16]), ([17], [17]), ([18, 17], [17, 18]), ([19, 17, 17], [17, 19]), ([20], [20]), ([21, 20], [20, 21]), ([20], [20]), ([20], [20]), ([24, 20], [20, 24]), ([23, 25, 20], [20, 23, 25]), ([26, 20], [20, 26]), ([27, 20], [20, 27]), ([28, 20], [20, 28]), ([22, 29, 20], [20, 22, 29]), ([20, 30, 17], [17, 20, 30]), ([17, 31], [17, 31])])
def bE.B4 : List Nat := [0, 1, 3, 7, 15, 31, 63, 127, 255, 511, 1023, 2047, 4095, 2047, 10239, 32767, 65535, 131071, 262143, 524287, 1048575, 2097151, 4194303, 2097151, 2097151, 18874367, 60817407, 127926271, 262143999, 530579455, 1073741823, 2147483647, 4294967295]
theorem bE.asa : xW .any (opsOf Try.f31 4) = bE.T4 := by kernel_rfl
theorem bE.aiQ : pq bE.T4.2 bE.B4 = true := by kernel_rfl
set_option maxHeartbeats 8000000 in
set_option maxRecDepth 100000 in
theorem bE.calls (k : Nat) (A0 : Option Addr) (c0 : Nat) (l0 : List (S23)) (r : Bool) (w : World) (hr0 : Kd.C k23 w A0 l0.length l0) (hc0 : l0.length ≤ c0) (h : bE.f k l0 = some r) :
 Calls Try.prog 31 #[.slice A0 l0.length c0] w fun e w' => e = .returned (.bool r) ∧ Below w.heap.size w w' := by
 have afs := Try.underlying23
 have HR0 := am hr0
 have HC0 := am hc0
 clear hr0 hc0
 have HB := am (Below.refl w.heap.size w)
 have H : (bE.l0 k l0 l0 (l0.length : Int) 0) = some r := h
 clear h
 have H' := am H
 clear H
 go_enter Try.func31, Try.ntmps31
 go_wp2
 go_loopg [7] k (fun kq v7 w' => ∃ (iO : Int), v7 = .int .i64 iO ∧ ay (bE.l0 kq l0 l0 (l0.length : Int) iO = some r) ∧ ay (kq ≤ k) ∧ ay (Below w.heap.size w w'))
 case atStart => exact ⟨(0), sm, H', ⟨Nat.le_refl _⟩, ⟨bl HB.out⟩⟩
 case round =>
  clear H'
  obtain ⟨iO, rfl, HA, HK1, HB⟩ := hrel
  cases gk with
  | zero => exact absurd HA.out (by simp [bE.l0])
  | succ k1 =>
   have H := HA.out
   clear HA
   simp only [bE.l0] at H
   by_cases c2 : iO < (l0.length : Int)
   ·rw [if_pos c2] at H
    have ajF : decide (iO < (l0.length : Int)) = true := decide_eq_true c2
    clear c2
    by_cases c3 : 0 ≤ iO
    case neg => rw [if_neg c3] at H; exact absurd H (by simp)
    rw [if_pos c3] at H
    have aa8 : decide (0 ≤ iO) = true := decide_eq_true c3
    clear c3
    by_cases c4 : iO < (l0.length : Int)
    case neg => rw [if_neg c4] at H; exact absurd H (by simp)
    rw [if_pos c4] at H
    have vv : decide (iO < (l0.length : Int)) = true := decide_eq_true c4
    clear c4
    replace H := Option.bind_eq_some_iff.mp H
    obtain ⟨ayl, A50, H⟩ := H
    try dsimp only at H
    have A5 := am A50
    clear A50
    by_cases c6 : ayl = true
    ·subst c6
     have H1 : ((gJ.f ((aT l0 iO).f1)).bind fun atu => (if atu = true then (if ((aT l0 iO).f0) > ((aT l0 iO).f1) then (some false) else (if iO > 0 then (if 0 ≤ (wrap64 (iO - 1)) then (if (wrap64 (iO - 1)) < (l0.length : Int) then (if ((aT l0 iO).f0) < (wrap64 (((aT l0 (wrap64 (iO - 1))).f1) + 2)) then (some false) else (bE.l0 k1 l0 l0 (l0.length : Int) (wrap64 (iO + 1)))) else (none)) else (none)) else (bE.l0 k1 l0 l0 (l0.length : Int) (wrap64 (iO + 1))))) else (some false))) = some r := by rw [if_pos rfl] at H; exact H
     clear H
     have H := H1
     clear H1
     replace H := Option.bind_eq_some_iff.mp H
     obtain ⟨atu, A70, H⟩ := H
     try dsimp only at H
     have A7 := am A70
     clear A70
     by_cases c8 : atu = true
     ·subst c8
      have H1 : (if ((aT l0 iO).f0) > ((aT l0 iO).f1) then (some false) else (if iO > 0 then (if 0 ≤ (wrap64 (iO - 1)) then (if (wrap64 (iO - 1)) < (l0.length : Int) then (if ((aT l0 iO).f0) < (wrap64 (((aT l0 (wrap64 (iO - 1))).f1) + 2)) then (some false) else (bE.l0 k1 l0 l0 (l0.length : Int) (wrap64 (iO + 1)))) else (none)) else (none)) else (bE.l0 k1 l0 l0 (l0.length : Int) (wrap64 (iO + 1))))) = some r := by rw [if_pos rfl] at H; exact H
      clear H
      have H := H1
      clear H1
      by_cases c9 : ((aT l0 iO).f0) > ((aT l0 iO).f1)
      ·rw [if_pos c9] at H
       have afG : decide (((aT l0 iO).f1) < ((aT l0 iO).f0)) = true := decide_eq_true c9
       clear c9
       obtain rfl := Option.some.inj H
       have abU : 0 ≤ (iO : Int) := of_decide_eq_true asm
       have abV : iO < (l0.length : Int) := of_decide_eq_true asm
       obtain ⟨aaJ, e323, kN, kP⟩ := jW HR0.out iO abU abV
       cases e323
       replace kN := (HB.out.cell (World.block_lt_of_cell? w _ kN)).trans kN
       replace kP := (HB.out.cell (World.block_lt_of_cell? w _ kP)).trans kP
       replace abU := eq_true abU
       replace abV := eq_true abV
       try go_wp2_with (first | ((with_reducible refine bq (N := 4) rfl ?_); refine bx 4 23 #[.int .i64 0, .int .i64 0] ?_; intro iE hg w10 dL hb; have gq := am (dL); have akU := am ((bz hg HB.out : w.heap.size ≤ iE)); have xB := am ((bz hg HB.out : w.heap.size ≤ iE)); replace HB := am (au (bl HB.out) hb); clear hb dL hg; have mg : w10.cell? ⟨iE, 0, none⟩ = some (.int .i64 0) := bc gq.out 0; have mh : w10.cell? ⟨iE, 1, none⟩ = some (.int .i64 0) := bc gq.out 1; have mq := aj gq.out 0; have mD := aj gq.out 1))
       have n0_ : ay (((w10.setCell ⟨iE, 0, none⟩ (.int .i64 ((aT l0 iO).f0))).setCell ⟨iE, 1, none⟩ (.int .i64 ((aT l0 iO).f1))).heap[iE]? = some (.cells #[.int .i64 ((aT l0 iO).f0), .int .i64 ((aT l0 iO).f1)] 23 (0, 0))) := ⟨by (with_reducible repeat (first | refine aM ?_ _ | refine aI ?_ | refine aA ?_ _)); refine bX (cs := #[.int .i64 ((aT l0 iO).f0), .int .i64 0]) ?_ 1 _ rfl; (with_reducible repeat (first | refine aM ?_ _ | refine aI ?_ | refine aA ?_ _)); refine bX (cs := #[.int .i64 0, .int .i64 0]) ?_ 0 _ rfl; (with_reducible repeat (first | refine aM ?_ _ | refine aI ?_ | refine aA ?_ _)); exact gq.out⟩
       have n1_ : ay (Below w.heap.size w ((w10.setCell ⟨iE, 0, none⟩ (.int .i64 ((aT l0 iO).f0))).setCell ⟨iE, 1, none⟩ (.int .i64 ((aT l0 iO).f1)))) := ⟨bl1 HB.out xB.out⟩
       (try clear gq)
       (try clear HB)
       generalize ((w10.setCell ⟨iE, 0, none⟩ (.int .i64 ((aT l0 iO).f0))).setCell ⟨iE, 1, none⟩ (.int .i64 ((aT l0 iO).f1))) = w12 at n0_ n1_ ⊢
       have gq := n0_
       have HB := n1_
       clear n0_ n1_
       replace gq := am (aI gq.out)
       replace HB := am (dx HB.out)
       refine nW (n := 33) (S := fun w' => w'.cell? ⟨iE, 0, none⟩ = some (.int .i64 ((aT l0 iO).f0)) ∧ w'.cell? ⟨iE, 1, none⟩ = some (.int .i64 ((aT l0 iO).f1))) (ds := []) (rs false [33]) (by kernel_rfl) rfl rfl ⟨bc gq.out 0, bc gq.out 1⟩ (fun hHeld => ?_); refine ji bE.asa bE.aiQ (fun HT_ HW_ => ?_)
       generalize w12.drew = w13 at gq HB hHeld ⊢
       refine px 0 12 (rs true [1, 32]) HT_.out ?_
       refine tx 1 13 (rs true [2, 31]) HT_.out HW_.out hHeld ?_
       refine oZ (i := 2) (N := some 14) (rs true [3, 30]) rfl rfl (gM HT_.out (by kernel_rfl)) (by decide) (fun K hK => ?_)
       refine kg Try.func66 (by kernel_rfl) rfl #[.int .i64 ((aT l0 iO).f0)] (by rfl) rfl rfl ar ?_
       with_reducible refine (gJ.calls ((aT l0 iO).f0) true _ A5.out).mono ?_
       rintro e w' ⟨rfl, ⟨nd, rfl⟩⟩
       refine ⟨_, rfl, ?_⟩
       refine hK.out _ _ ⟨bc gq.out 0, bc gq.out 1⟩ (fun hHeld => ?_)
       clear hK K
       refine nx 14 ?_
       refine px 3 15 (rs true [4, 29]) HT_.out ?_
       refine px 4 16 (rs true [5, 28]) HT_.out ?_
       refine px 5 17 (rs true [6, 27]) HT_.out ?_
       refine tx 6 18 (rs true [7, 26]) HT_.out HW_.out hHeld ?_
       refine oZ (i := 7) (N := some 19) (rs true [8, 25]) rfl rfl (gM HT_.out (by kernel_rfl)) (by decide) (fun K hK => ?_)
       refine kg Try.func66 (by kernel_rfl) rfl #[.int .i64 ((aT l0 iO).f1)] (by rfl) rfl rfl ar ?_
       with_reducible refine (gJ.calls ((aT l0 iO).f1) true _ A7.out).mono ?_
       rintro e w' ⟨rfl, ⟨nd, rfl⟩⟩
       refine ⟨_, rfl, ?_⟩
       refine hK.out _ _ ⟨bc gq.out 0, bc gq.out 1⟩ (fun hHeld => ?_)
       clear hK K
       refine nx 19 ?_
       refine px 8 20 (rs true [9, 24]) HT_.out ?_
       refine px 9 21 (rs true [10, 23]) HT_.out ?_
       refine px 10 22 (rs true [11, 22]) HT_.out ?_
       refine px 11 23 (rs true [12, 21]) HT_.out ?_
       refine px 13 25 (rs true [12, 1, 1, 19]) HT_.out ?_
       refine tx 12 24 (rs true [14, 19]) HT_.out HW_.out hHeld ?_
       refine tx 14 26 (rs true [15, 18]) HT_.out HW_.out hHeld ?_
       refine px 15 27 (rs true [16, 17]) HT_.out ?_
       refine px 16 28 (rs true [17, 16]) HT_.out ?_
       refine px 17 29 (rs true [18, 15]) HT_.out ?_
       refine pu 18 30 (rs true [19, 14]) HT_.out ?_
       refine pu 19 31 (rs true [20, 13]) HT_.out ?_
       refine pu 20 32 (rs true [21, 12]) HT_.out ?_
       refine pu 21 33 (rs true [22, 11]) HT_.out ?_
       refine pu 22 34 (rs true [23, 10]) HT_.out ?_
       refine pu 23 35 (rs true [24, 9]) HT_.out ?_
       refine pu 24 36 (rs true [25, 8]) HT_.out ?_
       refine pu 25 37 (rs true [26, 7]) HT_.out ?_
       refine pu 26 38 (rs true [27, 6]) HT_.out ?_
       refine pu 27 39 (rs true [28, 5]) HT_.out ?_
       refine pu 28 40 (rs true [29, 4]) HT_.out ?_
       refine pu 29 41 (rs true [30, 3]) HT_.out ?_
       refine pu 30 42 (rs true [31, 2]) HT_.out ?_
       refine pu 31 43 (rs true [32, 1]) HT_.out ?_
       refine px 32 44 (rs true [33]) HT_.out ?_
       refine tV (kU HT_.out (by kernel_rfl)) ?_
       try go_wp2
       go_ret
       exact ⟨rt, bl1 HB.out xB.out⟩
      ·rw [if_neg c9] at H
       have afG : decide (((aT l0 iO).f1) < ((aT l0 iO).f0)) = false := decide_eq_false c9
       clear c9
       by_cases c14 : iO > 0
       ·rw [if_pos c14] at H
        have wM : decide (0 < iO) = true := decide_eq_true c14
        clear c14
        obtain ⟨lU, abW⟩ : ∃ j_ : Int, (wrap64 (iO - 1)) = j_ := ⟨_, rfl⟩
        replace H : (if 0 ≤ (lU) then (if (lU) < (l0.length : Int) then (if ((aT l0 iO).f0) < (wrap64 (((aT l0 (lU)).f1) + 2)) then (some false) else (bE.l0 k1 l0 l0 (l0.length : Int) (wrap64 (iO + 1)))) else (none)) else (none)) = some r := by first | (rw [abW] at H; exact H) | (simp only [abW] at H ⊢; exact H)
        (try rw [abW] at A5)
        (try rw [abW] at A7)
        have aAV : (IntKind.i64.wrap (iO - 1)) = lU := (jR _).trans abW
        by_cases c16 : 0 ≤ (lU)
        case neg => rw [if_neg c16] at H; exact absurd H (by simp)
        rw [if_pos c16] at H
        have apJ : decide (0 ≤ (lU)) = true := decide_eq_true c16
        clear c16
        by_cases c17 : (lU) < (l0.length : Int)
        case neg => rw [if_neg c17] at H; exact absurd H (by simp)
        rw [if_pos c17] at H
        have tY : decide ((lU) < (l0.length : Int)) = true := decide_eq_true c17
        clear c17
        by_cases c18 : ((aT l0 iO).f0) < (wrap64 (((aT l0 (lU)).f1) + 2))
        ·rw [if_pos c18] at H
         have aeU : decide (((aT l0 iO).f0) < (wrap64 (((aT l0 (lU)).f1) + 2))) = true := decide_eq_true c18
         clear c18
         obtain rfl := Option.some.inj H
         have abU : 0 ≤ (iO : Int) := of_decide_eq_true asm
         have abV : iO < (l0.length : Int) := of_decide_eq_true asm
         obtain ⟨aaJ, e323, kN, kP⟩ := jW HR0.out iO abU abV
         cases e323
         replace kN := (HB.out.cell (World.block_lt_of_cell? w _ kN)).trans kN
         replace kP := (HB.out.cell (World.block_lt_of_cell? w _ kP)).trans kP
         replace abU := eq_true abU
         replace abV := eq_true abV
         try go_wp2_with (first | ((with_reducible refine bq (N := 4) rfl ?_); refine bx 4 23 #[.int .i64 0, .int .i64 0] ?_; intro iE hg w19 dL hb; have gq := am (dL); have akU := am ((bz hg HB.out : w.heap.size ≤ iE)); have xB := am ((bz hg HB.out : w.heap.size ≤ iE)); replace HB := am (au (bl HB.out) hb); clear hb dL hg; have rV : w19.cell? ⟨iE, 0, none⟩ = some (.int .i64 0) := bc gq.out 0; have rW : w19.cell? ⟨iE, 1, none⟩ = some (.int .i64 0) := bc gq.out 1; have rX := aj gq.out 0; have rY := aj gq.out 1))
         have n0_ : ay (((w19.setCell ⟨iE, 0, none⟩ (.int .i64 ((aT l0 iO).f0))).setCell ⟨iE, 1, none⟩ (.int .i64 ((aT l0 iO).f1))).heap[iE]? = some (.cells #[.int .i64 ((aT l0 iO).f0), .int .i64 ((aT l0 iO).f1)] 23 (0, 0))) := ⟨by (with_reducible repeat (first | refine aM ?_ _ | refine aI ?_ | refine aA ?_ _)); refine bX (cs := #[.int .i64 ((aT l0 iO).f0), .int .i64 0]) ?_ 1 _ rfl; (with_reducible repeat (first | refine aM ?_ _ | refine aI ?_ | refine aA ?_ _)); refine bX (cs := #[.int .i64 0, .int .i64 0]) ?_ 0 _ rfl; (with_reducible repeat (first | refine aM ?_ _ | refine aI ?_ | refine aA ?_ _)); exact gq.out⟩
         have n1_ : ay (Below w.heap.size w ((w19.setCell ⟨iE, 0, none⟩ (.int .i64 ((aT l0 iO).f0))).setCell ⟨iE, 1, none⟩ (.int .i64 ((aT l0 iO).f1)))) := ⟨bl1 HB.out xB.out⟩
         (try clear gq)
         (try clear HB)
         generalize ((w19.setCell ⟨iE, 0, none⟩ (.int .i64 ((aT l0 iO).f0))).setCell ⟨iE, 1, none⟩ (.int .i64 ((aT l0 iO).f1))) = w21 at n0_ n1_ ⊢
         have gq := n0_
         have HB := n1_
         clear n0_ n1_
         replace gq := am (aI gq.out)
         replace HB := am (dx HB.out)
         have aqF : 0 ≤ ((lU) : Int) := of_decide_eq_true asm
         have aqG : (lU) < (l0.length : Int) := of_decide_eq_true asm
         obtain ⟨aqH, aym, tq, tC⟩ := jW HR0.out (lU) aqF aqG
         have qy := tC
         have qz := tq
         obtain rfl : aaJ = aqH := (by injection aym)
         replace tq := (HB.out.cell (World.block_lt_of_cell? w _ tq)).trans tq
         replace tC := (HB.out.cell (World.block_lt_of_cell? w _ tC)).trans tC
         replace aqF := eq_true aqF
         replace aqG := eq_true aqG
         refine nW (n := 33) (S := fun w' => w'.cell? ⟨iE, 0, none⟩ = some (.int .i64 ((aT l0 iO).f0)) ∧ w'.cell? ⟨iE, 1, none⟩ = some (.int .i64 ((aT l0 iO).f1)) ∧ w'.cell? (aaJ.add (((lU)).toNat * 2)) = some (.int .i64 ((aT l0 (lU)).f0)) ∧ w'.cell? ⟨(aaJ.add (((lU)).toNat * 2)).block, (aaJ.add (((lU)).toNat * 2)).off + 1, none⟩ = some (.int .i64 ((aT l0 (lU)).f1))) (ds := []) (rs false [33]) (by kernel_rfl) rfl rfl ⟨bc gq.out 0, bc gq.out 1, ((HB.out.cell (World.block_lt_of_cell? w _ qz)).trans qz), ((HB.out.cell (World.block_lt_of_cell? w _ qy)).trans qy)⟩ (fun hHeld => ?_); refine ji bE.asa bE.aiQ (fun HT_ HW_ => ?_)
         generalize w21.drew = w22 at gq HB tq tC hHeld ⊢
         refine px 0 12 (rs true [1, 32]) HT_.out ?_
         refine tx 1 13 (rs true [2, 31]) HT_.out HW_.out hHeld ?_
         refine oZ (i := 2) (N := some 14) (rs true [3, 30]) rfl rfl (gM HT_.out (by kernel_rfl)) (by decide) (fun K hK => ?_)
         refine kg Try.func66 (by kernel_rfl) rfl #[.int .i64 ((aT l0 iO).f0)] (by rfl) rfl rfl ar ?_
         with_reducible refine (gJ.calls ((aT l0 iO).f0) true _ A5.out).mono ?_
         rintro e w' ⟨rfl, ⟨nd, rfl⟩⟩
         refine ⟨_, rfl, ?_⟩
         refine hK.out _ _ ⟨bc gq.out 0, bc gq.out 1, ((HB.out.cell (World.block_lt_of_cell? w _ qz)).trans qz), ((HB.out.cell (World.block_lt_of_cell? w _ qy)).trans qy)⟩ (fun hHeld => ?_)
         clear hK K
         refine nx 14 ?_
         refine px 3 15 (rs true [4, 29]) HT_.out ?_
         refine px 4 16 (rs true [5, 28]) HT_.out ?_
         refine px 5 17 (rs true [6, 27]) HT_.out ?_
         refine tx 6 18 (rs true [7, 26]) HT_.out HW_.out hHeld ?_
         refine oZ (i := 7) (N := some 19) (rs true [8, 25]) rfl rfl (gM HT_.out (by kernel_rfl)) (by decide) (fun K hK => ?_)
         refine kg Try.func66 (by kernel_rfl) rfl #[.int .i64 ((aT l0 iO).f1)] (by rfl) rfl rfl ar ?_
         with_reducible refine (gJ.calls ((aT l0 iO).f1) true _ A7.out).mono ?_
         rintro e w' ⟨rfl, ⟨nd, rfl⟩⟩
         refine ⟨_, rfl, ?_⟩
         refine hK.out _ _ ⟨bc gq.out 0, bc gq.out 1, ((HB.out.cell (World.block_lt_of_cell? w _ qz)).trans qz), ((HB.out.cell (World.block_lt_of_cell? w _ qy)).trans qy)⟩ (fun hHeld => ?_)
         clear hK K
         refine nx 19 ?_
         refine px 8 20 (rs true [9, 24]) HT_.out ?_
         refine px 9 21 (rs true [10, 23]) HT_.out ?_
         refine px 10 22 (rs true [11, 22]) HT_.out ?_
         refine px 11 23 (rs true [12, 21]) HT_.out ?_
         refine px 13 25 (rs true [12, 1, 1, 19]) HT_.out ?_
         refine tx 12 24 (rs true [14, 19]) HT_.out HW_.out hHeld ?_
         refine tx 14 26 (rs true [15, 18]) HT_.out HW_.out hHeld ?_
         refine px 15 27 (rs true [16, 17]) HT_.out ?_
         refine px 16 28 (rs true [17, 16]) HT_.out ?_
         refine px 17 29 (rs true [18, 15]) HT_.out ?_
         refine px 18 30 (rs true [19, 14]) HT_.out ?_
         refine px 19 31 (rs true [20, 13]) HT_.out ?_
         refine px 20 32 (rs true [21, 12]) HT_.out ?_
         refine px 21 33 (rs true [22, 11]) HT_.out ?_
         refine px 23 35 (rs true [22, 1, 1, 9]) HT_.out ?_
         refine px 24 36 (rs true [22, 1, 2, 8]) HT_.out ?_
         refine px 25 37 (rs true [22, 1, 3, 7]) HT_.out ?_
         refine px 26 38 (rs true [22, 1, 4, 6]) HT_.out ?_
         refine px 27 39 (rs true [22, 1, 5, 5]) HT_.out ?_
         refine tx 22 34 (rs true [28, 5]) HT_.out HW_.out hHeld ?_
         refine tx 28 40 (rs true [29, 4]) HT_.out HW_.out hHeld ?_
         refine px 29 41 (rs true [30, 3]) HT_.out ?_
         refine px 30 42 (rs true [31, 2]) HT_.out ?_
         refine px 31 43 (rs true [32, 1]) HT_.out ?_
         refine px 32 44 (rs true [33]) HT_.out ?_
         refine tV (kU HT_.out (by kernel_rfl)) ?_
         try go_wp2
         go_ret
         exact ⟨by first | rfl | (simp [gu, gB] <;> rfl) | (simp only [← abW]; first | rfl | (simp [gu, gB] <;> rfl)) | (simp [*, gu, gB] <;> rfl), bl1 HB.out xB.out⟩
        ·rw [if_neg c18] at H
         have aeU : decide (((aT l0 iO).f0) < (wrap64 (((aT l0 (lU)).f1) + 2))) = false := decide_eq_false c18
         clear c18
         have H' := am H
         clear H
         have abU : 0 ≤ (iO : Int) := of_decide_eq_true asm
         have abV : iO < (l0.length : Int) := of_decide_eq_true asm
         obtain ⟨aaJ, e323, kN, kP⟩ := jW HR0.out iO abU abV
         cases e323
         replace kN := (HB.out.cell (World.block_lt_of_cell? w _ kN)).trans kN
         replace kP := (HB.out.cell (World.block_lt_of_cell? w _ kP)).trans kP
         replace abU := eq_true abU
         replace abV := eq_true abV
         try go_wp2_with (first | ((with_reducible refine bq (N := 4) rfl ?_); refine bx 4 23 #[.int .i64 0, .int .i64 0] ?_; intro iE hg w23 dL hb; have gq := am (dL); have akU := am ((bz hg HB.out : w.heap.size ≤ iE)); have xB := am ((bz hg HB.out : w.heap.size ≤ iE)); replace HB := am (au (bl HB.out) hb); clear hb dL hg; have abJ : w23.cell? ⟨iE, 0, none⟩ = some (.int .i64 0) := bc gq.out 0; have abK : w23.cell? ⟨iE, 1, none⟩ = some (.int .i64 0) := bc gq.out 1; have abL := aj gq.out 0; have abM := aj gq.out 1))
         have n0_ : ay (((w23.setCell ⟨iE, 0, none⟩ (.int .i64 ((aT l0 iO).f0))).setCell ⟨iE, 1, none⟩ (.int .i64 ((aT l0 iO).f1))).heap[iE]? = some (.cells #[.int .i64 ((aT l0 iO).f0), .int .i64 ((aT l0 iO).f1)] 23 (0, 0))) := ⟨by (with_reducible repeat (first | refine aM ?_ _ | refine aI ?_ | refine aA ?_ _)); refine bX (cs := #[.int .i64 ((aT l0 iO).f0), .int .i64 0]) ?_ 1 _ rfl; (with_reducible repeat (first | refine aM ?_ _ | refine aI ?_ | refine aA ?_ _)); refine bX (cs := #[.int .i64 0, .int .i64 0]) ?_ 0 _ rfl; (with_reducible repeat (first | refine aM ?_ _ | refine aI ?_ | refine aA ?_ _)); exact gq.out⟩
         have n1_ : ay (Below w.heap.size w ((w23.setCell ⟨iE, 0, none⟩ (.int .i64 ((aT l0 iO).f0))).setCell ⟨iE, 1, none⟩ (.int .i64 ((aT l0 iO).f1)))) := ⟨bl1 HB.out xB.out⟩
         (try clear gq)
         (try clear HB)
         generalize ((w23.setCell ⟨iE, 0, none⟩ (.int .i64 ((aT l0 iO).f0))).setCell ⟨iE, 1, none⟩ (.int .i64 ((aT l0 iO).f1))) = w25 at n0_ n1_ ⊢
         have gq := n0_
         have HB := n1_
         clear n0_ n1_
         replace gq := am (aI gq.out)
         replace HB := am (dx HB.out)
         have aqF : 0 ≤ ((lU) : Int) := of_decide_eq_true asm
         have aqG : (lU) < (l0.length : Int) := of_decide_eq_true asm
         obtain ⟨aqH, aym, tq, tC⟩ := jW HR0.out (lU) aqF aqG
         have qy := tC
         have qz := tq
         obtain rfl : aaJ = aqH := (by injection aym)
         replace tq := (HB.out.cell (World.block_lt_of_cell? w _ tq)).trans tq
         replace tC := (HB.out.cell (World.block_lt_of_cell? w _ tC)).trans tC
         replace aqF := eq_true aqF
         replace aqG := eq_true aqG
         refine nW (n := 33) (S := fun w' => w'.cell? ⟨iE, 0, none⟩ = some (.int .i64 ((aT l0 iO).f0)) ∧ w'.cell? ⟨iE, 1, none⟩ = some (.int .i64 ((aT l0 iO).f1)) ∧ w'.cell? (aaJ.add (((lU)).toNat * 2)) = some (.int .i64 ((aT l0 (lU)).f0)) ∧ w'.cell? ⟨(aaJ.add (((lU)).toNat * 2)).block, (aaJ.add (((lU)).toNat * 2)).off + 1, none⟩ = some (.int .i64 ((aT l0 (lU)).f1))) (ds := []) (rs false [33]) (by kernel_rfl) rfl rfl ⟨bc gq.out 0, bc gq.out 1, ((HB.out.cell (World.block_lt_of_cell? w _ qz)).trans qz), ((HB.out.cell (World.block_lt_of_cell? w _ qy)).trans qy)⟩ (fun hHeld => ?_); refine ji bE.asa bE.aiQ (fun HT_ HW_ => ?_)
         generalize w25.drew = w26 at gq HB tq tC hHeld ⊢
         refine px 0 12 (rs true [1, 32]) HT_.out ?_
         refine tx 1 13 (rs true [2, 31]) HT_.out HW_.out hHeld ?_
         refine oZ (i := 2) (N := some 14) (rs true [3, 30]) rfl rfl (gM HT_.out (by kernel_rfl)) (by decide) (fun K hK => ?_)
         refine kg Try.func66 (by kernel_rfl) rfl #[.int .i64 ((aT l0 iO).f0)] (by rfl) rfl rfl ar ?_
         with_reducible refine (gJ.calls ((aT l0 iO).f0) true _ A5.out).mono ?_
         rintro e w' ⟨rfl, ⟨nd, rfl⟩⟩
         refine ⟨_, rfl, ?_⟩
         refine hK.out _ _ ⟨bc gq.out 0, bc gq.out 1, ((HB.out.cell (World.block_lt_of_cell? w _ qz)).trans qz), ((HB.out.cell (World.block_lt_of_cell? w _ qy)).trans qy)⟩ (fun hHeld => ?_)
         clear hK K
         refine nx 14 ?_
         refine px 3 15 (rs true [4, 29]) HT_.out ?_
         refine px 4 16 (rs true [5, 28]) HT_.out ?_
         refine px 5 17 (rs true [6, 27]) HT_.out ?_
         refine tx 6 18 (rs true [7, 26]) HT_.out HW_.out hHeld ?_
         refine oZ (i := 7) (N := some 19) (rs true [8, 25]) rfl rfl (gM HT_.out (by kernel_rfl)) (by decide) (fun K hK => ?_)
         refine kg Try.func66 (by kernel_rfl) rfl #[.int .i64 ((aT l0 iO).f1)] (by rfl) rfl rfl ar ?_
         with_reducible refine (gJ.calls ((aT l0 iO).f1) true _ A7.out).mono ?_
         rintro e w' ⟨rfl, ⟨nd, rfl⟩⟩
         refine ⟨_, rfl, ?_⟩
         refine hK.out _ _ ⟨bc gq.out 0, bc gq.out 1, ((HB.out.cell (World.block_lt_of_cell? w _ qz)).trans qz), ((HB.out.cell (World.block_lt_of_cell? w _ qy)).trans qy)⟩ (fun hHeld => ?_)
         clear hK K
         refine nx 19 ?_
         refine px 8 20 (rs true [9, 24]) HT_.out ?_
         refine px 9 21 (rs true [10, 23]) HT_.out ?_
         refine px 10 22 (rs true [11, 22]) HT_.out ?_
         refine px 11 23 (rs true [12, 21]) HT_.out ?_
         refine px 13 25 (rs true [12, 1, 1, 19]) HT_.out ?_
         refine tx 12 24 (rs true [14, 19]) HT_.out HW_.out hHeld ?_
         refine tx 14 26 (rs true [15, 18]) HT_.out HW_.out hHeld ?_
         refine px 15 27 (rs true [16, 17]) HT_.out ?_
         refine px 16 28 (rs true [17, 16]) HT_.out ?_
         refine px 17 29 (rs true [18, 15]) HT_.out ?_
         refine px 18 30 (rs true [19, 14]) HT_.out ?_
         refine px 19 31 (rs true [20, 13]) HT_.out ?_
         refine px 20 32 (rs true [21, 12]) HT_.out ?_
         refine px 21 33 (rs true [22, 11]) HT_.out ?_
         refine px 23 35 (rs true [22, 1, 1, 9]) HT_.out ?_
         refine px 24 36 (rs true [22, 1, 2, 8]) HT_.out ?_
         refine px 25 37 (rs true [22, 1, 3, 7]) HT_.out ?_
         refine px 26 38 (rs true [22, 1, 4, 6]) HT_.out ?_
         refine px 27 39 (rs true [22, 1, 5, 5]) HT_.out ?_
         refine tx 22 34 (rs true [28, 5]) HT_.out HW_.out hHeld ?_
         refine tx 28 40 (rs true [29, 4]) HT_.out HW_.out hHeld ?_
         refine px 29 41 (rs true [30, 3]) HT_.out ?_
         refine px 30 42 (rs true [31, 2]) HT_.out ?_
         refine px 31 43 (rs true [32, 1]) HT_.out ?_
         refine px 32 44 (rs true [33]) HT_.out ?_
         refine tV (kU HT_.out (by kernel_rfl)) ?_
         try go_wp2
         go_roundg k1
         case measure => have := HK1.out; omega
         case rel => exact ⟨(wrap64 (iO + 1)), sm, H', ⟨by have := HK1.out; omega⟩, ⟨bl1 HB.out xB.out⟩⟩
       ·rw [if_neg c14] at H
        have wM : decide (0 < iO) = false := decide_eq_false c14
        clear c14
        have H' := am H
        clear H
        have abU : 0 ≤ (iO : Int) := of_decide_eq_true asm
        have abV : iO < (l0.length : Int) := of_decide_eq_true asm
        obtain ⟨aaJ, e323, kN, kP⟩ := jW HR0.out iO abU abV
        cases e323
        replace kN := (HB.out.cell (World.block_lt_of_cell? w _ kN)).trans kN
        replace kP := (HB.out.cell (World.block_lt_of_cell? w _ kP)).trans kP
        replace abU := eq_true abU
        replace abV := eq_true abV
        try go_wp2_with (first | ((with_reducible refine bq (N := 4) rfl ?_); refine bx 4 23 #[.int .i64 0, .int .i64 0] ?_; intro iE hg w27 dL hb; have gq := am (dL); have akU := am ((bz hg HB.out : w.heap.size ≤ iE)); have xB := am ((bz hg HB.out : w.heap.size ≤ iE)); replace HB := am (au (bl HB.out) hb); clear hb dL hg; have ayn : w27.cell? ⟨iE, 0, none⟩ = some (.int .i64 0) := bc gq.out 0; have ayo : w27.cell? ⟨iE, 1, none⟩ = some (.int .i64 0) := bc gq.out 1; have ayp := aj gq.out 0; have ayq := aj gq.out 1))
        have n0_ : ay (((w27.setCell ⟨iE, 0, none⟩ (.int .i64 ((aT l0 iO).f0))).setCell ⟨iE, 1, none⟩ (.int .i64 ((aT l0 iO).f1))).heap[iE]? = some (.cells #[.int .i64 ((aT l0 iO).f0), .int .i64 ((aT l0 iO).f1)] 23 (0, 0))) := ⟨by (with_reducible repeat (first | refine aM ?_ _ | refine aI ?_ | refine aA ?_ _)); refine bX (cs := #[.int .i64 ((aT l0 iO).f0), .int .i64 0]) ?_ 1 _ rfl; (with_reducible repeat (first | refine aM ?_ _ | refine aI ?_ | refine aA ?_ _)); refine bX (cs := #[.int .i64 0, .int .i64 0]) ?_ 0 _ rfl; (with_reducible repeat (first | refine aM ?_ _ | refine aI ?_ | refine aA ?_ _)); exact gq.out⟩
        have n1_ : ay (Below w.heap.size w ((w27.setCell ⟨iE, 0, none⟩ (.int .i64 ((aT l0 iO).f0))).setCell ⟨iE, 1, none⟩ (.int .i64 ((aT l0 iO).f1)))) := ⟨bl1 HB.out xB.out⟩
        (try clear gq)
        (try clear HB)
        generalize ((w27.setCell ⟨iE, 0, none⟩ (.int .i64 ((aT l0 iO).f0))).setCell ⟨iE, 1, none⟩ (.int .i64 ((aT l0 iO).f1))) = w29 at n0_ n1_ ⊢
        have gq := n0_
        have HB := n1_
        clear n0_ n1_
        replace gq := am (aI gq.out)
        replace HB := am (dx HB.out)
        refine nW (n := 33) (S := fun w' => w'.cell? ⟨iE, 0, none⟩ = some (.int .i64 ((aT l0 iO).f0)) ∧ w'.cell? ⟨iE, 1, none⟩ = some (.int .i64 ((aT l0 iO).f1))) (ds := []) (rs false [33]) (by kernel_rfl) rfl rfl ⟨bc gq.out 0, bc gq.out 1⟩ (fun hHeld => ?_); refine ji bE.asa bE.aiQ (fun HT_ HW_ => ?_)
        generalize w29.drew = w30 at gq HB hHeld ⊢
        refine px 0 12 (rs true [1, 32]) HT_.out ?_
        refine tx 1 13 (rs true [2, 31]) HT_.out HW_.out hHeld ?_
        refine oZ (i := 2) (N := some 14) (rs true [3, 30]) rfl rfl (gM HT_.out (by kernel_rfl)) (by decide) (fun K hK => ?_)
        refine kg Try.func66 (by kernel_rfl) rfl #[.int .i64 ((aT l0 iO).f0)] (by rfl) rfl rfl ar ?_
        with_reducible refine (gJ.calls ((aT l0 iO).f0) true _ A5.out).mono ?_
        rintro e w' ⟨rfl, ⟨nd, rfl⟩⟩
        refine ⟨_, rfl, ?_⟩
        refine hK.out _ _ ⟨bc gq.out 0, bc gq.out 1⟩ (fun hHeld => ?_)
        clear hK K
        refine nx 14 ?_
        refine px 3 15 (rs true [4, 29]) HT_.out ?_
        refine px 4 16 (rs true [5, 28]) HT_.out ?_
        refine px 5 17 (rs true [6, 27]) HT_.out ?_
        refine tx 6 18 (rs true [7, 26]) HT_.out HW_.out hHeld ?_
        refine oZ (i := 7) (N := some 19) (rs true [8, 25]) rfl rfl (gM HT_.out (by kernel_rfl)) (by decide) (fun K hK => ?_)
        refine kg Try.func66 (by kernel_rfl) rfl #[.int .i64 ((aT l0 iO).f1)] (by rfl) rfl rfl ar ?_
        with_reducible refine (gJ.calls ((aT l0 iO).f1) true _ A7.out).mono ?_
        rintro e w' ⟨rfl, ⟨nd, rfl⟩⟩
        refine ⟨_, rfl, ?_⟩
        refine hK.out _ _ ⟨bc gq.out 0, bc gq.out 1⟩ (fun hHeld => ?_)
        clear hK K
        refine nx 19 ?_
        refine px 8 20 (rs true [9, 24]) HT_.out ?_
        refine px 9 21 (rs true [10, 23]) HT_.out ?_
        refine px 10 22 (rs true [11, 22]) HT_.out ?_
        refine px 11 23 (rs true [12, 21]) HT_.out ?_
        refine px 13 25 (rs true [12, 1, 1, 19]) HT_.out ?_
        refine tx 12 24 (rs true [14, 19]) HT_.out HW_.out hHeld ?_
        refine tx 14 26 (rs true [15, 18]) HT_.out HW_.out hHeld ?_
        refine px 15 27 (rs true [16, 17]) HT_.out ?_
        refine px 16 28 (rs true [17, 16]) HT_.out ?_
        refine px 17 29 (rs true [18, 15]) HT_.out ?_
        refine px 18 30 (rs true [19, 14]) HT_.out ?_
        refine px 19 31 (rs true [20, 13]) HT_.out ?_
        refine px 20 32 (rs true [21, 12]) HT_.out ?_
        refine pu 21 33 (rs true [22, 11]) HT_.out ?_
        refine pu 22 34 (rs true [23, 10]) HT_.out ?_
        refine pu 23 35 (rs true [24, 9]) HT_.out ?_
        refine pu 24 36 (rs true [25, 8]) HT_.out ?_
        refine pu 25 37 (rs true [26, 7]) HT_.out ?_
        refine pu 26 38 (rs true [27, 6]) HT_.out ?_
        refine pu 27 39 (rs true [28, 5]) HT_.out ?_
        refine pu 28 40 (rs true [29, 4]) HT_.out ?_
        refine pu 29 41 (rs true [30, 3]) HT_.out ?_
        refine pu 30 42 (rs true [31, 2]) HT_.out ?_
        refine px 31 43 (rs true [32, 1]) HT_.out ?_
        refine px 32 44 (rs true [33]) HT_.out ?_
        refine tV (kU HT_.out (by kernel_rfl)) ?_
        try go_wp2
        go_roundg k1
        case measure => have := HK1.out; omega
        case rel => exact ⟨(wrap64 (iO + 1)), sm, H', ⟨by have := HK1.out; omega⟩, ⟨bl1 HB.out xB.out⟩⟩
     ·replace c8 := Bool.eq_false_iff.mpr c8
      subst c8
      have H1 : (some false) = some r := by rw [if_neg (show ¬ (false = true) by decide)] at H; exact H
      clear H
      have H := H1
      clear H1
      obtain rfl := Option.some.inj H
      have abU : 0 ≤ (iO : Int) := of_decide_eq_true asm
      have abV : iO < (l0.length : Int) := of_decide_eq_true asm
      obtain ⟨aaJ, e323, kN, kP⟩ := jW HR0.out iO abU abV
      cases e323
      replace kN := (HB.out.cell (World.block_lt_of_cell? w _ kN)).trans kN
      replace kP := (HB.out.cell (World.block_lt_of_cell? w _ kP)).trans kP
      replace abU := eq_true abU
      replace abV := eq_true abV
      try go_wp2_with (first | ((with_reducible refine bq (N := 4) rfl ?_); refine bx 4 23 #[.int .i64 0, .int .i64 0] ?_; intro iE hg w31 dL hb; have gq := am (dL); have akU := am ((bz hg HB.out : w.heap.size ≤ iE)); have xB := am ((bz hg HB.out : w.heap.size ≤ iE)); replace HB := am (au (bl HB.out) hb); clear hb dL hg; have adO : w31.cell? ⟨iE, 0, none⟩ = some (.int .i64 0) := bc gq.out 0; have adP : w31.cell? ⟨iE, 1, none⟩ = some (.int .i64 0) := bc gq.out 1; have adQ := aj gq.out 0; have adR := aj gq.out 1))
      have n0_ : ay (((w31.setCell ⟨iE, 0, none⟩ (.int .i64 ((aT l0 iO).f0))).setCell ⟨iE, 1, none⟩ (.int .i64 ((aT l0 iO).f1))).heap[iE]? = some (.cells #[.int .i64 ((aT l0 iO).f0), .int .i64 ((aT l0 iO).f1)] 23 (0, 0))) := ⟨by (with_reducible repeat (first | refine aM ?_ _ | refine aI ?_ | refine aA ?_ _)); refine bX (cs := #[.int .i64 ((aT l0 iO).f0), .int .i64 0]) ?_ 1 _ rfl; (with_reducible repeat (first | refine aM ?_ _ | refine aI ?_ | refine aA ?_ _)); refine bX (cs := #[.int .i64 0, .int .i64 0]) ?_ 0 _ rfl; (with_reducible repeat (first | refine aM ?_ _ | refine aI ?_ | refine aA ?_ _)); exact gq.out⟩
      have n1_ : ay (Below w.heap.size w ((w31.setCell ⟨iE, 0, none⟩ (.int .i64 ((aT l0 iO).f0))).setCell ⟨iE, 1, none⟩ (.int .i64 ((aT l0 iO).f1)))) := ⟨bl1 HB.out xB.out⟩
      (try clear gq)
      (try clear HB)
      generalize ((w31.setCell ⟨iE, 0, none⟩ (.int .i64 ((aT l0 iO).f0))).setCell ⟨iE, 1, none⟩ (.int .i64 ((aT l0 iO).f1))) = w33 at n0_ n1_ ⊢
      have gq := n0_
      have HB := n1_
      clear n0_ n1_
      replace gq := am (aI gq.out)
      replace HB := am (dx HB.out)
      refine nW (n := 33) (S := fun w' => w'.cell? ⟨iE, 0, none⟩ = some (.int .i64 ((aT l0 iO).f0)) ∧ w'.cell? ⟨iE, 1, none⟩ = some (.int .i64 ((aT l0 iO).f1))) (ds := []) (rs false [33]) (by kernel_rfl) rfl rfl ⟨bc gq.out 0, bc gq.out 1⟩ (fun hHeld => ?_); refine ji bE.asa bE.aiQ (fun HT_ HW_ => ?_)
      generalize w33.drew = w34 at gq HB hHeld ⊢
      refine px 0 12 (rs true [1, 32]) HT_.out ?_
      refine tx 1 13 (rs true [2, 31]) HT_.out HW_.out hHeld ?_
      refine oZ (i := 2) (N := some 14) (rs true [3, 30]) rfl rfl (gM HT_.out (by kernel_rfl)) (by decide) (fun K hK => ?_)
      refine kg Try.func66 (by kernel_rfl) rfl #[.int .i64 ((aT l0 iO).f0)] (by rfl) rfl rfl ar ?_
      with_reducible refine (gJ.calls ((aT l0 iO).f0) true _ A5.out).mono ?_
      rintro e w' ⟨rfl, ⟨nd, rfl⟩⟩
      refine ⟨_, rfl, ?_⟩
      refine hK.out _ _ ⟨bc gq.out 0, bc gq.out 1⟩ (fun hHeld => ?_)
      clear hK K
      refine nx 14 ?_
      refine px 3 15 (rs true [4, 29]) HT_.out ?_
      refine px 4 16 (rs true [5, 28]) HT_.out ?_
      refine px 5 17 (rs true [6, 27]) HT_.out ?_
      refine tx 6 18 (rs true [7, 26]) HT_.out HW_.out hHeld ?_
      refine oZ (i := 7) (N := some 19) (rs true [8, 25]) rfl rfl (gM HT_.out (by kernel_rfl)) (by decide) (fun K hK => ?_)
      refine kg Try.func66 (by kernel_rfl) rfl #[.int .i64 ((aT l0 iO).f1)] (by rfl) rfl rfl ar ?_
      with_reducible refine (gJ.calls ((aT l0 iO).f1) false _ A7.out).mono ?_
      rintro e w' ⟨rfl, ⟨nd, rfl⟩⟩
      refine ⟨_, rfl, ?_⟩
      refine hK.out _ _ ⟨bc gq.out 0, bc gq.out 1⟩ (fun hHeld => ?_)
      clear hK K
      refine nx 19 ?_
      refine px 8 20 (rs true [9, 24]) HT_.out ?_
      refine px 9 21 (rs true [10, 23]) HT_.out ?_
      refine px 10 22 (rs true [11, 22]) HT_.out ?_
      refine pu 11 23 (rs true [12, 21]) HT_.out ?_
      refine pu 12 24 (rs true [13, 20]) HT_.out ?_
      refine pu 13 25 (rs true [14, 19]) HT_.out ?_
      refine pu 14 26 (rs true [15, 18]) HT_.out ?_
      refine pu 15 27 (rs true [16, 17]) HT_.out ?_
      refine px 16 28 (rs true [17, 16]) HT_.out ?_
      refine px 17 29 (rs true [18, 15]) HT_.out ?_
      refine pu 18 30 (rs true [19, 14]) HT_.out ?_
      refine pu 19 31 (rs true [20, 13]) HT_.out ?_
      refine pu 20 32 (rs true [21, 12]) HT_.out ?_
      refine pu 21 33 (rs true [22, 11]) HT_.out ?_
      refine pu 22 34 (rs true [23, 10]) HT_.out ?_
      refine pu 23 35 (rs true [24, 9]) HT_.out ?_
      refine pu 24 36 (rs true [25, 8]) HT_.out ?_
      refine pu 25 37 (rs true [26, 7]) HT_.out ?_
      refine pu 26 38 (rs true [27, 6]) HT_.out ?_
      refine pu 27 39 (rs true [28, 5]) HT_.out ?_
      refine pu 28 40 (rs true [29, 4]) HT_.out ?_
      refine pu 29 41 (rs true [30, 3]) HT_.out ?_
      refine pu 30 42 (rs true [31, 2]) HT_.out ?_
      refine pu 31 43 (rs true [32, 1]) HT_.out ?_
      refine px 32 44 (rs true [33]) HT_.out ?_
      refine tV (kU HT_.out (by kernel_rfl)) ?_
      try go_wp2
      go_ret
      exact ⟨rt, bl1 HB.out xB.out⟩
    ·replace c6 := Bool.eq_false_iff.mpr c6
     subst c6
     have H1 : (some false) = some r := by rw [if_neg (show ¬ (false = true) by decide)] at H; exact H
     clear H
     have H := H1
     clear H1
     obtain rfl := Option.some.inj H
     have abU : 0 ≤ (iO : Int) := of_decide_eq_true asm
     have abV : iO < (l0.length : Int) := of_decide_eq_true asm
     obtain ⟨aaJ, e323, kN, kP⟩ := jW HR0.out iO abU abV
     cases e323
     replace kN := (HB.out.cell (World.block_lt_of_cell? w _ kN)).trans kN
     replace kP := (HB.out.cell (World.block_lt_of_cell? w _ kP)).trans kP
     replace abU := eq_true abU
     replace abV := eq_true abV
     try go_wp2_with (first | ((with_reducible refine bq (N := 4) rfl ?_); refine bx 4 23 #[.int .i64 0, .int .i64 0] ?_; intro iE hg w35 dL hb; have gq := am (dL); have akU := am ((bz hg HB.out : w.heap.size ≤ iE)); have xB := am ((bz hg HB.out : w.heap.size ≤ iE)); replace HB := am (au (bl HB.out) hb); clear hb dL hg; have agj : w35.cell? ⟨iE, 0, none⟩ = some (.int .i64 0) := bc gq.out 0; have agk : w35.cell? ⟨iE, 1, none⟩ = some (.int .i64 0) := bc gq.out 1; have agl := aj gq.out 0; have agm := aj gq.out 1))
     have n0_ : ay (((w35.setCell ⟨iE, 0, none⟩ (.int .i64 ((aT l0 iO).f0))).setCell ⟨iE, 1, none⟩ (.int .i64 ((aT l0 iO).f1))).heap[iE]? = some (.cells #[.int .i64 ((aT l0 iO).f0), .int .i64 ((aT l0 iO).f1)] 23 (0, 0))) := ⟨by (with_reducible repeat (first | refine aM ?_ _ | refine aI ?_ | refine aA ?_ _)); refine bX (cs := #[.int .i64 ((aT l0 iO).f0), .int .i64 0]) ?_ 1 _ rfl; (with_reducible repeat (first | refine aM ?_ _ | refine aI ?_ | refine aA ?_ _)); refine bX (cs := #[.int .i64 0, .int .i64 0]) ?_ 0 _ rfl; (with_reducible repeat (first | refine aM ?_ _ | refine aI ?_ | refine aA ?_ _)); exact gq.out⟩
     have n1_ : ay (Below w.heap.size w ((w35.setCell ⟨iE, 0, none⟩ (.int .i64 ((aT l0 iO).f0))).setCell ⟨iE, 1, none⟩ (.int .i64 ((aT l0 iO).f1)))) := ⟨bl1 HB.out xB.out⟩
     (try clear gq)
     (try clear HB)
     generalize ((w35.setCell ⟨iE, 0, none⟩ (.int .i64 ((aT l0 iO).f0))).setCell ⟨iE, 1, none⟩ (.int .i64 ((aT l0 iO).f1))) = w37 at n0_ n1_ ⊢
     have gq := n0_
     have HB := n1_
     clear n0_ n1_
     replace gq := am (aI gq.out)
     replace HB := am (dx HB.out)
     refine nW (n := 33) (S := fun w' => w'.cell? ⟨iE, 0, none⟩ = some (.int .i64 ((aT l0 iO).f0)) ∧ w'.cell? ⟨iE, 1, none⟩ = some (.int .i64 ((aT l0 iO).f1))) (ds := []) (rs false [33]) (by kernel_rfl) rfl rfl ⟨bc gq.out 0, bc gq.out 1⟩ (fun hHeld => ?_); refine ji bE.asa bE.aiQ (fun HT_ HW_ => ?_)
     generalize w37.drew = w38 at gq HB hHeld ⊢
     refine px 0 12 (rs true [1, 32]) HT_.out ?_
     refine tx 1 13 (rs true [2, 31]) HT_.out HW_.out hHeld ?_
     refine oZ (i := 2) (N := some 14) (rs true [3, 30]) rfl rfl (gM HT_.out (by kernel_rfl)) (by decide) (fun K hK => ?_)
     refine kg Try.func66 (by kernel_rfl) rfl #[.int .i64 ((aT l0 iO).f0)] (by rfl) rfl rfl ar ?_
     with_reducible refine (gJ.calls ((aT l0 iO).f0) false _ A5.out).mono ?_
     rintro e w' ⟨rfl, ⟨nd, rfl⟩⟩
     refine ⟨_, rfl, ?_⟩
     refine hK.out _ _ ⟨bc gq.out 0, bc gq.out 1⟩ (fun hHeld => ?_)
     clear hK K
     refine nx 14 ?_
     refine px 3 15 (rs true [4, 29]) HT_.out ?_
     refine px 4 16 (rs true [5, 28]) HT_.out ?_
     refine pu 5 17 (rs true [6, 27]) HT_.out ?_
     refine pu 6 18 (rs true [7, 26]) HT_.out ?_
     refine pu 7 19 (rs true [8, 25]) HT_.out ?_
     refine pu 8 20 (rs true [9, 24]) HT_.out ?_
     refine px 9 21 (rs true [10, 23]) HT_.out ?_
     refine px 10 22 (rs true [11, 22]) HT_.out ?_
     refine pu 11 23 (rs true [12, 21]) HT_.out ?_
     refine pu 12 24 (rs true [13, 20]) HT_.out ?_
     refine pu 13 25 (rs true [14, 19]) HT_.out ?_
     refine pu 14 26 (rs true [15, 18]) HT_.out ?_
     refine pu 15 27 (rs true [16, 17]) HT_.out ?_
     refine px 16 28 (rs true [17, 16]) HT_.out ?_
     refine px 17 29 (rs true [18, 15]) HT_.out ?_
     refine pu 18 30 (rs true [19, 14]) HT_.out ?_
     refine pu 19 31 (rs true [20, 13]) HT_.out ?_
     refine pu 20 32 (rs true [21, 12]) HT_.out ?_
     refine pu 21 33 (rs true [22, 11]) HT_.out ?_
     refine pu 22 34 (rs true [23, 10]) HT_.out ?_
     refine pu 23 35 (rs true [24, 9]) HT_.out ?_
     refine pu 24 36 (rs true [25, 8]) HT_.out ?_
     refine pu 25 37 (rs true [26, 7]) HT_.out ?_
     refine pu 26 38 (rs true [27, 6]) HT_.out ?_
     refine pu 27 39 (rs true [28, 5]) HT_.out ?_
     refine pu 28 40 (rs true [29, 4]) HT_.out ?_
     refine pu 29 41 (rs true [30, 3]) HT_.out ?_
     refine pu 30 42 (rs true [31, 2]) HT_.out ?_
     refine pu 31 43 (rs true [32, 1]) HT_.out ?_
     refine px 32 44 (rs true [33]) HT_.out ?_
     refine tV (kU HT_.out (by kernel_rfl)) ?_
     try go_wp2
     go_ret
     exact ⟨rt, bl1 HB.out xB.out⟩
   ·rw [if_neg c2] at H
    have ajF : decide (iO < (l0.length : Int)) = false := decide_eq_false c2
    clear c2
    obtain rfl := Option.some.inj H
    go_wp2
    go_ret
    exact ⟨rt, bl HB.out⟩
def oO.f (l0 : List (S23)) (l1 : List (S23)) : Option (Bool) := (mQ.f l0 l1).bind fun atv => (some (decide ((atv.length : Int) > 0)))
set_option maxHeartbeats 8000000 in
set_option maxRecDepth 100000 in
theorem oO.calls (A0 : Option Addr) (c0 : Nat) (l0 : List (S23)) (A1 : Option Addr) (c1 : Nat) (l1 : List (S23)) (r : Bool) (w : World) (hr0 : Kd.C k23 w A0 l0.length l0) (hc0 : l0.length ≤ c0) (hr1 : Kd.C k23 w A1 l1.length l1) (hc1 : l1.length ≤ c1) (h : oO.f l0 l1 = some r) :
 Calls Try.prog 38 #[.slice A0 l0.length c0, .slice A1 l1.length c1] w fun e w' => e = .returned (.bool r) ∧ Below w.heap.size w w' := by
 have HR0 := am hr0
 have HC0 := am hc0
 clear hr0 hc0
 have HR1 := am hr1
 have HC1 := am hc1
 clear hr1 hc1
 have HB := am (Below.refl w.heap.size w)
 have H : ((mQ.f l0 l1).bind fun atv => (some (decide ((atv.length : Int) > 0)))) = some r := h
 clear h
 replace H := Option.bind_eq_some_iff.mp H
 obtain ⟨atv, A30, H⟩ := H
 try dsimp only at H
 have A3 := am A30
 clear A30
 obtain rfl := Option.some.inj H
 go_enter Try.func38, Try.ntmps38
 go_wp2_with (first | ((with_reducible refine aC (f := 36) rfl ?_); refine bR (some 7) rfl rfl Try.func36 (by kernel_rfl) rfl #[.slice A0 l0.length c0, .slice A1 l1.length c1] rfl ar ?_; (with_reducible refine (mQ.calls _ _ l0 _ _ l1 atv _ ?bH ?bI ?dG ?dI A3.out).mono ?_); (case bH => exact kc HR0.out); (case bI => exact HC0.out); (case dG => exact kc HR1.out); (case dI => exact HC1.out); rintro e w4 ⟨aDP, rfl, ho0, hb⟩; refine ⟨_, rfl, ?_⟩; have ayr := am (Kd.jQ ho0 (bY (bl HB.out))); replace HB := am (au (bl HB.out) hb); (try clear hb); (try clear hb2); (try clear hk); (try clear hi); (try clear ho0); obtain ⟨Ao5, co5, eo5⟩ := Kd.iW ayr.out; subst eo5))
 go_ret
 exact ⟨rt, bl HB.out⟩
end Go.Proofs.Ytmbmalkpmanaaaa.P

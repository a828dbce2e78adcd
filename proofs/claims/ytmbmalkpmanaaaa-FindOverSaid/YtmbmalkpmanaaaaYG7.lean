/- Lemmas for laws of chapter 7: what the functions that they reach compute. No condition of its own. -/
import Derived.Test.YtmbmalkpmanaaaaYG4
import Derived.Test.YtmbmalkpmanaaaaYG2
import Derived.Test.YtmbmalkpmanaaaaYG6
import Derived.Test.YtmbmalkpmanaaaaYG5
import Derived.Laws.EntriesVeiled
import Derived.WalkSpells
import Derived.Outline
namespace Go.Proofs.Ytmbmalkpmanaaaa.P
open Go.RowKit Go.Proofs.YtmbmalkpmanaaaaW.aK Go.Proofs.YtmbmalkpmanaaaaW.bK Go.Proofs.YtmbmalkpmanaaaaW.bM
attribute [local go_sem] dS dU fG fH dB dD dV dW   -- for this text's walks alone
set_option linter.unusedVariables false
set_option linter.unusedSimpArgs false
mutual
def aV.j0 : Nat → Int → Int → Bool → Int → Int → List (List (S23)) → List (S70) → Option (Int × Bool)
 | 0, _, _, _, _, _, _, _ => none
 | k + 1, x2, x8, x24, x2085000, x2085001, x2085002, x2085003 => if x24 = true then (aV.j1 k x2 (wrap64 (x8 - 1)) x2085000 x2085001 x2085002 x2085003) else (aV.j1 k x2 x8 x2085000 x2085001 x2085002 x2085003)
def aV.j1 : Nat → Int → Int → Int → Int → List (List (S23)) → List (S70) → Option (Int × Bool)
 | 0, _, _, _, _, _, _ => none
 | k + 1, x2, x8, x2085000, x2085001, x2085002, x2085003 => aV.l0 k x2 x8 x2085000 x2085001 x2085002 x2085003
def aV.l0 : Nat → Int → Int → Int → Int → List (List (S23)) → List (S70) → Option (Int × Bool)
 | 0, _, _, _, _, _, _ => none
 | k + 1, x2, x8, x2085000, x2085001, x2085002, x2085003 => if x8 ≥ 0 then (aV.j3 k x2 x8 (decide (x8 < (x2085003.length : Int))) x2085000 x2085001 x2085002 x2085003) else (aV.j3 k x2 x8 false x2085000 x2085001 x2085002 x2085003)
def aV.j3 : Nat → Int → Int → Bool → Int → Int → List (List (S23)) → List (S70) → Option (Int × Bool)
 | 0, _, _, _, _, _, _, _ => none
 | k + 1, x2, x8, x35, x2085000, x2085001, x2085002, x2085003 => if x35 = true then (if 0 ≤ x8 then (if x8 < (x2085003.length : Int) then (if (((aU x2085003 x8).f1).length : Int) > 0 then (some ((aU x2085003 x8).f0, true)) else (aV.l0 k x2 (wrap64 (x8 + x2)) x2085000 x2085001 x2085002 x2085003)) else (none)) else (none)) else (some (0, false))
def aV.l1 : Nat → Int → Int → Int → Int → List (List (S23)) → List (S70) → Option (Int × Bool)
 | 0, _, _, _, _, _, _ => none
 | k + 1, x2, x10, x2085000, x2085001, x2085002, x2085003 => (gI.f x10).bind fun apu => (if apu = true then ((gZ.f k x2085000 x2085001 x2085002 x2085003 x10).bind fun aki => (if aki = true then (some (x10, true)) else (aV.l1 k x2 (wrap64 (x10 + x2)) x2085000 x2085001 x2085002 x2085003))) else (some (0, false)))
end
def aV.f (k : Nat) (aQ : Int) (aR : Int) (aH : List (List (S23))) (av : List (S70)) (a1 : Int) (a2 : Int) : Option (Int × Bool) := (iU.f k aQ aR aH av).bind fun akj => (if akj = true then ((iH.f k aQ aR aH av a1).bind fun xq => (if a2 < 0 then (aV.j0 k a2 xq.1 (!xq.2) aQ aR aH av) else (aV.j0 k a2 xq.1 false aQ aR aH av))) else (aV.l1 k a2 a1 aQ aR aH av))
theorem aV.iX : ∀ k, (∀ y0 y1 y2 y3 y4 y5 y6, LeO (aV.j0 k y0 y1 y2 y3 y4 y5 y6) (aV.j0 (k + 1) y0 y1 y2 y3 y4 y5 y6)) ∧ (∀ y0 y1 y2 y3 y4 y5, LeO (aV.j1 k y0 y1 y2 y3 y4 y5) (aV.j1 (k + 1) y0 y1 y2 y3 y4 y5)) ∧ (∀ y0 y1 y2 y3 y4 y5, LeO (aV.l0 k y0 y1 y2 y3 y4 y5) (aV.l0 (k + 1) y0 y1 y2 y3 y4 y5)) ∧ (∀ y0 y1 y2 y3 y4 y5 y6, LeO (aV.j3 k y0 y1 y2 y3 y4 y5 y6) (aV.j3 (k + 1) y0 y1 y2 y3 y4 y5 y6)) ∧ (∀ y0 y1 y2 y3 y4 y5, LeO (aV.l1 k y0 y1 y2 y3 y4 y5) (aV.l1 (k + 1) y0 y1 y2 y3 y4 y5))
 | 0 => ⟨fun _ _ _ _ _ _ _ r h => by simp [aV.j0] at h, fun _ _ _ _ _ _ r h => by simp [aV.j1] at h, fun _ _ _ _ _ _ r h => by simp [aV.l0] at h, fun _ _ _ _ _ _ _ r h => by simp [aV.j3] at h, fun _ _ _ _ _ _ r h => by simp [aV.l1] at h⟩
 | k + 1 => by
  obtain ⟨ih0, ih1, ih2, ih3, ih4⟩ := aV.iX k
  refine ⟨?_, ?_, ?_, ?_, ?_⟩
  ·intro y0 y1 y2 y3 y4 y5 y6
   unfold aV.j0
   repeat' first
   | (with_reducible exact ih0 _ _ _ _ _ _ _)
   | (with_reducible exact ih1 _ _ _ _ _ _)
   | (with_reducible exact ih2 _ _ _ _ _ _)
   | (with_reducible exact ih3 _ _ _ _ _ _ _)
   | (with_reducible exact ih4 _ _ _ _ _ _)
   | (with_reducible exact iU.mono _ _ _ _ _)
   | (with_reducible exact iH.mono _ _ _ _ _ _)
   | (with_reducible exact gZ.mono _ _ _ _ _ _)
   | (with_reducible exact LeO.refl _)
   | (with_reducible exact LeO.none _)
   | (with_reducible refine LeO.ite ?_ ?_)
   | (with_reducible refine LeO.bind ?_ (fun _ => ?_))
   | exact ih0 _ _ _ _ _ _ _
   | exact ih1 _ _ _ _ _ _
   | exact ih2 _ _ _ _ _ _
   | exact ih3 _ _ _ _ _ _ _
   | exact ih4 _ _ _ _ _ _
   | exact iU.mono _ _ _ _ _
   | exact iH.mono _ _ _ _ _ _
   | exact gZ.mono _ _ _ _ _ _
   | exact LeO.none _
   | refine LeO.ite ?_ ?_
   | refine LeO.bind ?_ (fun _ => ?_)
  ·intro y0 y1 y2 y3 y4 y5
   unfold aV.j1
   repeat' first
   | (with_reducible exact ih0 _ _ _ _ _ _ _)
   | (with_reducible exact ih1 _ _ _ _ _ _)
   | (with_reducible exact ih2 _ _ _ _ _ _)
   | (with_reducible exact ih3 _ _ _ _ _ _ _)
   | (with_reducible exact ih4 _ _ _ _ _ _)
   | (with_reducible exact iU.mono _ _ _ _ _)
   | (with_reducible exact iH.mono _ _ _ _ _ _)
   | (with_reducible exact gZ.mono _ _ _ _ _ _)
   | (with_reducible exact LeO.refl _)
   | (with_reducible exact LeO.none _)
   | (with_reducible refine LeO.ite ?_ ?_)
   | (with_reducible refine LeO.bind ?_ (fun _ => ?_))
   | exact ih0 _ _ _ _ _ _ _
   | exact ih1 _ _ _ _ _ _
   | exact ih2 _ _ _ _ _ _
   | exact ih3 _ _ _ _ _ _ _
   | exact ih4 _ _ _ _ _ _
   | exact iU.mono _ _ _ _ _
   | exact iH.mono _ _ _ _ _ _
   | exact gZ.mono _ _ _ _ _ _
   | exact LeO.none _
   | refine LeO.ite ?_ ?_
   | refine LeO.bind ?_ (fun _ => ?_)
  ·intro y0 y1 y2 y3 y4 y5
   unfold aV.l0
   repeat' first
   | (with_reducible exact ih0 _ _ _ _ _ _ _)
   | (with_reducible exact ih1 _ _ _ _ _ _)
   | (with_reducible exact ih2 _ _ _ _ _ _)
   | (with_reducible exact ih3 _ _ _ _ _ _ _)
   | (with_reducible exact ih4 _ _ _ _ _ _)
   | (with_reducible exact iU.mono _ _ _ _ _)
   | (with_reducible exact iH.mono _ _ _ _ _ _)
   | (with_reducible exact gZ.mono _ _ _ _ _ _)
   | (with_reducible exact LeO.refl _)
   | (with_reducible exact LeO.none _)
   | (with_reducible refine LeO.ite ?_ ?_)
   | (with_reducible refine LeO.bind ?_ (fun _ => ?_))
   | exact ih0 _ _ _ _ _ _ _
   | exact ih1 _ _ _ _ _ _
   | exact ih2 _ _ _ _ _ _
   | exact ih3 _ _ _ _ _ _ _
   | exact ih4 _ _ _ _ _ _
   | exact iU.mono _ _ _ _ _
   | exact iH.mono _ _ _ _ _ _
   | exact gZ.mono _ _ _ _ _ _
   | exact LeO.none _
   | refine LeO.ite ?_ ?_
   | refine LeO.bind ?_ (fun _ => ?_)
  ·intro y0 y1 y2 y3 y4 y5 y6
   unfold aV.j3
   repeat' first
   | (with_reducible exact ih0 _ _ _ _ _ _ _)
   | (with_reducible exact ih1 _ _ _ _ _ _)
   | (with_reducible exact ih2 _ _ _ _ _ _)
   | (with_reducible exact ih3 _ _ _ _ _ _ _)
   | (with_reducible exact ih4 _ _ _ _ _ _)
   | (with_reducible exact iU.mono _ _ _ _ _)
   | (with_reducible exact iH.mono _ _ _ _ _ _)
   | (with_reducible exact gZ.mono _ _ _ _ _ _)
   | (with_reducible exact LeO.refl _)
   | (with_reducible exact LeO.none _)
   | (with_reducible refine LeO.ite ?_ ?_)
   | (with_reducible refine LeO.bind ?_ (fun _ => ?_))
   | exact ih0 _ _ _ _ _ _ _
   | exact ih1 _ _ _ _ _ _
   | exact ih2 _ _ _ _ _ _
   | exact ih3 _ _ _ _ _ _ _
   | exact ih4 _ _ _ _ _ _
   | exact iU.mono _ _ _ _ _
   | exact iH.mono _ _ _ _ _ _
   | exact gZ.mono _ _ _ _ _ _
   | exact LeO.none _
   | refine LeO.ite ?_ ?_
   | refine LeO.bind ?_ (fun _ => ?_)
  ·intro y0 y1 y2 y3 y4 y5
   unfold aV.l1
   repeat' first
   | (with_reducible exact ih0 _ _ _ _ _ _ _)
   | (with_reducible exact ih1 _ _ _ _ _ _)
   | (with_reducible exact ih2 _ _ _ _ _ _)
   | (with_reducible exact ih3 _ _ _ _ _ _ _)
   | (with_reducible exact ih4 _ _ _ _ _ _)
   | (with_reducible exact iU.mono _ _ _ _ _)
   | (with_reducible exact iH.mono _ _ _ _ _ _)
   | (with_reducible exact gZ.mono _ _ _ _ _ _)
   | (with_reducible exact LeO.refl _)
   | (with_reducible exact LeO.none _)
   | (with_reducible refine LeO.ite ?_ ?_)
   | (with_reducible refine LeO.bind ?_ (fun _ => ?_))
   | exact ih0 _ _ _ _ _ _ _
   | exact ih1 _ _ _ _ _ _
   | exact ih2 _ _ _ _ _ _
   | exact ih3 _ _ _ _ _ _ _
   | exact ih4 _ _ _ _ _ _
   | exact iU.mono _ _ _ _ _
   | exact iH.mono _ _ _ _ _ _
   | exact gZ.mono _ _ _ _ _ _
   | exact LeO.none _
   | refine LeO.ite ?_ ?_
   | refine LeO.bind ?_ (fun _ => ?_)
theorem aV.mono : ∀ a0 a1 a2 a3 a4 a5 k, LeO (aV.f k a0 a1 a2 a3 a4 a5) (aV.f (k + 1) a0 a1 a2 a3 a4 a5) := by
 intro a0 a1 a2 a3 a4 a5 k
 obtain ⟨ih0, ih1, ih2, ih3, ih4⟩ := aV.iX k
 unfold aV.f
 repeat' first
  | (with_reducible exact ih0 _ _ _ _ _ _ _)
  | (with_reducible exact ih1 _ _ _ _ _ _)
  | (with_reducible exact ih2 _ _ _ _ _ _)
  | (with_reducible exact ih3 _ _ _ _ _ _ _)
  | (with_reducible exact ih4 _ _ _ _ _ _)
  | (with_reducible exact iU.mono _ _ _ _ _)
  | (with_reducible exact iH.mono _ _ _ _ _ _)
  | (with_reducible exact gZ.mono _ _ _ _ _ _)
  | (with_reducible exact LeO.refl _)
  | (with_reducible exact LeO.none _)
  | (with_reducible refine LeO.ite ?_ ?_)
  | (with_reducible refine LeO.bind ?_ (fun _ => ?_))
  | exact ih0 _ _ _ _ _ _ _
  | exact ih1 _ _ _ _ _ _
  | exact ih2 _ _ _ _ _ _
  | exact ih3 _ _ _ _ _ _ _
  | exact ih4 _ _ _ _ _ _
  | exact iU.mono _ _ _ _ _
  | exact iH.mono _ _ _ _ _ _
  | exact gZ.mono _ _ _ _ _ _
  | exact LeO.none _
  | refine LeO.ite ?_ ?_
  | refine LeO.bind ?_ (fun _ => ?_)
set_option maxHeartbeats 8000000 in
set_option maxRecDepth 100000 in
theorem aV.calls (k : Nat) (aQ : Int) (aR : Int) (cu : Option Addr) (bW : Nat) (aH : List (List (S23))) (dz : Option Addr) (bZ : Nat) (av : List (S70)) (a1 : Int) (a2 : Int) (r1 : Int) (r2 : Bool) (w : World) (iF : Kd.C (Kd.slice 23 k23) w cu aH.length aH) (iG : aH.length ≤ bW) (iw : Kd.C k70 w dz av.length av) (iy : av.length ≤ bZ) (h : aV.f k aQ aR aH av a1 a2 = some (r1, r2)) :
 Calls Try.prog 63 #[.agg #[.int .i64 aQ, .int .i64 aR, .slice cu aH.length bW, .slice dz av.length bZ], .int .i64 a1, .int .i64 a2] w fun e w' => e = .returned (.tuple #[.int .i64 r1, .bool r2]) ∧ Below w.heap.size w w' := by
 have aaE := Try.underlying28
 have gF := am iF
 have gX := am iG
 clear iF iG
 have fK := am iw
 have gW := am iy
 clear iw iy
 have HB := am (Below.refl w.heap.size w)
 have H : ((iU.f k aQ aR aH av).bind fun akj => (if akj = true then ((iH.f k aQ aR aH av a1).bind fun xq => (if a2 < 0 then (aV.j0 k a2 xq.1 (!xq.2) aQ aR aH av) else (aV.j0 k a2 xq.1 false aQ aR aH av))) else (aV.l1 k a2 a1 aQ aR aH av))) = some (r1, r2) := h
 clear h
 replace H := Option.bind_eq_some_iff.mp H
 obtain ⟨akj, A40, H⟩ := H
 try dsimp only at H
 have A4 := am A40
 clear A40
 by_cases c5 : akj = true
 ·subst c5
  have H1 : ((iH.f k aQ aR aH av a1).bind fun xq => (if a2 < 0 then (aV.j0 k a2 xq.1 (!xq.2) aQ aR aH av) else (aV.j0 k a2 xq.1 false aQ aR aH av))) = some (r1, r2) := by rw [if_pos rfl] at H; exact H
  clear H
  have H := H1
  clear H1
  replace H := Option.bind_eq_some_iff.mp H
  obtain ⟨⟨aiM, as9⟩, A60, H⟩ := H
  try dsimp only at H
  have A6 := am A60
  clear A60
  have HC7 := am H
  clear H
  go_enter Try.func63, Try.ntmps63
  go_upto_region 3 with (first | ((with_reducible refine bq (N := 3) rfl ?_); (try (refine gH (by rfl) ?_; dsimp only)); refine bx 3 28 #[.int .i64 aQ, .int .i64 aR, .slice cu aH.length bW, .slice dz av.length bZ] ?_; intro jw hg w8 dL hb; have eY := am (dL); have ata := am ((bz hg HB.out : w.heap.size ≤ jw)); have nC := am ((bz hg HB.out : w.heap.size ≤ jw)); replace HB := am (au (bl HB.out) hb); clear hb dL hg; have oq : w8.cell? ⟨jw, 0, none⟩ = some (.int .i64 aQ) := bc eY.out 0; have ou : w8.cell? ⟨jw, 1, none⟩ = some (.int .i64 aR) := bc eY.out 1; have ow : w8.cell? ⟨jw, 2, none⟩ = some (.slice cu aH.length bW) := bc eY.out 2; have oz : w8.cell? ⟨jw, 3, none⟩ = some (.slice dz av.length bZ) := bc eY.out 3; have oC := aj eY.out 0; have oD := aj eY.out 1; have oF := aj eY.out 2; have oG := aj eY.out 3) | ((with_reducible refine aC (f := 93) rfl ?_); refine bR (some 12) rfl rfl Try.func93 (by kernel_rfl) rfl #[.agg #[.int .i64 aQ, .int .i64 aR, .slice cu aH.length bW, .slice dz av.length bZ]] rfl ar ?_; (with_reducible refine (iU.calls k aQ aR _ _ aH _ _ av true _ ?bH ?bI ?dG ?dI A4.out).mono ?_); (case bH => exact kc (Kd.bf gF.out HB.out)); (case bI => exact gX.out); (case dG => exact kc (Kd.bf fK.out HB.out)); (case dI => exact gW.out); rintro e w10 ⟨rfl, hb⟩; refine ⟨_, rfl, ?_⟩; replace eY := am (ak (kp eY.out) hb); replace HB := am (au (bl1 HB.out nC.out) hb); (try clear hb); (try clear hb2); (try clear hk); (try clear hi); have mg : w10.cell? ⟨jw, 0, none⟩ = some (.int .i64 aQ) := bc eY.out 0; have mh : w10.cell? ⟨jw, 1, none⟩ = some (.int .i64 aR) := bc eY.out 1; have mX : w10.cell? ⟨jw, 2, none⟩ = some (.slice cu aH.length bW) := bc eY.out 2; have mY : w10.cell? ⟨jw, 3, none⟩ = some (.slice dz av.length bZ) := bc eY.out 3; have mq := aj eY.out 0; have mD := aj eY.out 1; have mZ := aj eY.out 2; have ni := aj eY.out 3) | ((with_reducible refine aC (f := 84) rfl ?_); refine bR (some 16) rfl rfl Try.func84 (by kernel_rfl) rfl #[.agg #[.int .i64 aQ, .int .i64 aR, .slice cu aH.length bW, .slice dz av.length bZ], .int .i64 a1] rfl ar ?_; (with_reducible refine (iH.calls k aQ aR _ _ aH _ _ av a1 aiM as9 _ ?bH ?bI ?dG ?dI A6.out).mono ?_); (case bH => exact kc (Kd.bf gF.out HB.out)); (case bI => exact gX.out); (case dG => exact kc (Kd.bf fK.out HB.out)); (case dI => exact gW.out); rintro e w12 ⟨rfl, hb⟩; refine ⟨_, rfl, ?_⟩; replace eY := am (ak (kp eY.out) hb); replace HB := am (au (bl1 HB.out nC.out) hb); (try clear hb); (try clear hb2); (try clear hk); (try clear hi)))
  (try simp only [Act.put, List.setIfInBounds_toArray, List.set_cons_zero, List.set_cons_succ])
  go_cut [24] (fun v24 wc => ∃ (kq : Nat) (amP : Bool), v24 = .bool amP ∧ ay (aV.j0 kq a2 aiM amP aQ aR aH av = some (r1, r2)) ∧ ay (kq ≤ k) ∧ ay (wc.heap[jw]? = some (.cells #[.int .i64 aQ, .int .i64 aR, (.slice cu aH.length bW), (.slice dz av.length bZ)] 28 (0, 0))) ∧ ay (Below w.heap.size w wc))
  case first =>
   have H := HC7.out
   clear HC7
   by_cases c13 : a2 < 0
   ·rw [if_pos c13] at H
    have yj : decide (a2 < 0) = true := decide_eq_true c13
    clear c13
    (first | rw [yj] | (simp only [jR, kH]; rw [yj]) | skip)
    have H' := am H
    clear H
    go_wp2
    go_meet
    case rel => exact ⟨_, (!as9), sm, H', ⟨by first | omega | exact Nat.le_refl _⟩, ⟨kp eY.out⟩, ⟨bl1 HB.out nC.out⟩⟩
   ·rw [if_neg c13] at H
    have yj : decide (a2 < 0) = false := decide_eq_false c13
    clear c13
    (first | rw [yj] | (simp only [jR, kH]; rw [yj]) | skip)
    have H' := am H
    clear H
    go_wp2
    go_meet
    case rel => exact ⟨_, (false), sm, H', ⟨by first | omega | exact Nat.le_refl _⟩, ⟨kp eY.out⟩, ⟨bl1 HB.out nC.out⟩⟩
  case rest =>
   clear HC7
   try clear c5
   try clear mg
   try clear mh
   try clear mX
   try clear mY
   try clear oq
   try clear ou
   try clear ow
   try clear oz
   try clear mq
   try clear mD
   try clear mZ
   try clear ni
   try clear oC
   try clear oD
   try clear oF
   try clear oG
   obtain ⟨kq, amP, rfl, HA, HJ6, eY, HB⟩ := hcut
   cases kq with
   | zero => exact absurd HA.out (by simp [aV.j0])
   | succ kj6 =>
    have H := HA.out
    clear HA
    simp only [aV.j0] at H
    have axg := am H
    clear H
    go_upto_if 24 with (fail)
    go_cut [8] (fun v8 wc => ∃ (kq : Nat) (amQ : Int), v8 = .int .i64 amQ ∧ ay (aV.j1 kq a2 amQ aQ aR aH av = some (r1, r2)) ∧ ay (kq ≤ kj6) ∧ ay (wc.heap[jw]? = some (.cells #[.int .i64 aQ, .int .i64 aR, (.slice cu aH.length bW), (.slice dz av.length bZ)] 28 (0, 0))) ∧ ay (Below w.heap.size w wc))
    case first =>
     have H := axg.out
     clear axg
     by_cases c15 : amP = true
     ·subst c15
      have H1 : (aV.j1 kj6 a2 (wrap64 (aiM - 1)) aQ aR aH av) = some (r1, r2) := by rw [if_pos rfl] at H; exact H
      clear H
      have H := H1
      clear H1
      have H' := am H
      clear H
      go_wp2
      go_meet
      case rel => exact ⟨_, (wrap64 (aiM - 1)), sm, H', ⟨by have := HJ6.out; first | omega | exact Nat.le_refl _⟩, ⟨kp eY.out⟩, ⟨bl1 HB.out nC.out⟩⟩
     ·replace c15 := Bool.eq_false_iff.mpr c15
      subst c15
      have H1 : (aV.j1 kj6 a2 aiM aQ aR aH av) = some (r1, r2) := by rw [if_neg (show ¬ (false = true) by decide)] at H; exact H
      clear H
      have H := H1
      clear H1
      have H' := am H
      clear H
      go_wp2
      go_meet
      case rel => exact ⟨_, (aiM), sm, H', ⟨by have := HJ6.out; first | omega | exact Nat.le_refl _⟩, ⟨kp eY.out⟩, ⟨bl1 HB.out nC.out⟩⟩
    case rest =>
     clear axg
     obtain ⟨kq, amQ, rfl, HA, ave, eY, HB⟩ := hcut
     cases kq with
     | zero => exact absurd HA.out (by simp [aV.j1])
     | succ kj13 =>
      have H := HA.out
      clear HA
      simp only [aV.j1] at H
      have H' := am H
      clear H
      go_wp2
      go_loopg [8] kj13 (fun kq v8 w' => ∃ (yF : Int), v8 = .int .i64 yF ∧ ay (aV.l0 kq a2 yF aQ aR aH av = some (r1, r2)) ∧ ay (kq ≤ kj13) ∧ ay (w'.heap[jw]? = some (.cells #[.int .i64 aQ, .int .i64 aR, (.slice cu aH.length bW), (.slice dz av.length bZ)] 28 (0, 0))) ∧ ay (Below w.heap.size w w'))
      case atStart => exact ⟨(amQ), sm, H', ⟨Nat.le_refl _⟩, ⟨kp eY.out⟩, ⟨bl1 HB.out nC.out⟩⟩
      case round =>
       clear H'
       obtain ⟨yF, rfl, HA, HK3, eY, HB⟩ := hrel
       cases gk with
       | zero => exact absurd HA.out (by simp [aV.l0])
       | succ k3 =>
        have H := HA.out
        clear HA
        simp only [aV.l0] at H
        have apv := am H
        clear H
        go_upto_region 5 with (fail)
        go_cut [35] (fun v35 wc => ∃ (kq : Nat) (ah4 : Bool), v35 = .bool ah4 ∧ ay (aV.j3 kq a2 yF ah4 aQ aR aH av = some (r1, r2)) ∧ ay (kq ≤ k3) ∧ ay (wc.heap[jw]? = some (.cells #[.int .i64 aQ, .int .i64 aR, (.slice cu aH.length bW), (.slice dz av.length bZ)] 28 (0, 0))) ∧ ay (Below w.heap.size w wc))
        case first =>
         have H := apv.out
         clear apv
         by_cases c17 : yF ≥ 0
         ·rw [if_pos c17] at H
          have tY : decide (0 ≤ yF) = true := decide_eq_true c17
          clear c17
          (first | rw [tY] | (simp only [jR, kH]; rw [tY]) | skip)
          have H' := am H
          clear H
          have sN : wr.cell? ⟨jw, 0, none⟩ = some (.int .i64 aQ) := bc eY.out 0
          have sO : wr.cell? ⟨jw, 1, none⟩ = some (.int .i64 aR) := bc eY.out 1
          have sP : wr.cell? ⟨jw, 2, none⟩ = some (.slice cu aH.length bW) := bc eY.out 2
          have sQ : wr.cell? ⟨jw, 3, none⟩ = some (.slice dz av.length bZ) := bc eY.out 3
          have sS := aj eY.out 0
          have sU := aj eY.out 1
          have sV := aj eY.out 2
          have sW := aj eY.out 3
          go_wp2
          go_meet
          case rel => exact ⟨_, (decide (yF < (av.length : Int))), sm, H', ⟨by have := HJ6.out; have := ave.out; have := HK3.out; first | omega | exact Nat.le_refl _⟩, ⟨kp eY.out⟩, ⟨bl1 HB.out nC.out⟩⟩
         ·rw [if_neg c17] at H
          have tY : decide (0 ≤ yF) = false := decide_eq_false c17
          clear c17
          (first | rw [tY] | (simp only [jR, kH]; rw [tY]) | skip)
          have H' := am H
          clear H
          go_wp2
          go_meet
          case rel => exact ⟨_, (false), sm, H', ⟨by have := HJ6.out; have := ave.out; have := HK3.out; first | omega | exact Nat.le_refl _⟩, ⟨kp eY.out⟩, ⟨bl1 HB.out nC.out⟩⟩
        case rest =>
         clear apv
         obtain ⟨kq, ah4, rfl, HA, axh, eY, HB⟩ := hcut
         cases kq with
         | zero => exact absurd HA.out (by simp [aV.j3])
         | succ kj15 =>
          have H := HA.out
          clear HA
          simp only [aV.j3] at H
          by_cases c19 : ah4 = true
          ·subst c19
           have H1 : (if 0 ≤ yF then (if yF < (av.length : Int) then (if (((aU av yF).f1).length : Int) > 0 then (some ((aU av yF).f0, true)) else (aV.l0 kj15 a2 (wrap64 (yF + a2)) aQ aR aH av)) else (none)) else (none)) = some (r1, r2) := by rw [if_pos rfl] at H; exact H
           clear H
           have H := H1
           clear H1
           by_cases c20 : 0 ≤ yF
           case neg => rw [if_neg c20] at H; exact absurd H (by simp)
           rw [if_pos c20] at H
           have acY : decide (0 ≤ yF) = true := decide_eq_true c20
           clear c20
           by_cases c21 : yF < (av.length : Int)
           case neg => rw [if_neg c21] at H; exact absurd H (by simp)
           rw [if_pos c21] at H
           have acZ : decide (yF < (av.length : Int)) = true := decide_eq_true c21
           clear c21
           by_cases c22 : (((aU av yF).f1).length : Int) > 0
           ·rw [if_pos c22] at H
            have yt : decide (0 < (((aU av yF).f1).length : Int)) = true := decide_eq_true c22
            have apw : decide (0 < ((aU av yF).f1).length) = true := decide_eq_true (by omega)
            clear c22
            simp only [Option.some.injEq, Prod.mk.injEq] at H
            obtain ⟨rfl, rfl⟩ := H
            have sH : wc.cell? ⟨jw, 0, none⟩ = some (.int .i64 aQ) := bc eY.out 0
            have sI : wc.cell? ⟨jw, 1, none⟩ = some (.int .i64 aR) := bc eY.out 1
            have uP : wc.cell? ⟨jw, 2, none⟩ = some (.slice cu aH.length bW) := bc eY.out 2
            have uQ : wc.cell? ⟨jw, 3, none⟩ = some (.slice dz av.length bZ) := bc eY.out 3
            have sJ := aj eY.out 0
            have sK := aj eY.out 1
            have uR := aj eY.out 2
            have uS := aj eY.out 3
            have aeY : 0 ≤ (yF : Int) := of_decide_eq_true asm
            have aeZ : yF < (av.length : Int) := of_decide_eq_true asm
            obtain ⟨anS, apx, apy, apz, uo, rz, zP, zQ⟩ := kZ fK.out yF aeY aeZ
            cases apz
            replace uo := (HB.out.cell (World.block_lt_of_cell? w _ uo)).trans uo
            replace rz := (HB.out.cell (World.block_lt_of_cell? w _ rz)).trans rz
            have amR := am zQ
            have amS := am zP
            clear zQ zP
            replace aeY := eq_true aeY
            replace aeZ := eq_true aeZ
            have amT : 0 ≤ (yF : Int) := of_decide_eq_true asm
            have amU : yF < (av.length : Int) := of_decide_eq_true asm
            obtain ⟨atb, axi, axj, axk, abd, zR, ah5, ah6⟩ := kZ fK.out yF amT amU
            obtain rfl : anS = atb := (by injection axk)
            replace abd := (HB.out.cell (World.block_lt_of_cell? w _ abd)).trans abd
            replace zR := (HB.out.cell (World.block_lt_of_cell? w _ zR)).trans zR
            have avf := am ah6
            have avg := am ah5
            clear ah6 ah5
            replace amT := eq_true amT
            replace amU := eq_true amU
            have ea_ := Option.some.inj (rz.symm.trans zR)
            injection ea_ with ea_ en_ ec_
            subst ea_
            subst ec_
            clear en_
            go_wp2
            go_ret2
            exact ⟨rt, bl1 HB.out nC.out⟩
           ·rw [if_neg c22] at H
            have yt : decide (0 < (((aU av yF).f1).length : Int)) = false := decide_eq_false c22
            have apw : decide (0 < ((aU av yF).f1).length) = false := decide_eq_false (by omega)
            clear c22
            have H' := am H
            clear H
            have abJ : wc.cell? ⟨jw, 0, none⟩ = some (.int .i64 aQ) := bc eY.out 0
            have abK : wc.cell? ⟨jw, 1, none⟩ = some (.int .i64 aR) := bc eY.out 1
            have akk : wc.cell? ⟨jw, 2, none⟩ = some (.slice cu aH.length bW) := bc eY.out 2
            have akl : wc.cell? ⟨jw, 3, none⟩ = some (.slice dz av.length bZ) := bc eY.out 3
            have abL := aj eY.out 0
            have abM := aj eY.out 1
            have akm := aj eY.out 2
            have akn := aj eY.out 3
            have aeY : 0 ≤ (yF : Int) := of_decide_eq_true asm
            have aeZ : yF < (av.length : Int) := of_decide_eq_true asm
            obtain ⟨anS, apx, apy, apz, uo, rz, zP, zQ⟩ := kZ fK.out yF aeY aeZ
            cases apz
            replace uo := (HB.out.cell (World.block_lt_of_cell? w _ uo)).trans uo
            replace rz := (HB.out.cell (World.block_lt_of_cell? w _ rz)).trans rz
            have amR := am zQ
            have amS := am zP
            clear zQ zP
            replace aeY := eq_true aeY
            replace aeZ := eq_true aeZ
            go_wp2
            go_roundg kj15
            case measure => have := HJ6.out; have := ave.out; have := HK3.out; have := axh.out; omega
            case rel => exact ⟨(wrap64 (yF + a2)), sm, H', ⟨by have := HJ6.out; have := ave.out; have := HK3.out; have := axh.out; omega⟩, ⟨kp eY.out⟩, ⟨bl1 HB.out nC.out⟩⟩
          ·replace c19 := Bool.eq_false_iff.mpr c19
           subst c19
           have H1 : (some (0, false)) = some (r1, r2) := by rw [if_neg (show ¬ (false = true) by decide)] at H; exact H
           clear H
           have H := H1
           clear H1
           simp only [Option.some.injEq, Prod.mk.injEq] at H
           obtain ⟨rfl, rfl⟩ := H
           go_wp2
           go_ret2
           exact ⟨rt, bl1 HB.out nC.out⟩
 ·replace c5 := Bool.eq_false_iff.mpr c5
  subst c5
  have H1 : (aV.l1 k a2 a1 aQ aR aH av) = some (r1, r2) := by rw [if_neg (show ¬ (false = true) by decide)] at H; exact H
  clear H
  have H := H1
  clear H1
  have H' := am H
  clear H
  go_enter Try.func63, Try.ntmps63
  go_wp2_with (first | ((with_reducible refine bq (N := 3) rfl ?_); (try (refine gH (by rfl) ?_; dsimp only)); refine bx 3 28 #[.int .i64 aQ, .int .i64 aR, .slice cu aH.length bW, .slice dz av.length bZ] ?_; intro jw hg w25 dL hb; have eY := am (dL); have ata := am ((bz hg HB.out : w.heap.size ≤ jw)); have nC := am ((bz hg HB.out : w.heap.size ≤ jw)); replace HB := am (au (bl HB.out) hb); clear hb dL hg; have af4 : w25.cell? ⟨jw, 0, none⟩ = some (.int .i64 aQ) := bc eY.out 0; have af5 : w25.cell? ⟨jw, 1, none⟩ = some (.int .i64 aR) := bc eY.out 1; have apA : w25.cell? ⟨jw, 2, none⟩ = some (.slice cu aH.length bW) := bc eY.out 2; have apB : w25.cell? ⟨jw, 3, none⟩ = some (.slice dz av.length bZ) := bc eY.out 3; have af6 := aj eY.out 0; have af7 := aj eY.out 1; have apC := aj eY.out 2; have apD := aj eY.out 3) | ((with_reducible refine aC (f := 93) rfl ?_); refine bR (some 12) rfl rfl Try.func93 (by kernel_rfl) rfl #[.agg #[.int .i64 aQ, .int .i64 aR, .slice cu aH.length bW, .slice dz av.length bZ]] rfl ar ?_; (with_reducible refine (iU.calls k aQ aR _ _ aH _ _ av false _ ?bH ?bI ?dG ?dI A4.out).mono ?_); (case bH => exact kc (Kd.bf gF.out HB.out)); (case bI => exact gX.out); (case dG => exact kc (Kd.bf fK.out HB.out)); (case dI => exact gW.out); rintro e w27 ⟨rfl, hb⟩; refine ⟨_, rfl, ?_⟩; replace eY := am (ak (kp eY.out) hb); replace HB := am (au (bl1 HB.out nC.out) hb); (try clear hb); (try clear hb2); (try clear hk); (try clear hi)))
  go_loopg [10] k (fun kq v10 w' => ∃ (lS : Int), v10 = .int .i64 lS ∧ ay (aV.l1 kq a2 lS aQ aR aH av = some (r1, r2)) ∧ ay (kq ≤ k) ∧ ay (w'.heap[jw]? = some (.cells #[.int .i64 aQ, .int .i64 aR, (.slice cu aH.length bW), (.slice dz av.length bZ)] 28 (0, 0))) ∧ ay (Below w.heap.size w w'))
  case atStart => exact ⟨(a1), sm, H', ⟨Nat.le_refl _⟩, ⟨kp eY.out⟩, ⟨bl1 HB.out nC.out⟩⟩
  case round =>
   clear H'
   try clear c5
   try clear af4
   try clear af5
   try clear apA
   try clear apB
   try clear af6
   try clear af7
   try clear apC
   try clear apD
   obtain ⟨lS, rfl, HA, HK1, eY, HB⟩ := hrel
   cases gk with
   | zero => exact absurd HA.out (by simp [aV.l1])
   | succ k1 =>
    have H := HA.out
    clear HA
    simp only [aV.l1] at H
    replace H := Option.bind_eq_some_iff.mp H
    obtain ⟨apu, atc, H⟩ := H
    try dsimp only at H
    have A28 := am atc
    clear atc
    by_cases c29 : apu = true
    ·subst c29
     have H1 : ((gZ.f k1 aQ aR aH av lS).bind fun aki => (if aki = true then (some (lS, true)) else (aV.l1 k1 a2 (wrap64 (lS + a2)) aQ aR aH av))) = some (r1, r2) := by rw [if_pos rfl] at H; exact H
     clear H
     have H := H1
     clear H1
     replace H := Option.bind_eq_some_iff.mp H
     obtain ⟨aki, atd, H⟩ := H
     try dsimp only at H
     have A30 := am atd
     clear atd
     by_cases c31 : aki = true
     ·subst c31
      have H1 : (some (lS, true)) = some (r1, r2) := by rw [if_pos rfl] at H; exact H
      clear H
      have H := H1
      clear H1
      simp only [Option.some.injEq, Prod.mk.injEq] at H
      obtain ⟨rfl, rfl⟩ := H
      go_wp2_with (first | ((with_reducible refine aC (f := 55) rfl ?_); refine bR (some 55) rfl rfl Try.func55 (by kernel_rfl) rfl #[.int .i64 lS] rfl ar ?_; (with_reducible refine (gI.calls lS true _ A28.out).mono ?_); rintro e w' ⟨rfl, ⟨nd, rfl⟩⟩; refine ⟨_, rfl, ?_⟩; have adO : wr.cell? ⟨jw, 0, none⟩ = some (.int .i64 aQ) := bc eY.out 0; have adP : wr.cell? ⟨jw, 1, none⟩ = some (.int .i64 aR) := bc eY.out 1; have apE : wr.cell? ⟨jw, 2, none⟩ = some (.slice cu aH.length bW) := bc eY.out 2; have apF : wr.cell? ⟨jw, 3, none⟩ = some (.slice dz av.length bZ) := bc eY.out 3; have adQ := aj eY.out 0; have adR := aj eY.out 1; have apG := aj eY.out 2; have apH := aj eY.out 3) | ((with_reducible refine aC (f := 94) rfl ?_); refine bR (some 61) rfl rfl Try.func94 (by kernel_rfl) rfl #[.agg #[.int .i64 aQ, .int .i64 aR, .slice cu aH.length bW, .slice dz av.length bZ], .int .i64 lS] rfl ar ?_; (with_reducible refine (gZ.calls k1 aQ aR _ _ aH _ _ av lS true _ ?bH ?bI ?dG ?dI A30.out).mono ?_); (case bH => exact kc (Kd.bf gF.out (bl1 HB.out nC.out))); (case bI => exact gX.out); (case dG => exact kc (Kd.bf fK.out (bl1 HB.out nC.out))); (case dI => exact gW.out); rintro e w33 ⟨rfl, hb⟩; refine ⟨_, rfl, ?_⟩; replace eY := am (ak (kp eY.out) hb); replace HB := am (au (bl1 HB.out nC.out) hb); (try clear hb); (try clear hb2); (try clear hk); (try clear hi)))
      go_ret2
      exact ⟨rt, bl1 HB.out nC.out⟩
     ·replace c31 := Bool.eq_false_iff.mpr c31
      subst c31
      have H1 : (aV.l1 k1 a2 (wrap64 (lS + a2)) aQ aR aH av) = some (r1, r2) := by rw [if_neg (show ¬ (false = true) by decide)] at H; exact H
      clear H
      have H := H1
      clear H1
      have H' := am H
      clear H
      go_wp2_with (first | ((with_reducible refine aC (f := 55) rfl ?_); refine bR (some 55) rfl rfl Try.func55 (by kernel_rfl) rfl #[.int .i64 lS] rfl ar ?_; (with_reducible refine (gI.calls lS true _ A28.out).mono ?_); rintro e w' ⟨rfl, ⟨nd, rfl⟩⟩; refine ⟨_, rfl, ?_⟩; have af8 : wr.cell? ⟨jw, 0, none⟩ = some (.int .i64 aQ) := bc eY.out 0; have af9 : wr.cell? ⟨jw, 1, none⟩ = some (.int .i64 aR) := bc eY.out 1; have aga : wr.cell? ⟨jw, 2, none⟩ = some (.slice cu aH.length bW) := bc eY.out 2; have agb : wr.cell? ⟨jw, 3, none⟩ = some (.slice dz av.length bZ) := bc eY.out 3; have agc := aj eY.out 0; have agd := aj eY.out 1; have agf := aj eY.out 2; have agh := aj eY.out 3) | ((with_reducible refine aC (f := 94) rfl ?_); refine bR (some 61) rfl rfl Try.func94 (by kernel_rfl) rfl #[.agg #[.int .i64 aQ, .int .i64 aR, .slice cu aH.length bW, .slice dz av.length bZ], .int .i64 lS] rfl ar ?_; (with_reducible refine (gZ.calls k1 aQ aR _ _ aH _ _ av lS false _ ?bH ?bI ?dG ?dI A30.out).mono ?_); (case bH => exact kc (Kd.bf gF.out (bl1 HB.out nC.out))); (case bI => exact gX.out); (case dG => exact kc (Kd.bf fK.out (bl1 HB.out nC.out))); (case dI => exact gW.out); rintro e w35 ⟨rfl, hb⟩; refine ⟨_, rfl, ?_⟩; replace eY := am (ak (kp eY.out) hb); replace HB := am (au (bl1 HB.out nC.out) hb); (try clear hb); (try clear hb2); (try clear hk); (try clear hi)))
      go_roundg k1
      case measure => have := HK1.out; omega
      case rel => exact ⟨(wrap64 (lS + a2)), sm, H', ⟨by have := HK1.out; omega⟩, ⟨kp eY.out⟩, ⟨bl1 HB.out nC.out⟩⟩
    ·replace c29 := Bool.eq_false_iff.mpr c29
     subst c29
     have H1 : (some (0, false)) = some (r1, r2) := by rw [if_neg (show ¬ (false = true) by decide)] at H; exact H
     clear H
     have H := H1
     clear H1
     simp only [Option.some.injEq, Prod.mk.injEq] at H
     obtain ⟨rfl, rfl⟩ := H
     go_wp2_with (first | ((with_reducible refine aC (f := 55) rfl ?_); refine bR (some 55) rfl rfl Try.func55 (by kernel_rfl) rfl #[.int .i64 lS] rfl ar ?_; (with_reducible refine (gI.calls lS false _ A28.out).mono ?_); rintro e w' ⟨rfl, ⟨nd, rfl⟩⟩; refine ⟨_, rfl, ?_⟩))
     go_ret2
     exact ⟨rt, bl1 HB.out nC.out⟩
def fT.f (k : Nat) (aQ : Int) (aR : Int) (aH : List (List (S23))) (av : List (S70)) (a1 : Int) : Option (Int × Bool) := if a1 ≥ 1099511627776 then (some (0, false)) else ((aV.f k aQ aR aH av (mx (wrap64 (a1 + 1)) (-1099511627776)) 1).bind fun aaX => (some (aaX.1, aaX.2)))
theorem fT.mono : ∀ a0 a1 a2 a3 a4 k, LeO (fT.f k a0 a1 a2 a3 a4) (fT.f (k + 1) a0 a1 a2 a3 a4) := by
 intro a0 a1 a2 a3 a4 k
 unfold fT.f
 repeat' first
  | (with_reducible exact aV.mono _ _ _ _ _ _ _)
  | (with_reducible exact LeO.refl _)
  | (with_reducible exact LeO.none _)
  | (with_reducible refine LeO.ite ?_ ?_)
  | (with_reducible refine LeO.bind ?_ (fun _ => ?_))
  | exact aV.mono _ _ _ _ _ _ _
  | exact LeO.none _
  | refine LeO.ite ?_ ?_
  | refine LeO.bind ?_ (fun _ => ?_)
set_option maxHeartbeats 8000000 in
set_option maxRecDepth 100000 in
theorem fT.calls (k : Nat) (aQ : Int) (aR : Int) (cu : Option Addr) (bW : Nat) (aH : List (List (S23))) (dz : Option Addr) (bZ : Nat) (av : List (S70)) (a1 : Int) (r1 : Int) (r2 : Bool) (w : World) (iF : Kd.C (Kd.slice 23 k23) w cu aH.length aH) (iG : aH.length ≤ bW) (iw : Kd.C k70 w dz av.length av) (iy : av.length ≤ bZ) (h : fT.f k aQ aR aH av a1 = some (r1, r2)) :
 Calls Try.prog 25 #[.agg #[.int .i64 aQ, .int .i64 aR, .slice cu aH.length bW, .slice dz av.length bZ], .int .i64 a1] w fun e w' => e = .returned (.tuple #[.int .i64 r1, .bool r2]) ∧ Below w.heap.size w w' := by
 have aaE := Try.underlying28
 have gF := am iF
 have gX := am iG
 clear iF iG
 have fK := am iw
 have gW := am iy
 clear iw iy
 have HB := am (Below.refl w.heap.size w)
 have H : (if a1 ≥ 1099511627776 then (some (0, false)) else ((aV.f k aQ aR aH av (mx (wrap64 (a1 + 1)) (-1099511627776)) 1).bind fun aaX => (some (aaX.1, aaX.2)))) = some (r1, r2) := h
 clear h
 by_cases c3 : a1 ≥ 1099511627776
 ·rw [if_pos c3] at H
  have aa8 : decide (1099511627776 ≤ a1) = true := decide_eq_true c3
  clear c3
  simp only [Option.some.injEq, Prod.mk.injEq] at H
  obtain ⟨rfl, rfl⟩ := H
  go_enter Try.func25, Try.ntmps25
  go_wp2_with (first | ((with_reducible refine bq (N := 2) rfl ?_); refine bx 2 28 #[.int .i64 aQ, .int .i64 aR, .slice cu aH.length bW, .slice dz av.length bZ] ?_; intro zS hg w4 dL hb; have xu := am (dL); have ate := am ((bz hg HB.out : w.heap.size ≤ zS)); have ah7 := am ((bz hg HB.out : w.heap.size ≤ zS)); replace HB := am (au (bl HB.out) hb); clear hb dL hg))
  go_ret2
  exact ⟨rt, bl1 HB.out ah7.out⟩
 ·rw [if_neg c3] at H
  have aa8 : decide (1099511627776 ≤ a1) = false := decide_eq_false c3
  clear c3
  obtain ⟨ji5, uW⟩ : ∃ j_ : Int, (mx (wrap64 (a1 + 1)) (-1099511627776)) = j_ := ⟨_, rfl⟩
  replace H : ((aV.f k aQ aR aH av (ji5) 1).bind fun aaX => (some (aaX.1, aaX.2))) = some (r1, r2) := by first | (rw [uW] at H; exact H) | (simp only [uW] at H ⊢; exact H)
  have apI : (if (wrap64 (a1 + 1)) < (-1099511627776) then (-1099511627776) else (wrap64 (a1 + 1))) = ji5 := uW
  replace H := Option.bind_eq_some_iff.mp H
  obtain ⟨⟨axl, axm⟩, A60, H⟩ := H
  try dsimp only at H
  have A6 := am A60
  clear A60
  simp only [Option.some.injEq, Prod.mk.injEq] at H
  obtain ⟨rfl, rfl⟩ := H
  go_enter Try.func25, Try.ntmps25
  go_wp2_with (first | ((with_reducible refine bq (N := 2) rfl ?_); refine bx 2 28 #[.int .i64 aQ, .int .i64 aR, .slice cu aH.length bW, .slice dz av.length bZ] ?_; intro zS hg w7 dL hb; have xu := am (dL); have ate := am ((bz hg HB.out : w.heap.size ≤ zS)); have ah7 := am ((bz hg HB.out : w.heap.size ≤ zS)); replace HB := am (au (bl HB.out) hb); clear hb dL hg; have yx : w7.cell? ⟨zS, 0, none⟩ = some (.int .i64 aQ) := bc xu.out 0; have yA : w7.cell? ⟨zS, 1, none⟩ = some (.int .i64 aR) := bc xu.out 1; have zn : w7.cell? ⟨zS, 2, none⟩ = some (.slice cu aH.length bW) := bc xu.out 2; have zo : w7.cell? ⟨zS, 3, none⟩ = some (.slice dz av.length bZ) := bc xu.out 3; have yB := aj xu.out 0; have yC := aj xu.out 1; have zq := aj xu.out 2; have zu := aj xu.out 3) | ((with_reducible refine aC (f := 63) rfl ?_); refine bR (some 12) rfl rfl Try.func63 (by kernel_rfl) rfl #[.agg #[.int .i64 aQ, .int .i64 aR, .slice cu aH.length bW, .slice dz av.length bZ], .int .i64 ji5, .int .i64 1] rfl (by (try simp only [List.map_toArray, List.map_cons, List.map_nil]); first | done | (simp only [uW]; rfl) | rfl | (simp only [List.length_drop, List.length_take]; rfl)) ?_; (with_reducible refine (aV.calls k aQ aR _ _ aH _ _ av ji5 1 axl axm _ ?bH ?bI ?dG ?dI A6.out).mono ?_); (case bH => exact kc (Kd.bf gF.out HB.out)); (case bI => exact gX.out); (case dG => exact kc (Kd.bf fK.out HB.out)); (case dI => exact gW.out); rintro e w9 ⟨rfl, hb⟩; refine ⟨_, rfl, ?_⟩; replace xu := am (ak (kp xu.out) hb); replace HB := am (au (bl1 HB.out ah7.out) hb); (try clear hb); (try clear hb2); (try clear hk); (try clear hi)))
  go_ret2
  exact ⟨by first | rfl | (simp [gu, gB] <;> rfl) | (simp only [← uW]; first | rfl | (simp [gu, gB] <;> rfl)) | (simp [*, gu, gB] <;> rfl), bl1 HB.out ah7.out⟩
end Go.Proofs.Ytmbmalkpmanaaaa.P
namespace Go.Proofs.Ytmbmalkpmanaaaa.P
set_option linter.unusedVariables false
set_option linter.unusedSimpArgs false
open Go.RowKit Go.Proofs.YtmbmalkpmanaaaaW.aK Go.Proofs.YtmbmalkpmanaaaaW.bK Go.Proofs.YtmbmalkpmanaaaaW.bM
abbrev Gr := S70
def yK (x : Int) : Bool := decide (-9223372036854775808 ≤ x) && decide (x ≤ 9223372036854775807)
theorem abe {x : Int} (h : yK x = true) : (Lit.int .i64 x).wf = true := by
  simp only [yK, Bool.and_eq_true, decide_eq_true_eq] at h
  exact WalkArith.wf_i64 (by omega)
def nH (l : List Gr) : List Int := l.map (·.f0)
def bT.l1 : Nat → Int → Bool → Int → Int → Int → List (List S23) → List Gr → Option (Int × Bool)
  | 0, _, _, _, _, _, _, _ => none
  | k + 1, i, ok, beyond, p, c, core, odd => if ok = true then (if beyond < 2 then ((eO.f k p c core [] i).bind fun g => if g.2 = 0 then if yK i = true then if yD (nH odd) i = 0 then some (i, true) else (fT.f k p c core [] i).bind fun n => bT.l1 k n.1 n.2 beyond p c core odd else none else (fT.f k p c core [] i).bind fun n => bT.l1 k n.1 n.2 (wrap64 (beyond + 1)) p c core odd) else some (0, false)) else some (0, false)
def bT.f (k : Nat) (p c : Int) (core : List (List S23)) (odd : List Gr) (t : Int) : Option (Int × Bool) :=
  if odd.length < 1000000000 ∧ odd.all (fun g => yK g.f0) = true then (bC.f k p c core odd t).bind fun a => if a.2 = true then (fT.f k p c core [] (wrap64 (a.1 - 1))).bind fun n => bT.l1 k n.1 n.2 0 p c core odd else some (0, false) else none
theorem bT.iX : ∀ (k : Nat) (i : Int) (ok : Bool) (b p c : Int) (core : List (List S23)) (odd : List Gr), LeO (bT.l1 k i ok b p c core odd) (bT.l1 (k + 1) i ok b p c core odd)
  | 0, _, _, _, _, _, _, _ => fun r h => by simp [bT.l1] at h
  | k + 1, i, ok, b, p, c, core, odd => by
    have ih := bT.iX k
    unfold bT.l1
    repeat' first
      | (with_reducible exact ih _ _ _ _ _ _ _)
      | (with_reducible exact eO.mono _ _ _ _ _ _)
      | (with_reducible exact fT.mono _ _ _ _ _ _)
      | (with_reducible exact LeO.refl _)
      | (with_reducible exact LeO.none _)
      | (with_reducible refine LeO.ite ?_ ?_)
      | (with_reducible refine LeO.bind ?_ (fun _ => ?_))
theorem bT.mono (p c : Int) (core : List (List S23)) (odd : List Gr) (t : Int) (k : Nat) : LeO (bT.f k p c core odd t) (bT.f (k + 1) p c core odd t) := by
  unfold bT.f
  repeat' first
    | (with_reducible exact bT.iX _ _ _ _ _ _ _ _)
    | (with_reducible exact bC.mono _ _ _ _ _ _)
    | (with_reducible exact fT.mono _ _ _ _ _ _)
    | (with_reducible exact LeO.refl _)
    | (with_reducible exact LeO.none _)
    | (with_reducible refine LeO.ite ?_ ?_)
    | (with_reducible refine LeO.bind ?_ (fun _ => ?_))
set_option maxHeartbeats 8000000 in
set_option maxRecDepth 100000 in
theorem bT.calls (k : Nat) (aQ : Int) (aR : Int) (cu : Option Addr) (bW : Nat) (aH : List (List (S23))) (dz : Option Addr) (bZ : Nat) (av : List (S70)) (a1 : Int)  (r1 : Int) (r2 : Bool) (w : World) (iF : Kd.C (Kd.slice 23 k23) w cu aH.length aH) (iG : aH.length ≤ bW) (iw : Kd.C k70 w dz av.length av) (iy : av.length ≤ bZ) (h : bT.f k aQ aR aH av a1 = some (r1, r2)) :
    Calls Try.prog 87 #[.agg #[.int .i64 aQ, .int .i64 aR, .slice cu aH.length bW, .slice dz av.length bZ], .int .i64 a1, .agg #[.int .i64 1, .func (.func 25) #[] #[], .func (.func 88) #[] #[], .func (.func 89) #[] #[]]] w fun e w' => e = .returned (.tuple #[.int .i64 r1, .bool r2]) ∧ Below w.heap.size w w' := by
  have hmm := @run_makeMap Try.prog
  have HR2 := ay.mk iF
  have HC2 := ay.mk iG
  have HR3 := ay.mk iw
  have HC3 := ay.mk iy
  unfold bT.f at h
  by_cases hlen : av.length < 1000000000 ∧ av.all (fun g => yK g.f0) = true
  case neg => rw [if_neg hlen] at h; cases h
  rw [if_pos hlen] at h
  obtain ⟨⟨i0, ok0⟩, hpl, h⟩ := Option.bind_eq_some_iff.mp h
  have HP := ay.mk hpl
  have HL := ay.mk hlen
  have H := ay.mk h
  clear iF iG iw iy h hpl hlen
  go_enter Try.func87, Try.ntmps87
  go_wp2_with fail
  refine (bC.calls k aQ aR cu bW aH dz bZ av a1 i0 ok0 _ ?_ HC2.out ?_ HC3.out HP.out).mono ?_
  · exact Kd.bf HR2.out (by repeat (first | exact Below.refl _ _ | apply eG))
  · exact Kd.bf HR3.out (by repeat (first | exact Below.refl _ _ | apply eG))
  rintro e w1 ⟨rfl, hb1⟩
  have HB1 := ay.mk (((((Below.refl w.heap.size w).alloc (Nat.le_refl _) _).alloc (by simp) _).alloc (by simp; try omega) _).trans (hb1.mono (by simp; try omega)))
  have BK3 : ay (w1.heap[w.heap.size]? = some (.cells #[.int .i64 aQ, .int .i64 aR, .slice cu aH.length bW, .slice dz av.length bZ] 28 (0, 0))) := ⟨ak (aA (aA (l6 w _) _) _) hb1⟩
  have BK5 : ay (w1.heap[w.heap.size + 1]? = some (.cells #[.int .i64 1, .func (.func 25) #[] #[], .func (.func 88) #[] #[], .func (.func 89) #[] #[]] 79 (0, 0))) := ⟨by have := ak (aA (l6 (w.alloc _) _) _) hb1; simpa using this⟩
  have BK8 : ay (w1.heap[w.heap.size + 1 + 1]? = some (.cells #[.int .i64 aQ, .int .i64 aR, .slice cu aH.length bW, .slice none 0 0] 28 (0, 0))) := ⟨by have := ak (l6 ((w.alloc _).alloc _) _) hb1; simpa using this⟩
  have SZ : ay (w.heap.size + 3 ≤ w1.heap.size) := ⟨by have := hb1.size; simp at this; omega⟩
  clear hb1
  cases ok0
  · go_wp2
    have h := H.out
    simp at h
    obtain ⟨rfl, rfl⟩ := h
    go_ret2
    exact ⟨rfl, HB1.out⟩
  · have hc3 : (w1.alloc (.map #[] 0)).cell? ⟨w.heap.size, 3, none⟩ = some (.slice dz av.length bZ) := (cO (aA BK3.out _) 3).trans rfl
    have hf3 := aj (aA BK3.out (.map #[] 0)) 3
    go_wp2_with fail
    clear hc3 hf3
    have HX := H.out
    rw [if_pos trivial] at HX
    obtain ⟨⟨n1, n2⟩, hn, HX⟩ := Option.bind_eq_some_iff.mp HX
    have HN := ay.mk hn
    have H2 := ay.mk HX
    clear H HX hn
    go_loopw [37] (fun v wr => ∃ m : Nat, ay (m ≤ av.length) ∧ v = .int .i64 (m : Int) ∧ ay (wr.heap[w.heap.size]? = some (.cells #[.int .i64 aQ, .int .i64 aR, .slice cu aH.length bW, .slice dz av.length bZ] 28 (0, 0))) ∧ ay (wr.heap[w.heap.size + 1]? = some (.cells #[.int .i64 1, .func (.func 25) #[] #[], .func (.func 88) #[] #[], .func (.func 89) #[] #[]] 79 (0, 0))) ∧ ay (wr.heap[w.heap.size + 1 + 1]? = some (.cells #[.int .i64 aQ, .int .i64 aR, .slice cu aH.length bW, .slice none 0 0] 28 (0, 0))) ∧ ay (vw wr w1.heap.size (nH (av.take m))) ∧ ay (Below w.heap.size w wr)) (fun v _ => av.length - (intOf v).toNat)
    case atStart => exact ⟨0, ⟨Nat.zero_le _⟩, rfl, ⟨aA BK3.out _⟩, ⟨aA BK5.out _⟩, ⟨aA BK8.out _⟩, ⟨vw.made w1⟩, ⟨HB1.out.alloc HB1.out.size _⟩⟩
    case round =>
      clear BK3 BK5 BK8 HB1
      obtain ⟨m, hm, rfl, BK3, BK5, BK8, OM, HB⟩ := hrel
      by_cases hlt : m < av.length
      · obtain ⟨ad, A1, c1, e, hx0, hx1, hl1, hi1⟩ := kZ HR3.out (m : Int) (by omega) (by omega)
        subst e
        have hy : aU av (m : Int) = av[m] := by simp [aU, hlt]
        have hwf : yK (aU av (m : Int)).f0 = true := by
          rw [hy]; exact List.all_eq_true.1 HL.out.2 _ (List.getElem_mem hlt)
        have htk : nH (av.take (m + 1)) = nH (av.take m) ++ [(aU av (m : Int)).f0] := by
          rw [hy, List.take_succ_eq_append_getElem hlt]; exact List.map_append
        have hln : (nH (av.take m)).length < maxLen := by simp only [nH, List.length_map, List.length_take]; have := HL.out.1; unfold maxLen; omega
        have HTK := ay.mk htk
        have HWF := ay.mk (abe hwf)
        have HLN := ay.mk hln
        have HLT := ay.mk hlt
        have hw : wrap64 ((m : Int) + 1) = ((m + 1 : Nat) : Int) := by have := HL.out.1; unfold wrap64; omega
        have HW := ay.mk hw
        clear hy hwf htk hln hw
        replace hx0 := (HB.out.cell (World.block_lt_of_cell? w _ hx0)).trans hx0
        replace hx1 := (HB.out.cell (World.block_lt_of_cell? w _ hx1)).trans hx1
        have p0 : 0 ≤ (m : Int) := by omega
        have p1 : (m : Int) < (av.length : Int) := by omega
        obtain ⟨x, hx⟩ : ∃ x : Int, (m : Int) = x := ⟨_, rfl⟩
        rw [hx] at p0 p1 hx0 hx1 HTK HWF HW ⊢
        have HXX := ay.mk hx
        clear hx hlt
        have p2 : decide (x < (av.length : Int)) = true := decide_eq_true p1
        replace p0 := eq_true p0
        replace p1 := eq_true p1
        go_wp2_with (first
          | (at_lookup; refine vw.lookup (b := w1.heap.size) (l := nH (av.take m)) (vw.heap OM.out (Below.heap_alloc wr _ _ OM.out.lt)) rfl _ _ rfl rfl _ HWF.out rfl ?_)
          | (at_mapUpdate; refine vw.update (b := w1.heap.size) (l := nH (av.take m)) (vw.heap OM.out (Below.heap_alloc wr _ _ OM.out.lt)) rfl _ _ _ rfl rfl HLN.out _ HWF.out rfl rfl ?_; intro w4 om4 gr4; have OM4 := ay.mk om4; have GR4 := ay.mk gr4; clear om4 gr4))
        go_roundw
        case rel =>
          have hne : ∀ g, g < w.heap.size + 3 → some g ≠ some w1.heap.size := fun g hg e => by have := SZ.out; injection e; omega
          exact ⟨m + 1, ⟨HLT.out⟩, by rw [HW.out], ⟨oh (aA BK3.out _) GR4.out (hne _ (by omega))⟩, ⟨oh (aA BK5.out _) GR4.out (hne _ (by omega))⟩, ⟨oh (aA BK8.out _) GR4.out (hne _ (by omega))⟩,
            ⟨by rw [HTK.out]; exact OM4.out⟩, ⟨(HB.out.alloc HB.out.size _).grown GR4.out (HB.out.alloc HB.out.size _).size (fun j hj => by cases hj; have := SZ.out; omega)⟩⟩
        case measure => have := HLT.out; have := HW.out; have := HXX.out; simp only [intOf]; omega
      · have axn : m = av.length := by have := hm.out; omega
        subst axn
        have OM2 : ay (vw wr w1.heap.size (nH av)) := ⟨by have := OM.out; rwa [List.take_length] at this⟩
        clear OM hlt hm
        have hc0 := (cO BK5.out 0).trans rfl
        have hc1 := (cO BK5.out 1).trans rfl
        have h80 := (cO BK8.out 0).trans rfl
        have h81 := (cO BK8.out 1).trans rfl
        have h82 := (cO BK8.out 2).trans rfl
        have h83 := (cO BK8.out 3).trans rfl
        have p2 : decide ((av.length : Int) < (av.length : Int)) = false := by simp
        go_wp2_with fail
        refine (fT.calls k aQ aR cu bW aH none 0 [] _ n1 n2 _ (Kd.bf HR2.out HB.out) HC2.out (Kd.aav _ _) (Nat.le_refl _) HN.out).mono ?_
        rintro e w5 ⟨rfl, hb5⟩
        have n5 := ay.mk (ak BK5.out hb5)
        have n8 := ay.mk (ak BK8.out hb5)
        have nm := ay.mk (vw.heap OM2.out (hb5.block _ OM2.out.lt))
        have nb := ay.mk (au HB.out hb5)
        clear BK3 BK5 BK8 OM2 HB hc0 hc1 h80 h81 h82 h83 hb5 p2
        go_wp2_with fail
        go_loopg [9, 10, 14] k (fun kq v9 v10 v14 w' => ∃ (i : Int) (ok : Bool) (by_ : Int), v9 = .int .i64 i ∧ v10 = .bool ok ∧ v14 = .int .i64 by_ ∧ ay (bT.l1 kq i ok by_ aQ aR aH av = some (r1, r2)) ∧ ay (kq ≤ k) ∧ ay (w'.heap[w.heap.size + 1]? = some (.cells #[.int .i64 1, .func (.func 25) #[] #[], .func (.func 88) #[] #[], .func (.func 89) #[] #[]] 79 (0, 0))) ∧ ay (w'.heap[w.heap.size + 1 + 1]? = some (.cells #[.int .i64 aQ, .int .i64 aR, .slice cu aH.length bW, .slice none 0 0] 28 (0, 0))) ∧ ay (vw w' w1.heap.size (nH av)) ∧ ay (Below w.heap.size w w'))
        case atStart => exact ⟨n1, n2, 0, rfl, rfl, rfl, H2, ⟨Nat.le_refl _⟩, n5, n8, nm, nb⟩
        case round =>
          clear n5 n8 nm nb H2 HN
          obtain ⟨i, ok, by_, rfl, rfl, rfl, HA, HK1, BK5, BK8, OM, HB⟩ := hrel
          cases gk with
          | zero => exact absurd HA.out (by simp [bT.l1])
          | succ k1 =>
            have hc0 := (cO BK5.out 0).trans rfl
            have hc1 := (cO BK5.out 1).trans rfl
            have h80 := (cO BK8.out 0).trans rfl
            have h81 := (cO BK8.out 1).trans rfl
            have h82 := (cO BK8.out 2).trans rfl
            have h83 := (cO BK8.out 3).trans rfl
            have H := HA.out
            clear HA
            simp only [bT.l1] at H
            cases ok
            · simp at H
              obtain ⟨rfl, rfl⟩ := H
              go_wp2
              all_goals (go_ret2; exact ⟨rfl, HB.out⟩)
            · rw [if_pos rfl] at H
              by_cases cb : by_ < 2
              · rw [if_pos cb] at H
                obtain ⟨⟨l, e⟩, hg, H⟩ := Option.bind_eq_some_iff.mp H
                have cb0 : decide (by_ < 2) = true := decide_eq_true cb
                clear cb
                have HG := ay.mk hg
                have H' := ay.mk H
                clear hg H
                go_wp2_with fail
                refine (eO.calls k1 aQ aR cu bW aH none 0 [] i l e _ (Kd.bf HR2.out HB.out) HC2.out (Kd.aav _ _) (Nat.le_refl _) HG.out).mono ?_
                rintro e' w6 ⟨v, rfl, hR, hb6⟩
                have n5 := ay.mk (ak BK5.out hb6)
                have n8 := ay.mk (ak BK8.out hb6)
                have nm := ay.mk (vw.heap OM.out (hb6.block _ OM.out.lt))
                have nb := ay.mk (au HB.out hb6)
                clear BK5 BK8 OM HB hc0 hc1 h80 h81 h82 h83 hb6 hR
                have BK5 := n5
                have BK8 := n8
                have OM := nm
                have HB := nb
                clear n5 n8 nm nb
                have hc0 := (cO BK5.out 0).trans rfl
                have hc1 := (cO BK5.out 1).trans rfl
                have h80 := (cO BK8.out 0).trans rfl
                have h81 := (cO BK8.out 1).trans rfl
                have h82 := (cO BK8.out 2).trans rfl
                have h83 := (cO BK8.out 3).trans rfl
                have H := H'.out
                clear H'
                by_cases ce : e = 0
                · subst ce
                  rw [if_pos rfl] at H
                  by_cases cf : yK i = true
                  case neg => rw [if_neg cf] at H; cases H
                  rw [if_pos cf] at H
                  have HWF := ay.mk (abe cf)
                  clear cf
                  by_cases cz : yD (nH av) i = 0
                  · rw [if_pos cz] at H
                    simp only [Option.some.injEq, Prod.mk.injEq] at H
                    obtain ⟨e1, rfl⟩ := H
                    have E1 := ay.mk e1
                    clear e1
                    have cz0 : (yD (nH av) i == 0) = true := by simpa using cz
                    have cz1 : decide (yD (nH av) i = 0) = true := by simpa using cz
                    go_wp2_with (at_lookup; refine vw.lookup (b := w1.heap.size) (l := nH av) OM.out rfl _ _ rfl rfl _ HWF.out rfl ?_)
                    go_ret2
                    exact ⟨by simp [E1.out], HB.out⟩
                  · rw [if_neg cz] at H
                    have cz0 : (yD (nH av) i == 0) = false := by simpa using cz
                    have cz1 : decide (yD (nH av) i = 0) = false := by simpa using cz
                    clear cz
                    obtain ⟨⟨m1, m2⟩, hn, H⟩ := Option.bind_eq_some_iff.mp H
                    have HN := ay.mk hn
                    have H' := ay.mk H
                    clear hn H
                    go_wp2_with (first | (at_lookup; refine vw.lookup (b := w1.heap.size) (l := nH av) OM.out rfl _ _ rfl rfl _ HWF.out rfl ?_) | fail)
                    refine (fT.calls k1 aQ aR cu bW aH none 0 [] _ m1 m2 _ (Kd.bf HR2.out HB.out) HC2.out (Kd.aav _ _) (Nat.le_refl _) HN.out).mono ?_
                    rintro e w7 ⟨rfl, hb7⟩
                    have n5 := ay.mk (ak BK5.out hb7)
                    have n8 := ay.mk (ak BK8.out hb7)
                    have nm := ay.mk (vw.heap OM.out (hb7.block _ OM.out.lt))
                    have nb := ay.mk (au HB.out hb7)
                    clear BK5 BK8 OM HB hc0 hc1 h80 h81 h82 h83 hb7
                    go_wp2
                    go_roundg k1
                    case measure => exact Nat.lt_succ_self _
                    case rel => exact ⟨m1, m2, _, rfl, rfl, rfl, H', ⟨Nat.le_of_succ_le HK1.out⟩, n5, n8, nm, nb⟩
                · rw [if_neg ce] at H
                  have ce0 : (e != 0) = true := by simpa using ce
                  have ce1 : (e == 0) = false := by simpa using ce
                  clear ce
                  obtain ⟨⟨m1, m2⟩, hn, H⟩ := Option.bind_eq_some_iff.mp H
                  have HN := ay.mk hn
                  have H' := ay.mk H
                  clear hn H
                  go_wp2_with fail
                  refine (fT.calls k1 aQ aR cu bW aH none 0 [] _ m1 m2 _ (Kd.bf HR2.out HB.out) HC2.out (Kd.aav _ _) (Nat.le_refl _) HN.out).mono ?_
                  rintro e w7 ⟨rfl, hb7⟩
                  have n5 := ay.mk (ak BK5.out hb7)
                  have n8 := ay.mk (ak BK8.out hb7)
                  have nm := ay.mk (vw.heap OM.out (hb7.block _ OM.out.lt))
                  have nb := ay.mk (au HB.out hb7)
                  clear BK5 BK8 OM HB hc0 hc1 h80 h81 h82 h83 hb7
                  go_wp2
                  go_roundg k1
                  case measure => exact Nat.lt_succ_self _
                  case rel => exact ⟨m1, m2, _, rfl, rfl, rfl, H', ⟨Nat.le_of_succ_le HK1.out⟩, n5, n8, nm, nb⟩
              · rw [if_neg cb] at H
                have cb0 : decide (by_ < 2) = false := decide_eq_false cb
                clear cb
                cases H
                go_wp2
                all_goals (go_ret2; exact ⟨rfl, HB.out⟩)
end Go.Proofs.Ytmbmalkpmanaaaa.P

/- The law FindRises: it holds at every input that its row reads. No condition of its own. -/
import Derived.Test.YtmbmalkpmanaaaaYF3
import Derived.Test.YtmbmalkpmanaaaaYF2
import Derived.Test.YtmbmalkpmanaaaaYF11
import Derived.Test.YtmbmalkpmanaaaaYF14
import Derived.Test.YtmbmalkpmanaaaaYF7
import Derived.Test.YtmbmalkpmanaaaaYF9
import Derived.Test.YtmbmalkpmanaaaaYF17
import Derived.Test.YtmbmalkpmanaaaaRows
import Derived.WalkKit
import Derived.ProofKit
import Derived.OpenShut
import Derived.ShutString
import Derived.ChangeOld
import Derived.Below
import Derived.SizedLaws
namespace Go.Proofs.Ytmbmalkpmanaaaa.P
open Go.RowKit Go.Proofs.YtmbmalkpmanaaaaW.aK Go.Proofs.YtmbmalkpmanaaaaW.bK Go.Proofs.YtmbmalkpmanaaaaW.bM
attribute [local go_sem] dS dU fG fH dB dD dV dW   -- for this text's walks alone
set_option linter.unusedVariables false
set_option linter.unusedSimpArgs false
def aW.j0 : Nat → Bool → Int → Int → List (List (S23)) → List (S70) → Option (Bool)
 | 0, _, _, _, _, _ => none
 | k + 1, x74, x551000, x551001, x551002, x551003 => if x74 = true then (none) else ((bP.f k x551000 x551001 x551002 x551003 1099511627777).bind fun al6 => ((bV.f k x551000 x551001 x551002 x551003 (-1099511627777)).bind fun al7 => (if al6.2 = true then (none) else (if al7.2 = true then (none) else (if (wrap64 (al6.1 + al7.1)) = 0 then ((aY.f k).bind fun anC => (some anC)) else (none))))))
def aW.f (k : Nat) (aQ : Int) (aR : Int) (aH : List (List (S23))) (av : List (S70)) (a1 : Int) (a2 : Int) : Option (Bool) := (fP.f k aQ aR aH av).bind fun auT => (if auT = true then ((bP.f k aQ aR aH av (mn a1 a2)).bind fun aar => ((bP.f k aQ aR aH av (mx a1 a2)).bind fun aas => ((bV.f k aQ aR aH av (mn a1 a2)).bind fun rH => ((bV.f k aQ aR aH av (mx a1 a2)).bind fun rJ => (if aas.2 = true then (if aar.2 = true then (if aar.1 > aas.1 then (none) else (if rH.2 = true then (if rJ.2 = true then (aW.j0 k (decide (rH.1 > rJ.1)) aQ aR aH av) else (none)) else (aW.j0 k false aQ aR aH av))) else (none)) else (if rH.2 = true then (if rJ.2 = true then (aW.j0 k (decide (rH.1 > rJ.1)) aQ aR aH av) else (none)) else (aW.j0 k false aQ aR aH av))))))) else ((aY.f k).bind fun arW => (some arW)))
set_option maxHeartbeats 8000000 in
set_option maxRecDepth 100000 in
theorem aW.calls (k : Nat) (aQ : Int) (aR : Int) (cu : Option Addr) (bW : Nat) (aH : List (List (S23))) (dz : Option Addr) (bZ : Nat) (av : List (S70)) (a1 : Int) (a2 : Int) (r : Bool) (w : World) (iF : Kd.C (Kd.slice 23 k23) w cu aH.length aH) (iG : aH.length ≤ bW) (iw : Kd.C k70 w dz av.length av) (iy : av.length ≤ bZ) (h : aW.f k aQ aR aH av a1 a2 = some r) :
 Calls Try.prog 6 #[.agg #[.int .i64 aQ, .int .i64 aR, .slice cu aH.length bW, .slice dz av.length bZ], .int .i64 a1, .int .i64 a2] w fun e w' => e = .returned (.bool r) ∧ Below w.heap.size w w' := by
 have aaE := Try.underlying28
 have gF := am iF
 have gX := am iG
 clear iF iG
 have fK := am iw
 have gW := am iy
 clear iw iy
 have HB := am (Below.refl w.heap.size w)
 have H : ((fP.f k aQ aR aH av).bind fun auT => (if auT = true then ((bP.f k aQ aR aH av (mn a1 a2)).bind fun aar => ((bP.f k aQ aR aH av (mx a1 a2)).bind fun aas => ((bV.f k aQ aR aH av (mn a1 a2)).bind fun rH => ((bV.f k aQ aR aH av (mx a1 a2)).bind fun rJ => (if aas.2 = true then (if aar.2 = true then (if aar.1 > aas.1 then (none) else (if rH.2 = true then (if rJ.2 = true then (aW.j0 k (decide (rH.1 > rJ.1)) aQ aR aH av) else (none)) else (aW.j0 k false aQ aR aH av))) else (none)) else (if rH.2 = true then (if rJ.2 = true then (aW.j0 k (decide (rH.1 > rJ.1)) aQ aR aH av) else (none)) else (aW.j0 k false aQ aR aH av))))))) else ((aY.f k).bind fun arW => (some arW)))) = some r := h
 clear h
 replace H := Option.bind_eq_some_iff.mp H
 obtain ⟨auT, A40, H⟩ := H
 try dsimp only at H
 have A4 := am A40
 clear A40
 by_cases c5 : auT = true
 ·subst c5
  have H1 : ((bP.f k aQ aR aH av (mn a1 a2)).bind fun aar => ((bP.f k aQ aR aH av (mx a1 a2)).bind fun aas => ((bV.f k aQ aR aH av (mn a1 a2)).bind fun rH => ((bV.f k aQ aR aH av (mx a1 a2)).bind fun rJ => (if aas.2 = true then (if aar.2 = true then (if aar.1 > aas.1 then (none) else (if rH.2 = true then (if rJ.2 = true then (aW.j0 k (decide (rH.1 > rJ.1)) aQ aR aH av) else (none)) else (aW.j0 k false aQ aR aH av))) else (none)) else (if rH.2 = true then (if rJ.2 = true then (aW.j0 k (decide (rH.1 > rJ.1)) aQ aR aH av) else (none)) else (aW.j0 k false aQ aR aH av))))))) = some r := by rw [if_pos rfl] at H; exact H
  clear H
  have H := H1
  clear H1
  obtain ⟨ji6, ai6⟩ : ∃ j_ : Int, (mn a1 a2) = j_ := ⟨_, rfl⟩
  replace H : ((bP.f k aQ aR aH av (ji6)).bind fun aar => ((bP.f k aQ aR aH av (mx a1 a2)).bind fun aas => ((bV.f k aQ aR aH av (ji6)).bind fun rH => ((bV.f k aQ aR aH av (mx a1 a2)).bind fun rJ => (if aas.2 = true then (if aar.2 = true then (if aar.1 > aas.1 then (none) else (if rH.2 = true then (if rJ.2 = true then (aW.j0 k (decide (rH.1 > rJ.1)) aQ aR aH av) else (none)) else (aW.j0 k false aQ aR aH av))) else (none)) else (if rH.2 = true then (if rJ.2 = true then (aW.j0 k (decide (rH.1 > rJ.1)) aQ aR aH av) else (none)) else (aW.j0 k false aQ aR aH av))))))) = some r := by first | (rw [ai6] at H; exact H) | (simp only [ai6] at H ⊢; exact H)
  (try rw [ai6] at A4)
  have aDA : (if a2 < a1 then a2 else a1) = ji6 := ai6
  obtain ⟨ji7, arX⟩ : ∃ j_ : Int, (mx a1 a2) = j_ := ⟨_, rfl⟩
  replace H : ((bP.f k aQ aR aH av (ji6)).bind fun aar => ((bP.f k aQ aR aH av (ji7)).bind fun aas => ((bV.f k aQ aR aH av (ji6)).bind fun rH => ((bV.f k aQ aR aH av (ji7)).bind fun rJ => (if aas.2 = true then (if aar.2 = true then (if aar.1 > aas.1 then (none) else (if rH.2 = true then (if rJ.2 = true then (aW.j0 k (decide (rH.1 > rJ.1)) aQ aR aH av) else (none)) else (aW.j0 k false aQ aR aH av))) else (none)) else (if rH.2 = true then (if rJ.2 = true then (aW.j0 k (decide (rH.1 > rJ.1)) aQ aR aH av) else (none)) else (aW.j0 k false aQ aR aH av))))))) = some r := by first | (rw [arX] at H; exact H) | (simp only [arX] at H ⊢; exact H)
  (try rw [arX] at A4)
  have aDB : (if a1 < a2 then a2 else a1) = ji7 := arX
  replace H := Option.bind_eq_some_iff.mp H
  obtain ⟨⟨auU, aAs⟩, A80, H⟩ := H
  try dsimp only at H
  have A8 := am A80
  clear A80
  replace H := Option.bind_eq_some_iff.mp H
  obtain ⟨⟨auV, aBA⟩, A90, H⟩ := H
  try dsimp only at H
  have A9 := am A90
  clear A90
  replace H := Option.bind_eq_some_iff.mp H
  obtain ⟨⟨amb, asl⟩, aj1, H⟩ := H
  try dsimp only at H
  have A10 := am aj1
  clear aj1
  replace H := Option.bind_eq_some_iff.mp H
  obtain ⟨⟨amc, aoh⟩, A110, H⟩ := H
  try dsimp only at H
  have A11 := am A110
  clear A110
  have aro := am H
  clear H
  go_enter Try.func6, Try.ntmps6
  go_upto_region 8 with (first | ((with_reducible refine bq (N := 3) rfl ?_); refine bx 3 28 #[.int .i64 aQ, .int .i64 aR, .slice cu aH.length bW, .slice dz av.length bZ] ?_; intro mV hg w13 dL hb; have gN := am (dL); have aAt := am ((bz hg HB.out : w.heap.size ≤ mV)); have xU := am ((bz hg HB.out : w.heap.size ≤ mV)); replace HB := am (au (bl HB.out) hb); clear hb dL hg; have aj6 : w13.cell? ⟨mV, 0, none⟩ = some (.int .i64 aQ) := bc gN.out 0; have aj7 : w13.cell? ⟨mV, 1, none⟩ = some (.int .i64 aR) := bc gN.out 1; have aj8 : w13.cell? ⟨mV, 2, none⟩ = some (.slice cu aH.length bW) := bc gN.out 2; have aj9 : w13.cell? ⟨mV, 3, none⟩ = some (.slice dz av.length bZ) := bc gN.out 3; have akb := aj gN.out 0; have akc := aj gN.out 1; have akd := aj gN.out 2; have ake := aj gN.out 3) | ((with_reducible refine aC (f := 17) rfl ?_); refine bR (some 20) rfl rfl Try.func17 (by kernel_rfl) rfl #[.agg #[.int .i64 aQ, .int .i64 aR, .slice cu aH.length bW, .slice dz av.length bZ]] rfl ar ?_; (with_reducible refine (fP.calls k aQ aR _ _ aH _ _ av true _ ?bH ?bI ?dG ?dI A4.out).mono ?_); (case bH => exact kc (Kd.bf gF.out HB.out)); (case bI => exact gX.out); (case dG => exact kc (Kd.bf fK.out HB.out)); (case dI => exact gW.out); clear A4; rintro e w15 ⟨rfl, hb⟩; refine ⟨_, rfl, ?_⟩; replace gN := am (ak (kp gN.out) hb); replace HB := am (au (bl1 HB.out xU.out) hb); (try clear hb); (try clear hb2); (try clear hk); (try clear hi); have aaF : w15.cell? ⟨mV, 0, none⟩ = some (.int .i64 aQ) := bc gN.out 0; have aaG : w15.cell? ⟨mV, 1, none⟩ = some (.int .i64 aR) := bc gN.out 1; have abQ : w15.cell? ⟨mV, 2, none⟩ = some (.slice cu aH.length bW) := bc gN.out 2; have abR : w15.cell? ⟨mV, 3, none⟩ = some (.slice dz av.length bZ) := bc gN.out 3; have aaH := aj gN.out 0; have aaI := aj gN.out 1; have abS := aj gN.out 2; have abT := aj gN.out 3) | ((with_reducible refine aC (f := 22) rfl ?_); refine bR (some 32) rfl rfl Try.func22 (by kernel_rfl) rfl #[.agg #[.int .i64 aQ, .int .i64 aR, .slice cu aH.length bW, .slice dz av.length bZ], .int .i64 ji6] rfl (by (try simp only [List.map_toArray, List.map_cons, List.map_nil]); first | done | (simp only [ai6]; rfl) | rfl | (simp only [List.length_drop, List.length_take]; rfl)) ?_; (with_reducible refine (bP.calls k aQ aR _ _ aH _ _ av ji6 auU aAs _ ?bH ?bI ?dG ?dI A8.out).mono ?_); (case bH => exact kc (Kd.bf gF.out HB.out)); (case bI => exact gX.out); (case dG => exact kc (Kd.bf fK.out HB.out)); (case dI => exact gW.out); clear A8; rintro e w17 ⟨rfl, hb⟩; refine ⟨_, rfl, ?_⟩; replace gN := am (ak (kp gN.out) hb); replace HB := am (au (bl1 HB.out xU.out) hb); (try clear hb); (try clear hb2); (try clear hk); (try clear hi); have sN : w17.cell? ⟨mV, 0, none⟩ = some (.int .i64 aQ) := bc gN.out 0; have sO : w17.cell? ⟨mV, 1, none⟩ = some (.int .i64 aR) := bc gN.out 1; have sP : w17.cell? ⟨mV, 2, none⟩ = some (.slice cu aH.length bW) := bc gN.out 2; have sQ : w17.cell? ⟨mV, 3, none⟩ = some (.slice dz av.length bZ) := bc gN.out 3; have sS := aj gN.out 0; have sU := aj gN.out 1; have sV := aj gN.out 2; have sW := aj gN.out 3) | ((with_reducible refine aC (f := 22) rfl ?_); refine bR (some 38) rfl rfl Try.func22 (by kernel_rfl) rfl #[.agg #[.int .i64 aQ, .int .i64 aR, .slice cu aH.length bW, .slice dz av.length bZ], .int .i64 ji7] rfl (by (try simp only [List.map_toArray, List.map_cons, List.map_nil]); first | done | (simp only [arX]; rfl) | rfl | (simp only [List.length_drop, List.length_take]; rfl)) ?_; (with_reducible refine (bP.calls k aQ aR _ _ aH _ _ av ji7 auV aBA _ ?bH ?bI ?dG ?dI A9.out).mono ?_); (case bH => exact kc (Kd.bf gF.out HB.out)); (case bI => exact gX.out); (case dG => exact kc (Kd.bf fK.out HB.out)); (case dI => exact gW.out); clear A9; rintro e w19 ⟨rfl, hb⟩; refine ⟨_, rfl, ?_⟩; replace gN := am (ak (kp gN.out) hb); replace HB := am (au (bl1 HB.out xU.out) hb); (try clear hb); (try clear hb2); (try clear hk); (try clear hi); have rV : w19.cell? ⟨mV, 0, none⟩ = some (.int .i64 aQ) := bc gN.out 0; have rW : w19.cell? ⟨mV, 1, none⟩ = some (.int .i64 aR) := bc gN.out 1; have xJ : w19.cell? ⟨mV, 2, none⟩ = some (.slice cu aH.length bW) := bc gN.out 2; have xK : w19.cell? ⟨mV, 3, none⟩ = some (.slice dz av.length bZ) := bc gN.out 3; have rX := aj gN.out 0; have rY := aj gN.out 1; have xL := aj gN.out 2; have xM := aj gN.out 3) | ((with_reducible refine aC (f := 23) rfl ?_); refine bR (some 44) rfl rfl Try.func23 (by kernel_rfl) rfl #[.agg #[.int .i64 aQ, .int .i64 aR, .slice cu aH.length bW, .slice dz av.length bZ], .int .i64 ji6] rfl (by (try simp only [List.map_toArray, List.map_cons, List.map_nil]); first | done | (simp only [ai6]; rfl) | rfl | (simp only [List.length_drop, List.length_take]; rfl)) ?_; (with_reducible refine (bV.calls k aQ aR _ _ aH _ _ av ji6 amb asl _ ?bH ?bI ?dG ?dI A10.out).mono ?_); (case bH => exact kc (Kd.bf gF.out HB.out)); (case bI => exact gX.out); (case dG => exact kc (Kd.bf fK.out HB.out)); (case dI => exact gW.out); clear A10; rintro e w21 ⟨rfl, hb⟩; refine ⟨_, rfl, ?_⟩; replace gN := am (ak (kp gN.out) hb); replace HB := am (au (bl1 HB.out xU.out) hb); (try clear hb); (try clear hb2); (try clear hk); (try clear hi); have arY : w21.cell? ⟨mV, 0, none⟩ = some (.int .i64 aQ) := bc gN.out 0; have arZ : w21.cell? ⟨mV, 1, none⟩ = some (.int .i64 aR) := bc gN.out 1; have ar0 : w21.cell? ⟨mV, 2, none⟩ = some (.slice cu aH.length bW) := bc gN.out 2; have ar1 : w21.cell? ⟨mV, 3, none⟩ = some (.slice dz av.length bZ) := bc gN.out 3; have ar2 := aj gN.out 0; have ar3 := aj gN.out 1; have ar4 := aj gN.out 2; have ar5 := aj gN.out 3) | ((with_reducible refine aC (f := 23) rfl ?_); refine bR (some 50) rfl rfl Try.func23 (by kernel_rfl) rfl #[.agg #[.int .i64 aQ, .int .i64 aR, .slice cu aH.length bW, .slice dz av.length bZ], .int .i64 ji7] rfl (by (try simp only [List.map_toArray, List.map_cons, List.map_nil]); first | done | (simp only [arX]; rfl) | rfl | (simp only [List.length_drop, List.length_take]; rfl)) ?_; (with_reducible refine (bV.calls k aQ aR _ _ aH _ _ av ji7 amc aoh _ ?bH ?bI ?dG ?dI A11.out).mono ?_); (case bH => exact kc (Kd.bf gF.out HB.out)); (case bI => exact gX.out); (case dG => exact kc (Kd.bf fK.out HB.out)); (case dI => exact gW.out); clear A11; rintro e w23 ⟨rfl, hb⟩; refine ⟨_, rfl, ?_⟩; replace gN := am (ak (kp gN.out) hb); replace HB := am (au (bl1 HB.out xU.out) hb); (try clear hb); (try clear hb2); (try clear hk); (try clear hi)))
  (try simp only [Act.put, List.setIfInBounds_toArray, List.set_cons_zero, List.set_cons_succ])
  go_cut [74] (fun v74 wc => ∃ (kq : Nat) (aiv : Bool), v74 = .bool aiv ∧ ay (aW.j0 kq aiv aQ aR aH av = some r) ∧ ay (kq ≤ k) ∧ ay (wc.heap[mV]? = some (.cells #[.int .i64 aQ, .int .i64 aR, (.slice cu aH.length bW), (.slice dz av.length bZ)] 28 (0, 0))) ∧ ay (Below w.heap.size w wc))
  case first =>
   have H := aro.out
   clear aro
   by_cases c24 : aBA = true
   ·subst c24
    have H1 : (if aAs = true then (if auU > auV then (none) else (if asl = true then (if aoh = true then (aW.j0 k (decide (amb > amc)) aQ aR aH av) else (none)) else (aW.j0 k false aQ aR aH av))) else (none)) = some r := by rw [if_pos rfl] at H; exact H
    clear H
    have H := H1
    clear H1
    by_cases c25 : aAs = true
    ·subst c25
     have H1 : (if auU > auV then (none) else (if asl = true then (if aoh = true then (aW.j0 k (decide (amb > amc)) aQ aR aH av) else (none)) else (aW.j0 k false aQ aR aH av))) = some r := by rw [if_pos rfl] at H; exact H
     clear H
     have H := H1
     clear H1
     by_cases c26 : auU > auV
     ·rw [if_pos c26] at H
      exact absurd H (by simp)
     ·rw [if_neg c26] at H
      have ane : decide (auV < auU) = false := decide_eq_false c26
      clear c26
      (first | rw [ane] | (simp only [jR, kH]; rw [ane]) | skip)
      by_cases c27 : asl = true
      ·subst c27
       have H1 : (if aoh = true then (aW.j0 k (decide (amb > amc)) aQ aR aH av) else (none)) = some r := by rw [if_pos rfl] at H; exact H
       clear H
       have H := H1
       clear H1
       by_cases c28 : aoh = true
       ·subst c28
        have H1 : (aW.j0 k (decide (amb > amc)) aQ aR aH av) = some r := by rw [if_pos rfl] at H; exact H
        clear H
        have H := H1
        clear H1
        have H' := am H
        clear H
        go_wp2
        go_meet
        case rel => exact ⟨_, (decide (amb > amc)), sm, H', ⟨by first | omega | exact Nat.le_refl _⟩, ⟨kp gN.out⟩, ⟨bl1 HB.out xU.out⟩⟩
       ·replace c28 := Bool.eq_false_iff.mpr c28
        subst c28
        have H1 : (none) = some r := by rw [if_neg (show ¬ (false = true) by decide)] at H; exact H
        clear H
        have H := H1
        clear H1
        exact absurd H (by simp)
      ·replace c27 := Bool.eq_false_iff.mpr c27
       subst c27
       have H1 : (aW.j0 k false aQ aR aH av) = some r := by rw [if_neg (show ¬ (false = true) by decide)] at H; exact H
       clear H
       have H := H1
       clear H1
       have H' := am H
       clear H
       go_wp2
       go_meet
       case rel => exact ⟨_, (false), sm, H', ⟨by first | omega | exact Nat.le_refl _⟩, ⟨kp gN.out⟩, ⟨bl1 HB.out xU.out⟩⟩
    ·replace c25 := Bool.eq_false_iff.mpr c25
     subst c25
     have H1 : (none) = some r := by rw [if_neg (show ¬ (false = true) by decide)] at H; exact H
     clear H
     have H := H1
     clear H1
     exact absurd H (by simp)
   ·replace c24 := Bool.eq_false_iff.mpr c24
    subst c24
    have H1 : (if asl = true then (if aoh = true then (aW.j0 k (decide (amb > amc)) aQ aR aH av) else (none)) else (aW.j0 k false aQ aR aH av)) = some r := by rw [if_neg (show ¬ (false = true) by decide)] at H; exact H
    clear H
    have H := H1
    clear H1
    by_cases c29 : asl = true
    ·subst c29
     have H1 : (if aoh = true then (aW.j0 k (decide (amb > amc)) aQ aR aH av) else (none)) = some r := by rw [if_pos rfl] at H; exact H
     clear H
     have H := H1
     clear H1
     by_cases c30 : aoh = true
     ·subst c30
      have H1 : (aW.j0 k (decide (amb > amc)) aQ aR aH av) = some r := by rw [if_pos rfl] at H; exact H
      clear H
      have H := H1
      clear H1
      have H' := am H
      clear H
      go_wp2
      go_meet
      case rel => exact ⟨_, (decide (amb > amc)), sm, H', ⟨by first | omega | exact Nat.le_refl _⟩, ⟨kp gN.out⟩, ⟨bl1 HB.out xU.out⟩⟩
     ·replace c30 := Bool.eq_false_iff.mpr c30
      subst c30
      have H1 : (none) = some r := by rw [if_neg (show ¬ (false = true) by decide)] at H; exact H
      clear H
      have H := H1
      clear H1
      exact absurd H (by simp)
    ·replace c29 := Bool.eq_false_iff.mpr c29
     subst c29
     have H1 : (aW.j0 k false aQ aR aH av) = some r := by rw [if_neg (show ¬ (false = true) by decide)] at H; exact H
     clear H
     have H := H1
     clear H1
     have H' := am H
     clear H
     go_wp2
     go_meet
     case rel => exact ⟨_, (false), sm, H', ⟨by first | omega | exact Nat.le_refl _⟩, ⟨kp gN.out⟩, ⟨bl1 HB.out xU.out⟩⟩
  case rest =>
   clear aro
   try clear c1
   try clear c2
   try clear p2
   try clear c3
   try clear c5
   try clear c6
   try clear c17
   try clear c22
   try clear c23
   try clear c24
   try clear c25
   try clear c26
   try clear ane
   try clear c27
   try clear c28
   try clear c29
   try clear c30
   try clear aj6
   try clear aj7
   try clear aj8
   try clear aj9
   try clear aaF
   try clear aaG
   try clear abQ
   try clear abR
   try clear sN
   try clear sO
   try clear sP
   try clear sQ
   try clear rV
   try clear rW
   try clear xJ
   try clear xK
   try clear arY
   try clear arZ
   try clear ar0
   try clear ar1
   try clear akb
   try clear akc
   try clear akd
   try clear ake
   try clear aaH
   try clear aaI
   try clear abS
   try clear abT
   try clear sS
   try clear sU
   try clear sV
   try clear sW
   try clear rX
   try clear rY
   try clear xL
   try clear xM
   try clear ar2
   try clear ar3
   try clear ar4
   try clear ar5
   obtain ⟨kq, aiv, rfl, HA, azx, gN, HB⟩ := hcut
   cases kq with
   | zero => exact absurd HA.out (by simp [aW.j0])
   | succ kj11 =>
    have H := HA.out
    clear HA
    simp only [aW.j0] at H
    by_cases c31 : aiv = true
    ·subst c31
     have H1 : (none) = some r := by rw [if_pos rfl] at H; exact H
     clear H
     have H := H1
     clear H1
     exact absurd H (by simp)
    ·replace c31 := Bool.eq_false_iff.mpr c31
     subst c31
     have H1 : ((bP.f kj11 aQ aR aH av 1099511627777).bind fun al6 => ((bV.f kj11 aQ aR aH av (-1099511627777)).bind fun al7 => (if al6.2 = true then (none) else (if al7.2 = true then (none) else (if (wrap64 (al6.1 + al7.1)) = 0 then ((aY.f kj11).bind fun anC => (some anC)) else (none)))))) = some r := by rw [if_neg (show ¬ (false = true) by decide)] at H; exact H
     clear H
     have H := H1
     clear H1
     replace H := Option.bind_eq_some_iff.mp H
     obtain ⟨⟨asn, aDC⟩, A320, H⟩ := H
     try dsimp only at H
     have A32 := am A320
     clear A320
     replace H := Option.bind_eq_some_iff.mp H
     obtain ⟨⟨aso, aBB⟩, aut, H⟩ := H
     try dsimp only at H
     have A33 := am aut
     clear aut
     by_cases c34 : aDC = true
     ·subst c34
      have H1 : (none) = some r := by rw [if_pos rfl] at H; exact H
      clear H
      have H := H1
      clear H1
      exact absurd H (by simp)
     ·replace c34 := Bool.eq_false_iff.mpr c34
      subst c34
      have H1 : (if aBB = true then (none) else (if (wrap64 (asn + aso)) = 0 then ((aY.f kj11).bind fun anC => (some anC)) else (none))) = some r := by rw [if_neg (show ¬ (false = true) by decide)] at H; exact H
      clear H
      have H := H1
      clear H1
      by_cases c35 : aBB = true
      ·subst c35
       have H1 : (none) = some r := by rw [if_pos rfl] at H; exact H
       clear H
       have H := H1
       clear H1
       exact absurd H (by simp)
      ·replace c35 := Bool.eq_false_iff.mpr c35
       subst c35
       have H1 : (if (wrap64 (asn + aso)) = 0 then ((aY.f kj11).bind fun anC => (some anC)) else (none)) = some r := by rw [if_neg (show ¬ (false = true) by decide)] at H; exact H
       clear H
       have H := H1
       clear H1
       by_cases c36 : (wrap64 (asn + aso)) = 0
       ·rw [if_pos c36] at H
        have aDD : ((wrap64 (asn + aso)) == 0) = true := beq_iff_eq.mpr c36
        have aDE : ((wrap64 (asn + aso)) != 0) = false := bne_eq_false_iff_eq.mpr c36
        clear c36
        replace H := Option.bind_eq_some_iff.mp H
        obtain ⟨anC, auu, H⟩ := H
        try dsimp only at H
        have A37 := am auu
        clear auu
        obtain rfl := Option.some.inj H
        have aAu : wc.cell? ⟨mV, 0, none⟩ = some (.int .i64 aQ) := bc gN.out 0
        have aAv : wc.cell? ⟨mV, 1, none⟩ = some (.int .i64 aR) := bc gN.out 1
        have aAw : wc.cell? ⟨mV, 2, none⟩ = some (.slice cu aH.length bW) := bc gN.out 2
        have aAx : wc.cell? ⟨mV, 3, none⟩ = some (.slice dz av.length bZ) := bc gN.out 3
        have aAy := aj gN.out 0
        have aAz := aj gN.out 1
        have aAA := aj gN.out 2
        have aAB := aj gN.out 3
        go_wp2_with (first | ((with_reducible refine aC (f := 22) rfl ?_); refine bR (some 77) rfl rfl Try.func22 (by kernel_rfl) rfl #[.agg #[.int .i64 aQ, .int .i64 aR, .slice cu aH.length bW, .slice dz av.length bZ], .int .i64 1099511627777] rfl ar ?_; (with_reducible refine (bP.calls kj11 aQ aR _ _ aH _ _ av 1099511627777 asn false _ ?bH ?bI ?dG ?dI A32.out).mono ?_); (case bH => exact kc (Kd.bf gF.out HB.out)); (case bI => exact gX.out); (case dG => exact kc (Kd.bf fK.out HB.out)); (case dI => exact gW.out); clear A32; rintro e w39 ⟨rfl, hb⟩; refine ⟨_, rfl, ?_⟩; replace gN := am (ak (kp gN.out) hb); replace HB := am (au (bl1 HB.out xU.out) hb); (try clear hb); (try clear hb2); (try clear hk); (try clear hi); have afU : w39.cell? ⟨mV, 0, none⟩ = some (.int .i64 aQ) := bc gN.out 0; have afV : w39.cell? ⟨mV, 1, none⟩ = some (.int .i64 aR) := bc gN.out 1; have aq4 : w39.cell? ⟨mV, 2, none⟩ = some (.slice cu aH.length bW) := bc gN.out 2; have aq5 : w39.cell? ⟨mV, 3, none⟩ = some (.slice dz av.length bZ) := bc gN.out 3; have afW := aj gN.out 0; have afX := aj gN.out 1; have aq6 := aj gN.out 2; have aq7 := aj gN.out 3) | ((with_reducible refine aC (f := 23) rfl ?_); refine bR (some 82) rfl rfl Try.func23 (by kernel_rfl) rfl #[.agg #[.int .i64 aQ, .int .i64 aR, .slice cu aH.length bW, .slice dz av.length bZ], .int .i64 (-1099511627777)] rfl ar ?_; (with_reducible refine (bV.calls kj11 aQ aR _ _ aH _ _ av (-1099511627777) aso false _ ?bH ?bI ?dG ?dI A33.out).mono ?_); (case bH => exact kc (Kd.bf gF.out HB.out)); (case bI => exact gX.out); (case dG => exact kc (Kd.bf fK.out HB.out)); (case dI => exact gW.out); clear A33; rintro e w41 ⟨rfl, hb⟩; refine ⟨_, rfl, ?_⟩; replace gN := am (ak (kp gN.out) hb); replace HB := am (au (bl1 HB.out xU.out) hb); (try clear hb); (try clear hb2); (try clear hk); (try clear hi)) | (go_at_call 16; (with_reducible refine (aY.calls kj11  anC _ A37.out).mono ?_); clear A37; rintro e w42 ⟨rfl, hb⟩; replace gN := am (ak (kp gN.out) hb); replace HB := am (au (bl1 HB.out xU.out) hb); (try clear hb); (try clear hb2); (try clear hk); (try clear hi)))
        go_ret
        exact ⟨by first | rfl | (simp [gu, gB] <;> rfl) | (simp only [← ai6, ← arX]; first | rfl | (simp [gu, gB] <;> rfl)) | (simp [*, gu, gB] <;> rfl), bl1 HB.out xU.out⟩
       ·rw [if_neg c36] at H
        exact absurd H (by simp)
 ·replace c5 := Bool.eq_false_iff.mpr c5
  subst c5
  have H1 : ((aY.f k).bind fun arW => (some arW)) = some r := by rw [if_neg (show ¬ (false = true) by decide)] at H; exact H
  clear H
  have H := H1
  clear H1
  replace H := Option.bind_eq_some_iff.mp H
  obtain ⟨arW, aBC, H⟩ := H
  try dsimp only at H
  have A43 := am aBC
  clear aBC
  obtain rfl := Option.some.inj H
  go_enter Try.func6, Try.ntmps6
  go_wp2_with (first | ((with_reducible refine bq (N := 3) rfl ?_); refine bx 3 28 #[.int .i64 aQ, .int .i64 aR, .slice cu aH.length bW, .slice dz av.length bZ] ?_; intro mV hg w44 dL hb; have gN := am (dL); have aAt := am ((bz hg HB.out : w.heap.size ≤ mV)); have xU := am ((bz hg HB.out : w.heap.size ≤ mV)); replace HB := am (au (bl HB.out) hb); clear hb dL hg; have aqS : w44.cell? ⟨mV, 0, none⟩ = some (.int .i64 aQ) := bc gN.out 0; have aqT : w44.cell? ⟨mV, 1, none⟩ = some (.int .i64 aR) := bc gN.out 1; have aqU : w44.cell? ⟨mV, 2, none⟩ = some (.slice cu aH.length bW) := bc gN.out 2; have aqV : w44.cell? ⟨mV, 3, none⟩ = some (.slice dz av.length bZ) := bc gN.out 3; have aqW := aj gN.out 0; have aqX := aj gN.out 1; have aqY := aj gN.out 2; have aqZ := aj gN.out 3) | ((with_reducible refine aC (f := 17) rfl ?_); refine bR (some 20) rfl rfl Try.func17 (by kernel_rfl) rfl #[.agg #[.int .i64 aQ, .int .i64 aR, .slice cu aH.length bW, .slice dz av.length bZ]] rfl ar ?_; (with_reducible refine (fP.calls k aQ aR _ _ aH _ _ av false _ ?bH ?bI ?dG ?dI A4.out).mono ?_); (case bH => exact kc (Kd.bf gF.out HB.out)); (case bI => exact gX.out); (case dG => exact kc (Kd.bf fK.out HB.out)); (case dI => exact gW.out); clear A4; rintro e w46 ⟨rfl, hb⟩; refine ⟨_, rfl, ?_⟩; replace gN := am (ak (kp gN.out) hb); replace HB := am (au (bl1 HB.out xU.out) hb); (try clear hb); (try clear hb2); (try clear hk); (try clear hi)) | ((with_reducible refine aC (f := 16) rfl ?_); refine bR (some 22) rfl rfl Try.func16 (by kernel_rfl) rfl #[] rfl ar ?_; (with_reducible refine (aY.calls k  arW _ A43.out).mono ?_); clear A43; rintro e w47 ⟨rfl, hb⟩; refine ⟨_, rfl, ?_⟩; replace gN := am (ak (kp gN.out) hb); replace HB := am (au (bl1 HB.out xU.out) hb); (try clear hb); (try clear hb2); (try clear hk); (try clear hi)))
  go_ret
  exact ⟨rt, bl1 HB.out xU.out⟩
end Go.Proofs.Ytmbmalkpmanaaaa.P
namespace Go.Proofs.Ytmbmalkpmanaaaa.Pure
set_option linter.unusedVariables false
set_option linter.unusedSimpArgs false
open Go.Proofs.Ytmbmalkpmanaaaa.P Go.RowKit Go.Proofs.YtmbmalkpmanaaaaW.aK
theorem FindRises (p c : Int) (core : List (List Sp)) (odd : List Gn) (ff : ai3 p c core odd) (a1 : Int) (_ : fits a1) (a2 : Int) (_ : fits a2) : ∃ k, aW.f k p c core odd a1 a2 = some true := by
  refine Ev.rounds ?_
  unfold aW.f
  obtain ⟨b, b1, b2⟩ := acC (p := p) (c := c) ff.mf
  refine Ev.bind b1 ?_
  cases b with
  | false => exact Ev.no (by simp) (Ev.bind pW (Ev.now _))
  | true =>
    refine Ev.yes rfl ?_
    obtain ⟨h, _, _⟩ := b2 rfl
    have last : Ev (fun k => aW.j0 k false p c core odd) true := by
      obtain ⟨a, e1, s1⟩ := yV h 1099511627777
      obtain ⟨b, e2, s2⟩ := acH h (-1099511627777)
      have ha : a.2 = false := Bool.eq_false_iff.2 fun g => by
        obtain ⟨q1, q2, _⟩ := s1.y g
        have := q1.hi; omega
      have hb : b.2 = false := Bool.eq_false_iff.2 fun g => by
        obtain ⟨q1, q2, _⟩ := s2.y g
        have := q1.lo; omega
      have z1 := (s1.n ha).1
      have z2 := (s2.n hb).1
      refine Ev.step (fun k => by rw [aW.j0, if_neg (by simp)]) ?_
      refine Ev.bind e1 (Ev.bind e2 (Ev.no (by rw [ha]; simp) (Ev.no (by rw [hb]; simp) (Ev.yes ?_ (Ev.bind pW (Ev.now _))))))
      rw [z1, z2, eH (by omega) (by omega)]; rfl
    have hmn := arx a1 a2
    have hmx := arz a1 a2
    obtain ⟨a, e1, s1⟩ := yV h (mn a1 a2)
    obtain ⟨b, e2, s2⟩ := yV h (mx a1 a2)
    obtain ⟨d, e3, s3⟩ := acH h (mn a1 a2)
    obtain ⟨e, e4, s4⟩ := acH h (mx a1 a2)
    have hle : mn a1 a2 ≤ mx a1 a2 := by omega
    refine Ev.bind e1 (Ev.bind e2 (Ev.bind e3 (Ev.bind e4 ?_)))
    have tail : Ev (fun k => if d.2 = true then (if e.2 = true then (aW.j0 k (decide (d.1 > e.1)) p c core odd) else (none)) else (aW.j0 k false p c core odd)) true := by
      cases hd : d.2 with
      | false => exact Ev.no (by simp) last
      | true =>
        obtain ⟨q1, q2, q3⟩ := s3.y hd
        refine Ev.yes rfl ?_
        cases he : e.2 with
        | false => exact absurd (by omega) ((s4.n he).2 d.1 q1)
        | true =>
          have := (s4.y he).2.2 d.1 q1 (by omega)
          refine Ev.yes rfl ?_
          rw [decide_eq_false (by omega)]
          exact last
    cases hb : b.2 with
    | false => exact Ev.no (by simp) tail
    | true =>
      obtain ⟨q1, q2, q3⟩ := s2.y hb
      refine Ev.yes rfl ?_
      cases ha : a.2 with
      | false => exact absurd (by omega) ((s1.n ha).2 b.1 q1)
      | true =>
        have := (s1.y ha).2.2 b.1 q1 (by omega)
        exact Ev.yes rfl (Ev.no (by omega) tail)
end Go.Proofs.Ytmbmalkpmanaaaa.Pure
namespace Go.Proofs.Ytmbmalkpmanaaaa.findRises
open Go.ChangeShapes Go.WideShapes Go.ChangeAt Go.RowKit
open Go.ChangeMaps (open_string shut_string)
set_option linter.unusedVariables false
theorem own : ownKnob Try.prog.godebug = none := by kernel_rfl
theorem laidOut : laidOutB Try.prog = true := by kernel_rfl
set_option maxRecDepth 100000 in
theorem lifted (os : Os) (started : os.Started) (H : Type) (enc : TypeId × Value → H) :
    ReturnsInHanded {} Try.checked os 6 .any (Rows.findRisesSpec.pre6 enc Try.prog Try.f6 Rows.findRisesRow.domain false) (Rows.findRisesSpec.post enc Try.prog Try.f6 false true false false) := by
  refine returnsInHanded_of_change_sized (C := Try.checked) own started (by kernel_rfl) Try.func6
    (ChangeSpec.witness6 (enc := enc) (C := Try.checked) false ⟨#[], #[.agg #[.int .i64 0, .int .i64 0, .slice none 0 0, .slice none 0 0], .int .i64 0, .int .i64 0], []⟩ 8 (by kernel_rfl) (by kernel_rfl) (by kernel_rfl) (by kernel_rfl)) ?_
  intro W base args ds gs before hval0 hW hcnd hsz0 _
  have hval : ∀ (j : Nat) t v, Try.f6.params[j]? = some t → args[j]? = some v → Value.okWide Try.prog W .any base t v := hval0
  have hW' := hW
  obtain ⟨p, q, hA0, hV, rfl, hfz, hnd⟩ := hW
  have hA : DataW.TrodAll enc Try.prog W 0 (fun _ => true) true Try.f6.params.toList args.toList ds p := hA0
  rw [Try.params6] at hA hval
  obtain ⟨v0, vs0, d0, ds0, p0, q0, hargs, rfl, rfl, h0, r0⟩ := trodAll_cons hA
  obtain ⟨v1, vs1, d1, ds1, p1, q1, rfl, rfl, rfl, h1, r1⟩ := trodAll_cons r0
  obtain ⟨v2, vs2, d2, ds2, p2, q2, rfl, rfl, rfl, h2, r2⟩ := trodAll_cons r1
  obtain ⟨rfl, rfl, rfl⟩ := trodAll_nil r2
  obtain rfl : args = #[v0, v1, v2] := by cases args; simp_all
  obtain ⟨rfl, rfl⟩ := trodVars_none hV
  have k0 := h0
  have lt0 : ∀ x ∈ p0, x.block < W.heap.size := by obtain ⟨m, hm⟩ := k0; exact DataW.trod_lt m _ _ _ hm
  obtain ⟨fp0, fc0, fA0, fB0, fz0, fC0, fD0, fo0, rfl, fw0, fx0, fy0, fu0, ff0⟩ := P.acI (hval 0 28 v0 rfl rfl) h0
  obtain ⟨a1, rfl, rfl, rfl, w1⟩ := open_int Try.underlying3 (hval 1 3 v1 rfl rfl) h1
  obtain ⟨a2, rfl, rfl, rfl, w2⟩ := open_int Try.underlying3 (hval 2 3 v2 rfl rfl) h2
  clear hA0 hval0 hsz0
  obtain ⟨kk, hP⟩ := Pure.FindRises fp0 fc0 fz0 fo0 ff0 a1 w1 a2 w2
  refine (P.aW.calls kk fp0 fc0 _ _ fz0 _ _ fo0 a1 a2 true W fw0 fx0 fy0 fu0 hP).mono fun e W' ⟨he, arQ⟩ => ?_
  have bel := arQ
  subst he
  exact ⟨_, rfl, _, _, _, [], _, [], hW', trodAll_mk1 (shut_bool Try.underlying4 _), (trodAll_cons_mk (Below.trod laidOut (by kernel_rfl) (of_decide_eq_true (by kernel_rfl)) k0 bel lt0) (trodAll_cons_mk (shut_int Try.underlying3 w1) (trodAll_cons_mk (shut_int Try.underlying3 w2) trodAll_mk0))), rfl, bel.frame _, fun h => by cases h⟩
theorem over : Rows.findRisesRow.holds Try.pinned (OpenSpec.ofChange Rows.findRisesSpec) :=
  OpenClaim.holds_of_wide 6 Try.f6 rfl rfl rfl rfl rfl rfl rfl ⟨rfl, rfl, rfl, rfl, rfl⟩ rfl rfl rfl rfl rfl (by kernel_rfl) Try.func6 (by kernel_rfl)
    (of_decide_eq_true (by kernel_rfl)) (by unfold Func.isWrapper; first | (rw [if_pos (by decide +kernel)]; kernel_rfl) | (rw [if_neg (by decide +kernel)]; exact ⟨rfl, rfl⟩))
    (fun os started H enc _ => lifted os started H enc)
theorem proved : Rows.FindRisesSaid := over
#print axioms proved
end Go.Proofs.Ytmbmalkpmanaaaa.findRises
namespace Go.Proofs.Ytmbmalkpmanaaaa
theorem findRises_holds : Rows.FindRisesSaid := findRises.proved
end Go.Proofs.Ytmbmalkpmanaaaa

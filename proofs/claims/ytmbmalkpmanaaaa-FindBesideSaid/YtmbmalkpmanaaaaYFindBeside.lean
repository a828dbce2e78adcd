/- The law FindBeside: it holds at every input that its row reads. No condition of its own. -/
import Derived.Test.YtmbmalkpmanaaaaYF3
import Derived.Test.YtmbmalkpmanaaaaYF2
import Derived.Test.YtmbmalkpmanaaaaYF11
import Derived.Test.YtmbmalkpmanaaaaYF14
import Derived.Test.YtmbmalkpmanaaaaYF7
import Derived.Test.YtmbmalkpmanaaaaYF9
import Derived.Test.YtmbmalkpmanaaaaYF6
import Derived.Test.YtmbmalkpmanaaaaYF5
import Derived.Test.YtmbmalkpmanaaaaYF17
import Derived.Test.YtmbmalkpmanaaaaRows
import Derived.WalkKit
import Derived.ProofKit
import Derived.OpenShut
import Derived.ShutString
import Derived.ChangeOld
import Derived.Below
import Derived.SizedLaws
namespace Go.Proofs.Ytmbmalkpmanaaaa.P
open Go.RowKit Go.Proofs.YtmbmalkpmanaaaaW.aK Go.Proofs.YtmbmalkpmanaaaaW.bK Go.Proofs.YtmbmalkpmanaaaaW.bM
attribute [local go_sem] dS dU fG fH dB dD dV dW   -- for this text's walks alone
set_option linter.unusedVariables false
set_option linter.unusedSimpArgs false
mutual
def aN.j0 : Nat → Int → Int → Bool → Int → Bool → Int → Int → List (List (S23)) → List (S70) → Option (Bool)
 | 0, _, _, _, _, _, _, _, _, _ => none
 | k + 1, x5, x6, x7, x8, x9, x444000, x444001, x444002, x444003 => if x9 = true then ((eO.f k x444000 x444001 x444002 x444003 x8).bind fun aey => (if aey.2 = 0 then (if (aey.1.length : Int) = 0 then (none) else (if 0 < (aey.1.length : Int) then (if ((aT aey.1 0).f0) > x5 then (none) else (aN.j1 k x6 x7 x8 x9 x444000 x444001 x444002 x444003)) else (none))) else (none))) else (aN.j1 k x6 x7 x8 x9 x444000 x444001 x444002 x444003)
def aN.j1 : Nat → Int → Bool → Int → Bool → Int → Int → List (List (S23)) → List (S70) → Option (Bool)
 | 0, _, _, _, _, _, _, _, _ => none
 | k + 1, x6, x7, x8, x9, x444000, x444001, x444002, x444003 => if x7 = true then (if x9 = true then (aN.j2 k x6 x8 (x6 == x8) x444000 x444001 x444002 x444003) else (aN.j2 k x6 x8 true x444000 x444001 x444002 x444003)) else (aN.j2 k x6 x8 true x444000 x444001 x444002 x444003)
def aN.j2 : Nat → Int → Int → Bool → Int → Int → List (List (S23)) → List (S70) → Option (Bool)
 | 0, _, _, _, _, _, _, _ => none
 | k + 1, x6, x8, x92, x444000, x444001, x444002, x444003 => if x92 = true then ((aY.f k).bind fun auw => (some auw)) else ((fT.f k x444000 x444001 x444002 x444003 x8).bind fun alN => (if x6 > x8 then (if alN.2 = true then (if alN.1 = x6 then ((aY.f k).bind fun arR => (some arR)) else (none)) else (none)) else (none)))
end
def aN.f (k : Nat) (aQ : Int) (aR : Int) (aH : List (List (S23))) (av : List (S70)) (a1 : Int) : Option (Bool) := (fP.f k aQ aR aH av).bind fun auy => (if auy = true then ((bP.f k aQ aR aH av ((wrap64 (a1)) / 2)).bind fun vo => ((bV.f k aQ aR aH av ((wrap64 (a1)) / 2)).bind fun aap => (if vo.2 = true then ((eO.f k aQ aR aH av vo.1).bind fun oM => (if oM.2 = 0 then (if (oM.1.length : Int) = 0 then (none) else (if 0 ≤ (wrap64 ((oM.1.length : Int) - 1)) then (if (wrap64 ((oM.1.length : Int) - 1)) < (oM.1.length : Int) then (if ((aT oM.1 (wrap64 ((oM.1.length : Int) - 1))).f1) < ((wrap64 (a1)) / 2) then (none) else (aN.j0 k ((wrap64 (a1)) / 2) vo.1 vo.2 aap.1 aap.2 aQ aR aH av)) else (none)) else (none))) else (none))) else (aN.j0 k ((wrap64 (a1)) / 2) vo.1 vo.2 aap.1 aap.2 aQ aR aH av)))) else ((aY.f k).bind fun arS => (some arS)))
set_option maxHeartbeats 8000000 in
set_option maxRecDepth 100000 in
theorem aN.calls (k : Nat) (aQ : Int) (aR : Int) (cu : Option Addr) (bW : Nat) (aH : List (List (S23))) (dz : Option Addr) (bZ : Nat) (av : List (S70)) (a1 : Int) (r : Bool) (w : World) (iF : Kd.C (Kd.slice 23 k23) w cu aH.length aH) (iG : aH.length ≤ bW) (iw : Kd.C k70 w dz av.length av) (iy : av.length ≤ bZ) (h : aN.f k aQ aR aH av a1 = some r) :
 Calls Try.prog 5 #[.agg #[.int .i64 aQ, .int .i64 aR, .slice cu aH.length bW, .slice dz av.length bZ], .int .i32 a1] w fun e w' => e = .returned (.bool r) ∧ Below w.heap.size w w' := by
 have aaE := Try.underlying28
 have gF := am iF
 have gX := am iG
 clear iF iG
 have fK := am iw
 have gW := am iy
 clear iw iy
 have HB := am (Below.refl w.heap.size w)
 have H : ((fP.f k aQ aR aH av).bind fun auy => (if auy = true then ((bP.f k aQ aR aH av ((wrap64 (a1)) / 2)).bind fun vo => ((bV.f k aQ aR aH av ((wrap64 (a1)) / 2)).bind fun aap => (if vo.2 = true then ((eO.f k aQ aR aH av vo.1).bind fun oM => (if oM.2 = 0 then (if (oM.1.length : Int) = 0 then (none) else (if 0 ≤ (wrap64 ((oM.1.length : Int) - 1)) then (if (wrap64 ((oM.1.length : Int) - 1)) < (oM.1.length : Int) then (if ((aT oM.1 (wrap64 ((oM.1.length : Int) - 1))).f1) < ((wrap64 (a1)) / 2) then (none) else (aN.j0 k ((wrap64 (a1)) / 2) vo.1 vo.2 aap.1 aap.2 aQ aR aH av)) else (none)) else (none))) else (none))) else (aN.j0 k ((wrap64 (a1)) / 2) vo.1 vo.2 aap.1 aap.2 aQ aR aH av)))) else ((aY.f k).bind fun arS => (some arS)))) = some r := h
 clear h
 replace H := Option.bind_eq_some_iff.mp H
 obtain ⟨auy, A30, H⟩ := H
 try dsimp only at H
 have A3 := am A30
 clear A30
 by_cases c4 : auy = true
 ·subst c4
  have H1 : ((bP.f k aQ aR aH av ((wrap64 (a1)) / 2)).bind fun vo => ((bV.f k aQ aR aH av ((wrap64 (a1)) / 2)).bind fun aap => (if vo.2 = true then ((eO.f k aQ aR aH av vo.1).bind fun oM => (if oM.2 = 0 then (if (oM.1.length : Int) = 0 then (none) else (if 0 ≤ (wrap64 ((oM.1.length : Int) - 1)) then (if (wrap64 ((oM.1.length : Int) - 1)) < (oM.1.length : Int) then (if ((aT oM.1 (wrap64 ((oM.1.length : Int) - 1))).f1) < ((wrap64 (a1)) / 2) then (none) else (aN.j0 k ((wrap64 (a1)) / 2) vo.1 vo.2 aap.1 aap.2 aQ aR aH av)) else (none)) else (none))) else (none))) else (aN.j0 k ((wrap64 (a1)) / 2) vo.1 vo.2 aap.1 aap.2 aQ aR aH av)))) = some r := by rw [if_pos rfl] at H; exact H
  clear H
  have H := H1
  clear H1
  replace H := Option.bind_eq_some_iff.mp H
  obtain ⟨⟨aau, arT⟩, A50, H⟩ := H
  try dsimp only at H
  have A5 := am A50
  clear A50
  replace H := Option.bind_eq_some_iff.mp H
  obtain ⟨⟨aa0, anz⟩, A60, H⟩ := H
  try dsimp only at H
  have A6 := am A60
  clear A60
  have HC7 := am H
  clear H
  go_enter Try.func5, Try.ntmps5
  go_upto_if 35 with (first | ((with_reducible refine bq (N := 2) rfl ?_); (try (refine gH (by rfl) ?_; dsimp only)); refine bx 2 28 #[.int .i64 aQ, .int .i64 aR, .slice cu aH.length bW, .slice dz av.length bZ] ?_; intro nJ hg w8 dL hb; have gY := am (dL); have aAk := am ((bz hg HB.out : w.heap.size ≤ nJ)); have tT := am ((bz hg HB.out : w.heap.size ≤ nJ)); replace HB := am (au (bl HB.out) hb); clear hb dL hg; have oq : w8.cell? ⟨nJ, 0, none⟩ = some (.int .i64 aQ) := bc gY.out 0; have ou : w8.cell? ⟨nJ, 1, none⟩ = some (.int .i64 aR) := bc gY.out 1; have ow : w8.cell? ⟨nJ, 2, none⟩ = some (.slice cu aH.length bW) := bc gY.out 2; have oz : w8.cell? ⟨nJ, 3, none⟩ = some (.slice dz av.length bZ) := bc gY.out 3; have oC := aj gY.out 0; have oD := aj gY.out 1; have oF := aj gY.out 2; have oG := aj gY.out 3) | ((with_reducible refine aC (f := 17) rfl ?_); refine bR (some 17) rfl rfl Try.func17 (by kernel_rfl) rfl #[.agg #[.int .i64 aQ, .int .i64 aR, .slice cu aH.length bW, .slice dz av.length bZ]] rfl ar ?_; (with_reducible refine (fP.calls k aQ aR _ _ aH _ _ av true _ ?bH ?bI ?dG ?dI A3.out).mono ?_); (case bH => exact kc (Kd.bf gF.out HB.out)); (case bI => exact gX.out); (case dG => exact kc (Kd.bf fK.out HB.out)); (case dI => exact gW.out); clear A3; rintro e w10 ⟨rfl, hb⟩; refine ⟨_, rfl, ?_⟩; replace gY := am (ak (kp gY.out) hb); replace HB := am (au (bl1 HB.out tT.out) hb); (try clear hb); (try clear hb2); (try clear hk); (try clear hi); have mg : w10.cell? ⟨nJ, 0, none⟩ = some (.int .i64 aQ) := bc gY.out 0; have mh : w10.cell? ⟨nJ, 1, none⟩ = some (.int .i64 aR) := bc gY.out 1; have mX : w10.cell? ⟨nJ, 2, none⟩ = some (.slice cu aH.length bW) := bc gY.out 2; have mY : w10.cell? ⟨nJ, 3, none⟩ = some (.slice dz av.length bZ) := bc gY.out 3; have mq := aj gY.out 0; have mD := aj gY.out 1; have mZ := aj gY.out 2; have ni := aj gY.out 3) | ((with_reducible refine aC (f := 22) rfl ?_); refine bR (some 26) rfl rfl Try.func22 (by kernel_rfl) rfl #[.agg #[.int .i64 aQ, .int .i64 aR, .slice cu aH.length bW, .slice dz av.length bZ], .int .i64 ((wrap64 (a1)) / 2)] rfl ar ?_; (with_reducible refine (bP.calls k aQ aR _ _ aH _ _ av ((wrap64 (a1)) / 2) aau arT _ ?bH ?bI ?dG ?dI A5.out).mono ?_); (case bH => exact kc (Kd.bf gF.out HB.out)); (case bI => exact gX.out); (case dG => exact kc (Kd.bf fK.out HB.out)); (case dI => exact gW.out); clear A5; rintro e w12 ⟨rfl, hb⟩; refine ⟨_, rfl, ?_⟩; replace gY := am (ak (kp gY.out) hb); replace HB := am (au (bl1 HB.out tT.out) hb); (try clear hb); (try clear hb2); (try clear hk); (try clear hi); have sw : w12.cell? ⟨nJ, 0, none⟩ = some (.int .i64 aQ) := bc gY.out 0; have sD : w12.cell? ⟨nJ, 1, none⟩ = some (.int .i64 aR) := bc gY.out 1; have uL : w12.cell? ⟨nJ, 2, none⟩ = some (.slice cu aH.length bW) := bc gY.out 2; have uM : w12.cell? ⟨nJ, 3, none⟩ = some (.slice dz av.length bZ) := bc gY.out 3; have sF := aj gY.out 0; have sG := aj gY.out 1; have uN := aj gY.out 2; have uO := aj gY.out 3) | ((with_reducible refine aC (f := 23) rfl ?_); refine bR (some 32) rfl rfl Try.func23 (by kernel_rfl) rfl #[.agg #[.int .i64 aQ, .int .i64 aR, .slice cu aH.length bW, .slice dz av.length bZ], .int .i64 ((wrap64 (a1)) / 2)] rfl ar ?_; (with_reducible refine (bV.calls k aQ aR _ _ aH _ _ av ((wrap64 (a1)) / 2) aa0 anz _ ?bH ?bI ?dG ?dI A6.out).mono ?_); (case bH => exact kc (Kd.bf gF.out HB.out)); (case bI => exact gX.out); (case dG => exact kc (Kd.bf fK.out HB.out)); (case dI => exact gW.out); clear A6; rintro e w14 ⟨rfl, hb⟩; refine ⟨_, rfl, ?_⟩; replace gY := am (ak (kp gY.out) hb); replace HB := am (au (bl1 HB.out tT.out) hb); (try clear hb); (try clear hb2); (try clear hk); (try clear hi)))
  (try simp only [Act.put, List.setIfInBounds_toArray, List.set_cons_zero, List.set_cons_succ])
  go_cut [] (fun wc => ∃ (kq : Nat), ay (aN.j0 kq ((wrap64 (a1)) / 2) aau arT aa0 anz aQ aR aH av = some r) ∧ ay (kq ≤ k) ∧ ay (wc.heap[nJ]? = some (.cells #[.int .i64 aQ, .int .i64 aR, (.slice cu aH.length bW), (.slice dz av.length bZ)] 28 (0, 0))) ∧ ay (Below w.heap.size w wc))
  case first =>
   have H := HC7.out
   clear HC7
   by_cases c15 : arT = true
   ·subst c15
    have H1 : ((eO.f k aQ aR aH av aau).bind fun oM => (if oM.2 = 0 then (if (oM.1.length : Int) = 0 then (none) else (if 0 ≤ (wrap64 ((oM.1.length : Int) - 1)) then (if (wrap64 ((oM.1.length : Int) - 1)) < (oM.1.length : Int) then (if ((aT oM.1 (wrap64 ((oM.1.length : Int) - 1))).f1) < ((wrap64 (a1)) / 2) then (none) else (aN.j0 k ((wrap64 (a1)) / 2) aau true aa0 anz aQ aR aH av)) else (none)) else (none))) else (none))) = some r := by rw [if_pos rfl] at H; exact H
    clear H
    have H := H1
    clear H1
    replace H := Option.bind_eq_some_iff.mp H
    obtain ⟨⟨ais, avN⟩, ahY, H⟩ := H
    try dsimp only at H
    have A16 := am ahY
    clear ahY
    by_cases c17 : avN = 0
    ·rw [if_pos c17] at H
     have tY : (avN == 0) = true := beq_iff_eq.mpr c17
     have aiW : (avN != 0) = false := bne_eq_false_iff_eq.mpr c17
     clear c17
     (first | rw [tY] | (simp only [jR, kH]; rw [tY]) | skip)
     by_cases c18 : (ais.length : Int) = 0
     ·rw [if_pos c18] at H
      exact absurd H (by simp)
     ·rw [if_neg c18] at H
      have aeU : ((ais.length : Int) == 0) = false := beq_eq_false_iff_ne.mpr c18
      have ald : ((ais.length : Int) != 0) = true := bne_iff_ne.mpr c18
      have arU : ¬ (ais = []) := fun h_ => c18 (by rw [h_]; rfl)
      obtain ⟨yP, aec⟩ : ∃ j_ : Int, (wrap64 ((ais.length : Int) - 1)) = j_ := ⟨_, rfl⟩
      replace H : (if 0 ≤ (yP) then (if (yP) < (ais.length : Int) then (if ((aT ais (yP)).f1) < ((wrap64 (a1)) / 2) then (none) else (aN.j0 k ((wrap64 (a1)) / 2) aau true aa0 anz aQ aR aH av)) else (none)) else (none)) = some r := by first | (rw [aec] at H; exact H) | (simp only [aec] at H ⊢; exact H)
      (try rw [aec] at A16)
      have atX : (IntKind.i64.wrap ((ais.length : Int) - 1)) = yP := (jR _).trans aec
      by_cases c20 : 0 ≤ (yP)
      ·rw [if_pos c20] at H
       have acY : decide (0 ≤ (yP)) = true := decide_eq_true c20
       clear c20
       by_cases c21 : (yP) < (ais.length : Int)
       ·rw [if_pos c21] at H
        have acZ : decide ((yP) < (ais.length : Int)) = true := decide_eq_true c21
        clear c21
        by_cases c22 : ((aT ais (yP)).f1) < ((wrap64 (a1)) / 2)
        ·rw [if_pos c22] at H
         exact absurd H (by simp)
        ·rw [if_neg c22] at H
         have yt : decide (((aT ais (yP)).f1) < ((wrap64 (a1)) / 2)) = false := decide_eq_false c22
         clear c22
         have H' := am H
         clear H
         have sH : w14.cell? ⟨nJ, 0, none⟩ = some (.int .i64 aQ) := bc gY.out 0
         have sI : w14.cell? ⟨nJ, 1, none⟩ = some (.int .i64 aR) := bc gY.out 1
         have uP : w14.cell? ⟨nJ, 2, none⟩ = some (.slice cu aH.length bW) := bc gY.out 2
         have uQ : w14.cell? ⟨nJ, 3, none⟩ = some (.slice dz av.length bZ) := bc gY.out 3
         have sJ := aj gY.out 0
         have sK := aj gY.out 1
         have uR := aj gY.out 2
         have uS := aj gY.out 3
         go_wp2_with (first | ((with_reducible refine aC (f := 18) rfl ?_); refine bR (some 39) rfl rfl Try.func18 (by kernel_rfl) rfl #[.agg #[.int .i64 aQ, .int .i64 aR, .slice cu aH.length bW, .slice dz av.length bZ], .int .i64 aau] rfl ar ?_; (with_reducible refine (eO.calls k aQ aR _ _ aH _ _ av aau ais avN _ ?bH ?bI ?dG ?dI A16.out).mono ?_); (case bH => exact kc (Kd.bf gF.out HB.out)); (case bI => exact gX.out); (case dG => exact kc (Kd.bf fK.out HB.out)); (case dI => exact gW.out); clear A16; rintro e w24 ⟨aD6, rfl, ho0, hb⟩; refine ⟨_, rfl, ?_⟩; have auz := am (Kd.jQ ho0 (bY (bl1 HB.out tT.out))); replace gY := am (ak (kp gY.out) hb); replace HB := am (au (bl1 HB.out tT.out) hb); (try clear hb); (try clear hb2); (try clear hk); (try clear hi); (try clear ho0); obtain ⟨aD7, aD8, aDm⟩ := Kd.iW auz.out; subst aDm; have ase : 0 ≤ ((yP) : Int) := of_decide_eq_true asm; have asf : (yP) < (ais.length : Int) := of_decide_eq_true asm; obtain ⟨aDn, aDo, ahC, ahD⟩ := jW (Kd.bS auz.out).2.2 (yP) ase asf; cases aDo; replace ase := eq_true ase; replace asf := eq_true asf))
         go_meet
         case rel => exact ⟨_, H', ⟨by first | omega | exact Nat.le_refl _⟩, ⟨kp gY.out⟩, ⟨bl1 HB.out tT.out⟩⟩
       ·rw [if_neg c21] at H
        exact absurd H (by simp)
      ·rw [if_neg c20] at H
       exact absurd H (by simp)
    ·rw [if_neg c17] at H
     exact absurd H (by simp)
   ·replace c15 := Bool.eq_false_iff.mpr c15
    subst c15
    have H1 : (aN.j0 k ((wrap64 (a1)) / 2) aau false aa0 anz aQ aR aH av) = some r := by rw [if_neg (show ¬ (false = true) by decide)] at H; exact H
    clear H
    have H := H1
    clear H1
    have H' := am H
    clear H
    go_wp2
    go_meet
    case rel => exact ⟨_, H', ⟨by first | omega | exact Nat.le_refl _⟩, ⟨kp gY.out⟩, ⟨bl1 HB.out tT.out⟩⟩
  case rest =>
   clear HC7
   try clear c1
   try clear c2
   try clear p2
   try clear c4
   try clear c5
   try clear p5
   try clear q5
   try clear hx5
   try clear p6
   try clear c15
   try clear c17
   try clear tY
   try clear aiW
   try clear c18
   try clear aeU
   try clear ald
   try clear arU
   try clear c20
   try clear acY
   try clear c21
   try clear acZ
   try clear c22
   try clear yt
   try clear c23
   try clear mg
   try clear mh
   try clear mX
   try clear mY
   try clear sw
   try clear sD
   try clear uL
   try clear uM
   try clear sH
   try clear sI
   try clear uP
   try clear uQ
   try clear oq
   try clear ou
   try clear ow
   try clear oz
   try clear mq
   try clear mD
   try clear mZ
   try clear ni
   try clear sF
   try clear sG
   try clear uN
   try clear uO
   try clear sJ
   try clear sK
   try clear uR
   try clear uS
   try clear oC
   try clear oD
   try clear oF
   try clear oG
   try clear ahC
   try clear ahD
   try clear ase
   try clear asf
   obtain ⟨kq, HA, HJ6, gY, HB⟩ := hcut
   cases kq with
   | zero => exact absurd HA.out (by simp [aN.j0])
   | succ kj6 =>
    have H := HA.out
    clear HA
    simp only [aN.j0] at H
    have aAl := am H
    clear H
    go_upto_if 60 with (fail)
    go_cut [] (fun wc => ∃ (kq : Nat), ay (aN.j1 kq aau arT aa0 anz aQ aR aH av = some r) ∧ ay (kq ≤ kj6) ∧ ay (wc.heap[nJ]? = some (.cells #[.int .i64 aQ, .int .i64 aR, (.slice cu aH.length bW), (.slice dz av.length bZ)] 28 (0, 0))) ∧ ay (Below w.heap.size w wc))
    case first =>
     have H := aAl.out
     clear aAl
     by_cases c27 : anz = true
     ·subst c27
      have H1 : ((eO.f kj6 aQ aR aH av aa0).bind fun aey => (if aey.2 = 0 then (if (aey.1.length : Int) = 0 then (none) else (if 0 < (aey.1.length : Int) then (if ((aT aey.1 0).f0) > ((wrap64 (a1)) / 2) then (none) else (aN.j1 kj6 aau arT aa0 true aQ aR aH av)) else (none))) else (none))) = some r := by rw [if_pos rfl] at H; exact H
      clear H
      have H := H1
      clear H1
      replace H := Option.bind_eq_some_iff.mp H
      obtain ⟨⟨ai9, avO⟩, atc, H⟩ := H
      try dsimp only at H
      have A28 := am atc
      clear atc
      by_cases c29 : avO = 0
      ·rw [if_pos c29] at H
       have ahb : (avO == 0) = true := beq_iff_eq.mpr c29
       have arj : (avO != 0) = false := bne_eq_false_iff_eq.mpr c29
       clear c29
       (first | rw [ahb] | (simp only [jR, kH]; rw [ahb]) | skip)
       by_cases c30 : (ai9.length : Int) = 0
       ·rw [if_pos c30] at H
        exact absurd H (by simp)
       ·rw [if_neg c30] at H
        have ad7 : ((ai9.length : Int) == 0) = false := beq_eq_false_iff_ne.mpr c30
        have auA : ((ai9.length : Int) != 0) = true := bne_iff_ne.mpr c30
        have auB : ¬ (ai9 = []) := fun h_ => c30 (by rw [h_]; rfl)
        by_cases c31 : 0 < (ai9.length : Int)
        ·rw [if_pos c31] at H
         have arb : decide (0 < (ai9.length : Int)) = true := decide_eq_true c31
         have auC : decide (0 < ai9.length) = true := decide_eq_true (by omega)
         clear c31
         by_cases c32 : ((aT ai9 0).f0) > ((wrap64 (a1)) / 2)
         ·rw [if_pos c32] at H
          exact absurd H (by simp)
         ·rw [if_neg c32] at H
          have am0 : decide (((wrap64 (a1)) / 2) < ((aT ai9 0).f0)) = false := decide_eq_false c32
          clear c32
          have H' := am H
          clear H
          have alO : wc.cell? ⟨nJ, 0, none⟩ = some (.int .i64 aQ) := bc gY.out 0
          have alP : wc.cell? ⟨nJ, 1, none⟩ = some (.int .i64 aR) := bc gY.out 1
          have alQ : wc.cell? ⟨nJ, 2, none⟩ = some (.slice cu aH.length bW) := bc gY.out 2
          have alR : wc.cell? ⟨nJ, 3, none⟩ = some (.slice dz av.length bZ) := bc gY.out 3
          have alS := aj gY.out 0
          have alT := aj gY.out 1
          have alU := aj gY.out 2
          have alV := aj gY.out 3
          go_wp2_with (first | ((with_reducible refine aC (f := 18) rfl ?_); refine bR (some 64) rfl rfl Try.func18 (by kernel_rfl) rfl #[.agg #[.int .i64 aQ, .int .i64 aR, .slice cu aH.length bW, .slice dz av.length bZ], .int .i64 aa0] rfl ar ?_; (with_reducible refine (eO.calls kj6 aQ aR _ _ aH _ _ av aa0 ai9 avO _ ?bH ?bI ?dG ?dI A28.out).mono ?_); (case bH => exact kc (Kd.bf gF.out HB.out)); (case bI => exact gX.out); (case dG => exact kc (Kd.bf fK.out HB.out)); (case dI => exact gW.out); clear A28; rintro e w34 ⟨aD9, rfl, ho0, hb⟩; refine ⟨_, rfl, ?_⟩; have auD := am (Kd.jQ ho0 (bY (bl1 HB.out tT.out))); replace gY := am (ak (kp gY.out) hb); replace HB := am (au (bl1 HB.out tT.out) hb); (try clear hb); (try clear hb2); (try clear hk); (try clear hi); (try clear ho0); obtain ⟨qN, qO, ayw⟩ := Kd.iW auD.out; subst ayw; have auE : 0 ≤ (0 : Int) := (by omega); have auF : 0 < (ai9.length : Int) := of_decide_eq_true asm; obtain ⟨aDp, aDq, acJ, acK⟩ := jW (Kd.bS auD.out).2.2 0 auE auF; cases aDq; have aDr : (0 < ai9.length) = True := eq_true (by omega); (try rw [show ((0 : Int)).toNat = 0 from rfl] at acJ); (try rw [show 0 * 2 = 0 from rfl] at acJ); (try rw [Addr.add_zero'] at acJ); (try rw [show ((0 : Int)).toNat = 0 from rfl] at acK); (try rw [show 0 * 2 = 0 from rfl] at acK); (try rw [Addr.add_zero'] at acK); replace auE := eq_true auE; replace auF := eq_true auF))
          go_meet
          case rel => exact ⟨_, H', ⟨by have := HJ6.out; first | omega | exact Nat.le_refl _⟩, ⟨kp gY.out⟩, ⟨bl1 HB.out tT.out⟩⟩
        ·rw [if_neg c31] at H
         exact absurd H (by simp)
      ·rw [if_neg c29] at H
       exact absurd H (by simp)
     ·replace c27 := Bool.eq_false_iff.mpr c27
      subst c27
      have H1 : (aN.j1 kj6 aau arT aa0 false aQ aR aH av) = some r := by rw [if_neg (show ¬ (false = true) by decide)] at H; exact H
      clear H
      have H := H1
      clear H1
      have H' := am H
      clear H
      go_wp2
      go_meet
      case rel => exact ⟨_, H', ⟨by have := HJ6.out; first | omega | exact Nat.le_refl _⟩, ⟨kp gY.out⟩, ⟨bl1 HB.out tT.out⟩⟩
    case rest =>
     clear aAl
     try clear c1
     try clear c2
     try clear p2
     try clear c3
     try clear c4
     try clear c5
     try clear p5
     try clear q5
     try clear hx5
     try clear qi5
     try clear p6
     try clear c15
     try clear c17
     try clear tY
     try clear aiW
     try clear c18
     try clear aeU
     try clear ald
     try clear arU
     try clear c20
     try clear acY
     try clear c21
     try clear acZ
     try clear c22
     try clear yt
     try clear c23
     try clear c27
     try clear c29
     try clear ahb
     try clear arj
     try clear c30
     try clear ad7
     try clear auA
     try clear auB
     try clear c31
     try clear arb
     try clear auC
     try clear c32
     try clear am0
     try clear mg
     try clear mh
     try clear mX
     try clear mY
     try clear sw
     try clear sD
     try clear uL
     try clear uM
     try clear sH
     try clear sI
     try clear uP
     try clear uQ
     try clear alO
     try clear alP
     try clear alQ
     try clear alR
     try clear oq
     try clear ou
     try clear ow
     try clear oz
     try clear mq
     try clear mD
     try clear mZ
     try clear ni
     try clear sF
     try clear sG
     try clear uN
     try clear uO
     try clear sJ
     try clear sK
     try clear uR
     try clear uS
     try clear alS
     try clear alT
     try clear alU
     try clear alV
     try clear oC
     try clear oD
     try clear oF
     try clear oG
     try clear ahC
     try clear ahD
     try clear acJ
     try clear acK
     try clear p2
     try clear p5
     try clear ase
     try clear auE
     try clear p6
     try clear q5
     try clear asf
     try clear auF
     obtain ⟨kq, HA, aAm, gY, HB⟩ := hcut
     cases kq with
     | zero => exact absurd HA.out (by simp [aN.j1])
     | succ kj25 =>
      have H := HA.out
      clear HA
      simp only [aN.j1] at H
      have aAn := am H
      clear H
      go_upto_region 14 with (fail)
      go_cut [92] (fun v92 wc => ∃ (kq : Nat) (ait : Bool), v92 = .bool ait ∧ ay (aN.j2 kq aau aa0 ait aQ aR aH av = some r) ∧ ay (kq ≤ kj25) ∧ ay (wc.heap[nJ]? = some (.cells #[.int .i64 aQ, .int .i64 aR, (.slice cu aH.length bW), (.slice dz av.length bZ)] 28 (0, 0))) ∧ ay (Below w.heap.size w wc))
      case first =>
       have H := aAn.out
       clear aAn
       by_cases c37 : arT = true
       ·subst c37
        have H1 : (if anz = true then (aN.j2 kj25 aau aa0 (aau == aa0) aQ aR aH av) else (aN.j2 kj25 aau aa0 true aQ aR aH av)) = some r := by rw [if_pos rfl] at H; exact H
        clear H
        have H := H1
        clear H1
        by_cases c38 : anz = true
        ·subst c38
         have H1 : (aN.j2 kj25 aau aa0 (aau == aa0) aQ aR aH av) = some r := by rw [if_pos rfl] at H; exact H
         clear H
         have H := H1
         clear H1
         have H' := am H
         clear H
         go_wp2
         go_meet
         case rel => exact ⟨_, ((aau == aa0)), sm, H', ⟨by have := HJ6.out; have := aAm.out; first | omega | exact Nat.le_refl _⟩, ⟨kp gY.out⟩, ⟨bl1 HB.out tT.out⟩⟩
        ·replace c38 := Bool.eq_false_iff.mpr c38
         subst c38
         have H1 : (aN.j2 kj25 aau aa0 true aQ aR aH av) = some r := by rw [if_neg (show ¬ (false = true) by decide)] at H; exact H
         clear H
         have H := H1
         clear H1
         have H' := am H
         clear H
         go_wp2
         go_meet
         case rel => exact ⟨_, (true), sm, H', ⟨by have := HJ6.out; have := aAm.out; first | omega | exact Nat.le_refl _⟩, ⟨kp gY.out⟩, ⟨bl1 HB.out tT.out⟩⟩
       ·replace c37 := Bool.eq_false_iff.mpr c37
        subst c37
        have H1 : (aN.j2 kj25 aau aa0 true aQ aR aH av) = some r := by rw [if_neg (show ¬ (false = true) by decide)] at H; exact H
        clear H
        have H := H1
        clear H1
        have H' := am H
        clear H
        go_wp2
        go_meet
        case rel => exact ⟨_, (true), sm, H', ⟨by have := HJ6.out; have := aAm.out; first | omega | exact Nat.le_refl _⟩, ⟨kp gY.out⟩, ⟨bl1 HB.out tT.out⟩⟩
      case rest =>
       clear aAn
       try clear c1
       try clear c2
       try clear p2
       try clear c3
       try clear c4
       try clear c5
       try clear p5
       try clear q5
       try clear hx5
       try clear qi5
       try clear p6
       try clear c15
       try clear c17
       try clear tY
       try clear aiW
       try clear c18
       try clear aeU
       try clear ald
       try clear arU
       try clear c20
       try clear acY
       try clear c21
       try clear acZ
       try clear c22
       try clear yt
       try clear c23
       try clear c27
       try clear c29
       try clear ahb
       try clear arj
       try clear c30
       try clear ad7
       try clear auA
       try clear auB
       try clear c31
       try clear arb
       try clear auC
       try clear c32
       try clear am0
       try clear c37
       try clear c38
       try clear mg
       try clear mh
       try clear mX
       try clear mY
       try clear sw
       try clear sD
       try clear uL
       try clear uM
       try clear sH
       try clear sI
       try clear uP
       try clear uQ
       try clear alO
       try clear alP
       try clear alQ
       try clear alR
       try clear oq
       try clear ou
       try clear ow
       try clear oz
       try clear mq
       try clear mD
       try clear mZ
       try clear ni
       try clear sF
       try clear sG
       try clear uN
       try clear uO
       try clear sJ
       try clear sK
       try clear uR
       try clear uS
       try clear alS
       try clear alT
       try clear alU
       try clear alV
       try clear oC
       try clear oD
       try clear oF
       try clear oG
       try clear ahC
       try clear ahD
       try clear acJ
       try clear acK
       try clear p2
       try clear p5
       try clear ase
       try clear auE
       try clear p6
       try clear q5
       try clear asf
       try clear auF
       obtain ⟨kq, ait, rfl, HA, aEa, gY, HB⟩ := hcut
       cases kq with
       | zero => exact absurd HA.out (by simp [aN.j2])
       | succ kj35 =>
        have H := HA.out
        clear HA
        simp only [aN.j2] at H
        by_cases c39 : ait = true
        ·subst c39
         have H1 : ((aY.f kj35).bind fun auw => (some auw)) = some r := by rw [if_pos rfl] at H; exact H
         clear H
         have H := H1
         clear H1
         replace H := Option.bind_eq_some_iff.mp H
         obtain ⟨auw, auv, H⟩ := H
         try dsimp only at H
         have A40 := am auv
         clear auv
         obtain rfl := Option.some.inj H
         go_wp2_with (first | ((with_reducible refine aC (f := 16) rfl ?_); refine bR (some 93) rfl rfl Try.func16 (by kernel_rfl) rfl #[] rfl ar ?_; (with_reducible refine (aY.calls kj35  auw _ A40.out).mono ?_); clear A40; rintro e w41 ⟨rfl, hb⟩; refine ⟨_, rfl, ?_⟩; replace gY := am (ak (kp gY.out) hb); replace HB := am (au (bl1 HB.out tT.out) hb); (try clear hb); (try clear hb2); (try clear hk); (try clear hi)))
         go_ret
         exact ⟨rt, bl1 HB.out tT.out⟩
        ·replace c39 := Bool.eq_false_iff.mpr c39
         subst c39
         have H1 : ((fT.f kj35 aQ aR aH av aa0).bind fun alN => (if aau > aa0 then (if alN.2 = true then (if alN.1 = aau then ((aY.f kj35).bind fun arR => (some arR)) else (none)) else (none)) else (none))) = some r := by rw [if_neg (show ¬ (false = true) by decide)] at H; exact H
         clear H
         have H := H1
         clear H1
         replace H := Option.bind_eq_some_iff.mp H
         obtain ⟨⟨auG, aDs⟩, A420, H⟩ := H
         try dsimp only at H
         have A42 := am A420
         clear A420
         by_cases c43 : aau > aa0
         ·rw [if_pos c43] at H
          have aDt : decide (aa0 < aau) = true := decide_eq_true c43
          clear c43
          by_cases c44 : aDs = true
          ·subst c44
           have H1 : (if auG = aau then ((aY.f kj35).bind fun arR => (some arR)) else (none)) = some r := by rw [if_pos rfl] at H; exact H
           clear H
           have H := H1
           clear H1
           by_cases c45 : auG = aau
           ·rw [if_pos c45] at H
            have aDu : (auG == aau) = true := beq_iff_eq.mpr c45
            have aDv : (auG != aau) = false := bne_eq_false_iff_eq.mpr c45
            clear c45
            replace H := Option.bind_eq_some_iff.mp H
            obtain ⟨arR, atP, H⟩ := H
            try dsimp only at H
            have A46 := am atP
            clear atP
            obtain rfl := Option.some.inj H
            have agn : wc.cell? ⟨nJ, 0, none⟩ = some (.int .i64 aQ) := bc gY.out 0
            have agp : wc.cell? ⟨nJ, 1, none⟩ = some (.int .i64 aR) := bc gY.out 1
            have aAo : wc.cell? ⟨nJ, 2, none⟩ = some (.slice cu aH.length bW) := bc gY.out 2
            have aAp : wc.cell? ⟨nJ, 3, none⟩ = some (.slice dz av.length bZ) := bc gY.out 3
            have agq := aj gY.out 0
            have agr := aj gY.out 1
            have aAq := aj gY.out 2
            have aAr := aj gY.out 3
            go_wp2_with (first | ((with_reducible refine aC (f := 25) rfl ?_); refine bR (some 97) rfl rfl Try.func25 (by kernel_rfl) rfl #[.agg #[.int .i64 aQ, .int .i64 aR, .slice cu aH.length bW, .slice dz av.length bZ], .int .i64 aa0] rfl ar ?_; (with_reducible refine (fT.calls kj35 aQ aR _ _ aH _ _ av aa0 auG true _ ?bH ?bI ?dG ?dI A42.out).mono ?_); (case bH => exact kc (Kd.bf gF.out HB.out)); (case bI => exact gX.out); (case dG => exact kc (Kd.bf fK.out HB.out)); (case dI => exact gW.out); clear A42; rintro e w48 ⟨rfl, hb⟩; refine ⟨_, rfl, ?_⟩; replace gY := am (ak (kp gY.out) hb); replace HB := am (au (bl1 HB.out tT.out) hb); (try clear hb); (try clear hb2); (try clear hk); (try clear hi)) | (go_at_call 16; (with_reducible refine (aY.calls kj35  arR _ A46.out).mono ?_); clear A46; rintro e w49 ⟨rfl, hb⟩; replace gY := am (ak (kp gY.out) hb); replace HB := am (au (bl1 HB.out tT.out) hb); (try clear hb); (try clear hb2); (try clear hk); (try clear hi)))
            go_ret
            exact ⟨rt, bl1 HB.out tT.out⟩
           ·rw [if_neg c45] at H
            exact absurd H (by simp)
          ·replace c44 := Bool.eq_false_iff.mpr c44
           subst c44
           have H1 : (none) = some r := by rw [if_neg (show ¬ (false = true) by decide)] at H; exact H
           clear H
           have H := H1
           clear H1
           exact absurd H (by simp)
         ·rw [if_neg c43] at H
          exact absurd H (by simp)
 ·replace c4 := Bool.eq_false_iff.mpr c4
  subst c4
  have H1 : ((aY.f k).bind fun arS => (some arS)) = some r := by rw [if_neg (show ¬ (false = true) by decide)] at H; exact H
  clear H
  have H := H1
  clear H1
  replace H := Option.bind_eq_some_iff.mp H
  obtain ⟨arS, atQ, H⟩ := H
  try dsimp only at H
  have A50 := am atQ
  clear atQ
  obtain rfl := Option.some.inj H
  go_enter Try.func5, Try.ntmps5
  go_wp2_with (first | ((with_reducible refine bq (N := 2) rfl ?_); (try (refine gH (by rfl) ?_; dsimp only)); refine bx 2 28 #[.int .i64 aQ, .int .i64 aR, .slice cu aH.length bW, .slice dz av.length bZ] ?_; intro nJ hg w51 dL hb; have gY := am (dL); have aAk := am ((bz hg HB.out : w.heap.size ≤ nJ)); have tT := am ((bz hg HB.out : w.heap.size ≤ nJ)); replace HB := am (au (bl HB.out) hb); clear hb dL hg; have akG : w51.cell? ⟨nJ, 0, none⟩ = some (.int .i64 aQ) := bc gY.out 0; have akH : w51.cell? ⟨nJ, 1, none⟩ = some (.int .i64 aR) := bc gY.out 1; have akI : w51.cell? ⟨nJ, 2, none⟩ = some (.slice cu aH.length bW) := bc gY.out 2; have akJ : w51.cell? ⟨nJ, 3, none⟩ = some (.slice dz av.length bZ) := bc gY.out 3; have akK := aj gY.out 0; have akL := aj gY.out 1; have akM := aj gY.out 2; have akN := aj gY.out 3) | ((with_reducible refine aC (f := 17) rfl ?_); refine bR (some 17) rfl rfl Try.func17 (by kernel_rfl) rfl #[.agg #[.int .i64 aQ, .int .i64 aR, .slice cu aH.length bW, .slice dz av.length bZ]] rfl ar ?_; (with_reducible refine (fP.calls k aQ aR _ _ aH _ _ av false _ ?bH ?bI ?dG ?dI A3.out).mono ?_); (case bH => exact kc (Kd.bf gF.out HB.out)); (case bI => exact gX.out); (case dG => exact kc (Kd.bf fK.out HB.out)); (case dI => exact gW.out); clear A3; rintro e w53 ⟨rfl, hb⟩; refine ⟨_, rfl, ?_⟩; replace gY := am (ak (kp gY.out) hb); replace HB := am (au (bl1 HB.out tT.out) hb); (try clear hb); (try clear hb2); (try clear hk); (try clear hi)) | ((with_reducible refine aC (f := 16) rfl ?_); refine bR (some 19) rfl rfl Try.func16 (by kernel_rfl) rfl #[] rfl ar ?_; (with_reducible refine (aY.calls k  arS _ A50.out).mono ?_); clear A50; rintro e w54 ⟨rfl, hb⟩; refine ⟨_, rfl, ?_⟩; replace gY := am (ak (kp gY.out) hb); replace HB := am (au (bl1 HB.out tT.out) hb); (try clear hb); (try clear hb2); (try clear hk); (try clear hi)))
  go_ret
  exact ⟨rt, bl1 HB.out tT.out⟩
end Go.Proofs.Ytmbmalkpmanaaaa.P
namespace Go.Proofs.Ytmbmalkpmanaaaa.Pure
set_option linter.unusedVariables false
set_option linter.unusedSimpArgs false
open Go.Proofs.Ytmbmalkpmanaaaa.P Go.RowKit Go.Proofs.YtmbmalkpmanaaaaW.aK
theorem FindBeside (p c : Int) (core : List (List Sp)) (odd : List Gn) (ff : ai3 p c core odd) (a1 : Int) (_ : (Lit.int .i32 a1).wf = true) : ∃ k, aN.f k p c core odd a1 = some true := by
  refine Ev.rounds ?_
  unfold aN.f
  obtain ⟨b, b1, b2⟩ := acC (p := p) (c := c) ff.mf
  refine Ev.bind b1 ?_
  cases b with
  | false => exact Ev.no (by simp) (Ev.bind pW (Ev.now _))
  | true =>
    refine Ev.yes rfl ?_
    obtain ⟨h, _, _⟩ := b2 rfl
    generalize wrap64 a1 / 2 = t
    obtain ⟨a, e1, s1⟩ := yV h t
    obtain ⟨b, e2, s2⟩ := acH h t
    refine Ev.bind e1 (Ev.bind e2 ?_)
    have j2t : ∀ x y, Ev (fun k => aN.j2 k x y true p c core odd) true := fun x y =>
      Ev.step (fun k => by rw [aN.j2, if_pos rfl]) (Ev.bind pW (Ev.now _))
    have j1 : Ev (fun k => aN.j1 k a.1 a.2 b.1 b.2 p c core odd) true := by
      cases ha : a.2 with
      | false => exact Ev.step (fun k => by rw [aN.j1, if_neg (by simp)]) (j2t _ _)
      | true =>
        cases hb : b.2 with
        | false => exact Ev.step (fun k => by rw [aN.j1, if_pos rfl, if_neg (by simp)]) (j2t _ _)
        | true =>
          refine Ev.step (fun k => by rw [aN.j1, if_pos rfl, if_pos rfl]) ?_
          by_cases heq : a.1 = b.1
          · have : (a.1 == b.1) = true := by simp [heq]
            rw [this]; exact j2t _ _
          · have hne : (a.1 == b.1) = false := by simp [heq]
            rw [hne]
            obtain ⟨q1, q2, q3⟩ := s1.y ha
            obtain ⟨r1, r2, r3⟩ := s2.y hb
            have hr := r1.r
            unfold inR at hr
            have hr2 := q1.r
            unfold inR at hr2
            have hlt : b.1 < a.1 := by
              rcases Int.lt_trichotomy a.1 b.1 with g | g | g
              · have o := h.ord a.1 b.1 g q1.r r1.r q1.n r1.n
                omega
              · exact absurd g heq
              · exact g
            obtain ⟨n, n1, n2⟩ := xQ h.s b.1 (by omega)
            have hn : n = (a.1, true) := by
              cases hn2 : n.2 with
              | false => exact absurd ((n2.2 hn2).2 a.1 (by omega) q1.r) q1.n
              | true =>
                obtain ⟨g1, g2, g3, g4⟩ := n2.1 hn2
                have : n.1 = a.1 := by
                  rcases Int.lt_trichotomy n.1 a.1 with g | g | g
                  · exfalso
                    have o1 := h.ord b.1 n.1 (by omega) r1.r g2 r1.n g3
                    have o2 := h.ord n.1 a.1 g g2 q1.r g3 q1.n
                    have l1 := h.s.pV r1.n
                    have l2 := h.s.pV q1.n
                    have l3 := h.s.pV g3
                    have e : Ex p c core odd n.1 := ⟨g2, g3, by have := r1.lo; omega, by have := q1.hi; omega⟩
                    rcases Int.lt_or_le (gHi p c core odd n.1) t with m | m
                    · have := r3 n.1 e (by omega); omega
                    · have := q3 n.1 e m; omega
                  · exact g
                  · exact absurd (g4 a.1 (by omega) g) q1.n
                exact Prod.ext this hn2
            rw [hn] at n1
            exact Ev.step (fun k => by rw [aN.j2, if_neg (by simp)]) (Ev.bind n1 (Ev.yes hlt (Ev.yes rfl (Ev.yes rfl (Ev.bind pW (Ev.now _))))))
    have j0 : Ev (fun k => aN.j0 k t a.1 a.2 b.1 b.2 p c core odd) true := by
      cases hb : b.2 with
      | false =>
        rw [hb] at j1
        exact Ev.step (fun k => by rw [aN.j0, if_neg (by simp)]) j1
      | true =>
        obtain ⟨r1, r2, r3⟩ := s2.y hb
        have g := uF h.s b.1
        rw [h.s.qP r1] at g
        obtain ⟨x1, x2, x3⟩ := aal (p := p) (c := c) (core := core) (odd := odd) r1.n
        obtain ⟨y1, y2⟩ := alu _ x1
        rw [hb] at j1
        refine Ev.step (fun k => by rw [aN.j0, if_pos rfl]) (Ev.bind g (Ev.yes rfl (Ev.no ?_ (Ev.yes ?_ (Ev.no ?_ j1)))))
        · simp only; omega
        · simp only; omega
        · simp only; rw [y2, x2]; omega
    cases ha : a.2 with
    | false =>
      rw [ha] at j0
      exact Ev.no (by simp) j0
    | true =>
      obtain ⟨q1, q2, q3⟩ := s1.y ha
      have g := uF h.s a.1
      rw [h.s.qP q1] at g
      obtain ⟨x1, x2, x3⟩ := aal (p := p) (c := c) (core := core) (odd := odd) q1.n
      have hlen := (h.s.alx q1).ac3
      obtain ⟨w1, w2, w3⟩ := an5 _ x1 hlen
      rw [ha] at j0
      refine Ev.yes rfl (Ev.bind g (Ev.yes rfl (Ev.no ?_ (Ev.yes ?_ (Ev.yes ?_ (Ev.no ?_ j0))))))
      · simp only; omega
      · simp only; rw [w1]; exact w2
      · simp only; rw [w1]; omega
      · simp only; rw [w1, w3, x3]; omega
end Go.Proofs.Ytmbmalkpmanaaaa.Pure
namespace Go.Proofs.Ytmbmalkpmanaaaa.findBeside
open Go.ChangeShapes Go.WideShapes Go.ChangeAt Go.RowKit
open Go.ChangeMaps (open_string shut_string)
set_option linter.unusedVariables false
theorem own : ownKnob Try.prog.godebug = none := by kernel_rfl
theorem laidOut : laidOutB Try.prog = true := by kernel_rfl
set_option maxRecDepth 100000 in
theorem lifted (os : Os) (started : os.Started) (H : Type) (enc : TypeId × Value → H) :
    ReturnsInHanded {} Try.checked os 5 .any (Rows.findBesideSpec.pre6 enc Try.prog Try.f5 Rows.findBesideRow.domain false) (Rows.findBesideSpec.post enc Try.prog Try.f5 false true false false) := by
  refine returnsInHanded_of_change_sized (C := Try.checked) own started (by kernel_rfl) Try.func5
    (ChangeSpec.witness6 (enc := enc) (C := Try.checked) false ⟨#[], #[.agg #[.int .i64 0, .int .i64 0, .slice none 0 0, .slice none 0 0], .int .i32 0], []⟩ 8 (by kernel_rfl) (by kernel_rfl) (by kernel_rfl) (by kernel_rfl)) ?_
  intro W base args ds gs before hval0 hW hcnd hsz0 _
  have hval : ∀ (j : Nat) t v, Try.f5.params[j]? = some t → args[j]? = some v → Value.okWide Try.prog W .any base t v := hval0
  have hW' := hW
  obtain ⟨p, q, hA0, hV, rfl, hfz, hnd⟩ := hW
  have hA : DataW.TrodAll enc Try.prog W 0 (fun _ => true) true Try.f5.params.toList args.toList ds p := hA0
  rw [Try.params5] at hA hval
  obtain ⟨v0, vs0, d0, ds0, p0, q0, hargs, rfl, rfl, h0, r0⟩ := trodAll_cons hA
  obtain ⟨v1, vs1, d1, ds1, p1, q1, rfl, rfl, rfl, h1, r1⟩ := trodAll_cons r0
  obtain ⟨rfl, rfl, rfl⟩ := trodAll_nil r1
  obtain rfl : args = #[v0, v1] := by cases args; simp_all
  obtain ⟨rfl, rfl⟩ := trodVars_none hV
  have k0 := h0
  have lt0 : ∀ x ∈ p0, x.block < W.heap.size := by obtain ⟨m, hm⟩ := k0; exact DataW.trod_lt m _ _ _ hm
  obtain ⟨fp0, fc0, fA0, fB0, fz0, fC0, fD0, fo0, rfl, fw0, fx0, fy0, fu0, ff0⟩ := P.acI (hval 0 28 v0 rfl rfl) h0
  obtain ⟨a1, rfl, rfl, rfl, w1⟩ := open_int Try.underlying21 (hval 1 21 v1 rfl rfl) h1
  clear hA0 hval0 hsz0
  obtain ⟨kk, hP⟩ := Pure.FindBeside fp0 fc0 fz0 fo0 ff0 a1 w1
  refine (P.aN.calls kk fp0 fc0 _ _ fz0 _ _ fo0 a1 true W fw0 fx0 fy0 fu0 hP).mono fun e W' ⟨he, arQ⟩ => ?_
  have bel := arQ
  subst he
  exact ⟨_, rfl, _, _, _, [], _, [], hW', trodAll_mk1 (shut_bool Try.underlying4 _), (trodAll_cons_mk (Below.trod laidOut (by kernel_rfl) (of_decide_eq_true (by kernel_rfl)) k0 bel lt0) (trodAll_cons_mk (shut_int Try.underlying21 w1) trodAll_mk0)), rfl, bel.frame _, fun h => by cases h⟩
theorem over : Rows.findBesideRow.holds Try.pinned (OpenSpec.ofChange Rows.findBesideSpec) :=
  OpenClaim.holds_of_wide 5 Try.f5 rfl rfl rfl rfl rfl rfl rfl ⟨rfl, rfl, rfl, rfl, rfl⟩ rfl rfl rfl rfl rfl (by kernel_rfl) Try.func5 (by kernel_rfl)
    (of_decide_eq_true (by kernel_rfl)) (by unfold Func.isWrapper; first | (rw [if_pos (by decide +kernel)]; kernel_rfl) | (rw [if_neg (by decide +kernel)]; exact ⟨rfl, rfl⟩))
    (fun os started H enc _ => lifted os started H enc)
theorem proved : Rows.FindBesideSaid := over
#print axioms proved
end Go.Proofs.Ytmbmalkpmanaaaa.findBeside
namespace Go.Proofs.Ytmbmalkpmanaaaa
theorem findBeside_holds : Rows.FindBesideSaid := findBeside.proved
end Go.Proofs.Ytmbmalkpmanaaaa

/- Lemmas for laws of chapter 7: what the functions that they reach compute. No condition of its own. -/
import Derived.Test.YtmbmalkpmanaaaaYG4
import Derived.Test.YtmbmalkpmanaaaaYG2
import Derived.Test.YtmbmalkpmanaaaaYG13
import Derived.Test.YtmbmalkpmanaaaaYG16
import Derived.Test.YtmbmalkpmanaaaaYG7
import Derived.Test.YtmbmalkpmanaaaaYG6
import Derived.Test.YtmbmalkpmanaaaaYG17
import Derived.Test.YtmbmalkpmanaaaaYG11
import Derived.Test.YtmbmalkpmanaaaaYG12
namespace Go.Proofs.Ytmbmalkpmanaaaa.P
open Go.RowKit Go.Maps Go.Proofs.YtmbmalkpmanaaaaW.aK Go.Proofs.YtmbmalkpmanaaaaW.bK Go.Proofs.YtmbmalkpmanaaaaW.bM
attribute [local go_sem] dS dU fG fH dB dD dV dW   -- for this text's walks alone
set_option linter.unusedVariables false
set_option linter.unusedSimpArgs false
mutual
def jA.j0 : Nat → List (S23) → List (S23) → List (S23) → Bool → Int → Int → List (List (S23)) → List (S70) → Option (Bool)
 | 0, _, _, _, _, _, _, _, _ => none
 | k + 1, x7, x9, x11, x82, x335000, x335001, x335002, x335003 => if x82 = true then ((aY.f k).bind fun aID => (some aID)) else ((dM.f k x335000 x335001 x335002 x335003 x7).bind fun aGf => ((dM.f k x335000 x335001 x335002 x335003 x9).bind fun aGg => ((dM.f k x335000 x335001 x335002 x335003 x11).bind fun aGN => (if aGf.2 = 0 then (if aGg.2 = 0 then (if aGN.2 = 0 then (if ([] : List Int).length + aGf.1.length < 17592186044416 then ((some (([] : List Int) ++ aGf.1 : List Int)).bind fun aGO => (if aGO.length + aGg.1.length < 17592186044416 then ((some (aGO ++ aGg.1 : List Int)).bind fun aFr => (jA.l0 k x11 aGN.1 aFr (aFr.length : Int) 0 x335000 x335001 x335002 x335003 ([] : List Int) 0)) else (none))) else (none)) else (none)) else (none)) else (none)))))
def jA.l0 : Nat → List (S23) → List Int → List Int → Int → Int → Int → Int → List (List (S23)) → List (S70) → List Int → Int → Option (Bool)
 | 0, _, _, _, _, _, _, _, _, _, _, _ => none
 | k + 1, x11, x18, x116, x117, x118, x335000, x335001, x335002, x335003, x573000, x573001 => if x118 < x117 then (if 0 ≤ x118 then (if x118 < (x116.length : Int) then (if x573000.length < 1000000000 ∧ yK (rd x116 x118) = true then (jA.l0 k x11 x18 x116 x117 (wrap64 (x118 + 1)) x335000 x335001 x335002 x335003 (x573000 ++ [rd x116 x118]) x573001) else (none)) else (none)) else (none)) else (jA.l1 k x11 x18 x18 (x18.length : Int) 0 x335000 x335001 x335002 x335003 x573000 x573001)
def jA.l1 : Nat → List (S23) → List Int → List Int → Int → Int → Int → Int → List (List (S23)) → List (S70) → List Int → Int → Option (Bool)
 | 0, _, _, _, _, _, _, _, _, _, _, _ => none
 | k + 1, x11, x18, x127, x128, x129, x335000, x335001, x335002, x335003, x573000, x573001 => if x129 < x128 then (if 0 ≤ x129 then (if x129 < (x127.length : Int) then ((eO.f k x335000 x335001 x335002 x335003 (rd x127 x129)).bind fun aIE => (if yK (rd x127 x129) = true then (if yD x573000 (rd x127 x129) = 0 then (none) else (if aIE.2 = 0 then ((oO.f aIE.1 x11).bind fun aKm => (if aKm = true then (if x129 > 0 then (if 0 ≤ (wrap64 (x129 - 1)) then (if (wrap64 (x129 - 1)) < (x18.length : Int) then (jA.j3 k x11 x18 x129 (rd x127 x129) x127 x128 x129 (decide ((rd x18 (wrap64 (x129 - 1))) ≥ (rd x127 x129))) x335000 x335001 x335002 x335003 x573000 x573001) else (none)) else (none)) else (jA.j3 k x11 x18 x129 (rd x127 x129) x127 x128 x129 false x335000 x335001 x335002 x335003 x573000 x573001)) else (none))) else (none))) else (none))) else (none)) else (none)) else ((dM.f k x335000 x335001 x335002 x335003 (([(⟨2, 1⟩ : S23)] : List (S23)))).bind fun aas => (if (x18.length : Int) = aFk x573000 then (if aas.2 = 50 then ((aY.f k).bind fun amc => (some amc)) else (none)) else (none)))
def jA.j3 : Nat → List (S23) → List Int → Int → Int → List Int → Int → Int → Bool → Int → Int → List (List (S23)) → List (S70) → List Int → Int → Option (Bool)
 | 0, _, _, _, _, _, _, _, _, _, _, _, _, _, _ => none
 | k + 1, x11, x18, x23, x24, x127, x128, x129, x166, x335000, x335001, x335002, x335003, x573000, x573001 => if x166 = true then (none) else (if x23 = 0 then (jA.l1 k x11 x18 x127 x128 (wrap64 (x129 + 1)) x335000 x335001 x335002 x335003 x573000 x573001) else (if 0 ≤ (wrap64 (x23 - 1)) then (if (wrap64 (x23 - 1)) < (x18.length : Int) then ((fT.f k x335000 x335001 x335002 x335003 (rd x18 (wrap64 (x23 - 1)))).bind fun al7 => (jA.l2 k x11 x18 x24 al7.1 al7.2 x127 x128 x129 x335000 x335001 x335002 x335003 x573000 x573001)) else (none)) else (none)))
def jA.l2 : Nat → List (S23) → List Int → Int → Int → Bool → List Int → Int → Int → Int → Int → List (List (S23)) → List (S70) → List Int → Int → Option (Bool)
 | 0, _, _, _, _, _, _, _, _, _, _, _, _, _, _ => none
 | k + 1, x11, x18, x24, x27, x28, x127, x128, x129, x335000, x335001, x335002, x335003, x573000, x573001 => if x28 = true then (jA.j5 k x11 x18 x24 x27 x127 x128 x129 (decide (x27 < x24)) x335000 x335001 x335002 x335003 x573000 x573001) else (jA.j5 k x11 x18 x24 x27 x127 x128 x129 false x335000 x335001 x335002 x335003 x573000 x573001)
def jA.j5 : Nat → List (S23) → List Int → Int → Int → List Int → Int → Int → Bool → Int → Int → List (List (S23)) → List (S70) → List Int → Int → Option (Bool)
 | 0, _, _, _, _, _, _, _, _, _, _, _, _, _, _ => none
 | k + 1, x11, x18, x24, x27, x127, x128, x129, x184, x335000, x335001, x335002, x335003, x573000, x573001 => if x184 = true then ((eO.f k x335000 x335001 x335002 x335003 x27).bind fun aGP => (if aGP.2 = 0 then ((oO.f aGP.1 x11).bind fun aIF => (if aIF = true then (none) else ((fT.f k x335000 x335001 x335002 x335003 x27).bind fun aFY => (jA.l2 k x11 x18 x24 aFY.1 aFY.2 x127 x128 x129 x335000 x335001 x335002 x335003 x573000 x573001)))) else (none))) else (jA.l1 k x11 x18 x127 x128 (wrap64 (x129 + 1)) x335000 x335001 x335002 x335003 x573000 x573001)
end
def jA.f (k : Nat) (aQ : Int) (aR : Int) (aH : List (List (S23))) (av : List (S70)) (l1 : List (S23)) (l2 : List (S23)) : Option (Bool) := if 0 ≤ (mn (l1.length : Int) 8) then (if (mn (l1.length : Int) 8) ≤ (l1.length : Int) then ((yX.f k (l1.take ((mn (l1.length : Int) 8) : Int).toNat)).bind fun aEI => (if 0 ≤ (mn (l2.length : Int) 8) then (if (mn (l2.length : Int) 8) ≤ (l2.length : Int) then ((yX.f k (l2.take ((mn (l2.length : Int) 8) : Int).toNat)).bind fun aEB => ((aEE.f aEI.1 aEB.1).bind fun aEx => ((eD.f aEx).bind fun aEV => ((fP.f k aQ aR aH av).bind fun aGv => (if aGv = true then (if aEI.2 = 0 then (if aEB.2 = 0 then (if aEV.2.2 = true then (if aEV.1 < (-400) then (jA.j0 k aEI.1 aEB.1 aEx true aQ aR aH av) else (jA.j0 k aEI.1 aEB.1 aEx (decide (aEV.2.1 > 400)) aQ aR aH av)) else (jA.j0 k aEI.1 aEB.1 aEx false aQ aR aH av)) else (jA.j0 k aEI.1 aEB.1 aEx true aQ aR aH av)) else (jA.j0 k aEI.1 aEB.1 aEx true aQ aR aH av)) else (jA.j0 k aEI.1 aEB.1 aEx true aQ aR aH av)))))) else (none)) else (none))) else (none)) else (none)
def jA.T25 : Bool × List (List Nat × List Nat) := (true, [([], []), ([], []), ([], []), ([2], [2]), ([1, 3], [1, 3]), ([4], [4]), ([0, 5], [0, 5]), ([6], [6]), ([7], [7]), ([7], [7]), ([8, 6, 0, 1, 2, 3, 4, 5, 6, 7, 8], [8]), ([9, 10, 0, 1, 2, 3, 4, 5, 6, 7, 8, 9, 10], [9])])
def jA.B25 : List Nat := [0, 0, 0, 4, 14, 30, 63, 127, 255, 255, 511, 2047]
theorem jA.aKn : xW .any (opsOf Try.f13 25) = jA.T25 := by kernel_rfl
theorem jA.aIG : pq jA.T25.2 jA.B25 = true := by kernel_rfl
set_option maxHeartbeats 8000000 in
set_option maxRecDepth 100000 in
theorem jA.calls (k : Nat) (aQ : Int) (aR : Int) (cu : Option Addr) (bW : Nat) (aH : List (List (S23))) (dz : Option Addr) (bZ : Nat) (av : List (S70)) (A1 : Option Addr) (c1 : Nat) (l1 : List (S23)) (A2 : Option Addr) (c2 : Nat) (l2 : List (S23)) (r : Bool) (w : World) (iF : Kd.C (Kd.slice 23 k23) w cu aH.length aH) (iG : aH.length ≤ bW) (iw : Kd.C k70 w dz av.length av) (iy : av.length ≤ bZ) (hr1 : Kd.C k23 w A1 l1.length l1) (hc1 : l1.length ≤ c1) (hr2 : Kd.C k23 w A2 l2.length l2) (hc2 : l2.length ≤ c2) (h : jA.f k aQ aR aH av l1 l2 = some r) :
 Calls Try.prog 13 #[.agg #[.int .i64 aQ, .int .i64 aR, .slice cu aH.length bW, .slice dz av.length bZ], .slice A1 l1.length c1, .slice A2 l2.length c2] w fun e w' => e = .returned (.bool r) ∧ Below w.heap.size w w' := by
 have aaE := Try.underlying28
 have afs := Try.underlying23
 have gF := am iF
 have gX := am iG
 clear iF iG
 have fK := am iw
 have gW := am iy
 clear iw iy
 have HR1 := am hr1
 have HC1 := am hc1
 clear hr1 hc1
 have HR2 := am hr2
 have HC2 := am hc2
 clear hr2 hc2
 have HB := am (Below.refl w.heap.size w)
 have H : (if 0 ≤ (mn (l1.length : Int) 8) then (if (mn (l1.length : Int) 8) ≤ (l1.length : Int) then ((yX.f k (l1.take ((mn (l1.length : Int) 8) : Int).toNat)).bind fun aEI => (if 0 ≤ (mn (l2.length : Int) 8) then (if (mn (l2.length : Int) 8) ≤ (l2.length : Int) then ((yX.f k (l2.take ((mn (l2.length : Int) 8) : Int).toNat)).bind fun aEB => ((aEE.f aEI.1 aEB.1).bind fun aEx => ((eD.f aEx).bind fun aEV => ((fP.f k aQ aR aH av).bind fun aGv => (if aGv = true then (if aEI.2 = 0 then (if aEB.2 = 0 then (if aEV.2.2 = true then (if aEV.1 < (-400) then (jA.j0 k aEI.1 aEB.1 aEx true aQ aR aH av) else (jA.j0 k aEI.1 aEB.1 aEx (decide (aEV.2.1 > 400)) aQ aR aH av)) else (jA.j0 k aEI.1 aEB.1 aEx false aQ aR aH av)) else (jA.j0 k aEI.1 aEB.1 aEx true aQ aR aH av)) else (jA.j0 k aEI.1 aEB.1 aEx true aQ aR aH av)) else (jA.j0 k aEI.1 aEB.1 aEx true aQ aR aH av)))))) else (none)) else (none))) else (none)) else (none)) = some r := h
 clear h
 obtain ⟨ji4, akp⟩ : ∃ j_ : Int, (mn (l1.length : Int) 8) = j_ := ⟨_, rfl⟩
 replace H : (if 0 ≤ (ji4) then (if (ji4) ≤ (l1.length : Int) then ((yX.f k (l1.take ((ji4) : Int).toNat)).bind fun aEI => (if 0 ≤ (mn (l2.length : Int) 8) then (if (mn (l2.length : Int) 8) ≤ (l2.length : Int) then ((yX.f k (l2.take ((mn (l2.length : Int) 8) : Int).toNat)).bind fun aEB => ((aEE.f aEI.1 aEB.1).bind fun aEx => ((eD.f aEx).bind fun aEV => ((fP.f k aQ aR aH av).bind fun aGv => (if aGv = true then (if aEI.2 = 0 then (if aEB.2 = 0 then (if aEV.2.2 = true then (if aEV.1 < (-400) then (jA.j0 k aEI.1 aEB.1 aEx true aQ aR aH av) else (jA.j0 k aEI.1 aEB.1 aEx (decide (aEV.2.1 > 400)) aQ aR aH av)) else (jA.j0 k aEI.1 aEB.1 aEx false aQ aR aH av)) else (jA.j0 k aEI.1 aEB.1 aEx true aQ aR aH av)) else (jA.j0 k aEI.1 aEB.1 aEx true aQ aR aH av)) else (jA.j0 k aEI.1 aEB.1 aEx true aQ aR aH av)))))) else (none)) else (none))) else (none)) else (none)) = some r := by first | (rw [akp] at H; exact H) | (simp only [akp] at H ⊢; exact H)
 (try (have axo : ji4 ≤ 8 := by (rw [← akp]; unfold mn; (repeat' split) <;> omega)))
 (try (have axp : ji4 ≤ 64 := by omega))
 (try (have aMe : 0 ≤ ji4 := by (rw [← akp]; unfold mn; (repeat' split) <;> omega)))
 (try (have aMf : 0 ≤ ji4 := by omega))
 have axq : (if 8 < (l1.length : Int) then 8 else (l1.length : Int)) = ji4 := akp
 by_cases c5 : 0 ≤ (ji4)
 case neg => rw [if_neg c5] at H; exact absurd H (by simp)
 rw [if_pos c5] at H
 have acT := eq_true c5
 have amt : decide (0 ≤ (ji4)) = true := decide_eq_true c5
 clear c5
 by_cases c6 : (ji4) ≤ (l1.length : Int)
 case neg => rw [if_neg c6] at H; exact absurd H (by simp)
 rw [if_pos c6] at H
 have adw := eq_true c6
 have anO : decide ((ji4) ≤ (l1.length : Int)) = true := decide_eq_true c6
 clear c6
 obtain ⟨aIH, aGQ⟩ : ∃ y_ : List (S23), y_ = (l1.take ((ji4) : Int).toNat) := ⟨_, rfl⟩
 replace H : ((yX.f k aIH).bind fun aEI => (if 0 ≤ (mn (l2.length : Int) 8) then (if (mn (l2.length : Int) 8) ≤ (l2.length : Int) then ((yX.f k (l2.take ((mn (l2.length : Int) 8) : Int).toNat)).bind fun aEB => ((aEE.f aEI.1 aEB.1).bind fun aEx => ((eD.f aEx).bind fun aEV => ((fP.f k aQ aR aH av).bind fun aGv => (if aGv = true then (if aEI.2 = 0 then (if aEB.2 = 0 then (if aEV.2.2 = true then (if aEV.1 < (-400) then (jA.j0 k aEI.1 aEB.1 aEx true aQ aR aH av) else (jA.j0 k aEI.1 aEB.1 aEx (decide (aEV.2.1 > 400)) aQ aR aH av)) else (jA.j0 k aEI.1 aEB.1 aEx false aQ aR aH av)) else (jA.j0 k aEI.1 aEB.1 aEx true aQ aR aH av)) else (jA.j0 k aEI.1 aEB.1 aEx true aQ aR aH av)) else (jA.j0 k aEI.1 aEB.1 aEx true aQ aR aH av)))))) else (none)) else (none))) = some r := by first | (rw [aGQ]; with_reducible exact H) | (have H2_ := (Option.bind_some _ _).symm.trans H; rw [aGQ]; with_reducible exact H2_) | (have H2_ := (Option.bind_some _ _).symm.trans H; with_reducible exact H2_) | with_reducible exact H | (rw [aGQ]; exact H) | exact H
 have aII := am aGQ
 clear aGQ
 replace H := Option.bind_eq_some_iff.mp H
 obtain ⟨⟨aE0, aG9⟩, A70, H⟩ := H
 try dsimp only at H
 have A7 := am A70
 clear A70
 obtain ⟨ji8, aHl⟩ : ∃ j_ : Int, (mn (l2.length : Int) 8) = j_ := ⟨_, rfl⟩
 replace H : (if 0 ≤ (ji8) then (if (ji8) ≤ (l2.length : Int) then ((yX.f k (l2.take ((ji8) : Int).toNat)).bind fun aEB => ((aEE.f aE0 aEB.1).bind fun aEx => ((eD.f aEx).bind fun aEV => ((fP.f k aQ aR aH av).bind fun aGv => (if aGv = true then (if aG9 = 0 then (if aEB.2 = 0 then (if aEV.2.2 = true then (if aEV.1 < (-400) then (jA.j0 k aE0 aEB.1 aEx true aQ aR aH av) else (jA.j0 k aE0 aEB.1 aEx (decide (aEV.2.1 > 400)) aQ aR aH av)) else (jA.j0 k aE0 aEB.1 aEx false aQ aR aH av)) else (jA.j0 k aE0 aEB.1 aEx true aQ aR aH av)) else (jA.j0 k aE0 aEB.1 aEx true aQ aR aH av)) else (jA.j0 k aE0 aEB.1 aEx true aQ aR aH av)))))) else (none)) else (none)) = some r := by first | (rw [aHl] at H; exact H) | (simp only [aHl] at H ⊢; exact H)
 (try rw [aHl] at A7)
 (try (have aMg : ji8 ≤ 8 := by (rw [← aHl]; unfold mn; (repeat' split) <;> omega)))
 (try (have aMh : ji8 ≤ 64 := by omega))
 (try (have aMi : 0 ≤ ji8 := by (rw [← aHl]; unfold mn; (repeat' split) <;> omega)))
 (try (have aMj : 0 ≤ ji8 := by omega))
 have aMk : (if 8 < (l2.length : Int) then 8 else (l2.length : Int)) = ji8 := aHl
 by_cases c9 : 0 ≤ (ji8)
 case neg => rw [if_neg c9] at H; exact absurd H (by simp)
 rw [if_pos c9] at H
 have afG := eq_true c9
 have au1 : decide (0 ≤ (ji8)) = true := decide_eq_true c9
 clear c9
 by_cases c10 : (ji8) ≤ (l2.length : Int)
 case neg => rw [if_neg c10] at H; exact absurd H (by simp)
 rw [if_pos c10] at H
 have asT := eq_true c10
 have aKo : decide ((ji8) ≤ (l2.length : Int)) = true := decide_eq_true c10
 clear c10
 obtain ⟨aIJ, aGR⟩ : ∃ y_ : List (S23), y_ = (l2.take ((ji8) : Int).toNat) := ⟨_, rfl⟩
 replace H : ((yX.f k aIJ).bind fun aEB => ((aEE.f aE0 aEB.1).bind fun aEx => ((eD.f aEx).bind fun aEV => ((fP.f k aQ aR aH av).bind fun aGv => (if aGv = true then (if aG9 = 0 then (if aEB.2 = 0 then (if aEV.2.2 = true then (if aEV.1 < (-400) then (jA.j0 k aE0 aEB.1 aEx true aQ aR aH av) else (jA.j0 k aE0 aEB.1 aEx (decide (aEV.2.1 > 400)) aQ aR aH av)) else (jA.j0 k aE0 aEB.1 aEx false aQ aR aH av)) else (jA.j0 k aE0 aEB.1 aEx true aQ aR aH av)) else (jA.j0 k aE0 aEB.1 aEx true aQ aR aH av)) else (jA.j0 k aE0 aEB.1 aEx true aQ aR aH av)))))) = some r := by first | (rw [aGR]; with_reducible exact H) | (have H2_ := (Option.bind_some _ _).symm.trans H; rw [aGR]; with_reducible exact H2_) | (have H2_ := (Option.bind_some _ _).symm.trans H; with_reducible exact H2_) | with_reducible exact H | (rw [aGR]; exact H) | exact H
 have aIK := am aGR
 clear aGR
 replace H := Option.bind_eq_some_iff.mp H
 obtain ⟨⟨aFs, aHK⟩, A110, H⟩ := H
 try dsimp only at H
 have A11 := am A110
 clear A110
 replace H := Option.bind_eq_some_iff.mp H
 obtain ⟨aEx, anQ, H⟩ := H
 try dsimp only at H
 have A12 := am anQ
 clear anQ
 replace H := Option.bind_eq_some_iff.mp H
 obtain ⟨⟨aER, aEX, aKp⟩, ajJ, H⟩ := H
 try dsimp only at H
 have A13 := am ajJ
 clear ajJ
 have axg := am H
 clear H
 go_enter Try.func13, Try.ntmps13
 go_upto_region 5 with (first | ((with_reducible refine bq (N := 3) rfl ?_); refine bx 3 28 #[.int .i64 aQ, .int .i64 aR, .slice cu aH.length bW, .slice dz av.length bZ] ?_; intro aEs hg w15 dL hb; have aEm := am (dL); have aMl := am ((bz hg HB.out : w.heap.size ≤ aEs)); have aEu := am ((bz hg HB.out : w.heap.size ≤ aEs)); replace HB := am (au (bl HB.out) hb); clear hb dL hg; have q16 : ((ji4) : Int) ≤ ((l1.length : Int) : Int) := of_decide_eq_true asm; obtain ⟨aM6, aIL, _, aKq, _⟩ := info_parts asK; have aGS : l1.length ≤ c1 := HC1.out; have aLr : Kd.C k23 _ A1 l1.length l1 := HR1.out; have aIM := aHi (P := Try.prog) 24 23 .i64 Try.underlying24 aIL A1 l1.length c1 (ji4) (of_decide_eq_true asm) q16 aGS; have aKr := Kd.aHj (m := ((ji4) : Int).toNat) aLr (by omega); have aKs : aIH.length = ((ji4) : Int).toNat := (by rw [aII.out, List.length_take]; omega); rw [← aII.out] at aKr; rw [← aKs] at aIM; have aKt := am aKr; have aKu := am (show aIH.length ≤ c1 from by omega); clear aKr aLr aGS aIL aKq; have aM7 := am aKs; clear aKs; replace q16 := eq_true q16) | ((with_reducible refine aC (f := 28) rfl ?_); refine bR (some 39) rfl rfl Try.func28 (by kernel_rfl) rfl #[.slice A1 aIH.length c1] rfl ar ?_; (with_reducible refine (yX.calls k _ _ aIH aE0 aG9 _ ?bH ?bI A7.out).mono ?_); (case bH => exact kc (Kd.bf aKt.out HB.out)); (case bI => exact aKu.out); clear A7; rintro e w17 ⟨aM8, rfl, ho0, hb⟩; refine ⟨_, rfl, ?_⟩; have aEL := am (Kd.jQ ho0 (bY (bl1 HB.out aEu.out))); replace aEm := am (ak (kp aEm.out) hb); replace HB := am (au (bl1 HB.out aEu.out) hb); (try clear hb); (try clear hb2); (try clear hk); (try clear hi); (try clear ho0); have q18 : ((ji8) : Int) ≤ ((l2.length : Int) : Int) := of_decide_eq_true asm; obtain ⟨aM9, aIN, _, aKv, _⟩ := info_parts asK; have aGT : l2.length ≤ c2 := HC2.out; have aLs : Kd.C k23 _ A2 l2.length l2 := HR2.out; have aIO := aHi (P := Try.prog) 24 23 .i64 Try.underlying24 aIN A2 l2.length c2 (ji8) (of_decide_eq_true asm) q18 aGT; have aKw := Kd.aHj (m := ((ji8) : Int).toNat) aLs (by omega); have aKx : aIJ.length = ((ji8) : Int).toNat := (by rw [aIK.out, List.length_take]; omega); rw [← aIK.out] at aKw; rw [← aKx] at aIO; have aKy := am aKw; have aKz := am (show aIJ.length ≤ c2 from by omega); clear aKw aLs aGT aIN aKv; have aNa := am aKx; clear aKx; replace q18 := eq_true q18) | ((with_reducible refine aC (f := 28) rfl ?_); refine bR (some 48) rfl rfl Try.func28 (by kernel_rfl) rfl #[.slice A2 aIJ.length c2] rfl ar ?_; (with_reducible refine (yX.calls k _ _ aIJ aFs aHK _ ?bH ?bI A11.out).mono ?_); (case bH => exact kc (Kd.bf aKy.out HB.out)); (case bI => exact aKz.out); clear A11; rintro e w19 ⟨aNb, rfl, ho0, hb⟩; refine ⟨_, rfl, ?_⟩; have aEP := am (Kd.jQ (Kd.qU ho0 (Kd.abm (kr aEL.out))) (bY (bl1 HB.out aEu.out))); replace aEL := am (Kd.lN (kr aEL.out) (Kd.jN ho0) hb); replace aEm := am (ak (kp aEm.out) hb); replace HB := am (au (bl1 HB.out aEu.out) hb); (try clear hb); (try clear hb2); (try clear hk); (try clear hi); (try clear ho0); obtain ⟨aB2, aB3, aB4⟩ := Kd.iW aEL.out; subst aB4; obtain ⟨ar8, ar9, as5⟩ := Kd.iW aEP.out; subst as5) | ((with_reducible refine aC (f := 35) rfl ?_); refine bR (some 53) rfl rfl Try.func35 (by kernel_rfl) rfl #[.slice aB2 aE0.length aB3, .slice ar8 aFs.length ar9] rfl ar ?_; (with_reducible refine (aEE.calls _ _ aE0 _ _ aFs aEx _ ?bH ?bI ?dG ?dI A12.out).mono ?_); (case bH => exact kc (Kd.bS aEL.out).2.2); (case bI => exact (Kd.bS aEL.out).2.1); (case dG => exact kc (Kd.bS aEP.out).2.2); (case dI => exact (Kd.bS aEP.out).2.1); clear A12; rintro e w22 ⟨aNc, rfl, ho0, hb⟩; refine ⟨_, rfl, ?_⟩; have aES := am (Kd.jQ (Kd.qU (Kd.qU ho0 (Kd.abm (kr aEL.out))) (Kd.abm (kr aEP.out))) (bY (bl1 HB.out aEu.out))); replace aEL := am (Kd.lN (kr aEL.out) (Kd.jN ho0) hb); replace aEP := am (Kd.lN (kr aEP.out) (Kd.jN ho0) hb); replace aEm := am (ak (kp aEm.out) hb); replace HB := am (au (bl1 HB.out aEu.out) hb); (try clear hb); (try clear hb2); (try clear hk); (try clear hi); (try clear ho0); obtain ⟨aFt, aFu, aMm⟩ := Kd.iW aES.out; subst aMm) | ((with_reducible refine aC (f := 43) rfl ?_); refine bR (some 56) rfl rfl Try.func43 (by kernel_rfl) rfl #[.slice aFt aEx.length aFu] rfl ar ?_; (with_reducible refine (eD.calls _ _ aEx aER aEX aKp _ ?bH ?bI A13.out).mono ?_); (case bH => exact kc (Kd.bS aES.out).2.2); (case bI => exact (Kd.bS aES.out).2.1); clear A13; rintro e w24 ⟨rfl, hb⟩; refine ⟨_, rfl, ?_⟩; replace aEL := am (Kd.dO (kr aEL.out) hb); replace aEP := am (Kd.dO (kr aEP.out) hb); replace aES := am (Kd.dO (kr aES.out) hb); replace aEm := am (ak (kp aEm.out) hb); replace HB := am (au (bl1 HB.out aEu.out) hb); (try clear hb); (try clear hb2); (try clear hk); (try clear hi)) | ((with_reducible refine bq (N := 12) rfl ?_); refine bx 12 23 #[.int .i64 0, .int .i64 0] ?_; intro aEp hg w25 dL hb; replace aEL := am (Kd.dO (Kd.xV (kr aEL.out) aEp (Nat.le_of_eq hg.symm)) hb); replace aEP := am (Kd.dO (Kd.xV (kr aEP.out) aEp (Nat.le_of_eq hg.symm)) hb); replace aES := am (Kd.dO (Kd.xV (kr aES.out) aEp (Nat.le_of_eq hg.symm)) hb); have aEr := am (dL); have aMn := am ((bz1 hg HB.out aEu.out : w.heap.size ≤ aEp)); have aEv := am ((bz1 hg HB.out aEu.out : w.heap.size ≤ aEp)); replace HB := am (au (bl1 HB.out aEu.out) hb); have aEC := am ((nl hg aEm.out : aEs ≠ aEp)); have aEJ := am ((ng hg aEm.out : aEp ≠ aEs)); replace aEm := am (ak (kp aEm.out) hb); clear hb dL hg; have aMo := aEJ.out; have aMp := aEC.out; have aHL : w25.cell? ⟨aEp, 0, none⟩ = some (.int .i64 0) := bc aEr.out 0; have aHM : w25.cell? ⟨aEp, 1, none⟩ = some (.int .i64 0) := bc aEr.out 1; have aHN := aj aEr.out 0; have aHO := aj aEr.out 1))
 (try simp only [Act.put, List.setIfInBounds_toArray, List.set_cons_zero, List.set_cons_succ])
 go_cut [82] (fun v82 wc => ∃ (kq : Nat) (aGo : Bool), v82 = .bool aGo ∧ ay (jA.j0 kq aE0 aFs aEx aGo aQ aR aH av = some r) ∧ ay (kq ≤ k) ∧ ay (Kd.R k23 23 wc w.heap.size (fun k_ => some k_ ≠ ((.slice ar8 aFs.length ar9) : Value).ownBlock ∧ some k_ ≠ ((.slice aFt aEx.length aFu) : Value).ownBlock ∧ k_ ≠ aEp) (.slice aB2 aE0.length aB3) aE0) ∧ ay (Kd.R k23 23 wc w.heap.size (fun k_ => some k_ ≠ ((.slice aB2 aE0.length aB3) : Value).ownBlock ∧ some k_ ≠ ((.slice aFt aEx.length aFu) : Value).ownBlock ∧ k_ ≠ aEp) (.slice ar8 aFs.length ar9) aFs) ∧ ay (Kd.R k23 23 wc w.heap.size (fun k_ => some k_ ≠ ((.slice aB2 aE0.length aB3) : Value).ownBlock ∧ some k_ ≠ ((.slice ar8 aFs.length ar9) : Value).ownBlock ∧ k_ ≠ aEp) (.slice aFt aEx.length aFu) aEx) ∧ ay (wc.heap[aEs]? = some (.cells #[.int .i64 aQ, .int .i64 aR, (.slice cu aH.length bW), (.slice dz av.length bZ)] 28 (0, 0))) ∧ ay (wc.heap[aEp]? = some (.cells #[.int .i64 aER, .int .i64 aEX] 23 (0, 0))) ∧ ay (Below w.heap.size w wc))
 case first =>
  have H := axg.out
  clear axg
  replace H := Option.bind_eq_some_iff.mp H
  obtain ⟨aGv, atc, H⟩ := H
  try dsimp only at H
  have A28 := am atc
  clear atc
  by_cases c29 : aGv = true
  ·subst c29
   have H1 : (if aG9 = 0 then (if aHK = 0 then (if aKp = true then (if aER < (-400) then (jA.j0 k aE0 aFs aEx true aQ aR aH av) else (jA.j0 k aE0 aFs aEx (decide (aEX > 400)) aQ aR aH av)) else (jA.j0 k aE0 aFs aEx false aQ aR aH av)) else (jA.j0 k aE0 aFs aEx true aQ aR aH av)) else (jA.j0 k aE0 aFs aEx true aQ aR aH av)) = some r := by rw [if_pos rfl] at H; exact H
   clear H
   have H := H1
   clear H1
   by_cases c30 : aG9 = 0
   ·rw [if_pos c30] at H
    have ad7 : (aG9 == 0) = true := beq_iff_eq.mpr c30
    have auA : (aG9 != 0) = false := bne_eq_false_iff_eq.mpr c30
    clear c30
    (first | rw [ad7] | (simp only [jR, kH]; rw [ad7]) | skip)
    by_cases c31 : aHK = 0
    ·rw [if_pos c31] at H
     have arb : (aHK == 0) = true := beq_iff_eq.mpr c31
     have auC : (aHK != 0) = false := bne_eq_false_iff_eq.mpr c31
     clear c31
     by_cases c32 : aKp = true
     ·subst c32
      have H1 : (if aER < (-400) then (jA.j0 k aE0 aFs aEx true aQ aR aH av) else (jA.j0 k aE0 aFs aEx (decide (aEX > 400)) aQ aR aH av)) = some r := by rw [if_pos rfl] at H; exact H
      clear H
      have H := H1
      clear H1
      by_cases c33 : aER < (-400)
      ·rw [if_pos c33] at H
       have aIu : decide (aER < (-400)) = true := decide_eq_true c33
       clear c33
       have H' := am H
       clear H
       have asU := aEC.out
       have asV := aEJ.out
       have afQ : w25.cell? ⟨aEs, 0, none⟩ = some (.int .i64 aQ) := bc aEm.out 0
       have afR : w25.cell? ⟨aEs, 1, none⟩ = some (.int .i64 aR) := bc aEm.out 1
       have ajS : w25.cell? ⟨aEs, 2, none⟩ = some (.slice cu aH.length bW) := bc aEm.out 2
       have ajT : w25.cell? ⟨aEs, 3, none⟩ = some (.slice dz av.length bZ) := bc aEm.out 3
       have afS := aj aEm.out 0
       have afT := aj aEm.out 1
       have ajU := aj aEm.out 2
       have ajV := aj aEm.out 3
       go_wp2_with (first | ((with_reducible refine aC (f := 17) rfl ?_); refine bR (some 60) rfl rfl Try.func17 (by kernel_rfl) rfl #[.agg #[.int .i64 aQ, .int .i64 aR, .slice cu aH.length bW, .slice dz av.length bZ]] rfl ar ?_; (with_reducible refine (fP.calls k aQ aR _ _ aH _ _ av true _ ?bH ?bI ?dG ?dI A28.out).mono ?_); (case bH => exact Kd.bf gF.out (bl2 HB.out aEu.out aEv.out)); (case bI => exact gX.out); (case dG => exact Kd.bf fK.out (bl2 HB.out aEu.out aEv.out)); (case dI => exact gW.out); clear A28; rintro e w36 ⟨rfl, hb⟩; refine ⟨_, rfl, ?_⟩; replace aEL := am (Kd.dO (by (with_reducible repeat (first | apply Kd.qd | apply Kd.qg | apply Kd.qR)); exact (Kd.lY (Kd.amf (p := ⟨aEp, 1, none⟩) (Kd.amf (p := ⟨aEp, 0, none⟩) (Kd.lY aEL.out (fun k_ hk => (⟨hk, hk.2⟩ : _ ∧ k_ ≠ aEp))) (fun _ hk => hk.2) (.int .i64 aER)) (fun _ hk => hk.2) (.int .i64 aEX)) (fun _ h_ => h_.1))) hb); replace aEP := am (Kd.dO (by (with_reducible repeat (first | apply Kd.qd | apply Kd.qg | apply Kd.qR)); exact (Kd.lY (Kd.amf (p := ⟨aEp, 1, none⟩) (Kd.amf (p := ⟨aEp, 0, none⟩) (Kd.lY aEP.out (fun k_ hk => (⟨hk, hk.2⟩ : _ ∧ k_ ≠ aEp))) (fun _ hk => hk.2) (.int .i64 aER)) (fun _ hk => hk.2) (.int .i64 aEX)) (fun _ h_ => h_.1))) hb); replace aES := am (Kd.dO (by (with_reducible repeat (first | apply Kd.qd | apply Kd.qg | apply Kd.qR)); exact (Kd.lY (Kd.amf (p := ⟨aEp, 1, none⟩) (Kd.amf (p := ⟨aEp, 0, none⟩) (Kd.lY aES.out (fun k_ hk => (⟨hk, hk.2⟩ : _ ∧ k_ ≠ aEp))) (fun _ hk => hk.2) (.int .i64 aER)) (fun _ hk => hk.2) (.int .i64 aEX)) (fun _ h_ => h_.1))) hb); replace aEm := am (ak (g := aEs) (o := .cells #[.int .i64 aQ, .int .i64 aR, .slice cu aH.length bW, .slice dz av.length bZ] 28 (0, 0)) (kf aEm.out aEC.out) hb); replace aEr := am (ak (g := aEp) (o := .cells #[.int .i64 aER, .int .i64 aEX] 23 (0, 0)) (by (with_reducible repeat (first | refine aM ?_ _ | refine aI ?_ | refine aA ?_ _)); refine bX (cs := #[.int .i64 aER, .int .i64 0]) ?_ 1 _ rfl; (with_reducible repeat (first | refine aM ?_ _ | refine aI ?_ | refine aA ?_ _)); refine bX (cs := #[.int .i64 0, .int .i64 0]) ?_ 0 _ rfl; (with_reducible repeat (first | refine aM ?_ _ | refine aI ?_ | refine aA ?_ _)); exact aEr.out) hb); replace HB := am (au (bl2 HB.out aEu.out aEv.out) hb); (try clear hb); (try clear hb2); (try clear hk); (try clear hi); have akq : w36.cell? ⟨aEp, 0, none⟩ = some (.int .i64 aER) := bc aEr.out 0; have akr : w36.cell? ⟨aEp, 1, none⟩ = some (.int .i64 aEX) := bc aEr.out 1; have aku := aj aEr.out 0; have akv := aj aEr.out 1))
       go_meet
       case rel => exact ⟨_, (true), sm, H', ⟨by first | omega | exact Nat.le_refl _⟩, ⟨by (with_reducible repeat (first | apply Kd.qd | apply Kd.qg | apply Kd.qR)); exact Kd.lY aEL.out (fun _ hk => ⟨hk.1.1.2, ⟨hk.1.2, hk.2⟩⟩)⟩, ⟨by (with_reducible repeat (first | apply Kd.qd | apply Kd.qg | apply Kd.qR)); exact Kd.lY aEP.out (fun _ hk => ⟨hk.1.1.2, ⟨hk.1.2, hk.2⟩⟩)⟩, ⟨by (with_reducible repeat (first | apply Kd.qd | apply Kd.qg | apply Kd.qR)); exact Kd.lY aES.out (fun _ hk => ⟨hk.1.1.2, ⟨hk.1.2, hk.2⟩⟩)⟩, ⟨kp aEm.out⟩, ⟨kp aEr.out⟩, ⟨bl2 HB.out aEu.out aEv.out⟩⟩
      ·rw [if_neg c33] at H
       have aIu : decide (aER < (-400)) = false := decide_eq_false c33
       clear c33
       have H' := am H
       clear H
       have aws := aEC.out
       have awt := aEJ.out
       have aHB : w25.cell? ⟨aEs, 0, none⟩ = some (.int .i64 aQ) := bc aEm.out 0
       have aHC : w25.cell? ⟨aEs, 1, none⟩ = some (.int .i64 aR) := bc aEm.out 1
       have aKA : w25.cell? ⟨aEs, 2, none⟩ = some (.slice cu aH.length bW) := bc aEm.out 2
       have aKB : w25.cell? ⟨aEs, 3, none⟩ = some (.slice dz av.length bZ) := bc aEm.out 3
       have aHD := aj aEm.out 0
       have aHE := aj aEm.out 1
       have aKC := aj aEm.out 2
       have aKD := aj aEm.out 3
       go_wp2_with (first | ((with_reducible refine aC (f := 17) rfl ?_); refine bR (some 60) rfl rfl Try.func17 (by kernel_rfl) rfl #[.agg #[.int .i64 aQ, .int .i64 aR, .slice cu aH.length bW, .slice dz av.length bZ]] rfl ar ?_; (with_reducible refine (fP.calls k aQ aR _ _ aH _ _ av true _ ?bH ?bI ?dG ?dI A28.out).mono ?_); (case bH => exact Kd.bf gF.out (bl2 HB.out aEu.out aEv.out)); (case bI => exact gX.out); (case dG => exact Kd.bf fK.out (bl2 HB.out aEu.out aEv.out)); (case dI => exact gW.out); clear A28; rintro e w40 ⟨rfl, hb⟩; refine ⟨_, rfl, ?_⟩; replace aEL := am (Kd.dO (by (with_reducible repeat (first | apply Kd.qd | apply Kd.qg | apply Kd.qR)); exact (Kd.lY (Kd.amf (p := ⟨aEp, 1, none⟩) (Kd.amf (p := ⟨aEp, 0, none⟩) (Kd.lY aEL.out (fun k_ hk => (⟨hk, hk.2⟩ : _ ∧ k_ ≠ aEp))) (fun _ hk => hk.2) (.int .i64 aER)) (fun _ hk => hk.2) (.int .i64 aEX)) (fun _ h_ => h_.1))) hb); replace aEP := am (Kd.dO (by (with_reducible repeat (first | apply Kd.qd | apply Kd.qg | apply Kd.qR)); exact (Kd.lY (Kd.amf (p := ⟨aEp, 1, none⟩) (Kd.amf (p := ⟨aEp, 0, none⟩) (Kd.lY aEP.out (fun k_ hk => (⟨hk, hk.2⟩ : _ ∧ k_ ≠ aEp))) (fun _ hk => hk.2) (.int .i64 aER)) (fun _ hk => hk.2) (.int .i64 aEX)) (fun _ h_ => h_.1))) hb); replace aES := am (Kd.dO (by (with_reducible repeat (first | apply Kd.qd | apply Kd.qg | apply Kd.qR)); exact (Kd.lY (Kd.amf (p := ⟨aEp, 1, none⟩) (Kd.amf (p := ⟨aEp, 0, none⟩) (Kd.lY aES.out (fun k_ hk => (⟨hk, hk.2⟩ : _ ∧ k_ ≠ aEp))) (fun _ hk => hk.2) (.int .i64 aER)) (fun _ hk => hk.2) (.int .i64 aEX)) (fun _ h_ => h_.1))) hb); replace aEm := am (ak (g := aEs) (o := .cells #[.int .i64 aQ, .int .i64 aR, .slice cu aH.length bW, .slice dz av.length bZ] 28 (0, 0)) (kf aEm.out aEC.out) hb); replace aEr := am (ak (g := aEp) (o := .cells #[.int .i64 aER, .int .i64 aEX] 23 (0, 0)) (by (with_reducible repeat (first | refine aM ?_ _ | refine aI ?_ | refine aA ?_ _)); refine bX (cs := #[.int .i64 aER, .int .i64 0]) ?_ 1 _ rfl; (with_reducible repeat (first | refine aM ?_ _ | refine aI ?_ | refine aA ?_ _)); refine bX (cs := #[.int .i64 0, .int .i64 0]) ?_ 0 _ rfl; (with_reducible repeat (first | refine aM ?_ _ | refine aI ?_ | refine aA ?_ _)); exact aEr.out) hb); replace HB := am (au (bl2 HB.out aEu.out aEv.out) hb); (try clear hb); (try clear hb2); (try clear hk); (try clear hi); have aky : w40.cell? ⟨aEp, 0, none⟩ = some (.int .i64 aER) := bc aEr.out 0; have akz : w40.cell? ⟨aEp, 1, none⟩ = some (.int .i64 aEX) := bc aEr.out 1; have akA := aj aEr.out 0; have akB := aj aEr.out 1))
       go_meet
       case rel => exact ⟨_, (decide (aEX > 400)), sm, H', ⟨by first | omega | exact Nat.le_refl _⟩, ⟨by (with_reducible repeat (first | apply Kd.qd | apply Kd.qg | apply Kd.qR)); exact Kd.lY aEL.out (fun _ hk => ⟨hk.1.1.2, ⟨hk.1.2, hk.2⟩⟩)⟩, ⟨by (with_reducible repeat (first | apply Kd.qd | apply Kd.qg | apply Kd.qR)); exact Kd.lY aEP.out (fun _ hk => ⟨hk.1.1.2, ⟨hk.1.2, hk.2⟩⟩)⟩, ⟨by (with_reducible repeat (first | apply Kd.qd | apply Kd.qg | apply Kd.qR)); exact Kd.lY aES.out (fun _ hk => ⟨hk.1.1.2, ⟨hk.1.2, hk.2⟩⟩)⟩, ⟨kp aEm.out⟩, ⟨kp aEr.out⟩, ⟨bl2 HB.out aEu.out aEv.out⟩⟩
     ·replace c32 := Bool.eq_false_iff.mpr c32
      subst c32
      have H1 : (jA.j0 k aE0 aFs aEx false aQ aR aH av) = some r := by rw [if_neg (show ¬ (false = true) by decide)] at H; exact H
      clear H
      have H := H1
      clear H1
      have H' := am H
      clear H
      have aMq := aEC.out
      have aMr := aEJ.out
      have aKE : w25.cell? ⟨aEs, 0, none⟩ = some (.int .i64 aQ) := bc aEm.out 0
      have aKF : w25.cell? ⟨aEs, 1, none⟩ = some (.int .i64 aR) := bc aEm.out 1
      have aKG : w25.cell? ⟨aEs, 2, none⟩ = some (.slice cu aH.length bW) := bc aEm.out 2
      have aKH : w25.cell? ⟨aEs, 3, none⟩ = some (.slice dz av.length bZ) := bc aEm.out 3
      have aKI := aj aEm.out 0
      have aKJ := aj aEm.out 1
      have aKK := aj aEm.out 2
      have aKL := aj aEm.out 3
      go_wp2_with (first | ((with_reducible refine aC (f := 17) rfl ?_); refine bR (some 60) rfl rfl Try.func17 (by kernel_rfl) rfl #[.agg #[.int .i64 aQ, .int .i64 aR, .slice cu aH.length bW, .slice dz av.length bZ]] rfl ar ?_; (with_reducible refine (fP.calls k aQ aR _ _ aH _ _ av true _ ?bH ?bI ?dG ?dI A28.out).mono ?_); (case bH => exact Kd.bf gF.out (bl2 HB.out aEu.out aEv.out)); (case bI => exact gX.out); (case dG => exact Kd.bf fK.out (bl2 HB.out aEu.out aEv.out)); (case dI => exact gW.out); clear A28; rintro e w44 ⟨rfl, hb⟩; refine ⟨_, rfl, ?_⟩; replace aEL := am (Kd.dO (by (with_reducible repeat (first | apply Kd.qd | apply Kd.qg | apply Kd.qR)); exact (Kd.lY (Kd.amf (p := ⟨aEp, 1, none⟩) (Kd.amf (p := ⟨aEp, 0, none⟩) (Kd.lY aEL.out (fun k_ hk => (⟨hk, hk.2⟩ : _ ∧ k_ ≠ aEp))) (fun _ hk => hk.2) (.int .i64 aER)) (fun _ hk => hk.2) (.int .i64 aEX)) (fun _ h_ => h_.1))) hb); replace aEP := am (Kd.dO (by (with_reducible repeat (first | apply Kd.qd | apply Kd.qg | apply Kd.qR)); exact (Kd.lY (Kd.amf (p := ⟨aEp, 1, none⟩) (Kd.amf (p := ⟨aEp, 0, none⟩) (Kd.lY aEP.out (fun k_ hk => (⟨hk, hk.2⟩ : _ ∧ k_ ≠ aEp))) (fun _ hk => hk.2) (.int .i64 aER)) (fun _ hk => hk.2) (.int .i64 aEX)) (fun _ h_ => h_.1))) hb); replace aES := am (Kd.dO (by (with_reducible repeat (first | apply Kd.qd | apply Kd.qg | apply Kd.qR)); exact (Kd.lY (Kd.amf (p := ⟨aEp, 1, none⟩) (Kd.amf (p := ⟨aEp, 0, none⟩) (Kd.lY aES.out (fun k_ hk => (⟨hk, hk.2⟩ : _ ∧ k_ ≠ aEp))) (fun _ hk => hk.2) (.int .i64 aER)) (fun _ hk => hk.2) (.int .i64 aEX)) (fun _ h_ => h_.1))) hb); replace aEm := am (ak (g := aEs) (o := .cells #[.int .i64 aQ, .int .i64 aR, .slice cu aH.length bW, .slice dz av.length bZ] 28 (0, 0)) (kf aEm.out aEC.out) hb); replace aEr := am (ak (g := aEp) (o := .cells #[.int .i64 aER, .int .i64 aEX] 23 (0, 0)) (by (with_reducible repeat (first | refine aM ?_ _ | refine aI ?_ | refine aA ?_ _)); refine bX (cs := #[.int .i64 aER, .int .i64 0]) ?_ 1 _ rfl; (with_reducible repeat (first | refine aM ?_ _ | refine aI ?_ | refine aA ?_ _)); refine bX (cs := #[.int .i64 0, .int .i64 0]) ?_ 0 _ rfl; (with_reducible repeat (first | refine aM ?_ _ | refine aI ?_ | refine aA ?_ _)); exact aEr.out) hb); replace HB := am (au (bl2 HB.out aEu.out aEv.out) hb); (try clear hb); (try clear hb2); (try clear hk); (try clear hi)))
      go_meet
      case rel => exact ⟨_, (false), sm, H', ⟨by first | omega | exact Nat.le_refl _⟩, ⟨by (with_reducible repeat (first | apply Kd.qd | apply Kd.qg | apply Kd.qR)); exact Kd.lY aEL.out (fun _ hk => ⟨hk.1.1.2, ⟨hk.1.2, hk.2⟩⟩)⟩, ⟨by (with_reducible repeat (first | apply Kd.qd | apply Kd.qg | apply Kd.qR)); exact Kd.lY aEP.out (fun _ hk => ⟨hk.1.1.2, ⟨hk.1.2, hk.2⟩⟩)⟩, ⟨by (with_reducible repeat (first | apply Kd.qd | apply Kd.qg | apply Kd.qR)); exact Kd.lY aES.out (fun _ hk => ⟨hk.1.1.2, ⟨hk.1.2, hk.2⟩⟩)⟩, ⟨kp aEm.out⟩, ⟨kp aEr.out⟩, ⟨bl2 HB.out aEu.out aEv.out⟩⟩
    ·rw [if_neg c31] at H
     have arb : (aHK == 0) = false := beq_eq_false_iff_ne.mpr c31
     have auC : (aHK != 0) = true := bne_iff_ne.mpr c31
     have H' := am H
     clear H
     have axB := aEC.out
     have axC := aEJ.out
     have ayB : w25.cell? ⟨aEs, 0, none⟩ = some (.int .i64 aQ) := bc aEm.out 0
     have ayC : w25.cell? ⟨aEs, 1, none⟩ = some (.int .i64 aR) := bc aEm.out 1
     have ayD : w25.cell? ⟨aEs, 2, none⟩ = some (.slice cu aH.length bW) := bc aEm.out 2
     have ayE : w25.cell? ⟨aEs, 3, none⟩ = some (.slice dz av.length bZ) := bc aEm.out 3
     have ayF := aj aEm.out 0
     have ayG := aj aEm.out 1
     have ayH := aj aEm.out 2
     have ayI := aj aEm.out 3
     go_wp2_with (first | ((with_reducible refine aC (f := 17) rfl ?_); refine bR (some 60) rfl rfl Try.func17 (by kernel_rfl) rfl #[.agg #[.int .i64 aQ, .int .i64 aR, .slice cu aH.length bW, .slice dz av.length bZ]] rfl ar ?_; (with_reducible refine (fP.calls k aQ aR _ _ aH _ _ av true _ ?bH ?bI ?dG ?dI A28.out).mono ?_); (case bH => exact Kd.bf gF.out (bl2 HB.out aEu.out aEv.out)); (case bI => exact gX.out); (case dG => exact Kd.bf fK.out (bl2 HB.out aEu.out aEv.out)); (case dI => exact gW.out); clear A28; rintro e w47 ⟨rfl, hb⟩; refine ⟨_, rfl, ?_⟩; replace aEL := am (Kd.dO (by (with_reducible repeat (first | apply Kd.qd | apply Kd.qg | apply Kd.qR)); exact (Kd.lY (Kd.amf (p := ⟨aEp, 1, none⟩) (Kd.amf (p := ⟨aEp, 0, none⟩) (Kd.lY aEL.out (fun k_ hk => (⟨hk, hk.2⟩ : _ ∧ k_ ≠ aEp))) (fun _ hk => hk.2) (.int .i64 aER)) (fun _ hk => hk.2) (.int .i64 aEX)) (fun _ h_ => h_.1))) hb); replace aEP := am (Kd.dO (by (with_reducible repeat (first | apply Kd.qd | apply Kd.qg | apply Kd.qR)); exact (Kd.lY (Kd.amf (p := ⟨aEp, 1, none⟩) (Kd.amf (p := ⟨aEp, 0, none⟩) (Kd.lY aEP.out (fun k_ hk => (⟨hk, hk.2⟩ : _ ∧ k_ ≠ aEp))) (fun _ hk => hk.2) (.int .i64 aER)) (fun _ hk => hk.2) (.int .i64 aEX)) (fun _ h_ => h_.1))) hb); replace aES := am (Kd.dO (by (with_reducible repeat (first | apply Kd.qd | apply Kd.qg | apply Kd.qR)); exact (Kd.lY (Kd.amf (p := ⟨aEp, 1, none⟩) (Kd.amf (p := ⟨aEp, 0, none⟩) (Kd.lY aES.out (fun k_ hk => (⟨hk, hk.2⟩ : _ ∧ k_ ≠ aEp))) (fun _ hk => hk.2) (.int .i64 aER)) (fun _ hk => hk.2) (.int .i64 aEX)) (fun _ h_ => h_.1))) hb); replace aEm := am (ak (g := aEs) (o := .cells #[.int .i64 aQ, .int .i64 aR, .slice cu aH.length bW, .slice dz av.length bZ] 28 (0, 0)) (kf aEm.out aEC.out) hb); replace aEr := am (ak (g := aEp) (o := .cells #[.int .i64 aER, .int .i64 aEX] 23 (0, 0)) (by (with_reducible repeat (first | refine aM ?_ _ | refine aI ?_ | refine aA ?_ _)); refine bX (cs := #[.int .i64 aER, .int .i64 0]) ?_ 1 _ rfl; (with_reducible repeat (first | refine aM ?_ _ | refine aI ?_ | refine aA ?_ _)); refine bX (cs := #[.int .i64 0, .int .i64 0]) ?_ 0 _ rfl; (with_reducible repeat (first | refine aM ?_ _ | refine aI ?_ | refine aA ?_ _)); exact aEr.out) hb); replace HB := am (au (bl2 HB.out aEu.out aEv.out) hb); (try clear hb); (try clear hb2); (try clear hk); (try clear hi)))
     go_meet
     case rel => exact ⟨_, (true), sm, H', ⟨by first | omega | exact Nat.le_refl _⟩, ⟨by (with_reducible repeat (first | apply Kd.qd | apply Kd.qg | apply Kd.qR)); exact Kd.lY aEL.out (fun _ hk => ⟨hk.1.1.2, ⟨hk.1.2, hk.2⟩⟩)⟩, ⟨by (with_reducible repeat (first | apply Kd.qd | apply Kd.qg | apply Kd.qR)); exact Kd.lY aEP.out (fun _ hk => ⟨hk.1.1.2, ⟨hk.1.2, hk.2⟩⟩)⟩, ⟨by (with_reducible repeat (first | apply Kd.qd | apply Kd.qg | apply Kd.qR)); exact Kd.lY aES.out (fun _ hk => ⟨hk.1.1.2, ⟨hk.1.2, hk.2⟩⟩)⟩, ⟨kp aEm.out⟩, ⟨kp aEr.out⟩, ⟨bl2 HB.out aEu.out aEv.out⟩⟩
   ·rw [if_neg c30] at H
    have ad7 : (aG9 == 0) = false := beq_eq_false_iff_ne.mpr c30
    have auA : (aG9 != 0) = true := bne_iff_ne.mpr c30
    (first | rw [ad7] | (simp only [jR, kH]; rw [ad7]) | skip)
    have H' := am H
    clear H
    have axD := aEC.out
    have axE := aEJ.out
    have apK : w25.cell? ⟨aEs, 0, none⟩ = some (.int .i64 aQ) := bc aEm.out 0
    have apL : w25.cell? ⟨aEs, 1, none⟩ = some (.int .i64 aR) := bc aEm.out 1
    have apM : w25.cell? ⟨aEs, 2, none⟩ = some (.slice cu aH.length bW) := bc aEm.out 2
    have apN : w25.cell? ⟨aEs, 3, none⟩ = some (.slice dz av.length bZ) := bc aEm.out 3
    have apO := aj aEm.out 0
    have apP := aj aEm.out 1
    have apQ := aj aEm.out 2
    have apR := aj aEm.out 3
    go_wp2_with (first | ((with_reducible refine aC (f := 17) rfl ?_); refine bR (some 60) rfl rfl Try.func17 (by kernel_rfl) rfl #[.agg #[.int .i64 aQ, .int .i64 aR, .slice cu aH.length bW, .slice dz av.length bZ]] rfl ar ?_; (with_reducible refine (fP.calls k aQ aR _ _ aH _ _ av true _ ?bH ?bI ?dG ?dI A28.out).mono ?_); (case bH => exact Kd.bf gF.out (bl2 HB.out aEu.out aEv.out)); (case bI => exact gX.out); (case dG => exact Kd.bf fK.out (bl2 HB.out aEu.out aEv.out)); (case dI => exact gW.out); clear A28; rintro e w50 ⟨rfl, hb⟩; refine ⟨_, rfl, ?_⟩; replace aEL := am (Kd.dO (by (with_reducible repeat (first | apply Kd.qd | apply Kd.qg | apply Kd.qR)); exact (Kd.lY (Kd.amf (p := ⟨aEp, 1, none⟩) (Kd.amf (p := ⟨aEp, 0, none⟩) (Kd.lY aEL.out (fun k_ hk => (⟨hk, hk.2⟩ : _ ∧ k_ ≠ aEp))) (fun _ hk => hk.2) (.int .i64 aER)) (fun _ hk => hk.2) (.int .i64 aEX)) (fun _ h_ => h_.1))) hb); replace aEP := am (Kd.dO (by (with_reducible repeat (first | apply Kd.qd | apply Kd.qg | apply Kd.qR)); exact (Kd.lY (Kd.amf (p := ⟨aEp, 1, none⟩) (Kd.amf (p := ⟨aEp, 0, none⟩) (Kd.lY aEP.out (fun k_ hk => (⟨hk, hk.2⟩ : _ ∧ k_ ≠ aEp))) (fun _ hk => hk.2) (.int .i64 aER)) (fun _ hk => hk.2) (.int .i64 aEX)) (fun _ h_ => h_.1))) hb); replace aES := am (Kd.dO (by (with_reducible repeat (first | apply Kd.qd | apply Kd.qg | apply Kd.qR)); exact (Kd.lY (Kd.amf (p := ⟨aEp, 1, none⟩) (Kd.amf (p := ⟨aEp, 0, none⟩) (Kd.lY aES.out (fun k_ hk => (⟨hk, hk.2⟩ : _ ∧ k_ ≠ aEp))) (fun _ hk => hk.2) (.int .i64 aER)) (fun _ hk => hk.2) (.int .i64 aEX)) (fun _ h_ => h_.1))) hb); replace aEm := am (ak (g := aEs) (o := .cells #[.int .i64 aQ, .int .i64 aR, .slice cu aH.length bW, .slice dz av.length bZ] 28 (0, 0)) (kf aEm.out aEC.out) hb); replace aEr := am (ak (g := aEp) (o := .cells #[.int .i64 aER, .int .i64 aEX] 23 (0, 0)) (by (with_reducible repeat (first | refine aM ?_ _ | refine aI ?_ | refine aA ?_ _)); refine bX (cs := #[.int .i64 aER, .int .i64 0]) ?_ 1 _ rfl; (with_reducible repeat (first | refine aM ?_ _ | refine aI ?_ | refine aA ?_ _)); refine bX (cs := #[.int .i64 0, .int .i64 0]) ?_ 0 _ rfl; (with_reducible repeat (first | refine aM ?_ _ | refine aI ?_ | refine aA ?_ _)); exact aEr.out) hb); replace HB := am (au (bl2 HB.out aEu.out aEv.out) hb); (try clear hb); (try clear hb2); (try clear hk); (try clear hi)))
    go_meet
    case rel => exact ⟨_, (true), sm, H', ⟨by first | omega | exact Nat.le_refl _⟩, ⟨by (with_reducible repeat (first | apply Kd.qd | apply Kd.qg | apply Kd.qR)); exact Kd.lY aEL.out (fun _ hk => ⟨hk.1.1.2, ⟨hk.1.2, hk.2⟩⟩)⟩, ⟨by (with_reducible repeat (first | apply Kd.qd | apply Kd.qg | apply Kd.qR)); exact Kd.lY aEP.out (fun _ hk => ⟨hk.1.1.2, ⟨hk.1.2, hk.2⟩⟩)⟩, ⟨by (with_reducible repeat (first | apply Kd.qd | apply Kd.qg | apply Kd.qR)); exact Kd.lY aES.out (fun _ hk => ⟨hk.1.1.2, ⟨hk.1.2, hk.2⟩⟩)⟩, ⟨kp aEm.out⟩, ⟨kp aEr.out⟩, ⟨bl2 HB.out aEu.out aEv.out⟩⟩
  ·replace c29 := Bool.eq_false_iff.mpr c29
   subst c29
   have H1 : (jA.j0 k aE0 aFs aEx true aQ aR aH av) = some r := by rw [if_neg (show ¬ (false = true) by decide)] at H; exact H
   clear H
   have H := H1
   clear H1
   have H' := am H
   clear H
   have aMs := aEC.out
   have aMt := aEJ.out
   have akG : w25.cell? ⟨aEs, 0, none⟩ = some (.int .i64 aQ) := bc aEm.out 0
   have akH : w25.cell? ⟨aEs, 1, none⟩ = some (.int .i64 aR) := bc aEm.out 1
   have akI : w25.cell? ⟨aEs, 2, none⟩ = some (.slice cu aH.length bW) := bc aEm.out 2
   have akJ : w25.cell? ⟨aEs, 3, none⟩ = some (.slice dz av.length bZ) := bc aEm.out 3
   have akK := aj aEm.out 0
   have akL := aj aEm.out 1
   have akM := aj aEm.out 2
   have akN := aj aEm.out 3
   go_wp2_with (first | ((with_reducible refine aC (f := 17) rfl ?_); refine bR (some 60) rfl rfl Try.func17 (by kernel_rfl) rfl #[.agg #[.int .i64 aQ, .int .i64 aR, .slice cu aH.length bW, .slice dz av.length bZ]] rfl ar ?_; (with_reducible refine (fP.calls k aQ aR _ _ aH _ _ av false _ ?bH ?bI ?dG ?dI A28.out).mono ?_); (case bH => exact Kd.bf gF.out (bl2 HB.out aEu.out aEv.out)); (case bI => exact gX.out); (case dG => exact Kd.bf fK.out (bl2 HB.out aEu.out aEv.out)); (case dI => exact gW.out); clear A28; rintro e w53 ⟨rfl, hb⟩; refine ⟨_, rfl, ?_⟩; replace aEL := am (Kd.dO (by (with_reducible repeat (first | apply Kd.qd | apply Kd.qg | apply Kd.qR)); exact (Kd.lY (Kd.amf (p := ⟨aEp, 1, none⟩) (Kd.amf (p := ⟨aEp, 0, none⟩) (Kd.lY aEL.out (fun k_ hk => (⟨hk, hk.2⟩ : _ ∧ k_ ≠ aEp))) (fun _ hk => hk.2) (.int .i64 aER)) (fun _ hk => hk.2) (.int .i64 aEX)) (fun _ h_ => h_.1))) hb); replace aEP := am (Kd.dO (by (with_reducible repeat (first | apply Kd.qd | apply Kd.qg | apply Kd.qR)); exact (Kd.lY (Kd.amf (p := ⟨aEp, 1, none⟩) (Kd.amf (p := ⟨aEp, 0, none⟩) (Kd.lY aEP.out (fun k_ hk => (⟨hk, hk.2⟩ : _ ∧ k_ ≠ aEp))) (fun _ hk => hk.2) (.int .i64 aER)) (fun _ hk => hk.2) (.int .i64 aEX)) (fun _ h_ => h_.1))) hb); replace aES := am (Kd.dO (by (with_reducible repeat (first | apply Kd.qd | apply Kd.qg | apply Kd.qR)); exact (Kd.lY (Kd.amf (p := ⟨aEp, 1, none⟩) (Kd.amf (p := ⟨aEp, 0, none⟩) (Kd.lY aES.out (fun k_ hk => (⟨hk, hk.2⟩ : _ ∧ k_ ≠ aEp))) (fun _ hk => hk.2) (.int .i64 aER)) (fun _ hk => hk.2) (.int .i64 aEX)) (fun _ h_ => h_.1))) hb); replace aEm := am (ak (g := aEs) (o := .cells #[.int .i64 aQ, .int .i64 aR, .slice cu aH.length bW, .slice dz av.length bZ] 28 (0, 0)) (kf aEm.out aEC.out) hb); replace aEr := am (ak (g := aEp) (o := .cells #[.int .i64 aER, .int .i64 aEX] 23 (0, 0)) (by (with_reducible repeat (first | refine aM ?_ _ | refine aI ?_ | refine aA ?_ _)); refine bX (cs := #[.int .i64 aER, .int .i64 0]) ?_ 1 _ rfl; (with_reducible repeat (first | refine aM ?_ _ | refine aI ?_ | refine aA ?_ _)); refine bX (cs := #[.int .i64 0, .int .i64 0]) ?_ 0 _ rfl; (with_reducible repeat (first | refine aM ?_ _ | refine aI ?_ | refine aA ?_ _)); exact aEr.out) hb); replace HB := am (au (bl2 HB.out aEu.out aEv.out) hb); (try clear hb); (try clear hb2); (try clear hk); (try clear hi)))
   go_meet
   case rel => exact ⟨_, (true), sm, H', ⟨by first | omega | exact Nat.le_refl _⟩, ⟨by (with_reducible repeat (first | apply Kd.qd | apply Kd.qg | apply Kd.qR)); exact Kd.lY aEL.out (fun _ hk => ⟨hk.1.1.2, ⟨hk.1.2, hk.2⟩⟩)⟩, ⟨by (with_reducible repeat (first | apply Kd.qd | apply Kd.qg | apply Kd.qR)); exact Kd.lY aEP.out (fun _ hk => ⟨hk.1.1.2, ⟨hk.1.2, hk.2⟩⟩)⟩, ⟨by (with_reducible repeat (first | apply Kd.qd | apply Kd.qg | apply Kd.qR)); exact Kd.lY aES.out (fun _ hk => ⟨hk.1.1.2, ⟨hk.1.2, hk.2⟩⟩)⟩, ⟨kp aEm.out⟩, ⟨kp aEr.out⟩, ⟨bl2 HB.out aEu.out aEv.out⟩⟩
 case rest =>
  clear axg
  try clear c1
  try clear c2
  try clear acT
  try clear amt
  try clear adw
  try clear anO
  try clear afG
  try clear au1
  try clear asT
  try clear aKo
  try clear q16
  try clear q18
  try clear aHL
  try clear aHM
  try clear aHN
  try clear aHO
  obtain ⟨kq, aGo, rfl, HA, ave, aFU, aoa, ku, aEm, aEr, HB⟩ := hcut
  cases kq with
  | zero => exact absurd HA.out (by simp [jA.j0])
  | succ kj13 =>
   have H := HA.out
   clear HA
   simp only [jA.j0] at H
   by_cases c54 : aGo = true
   ·subst c54
    have H1 : ((aY.f kj13).bind fun aID => (some aID)) = some r := by rw [if_pos rfl] at H; exact H
    clear H
    have H := H1
    clear H1
    replace H := Option.bind_eq_some_iff.mp H
    obtain ⟨aID, aLt, H⟩ := H
    try dsimp only at H
    have A55 := am aLt
    clear aLt
    obtain rfl := Option.some.inj H
    go_wp2_with (first | ((with_reducible refine aC (f := 16) rfl ?_); refine bR (some 83) rfl rfl Try.func16 (by kernel_rfl) rfl #[] rfl ar ?_; (with_reducible refine (aY.calls kj13  aID _ A55.out).mono ?_); clear A55; rintro e w56 ⟨rfl, hb⟩; refine ⟨_, rfl, ?_⟩; replace aFU := am (Kd.dO (kr aFU.out) hb); replace aoa := am (Kd.dO (kr aoa.out) hb); replace ku := am (Kd.dO (kr ku.out) hb); replace aEm := am (ak (kp aEm.out) hb); replace aEr := am (ak (kp aEr.out) hb); replace HB := am (au (bl2 HB.out aEu.out aEv.out) hb); (try clear hb); (try clear hb2); (try clear hk); (try clear hi)))
    go_ret
    exact ⟨by first | rfl | (simp [gu, gB] <;> rfl) | (simp only [← akp, ← aHl]; first | rfl | (simp [gu, gB] <;> rfl)) | (simp [*, gu, gB] <;> rfl), bl2 HB.out aEu.out aEv.out⟩
   ·replace c54 := Bool.eq_false_iff.mpr c54
    subst c54
    have H1 : ((dM.f kj13 aQ aR aH av aE0).bind fun aGf => ((dM.f kj13 aQ aR aH av aFs).bind fun aGg => ((dM.f kj13 aQ aR aH av aEx).bind fun aGN => (if aGf.2 = 0 then (if aGg.2 = 0 then (if aGN.2 = 0 then (if ([] : List Int).length + aGf.1.length < 17592186044416 then ((some (([] : List Int) ++ aGf.1 : List Int)).bind fun aGO => (if aGO.length + aGg.1.length < 17592186044416 then ((some (aGO ++ aGg.1 : List Int)).bind fun aFr => (jA.l0 kj13 aEx aGN.1 aFr (aFr.length : Int) 0 aQ aR aH av ([] : List Int) 0)) else (none))) else (none)) else (none)) else (none)) else (none))))) = some r := by rw [if_neg (show ¬ (false = true) by decide)] at H; exact H
    clear H
    have H := H1
    clear H1
    replace H := Option.bind_eq_some_iff.mp H
    obtain ⟨⟨aI6, aI7⟩, A570, H⟩ := H
    try dsimp only at H
    have A57 := am A570
    clear A570
    replace H := Option.bind_eq_some_iff.mp H
    obtain ⟨⟨aIh, aI8⟩, A580, H⟩ := H
    try dsimp only at H
    have A58 := am A580
    clear A580
    replace H := Option.bind_eq_some_iff.mp H
    obtain ⟨⟨aEw, aI9⟩, A590, H⟩ := H
    try dsimp only at H
    have A59 := am A590
    clear A590
    by_cases c60 : aI7 = 0
    case neg => rw [if_neg c60] at H; exact absurd H (by simp)
    rw [if_pos c60] at H
    have aKM : (aI7 == 0) = true := beq_iff_eq.mpr c60
    have aKN : (aI7 != 0) = false := bne_eq_false_iff_eq.mpr c60
    clear c60
    by_cases c61 : aI8 = 0
    case neg => rw [if_neg c61] at H; exact absurd H (by simp)
    rw [if_pos c61] at H
    have aKO : (aI8 == 0) = true := beq_iff_eq.mpr c61
    have aKP : (aI8 != 0) = false := bne_eq_false_iff_eq.mpr c61
    clear c61
    by_cases c62 : aI9 = 0
    case neg => rw [if_neg c62] at H; exact absurd H (by simp)
    rw [if_pos c62] at H
    have aKQ : (aI9 == 0) = true := beq_iff_eq.mpr c62
    have aKR : (aI9 != 0) = false := bne_eq_false_iff_eq.mpr c62
    clear c62
    by_cases c63 : ([] : List Int).length + aI6.length < 17592186044416
    case neg => rw [if_neg c63] at H; exact absurd H (by simp)
    rw [if_pos c63] at H
    have aKS := am c63
    clear c63
    obtain ⟨aGO, aGU⟩ : ∃ y_ : List Int, y_ = (([] : List Int) ++ aI6) := ⟨_, rfl⟩
    replace H : (if aGO.length + aIh.length < 17592186044416 then ((some (aGO ++ aIh : List Int)).bind fun aFr => (jA.l0 kj13 aEx aEw aFr (aFr.length : Int) 0 aQ aR aH av ([] : List Int) 0)) else (none)) = some r := by first | (rw [aGU]; with_reducible exact H) | (have H2_ := (Option.bind_some _ _).symm.trans H; rw [aGU]; with_reducible exact H2_) | (have H2_ := (Option.bind_some _ _).symm.trans H; with_reducible exact H2_) | with_reducible exact H | (rw [aGU]; exact H) | exact H
    have aKT := am aGU
    clear aGU
    by_cases c64 : aGO.length + aIh.length < 17592186044416
    case neg => rw [if_neg c64] at H; exact absurd H (by simp)
    rw [if_pos c64] at H
    have aKU := am c64
    clear c64
    obtain ⟨aFr, aGV⟩ : ∃ y_ : List Int, y_ = (aGO ++ aIh) := ⟨_, rfl⟩
    replace H : (jA.l0 kj13 aEx aEw aFr (aFr.length : Int) 0 aQ aR aH av ([] : List Int) 0) = some r := by first | (rw [aGV]; with_reducible exact H) | (have H2_ := (Option.bind_some _ _).symm.trans H; rw [aGV]; with_reducible exact H2_) | (have H2_ := (Option.bind_some _ _).symm.trans H; with_reducible exact H2_) | with_reducible exact H | (rw [aGV]; exact H) | exact H
    have aKV := am aGV
    clear aGV
    have H' := am H
    clear H
    have aMu := aEC.out
    have aMv := aEJ.out
    have ap4 : wc.cell? ⟨aEs, 0, none⟩ = some (.int .i64 aQ) := bc aEm.out 0
    have ap5 : wc.cell? ⟨aEs, 1, none⟩ = some (.int .i64 aR) := bc aEm.out 1
    have aHP : wc.cell? ⟨aEs, 2, none⟩ = some (.slice cu aH.length bW) := bc aEm.out 2
    have aHQ : wc.cell? ⟨aEs, 3, none⟩ = some (.slice dz av.length bZ) := bc aEm.out 3
    have ap6 := aj aEm.out 0
    have ap7 := aj aEm.out 1
    have aHR := aj aEm.out 2
    have aHS := aj aEm.out 3
    go_wp2_with (first | ((with_reducible refine aC (f := 14) rfl ?_); refine bR (some 87) rfl rfl Try.func14 (by kernel_rfl) rfl #[.agg #[.int .i64 aQ, .int .i64 aR, .slice cu aH.length bW, .slice dz av.length bZ], .slice aB2 aE0.length aB3] rfl ar ?_; (with_reducible refine (dM.calls kj13 aQ aR _ _ aH _ _ av _ _ aE0 aI6 aI7 _ ?bH ?bI ?dG ?dI ?agy ?agz A57.out).mono ?_); (case bH => exact kc (Kd.bf gF.out HB.out)); (case bI => exact gX.out); (case dG => exact kc (Kd.bf fK.out HB.out)); (case dI => exact gW.out); (case agy => exact kc (Kd.bS aFU.out).2.2); (case agz => exact (Kd.bS aFU.out).2.1); clear A57; rintro e w67 ⟨aNd, rfl, ho0, hb⟩; refine ⟨_, rfl, ?_⟩; have aFw := am (Kd.wT (Kd.j4 (ok' := fun k_ => some k_ ≠ (.slice aB2 aE0.length aB3 : Value).ownBlock ∧ some k_ ≠ (.slice ar8 aFs.length ar9 : Value).ownBlock ∧ some k_ ≠ (.slice aFt aEx.length aFu : Value).ownBlock ∧ k_ ≠ aEs ∧ k_ ≠ aEp) ho0 (fun k_ hk_ => ⟨(Kd.fresh' (Kd.abm (kr aFU.out)) k_ hk_), (Kd.fresh' (Kd.abm (kr aoa.out)) k_ hk_), (Kd.fresh' (Kd.abm (kr ku.out)) k_ hk_), (Kd.qV (g := aEs) (o := .cells #[.int .i64 aQ, .int .i64 aR, .slice cu aH.length bW, .slice dz av.length bZ] 28 (0, 0)) (kp aEm.out) k_ hk_), (Kd.qV (g := aEp) (o := .cells #[.int .i64 aER, .int .i64 aEX] 23 (0, 0)) (kp aEr.out) k_ hk_)⟩)) (bY (bl2 HB.out aEu.out aEv.out))); replace aFU := am (Kd.dO (kr aFU.out) hb); replace aoa := am (Kd.dO (kr aoa.out) hb); replace ku := am (Kd.dO (kr ku.out) hb); replace aEm := am (ak (kp aEm.out) hb); replace aEr := am (ak (kp aEr.out) hb); replace HB := am (au (bl2 HB.out aEu.out aEv.out) hb); (try clear hb); (try clear hb2); (try clear hk); (try clear hi); (try clear ho0); have aHT : w67.cell? ⟨aEs, 0, none⟩ = some (.int .i64 aQ) := bc aEm.out 0; have aHU : w67.cell? ⟨aEs, 1, none⟩ = some (.int .i64 aR) := bc aEm.out 1; have aHV : w67.cell? ⟨aEs, 2, none⟩ = some (.slice cu aH.length bW) := bc aEm.out 2; have aHW : w67.cell? ⟨aEs, 3, none⟩ = some (.slice dz av.length bZ) := bc aEm.out 3; have aHX := aj aEm.out 0; have aHY := aj aEm.out 1; have aHZ := aj aEm.out 2; have aH0 := aj aEm.out 3) | ((with_reducible refine aC (f := 14) rfl ?_); refine bR (some 93) rfl rfl Try.func14 (by kernel_rfl) rfl #[.agg #[.int .i64 aQ, .int .i64 aR, .slice cu aH.length bW, .slice dz av.length bZ], .slice ar8 aFs.length ar9] rfl ar ?_; (with_reducible refine (dM.calls kj13 aQ aR _ _ aH _ _ av _ _ aFs aIh aI8 _ ?bH ?bI ?dG ?dI ?agy ?agz A58.out).mono ?_); (case bH => exact kc (Kd.bf gF.out HB.out)); (case bI => exact gX.out); (case dG => exact kc (Kd.bf fK.out HB.out)); (case dI => exact gW.out); (case agy => exact kc (Kd.bS aoa.out).2.2); (case agz => exact (Kd.bS aoa.out).2.1); clear A58; rintro e w69 ⟨aNe, rfl, ho0, hb⟩; refine ⟨_, rfl, ?_⟩; replace aFw := am (Kd.fJ (kv aFw.out) hb); have aFI := am (Kd.wT (Kd.j4 (ok' := fun k_ => some k_ ≠ (.slice aB2 aE0.length aB3 : Value).ownBlock ∧ some k_ ≠ (.slice ar8 aFs.length ar9 : Value).ownBlock ∧ some k_ ≠ (.slice aFt aEx.length aFu : Value).ownBlock ∧ k_ ≠ aEs ∧ k_ ≠ aEp) ho0 (fun k_ hk_ => ⟨(Kd.fresh' (Kd.abm (kr aFU.out)) k_ hk_), (Kd.fresh' (Kd.abm (kr aoa.out)) k_ hk_), (Kd.fresh' (Kd.abm (kr ku.out)) k_ hk_), (Kd.qV (g := aEs) (o := .cells #[.int .i64 aQ, .int .i64 aR, .slice cu aH.length bW, .slice dz av.length bZ] 28 (0, 0)) (kp aEm.out) k_ hk_), (Kd.qV (g := aEp) (o := .cells #[.int .i64 aER, .int .i64 aEX] 23 (0, 0)) (kp aEr.out) k_ hk_)⟩)) (bY (bl2 HB.out aEu.out aEv.out))); replace aFU := am (Kd.dO (kr aFU.out) hb); replace aoa := am (Kd.dO (kr aoa.out) hb); replace ku := am (Kd.dO (kr ku.out) hb); replace aEm := am (ak (kp aEm.out) hb); replace aEr := am (ak (kp aEr.out) hb); replace HB := am (au (bl2 HB.out aEu.out aEv.out) hb); (try clear hb); (try clear hb2); (try clear hk); (try clear hi); (try clear ho0); have ap8 : w69.cell? ⟨aEs, 0, none⟩ = some (.int .i64 aQ) := bc aEm.out 0; have ap9 : w69.cell? ⟨aEs, 1, none⟩ = some (.int .i64 aR) := bc aEm.out 1; have aH1 : w69.cell? ⟨aEs, 2, none⟩ = some (.slice cu aH.length bW) := bc aEm.out 2; have aH2 : w69.cell? ⟨aEs, 3, none⟩ = some (.slice dz av.length bZ) := bc aEm.out 3; have aqa := aj aEm.out 0; have aqb := aj aEm.out 1; have aH3 := aj aEm.out 2; have aH4 := aj aEm.out 3) | ((with_reducible refine aC (f := 14) rfl ?_); refine bR (some 99) rfl rfl Try.func14 (by kernel_rfl) rfl #[.agg #[.int .i64 aQ, .int .i64 aR, .slice cu aH.length bW, .slice dz av.length bZ], .slice aFt aEx.length aFu] rfl ar ?_; (with_reducible refine (dM.calls kj13 aQ aR _ _ aH _ _ av _ _ aEx aEw aI9 _ ?bH ?bI ?dG ?dI ?agy ?agz A59.out).mono ?_); (case bH => exact kc (Kd.bf gF.out HB.out)); (case bI => exact gX.out); (case dG => exact kc (Kd.bf fK.out HB.out)); (case dI => exact gW.out); (case agy => exact kc (Kd.bS ku.out).2.2); (case agz => exact (Kd.bS ku.out).2.1); clear A59; rintro e w71 ⟨aMw, rfl, ho0, hb⟩; refine ⟨_, rfl, ?_⟩; replace aFw := am (Kd.fJ (kv aFw.out) hb); replace aFI := am (Kd.fJ (kv aFI.out) hb); have aGh := am (Kd.wT (Kd.j4 (ok' := fun k_ => some k_ ≠ (.slice aB2 aE0.length aB3 : Value).ownBlock ∧ some k_ ≠ (.slice ar8 aFs.length ar9 : Value).ownBlock ∧ some k_ ≠ (.slice aFt aEx.length aFu : Value).ownBlock ∧ k_ ≠ aEs ∧ k_ ≠ aEp) ho0 (fun k_ hk_ => ⟨(Kd.fresh' (Kd.abm (kr aFU.out)) k_ hk_), (Kd.fresh' (Kd.abm (kr aoa.out)) k_ hk_), (Kd.fresh' (Kd.abm (kr ku.out)) k_ hk_), (Kd.qV (g := aEs) (o := .cells #[.int .i64 aQ, .int .i64 aR, .slice cu aH.length bW, .slice dz av.length bZ] 28 (0, 0)) (kp aEm.out) k_ hk_), (Kd.qV (g := aEp) (o := .cells #[.int .i64 aER, .int .i64 aEX] 23 (0, 0)) (kp aEr.out) k_ hk_)⟩)) (bY (bl2 HB.out aEu.out aEv.out))); replace aFU := am (Kd.dO (kr aFU.out) hb); replace aoa := am (Kd.dO (kr aoa.out) hb); replace ku := am (Kd.dO (kr ku.out) hb); replace aEm := am (ak (kp aEm.out) hb); replace aEr := am (ak (kp aEr.out) hb); replace HB := am (au (bl2 HB.out aEu.out aEv.out) hb); (try clear hb); (try clear hb2); (try clear hk); (try clear hi); (try clear ho0)) | ((with_reducible refine bq (N := 112) rfl ?_); refine CMo.make rfl rfl ?_; have MO := am CMo.nil; intro aEy hg w72 dL hb; replace aFU := am (Kd.dO (Kd.xV (kr aFU.out) aEy (Nat.le_of_eq hg.symm)) hb); replace aoa := am (Kd.dO (Kd.xV (kr aoa.out) aEy (Nat.le_of_eq hg.symm)) hb); replace ku := am (Kd.dO (Kd.xV (kr ku.out) aEy (Nat.le_of_eq hg.symm)) hb); replace aFw := am (Kd.fJ (Kd.q9 (kv aFw.out) aEy (Nat.le_of_eq hg.symm)) hb); replace aFI := am (Kd.fJ (Kd.q9 (kv aFI.out) aEy (Nat.le_of_eq hg.symm)) hb); replace aGh := am (Kd.fJ (Kd.q9 (kv aGh.out) aEy (Nat.le_of_eq hg.symm)) hb); have aEz := am (dL); have aMx := am ((bz2 hg HB.out aEu.out aEv.out : w.heap.size ≤ aEy)); have aEK := am ((bz2 hg HB.out aEu.out aEv.out : w.heap.size ≤ aEy)); replace HB := am (au (bl2 HB.out aEu.out aEv.out) hb); have aEW := am ((nl hg aEm.out : aEs ≠ aEy)); have aEZ := am ((ng hg aEm.out : aEy ≠ aEs)); replace aEm := am (ak (kp aEm.out) hb); have aE3 := am ((nl hg aEr.out : aEp ≠ aEy)); have aFl := am ((ng hg aEr.out : aEy ≠ aEp)); replace aEr := am (ak (kp aEr.out) hb); clear hb dL hg; obtain ⟨aNf, aNg, aMy⟩ := Kd.wS aFw.out; subst aMy) | ((with_reducible refine ug (b := .append) (xs := #[.const (.slice none 0 0), .tmp 113]) rfl ?_); at_builtin; refine Kd.aFh (Kd.int .i64) (w0 := w) w.heap.size rfl (.const (.slice none 0 0)) (.tmp 113) 29 3 (.int .i64 0) 8 rfl Try.underlying29 info3 rfl (by decide) (by omega) (.slice none 0 0) ([] : List Int) aI6 _ _ _ (fun _ => True) (fun _ => False) rfl rfl ?aO ?aR (fun _ _ h => h) (fun _ h => h.elim) ?aF ?aB ?aS ?aL ?_; (case aR => exact kc (Kd.iT aFw.out).2.2); (case aB => exact (bl3 HB.out aEu.out aEv.out aEK.out)); (case aF => exact (fun _ _ => trivial)); (case aO => exact ((Kd.wP _ _ _ _ (fun _ => True)))); (case aS => exact (bY (bl3 HB.out aEu.out aEv.out aEK.out))); (case aL => have := aKS.out; omega); intro aMz w73 ho hb hg hat; rw [← aKT.out] at ho; replace aFU := am (Kd.aFz (kr aFU.out) hg (fun _ _ => by simp [Value.ownBlock])); replace aoa := am (Kd.aFz (kr aoa.out) hg (fun _ _ => by simp [Value.ownBlock])); replace ku := am (Kd.aFz (kr ku.out) hg (fun _ _ => by simp [Value.ownBlock])); replace aEm := am (oh (g := aEs) (o := .cells #[.int .i64 aQ, .int .i64 aR, .slice cu aH.length bW, .slice dz av.length bZ] 28 (0, 0)) (kp aEm.out) hg (by simp [Value.ownBlock])); replace aEr := am (oh (g := aEp) (o := .cells #[.int .i64 aER, .int .i64 aEX] 23 (0, 0)) (kp aEr.out) hg (by simp [Value.ownBlock])); replace aFw := am (Kd.qZ (Kd.aE6 (kv aFw.out)) hg hat); replace aFI := am (Kd.qZ (Kd.aE6 (kv aFI.out)) hg hat); replace aGh := am (Kd.qZ (Kd.aE6 (kv aGh.out)) hg hat); replace aEz := am (oh (g := aEy) (o := .map #[] 0) (kp aEz.out) hg (by simp [Value.ownBlock])); replace HB := am (hb); have aFZ := am (ho); clear ho hb hg hat; obtain ⟨aNh, aNi, aMA⟩ := Kd.wS aFI.out; subst aMA) | ((with_reducible refine ug (b := .append) (xs := #[.tmp 114, .tmp 115]) rfl ?_); at_builtin; refine Kd.aFh (Kd.int .i64) (w0 := w) w.heap.size rfl (.tmp 114) (.tmp 115) 29 3 (.int .i64 0) 8 rfl Try.underlying29 info3 rfl (by decide) (by omega) aMz aGO aIh _ _ _ (fun _ => True) (fun _ => False) rfl rfl ?aO ?aR (fun _ _ h => h) (fun _ h => h.elim) ?aF ?aB ?aS ?aL ?_; (case aR => exact kc (Kd.iT aFI.out).2.2); (case aB => exact (bl3 HB.out aEu.out aEv.out aEK.out)); (case aF => exact (fun _ _ => trivial)); (case aO => exact (kr aFZ.out)); (case aS => exact (bY (bl3 HB.out aEu.out aEv.out aEK.out))); (case aL => have := aKU.out; omega); intro aNj w75 ho hb hg hat; rw [← aKV.out] at ho; replace aFU := am (Kd.aF5 (kr aFU.out) (Kd.aol (kr aFZ.out)) (by decide) hg); replace aoa := am (Kd.aF5 (kr aoa.out) (Kd.aol (kr aFZ.out)) (by decide) hg); replace ku := am (Kd.aF5 (kr ku.out) (Kd.aol (kr aFZ.out)) (by decide) hg); replace aEm := am (oh (g := aEs) (o := .cells #[.int .i64 aQ, .int .i64 aR, .slice cu aH.length bW, .slice dz av.length bZ] 28 (0, 0)) (kp aEm.out) hg (Kd.aBF aFZ.out aEm.out (by decide))); replace aEr := am (oh (g := aEp) (o := .cells #[.int .i64 aER, .int .i64 aEX] 23 (0, 0)) (kp aEr.out) hg (Kd.aBF aFZ.out aEr.out (by decide))); replace aFw := am (Kd.qZ (ok := (fun k_ => some k_ ≠ (.slice aB2 aE0.length aB3 : Value).ownBlock ∧ some k_ ≠ (.slice ar8 aFs.length ar9 : Value).ownBlock ∧ some k_ ≠ (.slice aFt aEx.length aFu : Value).ownBlock ∧ k_ ≠ aEs ∧ k_ ≠ aEp ∧ k_ ≠ aEy)) (by (with_reducible repeat (first | apply Kd.lD | apply Kd.lF | apply Kd.nL)); exact Kd.j4 aFw.out (fun _ hk => ⟨⟨hk.1.1.1, ⟨hk.1.1.2.1, ⟨hk.1.1.2.2.1, ⟨hk.1.1.2.2.2.1, ⟨hk.1.1.2.2.2.2, hk.1.2⟩⟩⟩⟩⟩, hk.2⟩)) hg hat); replace aFI := am (Kd.qZ (ok := (fun k_ => some k_ ≠ (.slice aB2 aE0.length aB3 : Value).ownBlock ∧ some k_ ≠ (.slice ar8 aFs.length ar9 : Value).ownBlock ∧ some k_ ≠ (.slice aFt aEx.length aFu : Value).ownBlock ∧ k_ ≠ aEs ∧ k_ ≠ aEp ∧ k_ ≠ aEy)) (by (with_reducible repeat (first | apply Kd.lD | apply Kd.lF | apply Kd.nL)); exact Kd.j4 aFI.out (fun _ hk => ⟨⟨hk.1.1.1, ⟨hk.1.1.2.1, ⟨hk.1.1.2.2.1, ⟨hk.1.1.2.2.2.1, ⟨hk.1.1.2.2.2.2, hk.1.2⟩⟩⟩⟩⟩, hk.2⟩)) hg hat); replace aGh := am (Kd.qZ (ok := (fun k_ => some k_ ≠ (.slice aB2 aE0.length aB3 : Value).ownBlock ∧ some k_ ≠ (.slice ar8 aFs.length ar9 : Value).ownBlock ∧ some k_ ≠ (.slice aFt aEx.length aFu : Value).ownBlock ∧ k_ ≠ aEs ∧ k_ ≠ aEp ∧ k_ ≠ aEy)) (by (with_reducible repeat (first | apply Kd.lD | apply Kd.lF | apply Kd.nL)); exact Kd.j4 aGh.out (fun _ hk => ⟨⟨hk.1.1.1, ⟨hk.1.1.2.1, ⟨hk.1.1.2.2.1, ⟨hk.1.1.2.2.2.1, ⟨hk.1.1.2.2.2.2, hk.1.2⟩⟩⟩⟩⟩, hk.2⟩)) hg hat); replace aEz := am (oh (g := aEy) (o := .map #[] 0) (kp aEz.out) hg (fun e_ => CMo.far MO.out aEz.out aFZ.out e_)); replace HB := am (hb); have aIP := am (ho); clear aFZ; clear ho hb hg hat; obtain ⟨aLu, aLv, aMB⟩ := Kd.iW aIP.out; subst aMB))
    go_loopg [118] kj13 (fun kq aMC w' => ∃ (aEQ : Int) (aEq : List Int) (mo : Obj), aMC = .int .i64 aEQ ∧ ay (jA.l0 kq aEx aEw aFr (aFr.length : Int) aEQ aQ aR aH av aEq 0 = some r) ∧ ay (kq ≤ kj13) ∧ ay (Kd.R k23 23 w' w.heap.size (fun k_ => k_ ≠ aEp ∧ k_ ≠ aEy) (.slice aFt aEx.length aFu) aEx) ∧ ay (Kd.V (Kd.int .i64) 3 w' w.heap.size (fun k_ => some k_ ≠ ((.slice aFt aEx.length aFu) : Value).ownBlock ∧ some k_ ≠ ((.slice aLu aFr.length aLv) : Value).ownBlock ∧ k_ ≠ aEs ∧ k_ ≠ aEp ∧ k_ ≠ aEy) aMw aEw) ∧ ay (Kd.R (Kd.int .i64) 3 w' w.heap.size (fun _ => True) (.slice aLu aFr.length aLv) aFr) ∧ ay (w'.heap[aEs]? = some (.cells #[.int .i64 aQ, .int .i64 aR, (.slice cu aH.length bW), (.slice dz av.length bZ)] 28 (0, 0))) ∧ ay (w'.heap[aEp]? = some (.cells #[.int .i64 aER, .int .i64 aEX] 23 (0, 0))) ∧ ay (w'.heap[aEy]? = some mo) ∧ ay (Below w.heap.size w w') ∧ ay (CMo mo aEq))
    case atStart => exact ⟨(0), ([]), (.map #[] 0), sm, H', ⟨Nat.le_refl _⟩, ⟨by (with_reducible repeat (first | apply Kd.qd | apply Kd.qg | apply Kd.qR)); exact Kd.lY ku.out (fun _ hk => ⟨hk.1.2.2, hk.2⟩)⟩, ⟨by (with_reducible repeat (first | apply Kd.lD | apply Kd.lF | apply Kd.nL)); exact Kd.j4 aGh.out (fun _ hk => ⟨hk.1.2.2.1, ⟨hk.2, ⟨hk.1.2.2.2.1, ⟨hk.1.2.2.2.2.1, hk.1.2.2.2.2.2⟩⟩⟩⟩)⟩, ⟨by (with_reducible repeat (first | apply Kd.qd | apply Kd.qg | apply Kd.qR)); exact aIP.out⟩, ⟨kp aEm.out⟩, ⟨kp aEr.out⟩, ⟨kp aEz.out⟩, ⟨bl3 HB.out aEu.out aEv.out aEK.out⟩, ⟨CMo.nil⟩⟩
    case round =>
     clear H'
     try clear c54
     try clear aKM
     try clear aKN
     try clear aKO
     try clear aKP
     try clear aKQ
     try clear aKR
     try clear ap4
     try clear ap5
     try clear aHP
     try clear aHQ
     try clear aHT
     try clear aHU
     try clear aHV
     try clear aHW
     try clear ap8
     try clear ap9
     try clear aH1
     try clear aH2
     try clear ap6
     try clear ap7
     try clear aHR
     try clear aHS
     try clear aHX
     try clear aHY
     try clear aHZ
     try clear aH0
     try clear aqa
     try clear aqb
     try clear aH3
     try clear aH4
     obtain ⟨aEQ, aEq, mo, rfl, HA, HK2, ku, aEF, aFL, aEm, aEr, aEz, HB, MO⟩ := hrel
     cases gk with
     | zero => exact absurd HA.out (by simp [jA.l0])
     | succ k2 =>
      have H := HA.out
      clear HA
      simp only [jA.l0] at H
      by_cases c78 : aEQ < (aFr.length : Int)
      ·rw [if_pos c78] at H
       have aIQ : decide (aEQ < (aFr.length : Int)) = true := decide_eq_true c78
       clear c78
       by_cases c79 : 0 ≤ aEQ
       case neg => rw [if_neg c79] at H; exact absurd H (by simp)
       rw [if_pos c79] at H
       have aMD : decide (0 ≤ aEQ) = true := decide_eq_true c79
       clear c79
       by_cases c80 : aEQ < (aFr.length : Int)
       case neg => rw [if_neg c80] at H; exact absurd H (by simp)
       rw [if_pos c80] at H
       have aME : decide (aEQ < (aFr.length : Int)) = true := decide_eq_true c80
       clear c80
       by_cases hfit : aEq.length < 1000000000 ∧ yK (rd aFr aEQ) = true
       case neg => rw [if_neg hfit] at H; exact absurd H (by simp)
       rw [if_pos hfit] at H
       have HFT := am hfit
       clear hfit
       have H' := am H
       clear H
       have aKW : 0 ≤ (aEQ : Int) := of_decide_eq_true asm
       have aKX : aEQ < (aFr.length : Int) := of_decide_eq_true asm
       obtain ⟨aMF, aMG, aKY⟩ := Kd.aeA (Kd.bS aFL.out).2.2 aEQ aKW aKX
       cases aMG
       replace aKW := eq_true aKW
       replace aKX := eq_true aKX
       have ax3 := aEZ.out
       have ax4 := aEW.out
       have ax5 := aFl.out
       have ax6 := aE3.out
       go_wp2_with (first | (at_lookup; refine CMo.lookup (b := aEy) (l := aEq) (mo := mo) (kp aEz.out) MO.out rfl _ _ rfl rfl (rd aFr aEQ) (abe HFT.out.2) rfl ?_) | (at_mapUpdate; refine CMo.update (b := aEy) (l := aEq) (mo := mo) (kp aEz.out) MO.out rfl _ _ _ rfl rfl (by have := HFT.out.1; unfold maxLen; omega) (rd aFr aEQ) (abe HFT.out.2) rfl rfl ?_; intro w4 mo4 bk4 om4 gr4; have n0_ := am (Kd.aFz (kr ku.out) gr4 (by intro k_ hk e_; exact hk.2 (Option.some.inj e_))); have n1_ := am (Kd.aHt (kv aEF.out) gr4 (by intro k_ hk e_; exact hk.2.2.2.2 (Option.some.inj e_))); have f_ := CMo.far MO.out aEz.out aFL.out; have n2_ := am (Kd.aG6 (kr aFL.out) (show (Kd.int .i64).E = [] from rfl) gr4 f_); clear f_; have n3_ := am (oh (kp aEm.out) gr4 (fun e_ => aEW.out (Option.some.inj e_))); have n4_ := am (oh (kp aEr.out) gr4 (fun e_ => aE3.out (Option.some.inj e_))); have n5_ := am (Below.grown (bl3 HB.out aEu.out aEv.out aEK.out) gr4 (bY (bl3 HB.out aEu.out aEv.out aEK.out)) (fun j_ hj => by cases hj; exact aEK.out)); clear ku aEF aFL aEm aEr aEz HB MO; have ku := n0_; have aEF := n1_; have aFL := n2_; have aEm := n3_; have aEr := n4_; have HB := n5_; have aEz := am bk4; have MO := am om4; clear n0_ n1_ n2_ n3_ n4_ n5_ bk4 om4 gr4))
       go_roundg k2
       case measure => have := ave.out; have := HK2.out; omega
       case rel => exact ⟨(wrap64 (aEQ + 1)), (aEq ++ [rd aFr aEQ]), mo4, sm, H', ⟨by have := ave.out; have := HK2.out; omega⟩, ⟨(kr ku.out)⟩, ⟨(kv aEF.out)⟩, ⟨(kr aFL.out)⟩, ⟨(kp aEm.out)⟩, ⟨(kp aEr.out)⟩, ⟨(kp aEz.out)⟩, ⟨(bl3 HB.out aEu.out aEv.out aEK.out)⟩, ⟨MO.out⟩⟩
      ·rw [if_neg c78] at H
       have aIQ : decide (aEQ < (aFr.length : Int)) = false := decide_eq_false c78
       clear c78
       have H' := am H
       clear H
       obtain ⟨aLw, aHm, aMH⟩ := Kd.wS aEF.out
       subst aMH
       go_wp2
       go_loopg [129] k2 (fun kq aMI w' => ∃ (aEo : Int), aMI = .int .i64 aEo ∧ ay (jA.l1 kq aEx aEw aEw (aEw.length : Int) aEo aQ aR aH av aEq 0 = some r) ∧ ay (kq ≤ k2) ∧ ay (Kd.R k23 23 w' w.heap.size (fun k_ => k_ ≠ aEp ∧ k_ ≠ aEy) (.slice aFt aEx.length aFu) aEx) ∧ ay (Kd.V (Kd.int .i64) 3 w' w.heap.size (fun k_ => some k_ ≠ ((.slice aFt aEx.length aFu) : Value).ownBlock ∧ k_ ≠ aEs ∧ k_ ≠ aEp ∧ k_ ≠ aEy) (.slice aLw aEw.length aHm) aEw) ∧ ay (Kd.V (Kd.int .i64) 3 w' w.heap.size (fun k_ => some k_ ≠ ((.slice aFt aEx.length aFu) : Value).ownBlock ∧ k_ ≠ aEs ∧ k_ ≠ aEp ∧ k_ ≠ aEy) (.slice aLw aEw.length aHm) aEw) ∧ ay (w'.heap[aEs]? = some (.cells #[.int .i64 aQ, .int .i64 aR, (.slice cu aH.length bW), (.slice dz av.length bZ)] 28 (0, 0))) ∧ ay (w'.heap[aEp]? = some (.cells #[.int .i64 aER, .int .i64 aEX] 23 (0, 0))) ∧ ay (w'.heap[aEy]? = some mo) ∧ ay (Below w.heap.size w w'))
       case atStart => exact ⟨(0), sm, H', ⟨Nat.le_refl _⟩, ⟨by (with_reducible repeat (first | apply Kd.qd | apply Kd.qg | apply Kd.qR)); exact ku.out⟩, ⟨by (with_reducible repeat (first | apply Kd.lD | apply Kd.lF | apply Kd.nL)); exact Kd.j4 aEF.out (fun _ hk => ⟨hk.1, ⟨hk.2.2.1, ⟨hk.2.2.2.1, hk.2.2.2.2⟩⟩⟩)⟩, ⟨by (with_reducible repeat (first | apply Kd.lD | apply Kd.lF | apply Kd.nL)); exact Kd.j4 aEF.out (fun _ hk => ⟨hk.1, ⟨hk.2.2.1, ⟨hk.2.2.2.1, hk.2.2.2.2⟩⟩⟩)⟩, ⟨kp aEm.out⟩, ⟨kp aEr.out⟩, ⟨kp aEz.out⟩, ⟨bl3 HB.out aEu.out aEv.out aEK.out⟩⟩
       case round =>
        clear H'
        try clear aIQ
        obtain ⟨aEo, rfl, HA, HK3, ku, aEF, aED, aEm, aEr, aEz, HB⟩ := hrel
        cases gk with
        | zero => exact absurd HA.out (by simp [jA.l1])
        | succ k3 =>
         have H := HA.out
         clear HA
         simp only [jA.l1] at H
         by_cases c85 : aEo < (aEw.length : Int)
         ·rw [if_pos c85] at H
          have aIR : decide (aEo < (aEw.length : Int)) = true := decide_eq_true c85
          clear c85
          by_cases c86 : 0 ≤ aEo
          case neg => rw [if_neg c86] at H; exact absurd H (by simp)
          rw [if_pos c86] at H
          have aKZ : decide (0 ≤ aEo) = true := decide_eq_true c86
          clear c86
          by_cases c87 : aEo < (aEw.length : Int)
          case neg => rw [if_neg c87] at H; exact absurd H (by simp)
          rw [if_pos c87] at H
          have aK0 : decide (aEo < (aEw.length : Int)) = true := decide_eq_true c87
          clear c87
          replace H := Option.bind_eq_some_iff.mp H
          obtain ⟨⟨aK1, aJa⟩, A880, H⟩ := H
          try dsimp only at H
          have A88 := am A880
          clear A880
          have aK2 := am H
          clear H
          have aJb : 0 ≤ (aEo : Int) := of_decide_eq_true asm
          have aJc : aEo < (aEw.length : Int) := of_decide_eq_true asm
          obtain ⟨aFV, aMJ, aH5⟩ := Kd.aeA (Kd.iT aED.out).2.2 aEo aJb aJc
          cases aMJ
          replace aJb := eq_true aJb
          replace aJc := eq_true aJc
          have aMK := aEC.out
          have aML := aEJ.out
          have aMM := aEW.out
          have aMN := aEZ.out
          have aH6 : wr.cell? ⟨aEs, 0, none⟩ = some (.int .i64 aQ) := bc aEm.out 0
          have aH7 : wr.cell? ⟨aEs, 1, none⟩ = some (.int .i64 aR) := bc aEm.out 1
          have aH8 : wr.cell? ⟨aEs, 2, none⟩ = some (.slice cu aH.length bW) := bc aEm.out 2
          have aH9 : wr.cell? ⟨aEs, 3, none⟩ = some (.slice dz av.length bZ) := bc aEm.out 3
          have aIa := aj aEm.out 0
          have aIb := aj aEm.out 1
          have aIc := aj aEm.out 2
          have aId := aj aEm.out 3
          go_upto_region 22 with (first | ((with_reducible refine aC (f := 18) rfl ?_); refine bR (some 137) rfl rfl Try.func18 (by kernel_rfl) rfl #[.agg #[.int .i64 aQ, .int .i64 aR, .slice cu aH.length bW, .slice dz av.length bZ], .int .i64 (rd aEw aEo)] rfl ar ?_; (with_reducible refine (eO.calls k3 aQ aR _ _ aH _ _ av (rd aEw aEo) aK1 aJa _ ?bH ?bI ?dG ?dI A88.out).mono ?_); (case bH => exact kc (Kd.bf gF.out HB.out)); (case bI => exact gX.out); (case dG => exact kc (Kd.bf fK.out HB.out)); (case dI => exact gW.out); clear A88; rintro e w93 ⟨aNk, rfl, ho0, hb⟩; refine ⟨_, rfl, ?_⟩; replace aEF := am (Kd.vI (kv aEF.out) (Kd.jN ho0) hb); replace aED := am (Kd.vI (kv aED.out) (Kd.jN ho0) hb); have aFJ := am (Kd.jQ (Kd.aFK (Kd.aFK (Kd.qU ho0 (Kd.abm (kr ku.out))) (g := aEp) (o := .cells #[.int .i64 aER, .int .i64 aEX] 23 (0, 0)) (kp aEr.out)) (g := aEy) (o := mo) (kp aEz.out)) (bY (bl3 HB.out aEu.out aEv.out aEK.out))); replace ku := am (Kd.lN (kr ku.out) (Kd.jN ho0) hb); replace aEm := am (ak (kp aEm.out) hb); replace aEr := am (ak (kp aEr.out) hb); replace aEz := am (ak (g := aEy) (o := mo) (kp aEz.out) hb); replace HB := am (au (bl3 HB.out aEu.out aEv.out aEK.out) hb); (try clear hb); (try clear hb2); (try clear hk); (try clear hi); (try clear ho0)))
          (try simp only [Act.put, List.setIfInBounds_toArray, List.set_cons_zero, List.set_cons_succ])
          go_cut [166] (fun aMO wc => ∃ (kq : Nat) (aFW : Bool), aMO = .bool aFW ∧ ay (jA.j3 kq aEx aEw aEo (rd aEw aEo) aEw (aEw.length : Int) aEo aFW aQ aR aH av aEq 0 = some r) ∧ ay (kq ≤ k3) ∧ ay (Kd.R k23 23 wc w.heap.size (fun k_ => k_ ≠ aEp ∧ k_ ≠ aEy) (.slice aFt aEx.length aFu) aEx) ∧ ay (Kd.V (Kd.int .i64) 3 wc w.heap.size (fun k_ => some k_ ≠ ((.slice aFt aEx.length aFu) : Value).ownBlock ∧ k_ ≠ aEs ∧ k_ ≠ aEp ∧ k_ ≠ aEy) (.slice (some aFV) aEw.length aHm) aEw) ∧ ay (Kd.V (Kd.int .i64) 3 wc w.heap.size (fun k_ => some k_ ≠ ((.slice aFt aEx.length aFu) : Value).ownBlock ∧ k_ ≠ aEs ∧ k_ ≠ aEp ∧ k_ ≠ aEy) (.slice (some aFV) aEw.length aHm) aEw) ∧ ay (wc.heap[aEs]? = some (.cells #[.int .i64 aQ, .int .i64 aR, (.slice cu aH.length bW), (.slice dz av.length bZ)] 28 (0, 0))) ∧ ay (wc.heap[aEp]? = some (.cells #[.int .i64 aER, .int .i64 aEX] 23 (0, 0))) ∧ ay (wc.heap[aEy]? = some mo) ∧ ay (Below w.heap.size w wc))
          case first =>
           have H := aK2.out
           clear aK2
           by_cases hfit : yK (rd aEw aEo) = true
           case neg => rw [if_neg hfit] at H; exact absurd H (by simp)
           rw [if_pos hfit] at H
           have HFU := am (abe hfit)
           clear hfit
           by_cases c94 : yD aEq (rd aEw aEo) = 0
           ·rw [if_pos c94] at H
            exact absurd H (by simp)
           ·rw [if_neg c94] at H
            have aIS : (yD aEq (rd aEw aEo) == 0) = false := beq_eq_false_iff_ne.mpr c94
            have aMP : (yD aEq (rd aEw aEo) != 0) = true := bne_iff_ne.mpr c94
            (first | rw [aIS] | (simp only [jR, kH]; rw [aIS]) | skip)
            by_cases c95 : aJa = 0
            case neg => rw [if_neg c95] at H; exact absurd H (by simp)
            rw [if_pos c95] at H
            have aMQ : (aJa == 0) = true := beq_iff_eq.mpr c95
            have aMR : (aJa != 0) = false := bne_eq_false_iff_eq.mpr c95
            clear c95
            replace H := Option.bind_eq_some_iff.mp H
            obtain ⟨aKm, aLx, H⟩ := H
            try dsimp only at H
            have A96 := am aLx
            clear aLx
            by_cases c97 : aKm = true
            ·subst c97
             have H1 : (if aEo > 0 then (if 0 ≤ (wrap64 (aEo - 1)) then (if (wrap64 (aEo - 1)) < (aEw.length : Int) then (jA.j3 k3 aEx aEw aEo (rd aEw aEo) aEw (aEw.length : Int) aEo (decide ((rd aEw (wrap64 (aEo - 1))) ≥ (rd aEw aEo))) aQ aR aH av aEq 0) else (none)) else (none)) else (jA.j3 k3 aEx aEw aEo (rd aEw aEo) aEw (aEw.length : Int) aEo false aQ aR aH av aEq 0)) = some r := by rw [if_pos rfl] at H; exact H
             clear H
             have H := H1
             clear H1
             by_cases c98 : aEo > 0
             ·rw [if_pos c98] at H
              have aK3 : decide (0 < aEo) = true := decide_eq_true c98
              clear c98
              obtain ⟨aGx, aGW⟩ : ∃ j_ : Int, (wrap64 (aEo - 1)) = j_ := ⟨_, rfl⟩
              replace H : (if 0 ≤ (aGx) then (if (aGx) < (aEw.length : Int) then (jA.j3 k3 aEx aEw aEo (rd aEw aEo) aEw (aEw.length : Int) aEo (decide ((rd aEw (aGx)) ≥ (rd aEw aEo))) aQ aR aH av aEq 0) else (none)) else (none)) = some r := by first | (rw [aGW] at H; exact H) | (simp only [aGW] at H ⊢; exact H)
              (try rw [aGW] at A96)
              have aLy : (IntKind.i64.wrap (aEo - 1)) = aGx := (jR _).trans aGW
              by_cases aJd : 0 ≤ (aGx)
              case neg => rw [if_neg aJd] at H; exact absurd H (by simp)
              rw [if_pos aJd] at H
              have aLz : decide (0 ≤ (aGx)) = true := decide_eq_true aJd
              clear aJd
              by_cases aJe : (aGx) < (aEw.length : Int)
              case neg => rw [if_neg aJe] at H; exact absurd H (by simp)
              rw [if_pos aJe] at H
              have aLA : decide ((aGx) < (aEw.length : Int)) = true := decide_eq_true aJe
              clear aJe
              have H' := am H
              clear H
              have aLB := aEZ.out
              have aLC := aEW.out
              have aLD := aFl.out
              have aLE := aE3.out
              obtain ⟨aMS, aMT, aK4⟩ := Kd.iW aFJ.out
              subst aK4
              go_wp2_with (first | (at_lookup; refine CMo.lookup (b := aEy) (l := aEq) (mo := mo) (kp aEz.out) MO.out rfl _ _ rfl rfl (rd aEw aEo) HFU.out rfl ?_) | (go_at_call 38; (with_reducible refine (oO.calls _ _ aK1 _ _ aEx true _ ?bH ?bI ?dG ?dI A96.out).mono ?_); (case bH => exact kc (Kd.bS aFJ.out).2.2); (case bI => exact (Kd.bS aFJ.out).2.1); (case dG => exact kc (Kd.bS ku.out).2.2); (case dI => exact (Kd.bS ku.out).2.1); clear A96; rintro e aNl ⟨rfl, hb⟩; replace ku := am (Kd.dO (kr ku.out) hb); replace aEF := am (Kd.fJ (kv aEF.out) hb); replace aED := am (Kd.fJ (kv aED.out) hb); replace aFJ := am (Kd.dO (kr aFJ.out) hb); replace aEm := am (ak (kp aEm.out) hb); replace aEr := am (ak (kp aEr.out) hb); replace aEz := am (ak (g := aEy) (o := mo) (kp aEz.out) hb); replace HB := am (au (bl3 HB.out aEu.out aEv.out aEK.out) hb); (try clear hb); (try clear hb2); (try clear hk); (try clear hi); have aK5 : 0 ≤ ((aGx) : Int) := of_decide_eq_true asm; have aK6 : (aGx) < (aEw.length : Int) := of_decide_eq_true asm; obtain ⟨aK7, aMU, aK8⟩ := Kd.aeA (Kd.iT aEF.out).2.2 (aGx) aK5 aK6; obtain rfl : aFV = aK7 := (by injection aMU); replace aK5 := eq_true aK5; replace aK6 := eq_true aK6))
              go_meet
              case rel => exact ⟨_, (decide ((rd aEw (aGx)) ≥ (rd aEw aEo))), (by first | rfl | (simp; done) | (simp only [← aGW] <;> (first | rfl | simp)) | (simp [*]; done)), H', ⟨by have := ave.out; have := HK2.out; have := HK3.out; first | omega | exact Nat.le_refl _⟩, ⟨by (with_reducible repeat (first | apply Kd.qd | apply Kd.qg | apply Kd.qR)); exact Kd.lY ku.out (fun _ hk => ⟨hk.1.1, hk.1.2⟩)⟩, ⟨by (with_reducible repeat (first | apply Kd.lD | apply Kd.lF | apply Kd.nL)); exact Kd.j4 aEF.out (fun _ hk => ⟨hk.1.1, ⟨hk.1.2.1, ⟨hk.1.2.2.1, hk.1.2.2.2⟩⟩⟩)⟩, ⟨by (with_reducible repeat (first | apply Kd.lD | apply Kd.lF | apply Kd.nL)); exact Kd.j4 aED.out (fun _ hk => ⟨hk.1.1, ⟨hk.1.2.1, ⟨hk.1.2.2.1, hk.1.2.2.2⟩⟩⟩)⟩, ⟨kp aEm.out⟩, ⟨kp aEr.out⟩, ⟨kp aEz.out⟩, ⟨bl3 HB.out aEu.out aEv.out aEK.out⟩⟩
             ·rw [if_neg c98] at H
              have aK3 : decide (0 < aEo) = false := decide_eq_false c98
              clear c98
              have H' := am H
              clear H
              have aLF := aEZ.out
              have aLG := aEW.out
              have aLH := aFl.out
              have aLI := aE3.out
              obtain ⟨aMV, aMW, aK9⟩ := Kd.iW aFJ.out
              subst aK9
              go_wp2_with (first | (at_lookup; refine CMo.lookup (b := aEy) (l := aEq) (mo := mo) (kp aEz.out) MO.out rfl _ _ rfl rfl (rd aEw aEo) HFU.out rfl ?_) | (go_at_call 38; (with_reducible refine (oO.calls _ _ aK1 _ _ aEx true _ ?bH ?bI ?dG ?dI A96.out).mono ?_); (case bH => exact kc (Kd.bS aFJ.out).2.2); (case bI => exact (Kd.bS aFJ.out).2.1); (case dG => exact kc (Kd.bS ku.out).2.2); (case dI => exact (Kd.bS ku.out).2.1); clear A96; rintro e aNm ⟨rfl, hb⟩; replace ku := am (Kd.dO (kr ku.out) hb); replace aEF := am (Kd.fJ (kv aEF.out) hb); replace aED := am (Kd.fJ (kv aED.out) hb); replace aFJ := am (Kd.dO (kr aFJ.out) hb); replace aEm := am (ak (kp aEm.out) hb); replace aEr := am (ak (kp aEr.out) hb); replace aEz := am (ak (g := aEy) (o := mo) (kp aEz.out) hb); replace HB := am (au (bl3 HB.out aEu.out aEv.out aEK.out) hb); (try clear hb); (try clear hb2); (try clear hk); (try clear hi)))
              go_meet
              case rel => exact ⟨_, (false), sm, H', ⟨by have := ave.out; have := HK2.out; have := HK3.out; first | omega | exact Nat.le_refl _⟩, ⟨by (with_reducible repeat (first | apply Kd.qd | apply Kd.qg | apply Kd.qR)); exact Kd.lY ku.out (fun _ hk => ⟨hk.1.1, hk.1.2⟩)⟩, ⟨by (with_reducible repeat (first | apply Kd.lD | apply Kd.lF | apply Kd.nL)); exact Kd.j4 aEF.out (fun _ hk => ⟨hk.1.1, ⟨hk.1.2.1, ⟨hk.1.2.2.1, hk.1.2.2.2⟩⟩⟩)⟩, ⟨by (with_reducible repeat (first | apply Kd.lD | apply Kd.lF | apply Kd.nL)); exact Kd.j4 aED.out (fun _ hk => ⟨hk.1.1, ⟨hk.1.2.1, ⟨hk.1.2.2.1, hk.1.2.2.2⟩⟩⟩)⟩, ⟨kp aEm.out⟩, ⟨kp aEr.out⟩, ⟨kp aEz.out⟩, ⟨bl3 HB.out aEu.out aEv.out aEK.out⟩⟩
            ·replace c97 := Bool.eq_false_iff.mpr c97
             subst c97
             have H1 : (none) = some r := by rw [if_neg (show ¬ (false = true) by decide)] at H; exact H
             clear H
             have H := H1
             clear H1
             exact absurd H (by simp)
          case rest =>
           clear aK2
           try clear aIR
           try clear aKZ
           try clear aK0
           try clear aH6
           try clear aH7
           try clear aH8
           try clear aH9
           try clear aIa
           try clear aIb
           try clear aIc
           try clear aId
           try clear aH5
           try clear aJb
           try clear aJc
           obtain ⟨kq, aFW, rfl, HA, aHn, ku, aEF, aED, aEm, aEr, aEz, HB⟩ := hcut
           cases kq with
           | zero => exact absurd HA.out (by simp [jA.j3])
           | succ kj88 =>
            have H := HA.out
            clear HA
            simp only [jA.j3] at H
            by_cases aIT : aFW = true
            ·subst aIT
             have H1 : (none) = some r := by rw [if_pos rfl] at H; exact H
             clear H
             have H := H1
             clear H1
             exact absurd H (by simp)
            ·replace aIT := Bool.eq_false_iff.mpr aIT
             subst aIT
             have H1 : (if aEo = 0 then (jA.l1 kj88 aEx aEw aEw (aEw.length : Int) (wrap64 (aEo + 1)) aQ aR aH av aEq 0) else (if 0 ≤ (wrap64 (aEo - 1)) then (if (wrap64 (aEo - 1)) < (aEw.length : Int) then ((fT.f kj88 aQ aR aH av (rd aEw (wrap64 (aEo - 1)))).bind fun al7 => (jA.l2 kj88 aEx aEw (rd aEw aEo) al7.1 al7.2 aEw (aEw.length : Int) aEo aQ aR aH av aEq 0)) else (none)) else (none))) = some r := by rw [if_neg (show ¬ (false = true) by decide)] at H; exact H
             clear H
             have H := H1
             clear H1
             by_cases aHo : aEo = 0
             ·rw [if_pos aHo] at H
              have aHp : (aEo == 0) = true := beq_iff_eq.mpr aHo
              have aHq : (aEo != 0) = false := bne_eq_false_iff_eq.mpr aHo
              clear aHo
              have H' := am H
              clear H
              go_wp2
              go_roundg kj88
              case measure => have := ave.out; have := HK2.out; have := HK3.out; have := aHn.out; omega
              case rel => exact ⟨(wrap64 (aEo + 1)), sm, H', ⟨by have := ave.out; have := HK2.out; have := HK3.out; have := aHn.out; omega⟩, ⟨by (with_reducible repeat (first | apply Kd.qd | apply Kd.qg | apply Kd.qR)); exact ku.out⟩, ⟨by (with_reducible repeat (first | apply Kd.lD | apply Kd.lF | apply Kd.nL)); exact aEF.out⟩, ⟨by (with_reducible repeat (first | apply Kd.lD | apply Kd.lF | apply Kd.nL)); exact aED.out⟩, ⟨kp aEm.out⟩, ⟨kp aEr.out⟩, ⟨kp aEz.out⟩, ⟨bl3 HB.out aEu.out aEv.out aEK.out⟩⟩
             ·rw [if_neg aHo] at H
              have aHp : (aEo == 0) = false := beq_eq_false_iff_ne.mpr aHo
              have aHq : (aEo != 0) = true := bne_iff_ne.mpr aHo
              obtain ⟨aFc, aGp⟩ : ∃ j_ : Int, (wrap64 (aEo - 1)) = j_ := ⟨_, rfl⟩
              replace H : (if 0 ≤ (aFc) then (if (aFc) < (aEw.length : Int) then ((fT.f kj88 aQ aR aH av (rd aEw (aFc))).bind fun al7 => (jA.l2 kj88 aEx aEw (rd aEw aEo) al7.1 al7.2 aEw (aEw.length : Int) aEo aQ aR aH av aEq 0)) else (none)) else (none)) = some r := by first | (rw [aGp] at H; exact H) | (simp only [aGp] at H ⊢; exact H)
              have aLa : (IntKind.i64.wrap (aEo - 1)) = aFc := (jR _).trans aGp
              by_cases aJf : 0 ≤ (aFc)
              case neg => rw [if_neg aJf] at H; exact absurd H (by simp)
              rw [if_pos aJf] at H
              have aIU : decide (0 ≤ (aFc)) = true := decide_eq_true aJf
              clear aJf
              by_cases c116 : (aFc) < (aEw.length : Int)
              case neg => rw [if_neg c116] at H; exact absurd H (by simp)
              rw [if_pos c116] at H
              have aIV : decide ((aFc) < (aEw.length : Int)) = true := decide_eq_true c116
              clear c116
              replace H := Option.bind_eq_some_iff.mp H
              obtain ⟨⟨aso, aBB⟩, A1170, H⟩ := H
              try dsimp only at H
              have aMX := am A1170
              clear A1170
              have H' := am H
              clear H
              try go_wp2
              replace ku := am (Kd.qR ku.out)
              replace aEF := am (Kd.nL aEF.out)
              replace aED := am (Kd.nL aED.out)
              replace aEm := am (aI aEm.out)
              replace aEr := am (aI aEr.out)
              replace aEz := am (aI aEz.out)
              replace HB := am (dx HB.out)
              have aJg : 0 ≤ ((aFc) : Int) := of_decide_eq_true asm
              have aJh : (aFc) < (aEw.length : Int) := of_decide_eq_true asm
              obtain ⟨aLb, aMY, aGi⟩ := Kd.aeA (Kd.iT aEF.out).2.2 (aFc) aJg aJh
              obtain rfl : aFV = aLb := (by injection aMY)
              replace aJg := eq_true aJg
              replace aJh := eq_true aJh
              refine nW (n := 12) (S := fun w' => w'.cell? ⟨aEs, 0, none⟩ = some (.int .i64 aQ) ∧ w'.cell? ⟨aEs, 1, none⟩ = some (.int .i64 aR) ∧ w'.cell? ⟨aEs, 2, none⟩ = some (.slice cu aH.length bW) ∧ w'.cell? ⟨aEs, 3, none⟩ = some (.slice dz av.length bZ) ∧ w'.cell? (aFV.add ((aFc)).toNat) = some (.int .i64 (rd aEw (aFc)))) (ds := []) (rs false [12]) (by kernel_rfl) rfl rfl ⟨bc aEm.out 0, bc aEm.out 1, bc aEm.out 2, bc aEm.out 3, aGi⟩ (fun hHeld => ?_); refine ji jA.aKn jA.aIG (fun HT_ HW_ => ?_)
              generalize wc.drew = aNn at ku aEF aED aEm aEr aEz HB aGi hHeld ⊢
              refine px 1 171 (rs false [1, 1, 10]) HT_.out ?_
              refine px 2 172 (rs false [1, 2, 9]) HT_.out ?_
              refine px 3 173 (rs false [1, 3, 8]) HT_.out ?_
              refine px 4 174 (rs false [1, 4, 7]) HT_.out ?_
              refine tx 0 170 (rs true [5, 7]) HT_.out HW_.out hHeld ?_
              refine tx 5 175 (rs true [6, 6]) HT_.out HW_.out hHeld ?_
              refine oZ (i := 6) (N := some 176) (rs true [7, 5]) rfl rfl (gM HT_.out (by kernel_rfl)) (by decide) (fun K hK => ?_)
              refine kg Try.func25 (by kernel_rfl) rfl #[.agg #[.int .i64 aQ, .int .i64 aR, .slice cu aH.length bW, .slice dz av.length bZ], .int .i64 (rd aEw (aFc))] (by rfl) rfl rfl (by (try simp only [List.map_toArray, List.map_cons, List.map_nil]); first | done | (simp only [aGp]; rfl) | rfl | (simp only [List.length_drop, List.length_take]; rfl)) ?_
              with_reducible refine (fT.calls kj88 aQ aR _ _ aH _ _ av (rd aEw (aFc)) aso aBB _ ?bH ?bI ?dG ?dI aMX.out).mono ?_
              (case bH => exact kc (Kd.bf gF.out HB.out))
              (case bI => exact gX.out)
              (case dG => exact kc (Kd.bf fK.out HB.out))
              (case dI => exact gW.out)
              rintro e aNo ⟨rfl, hb⟩
              have aMZ := (hb.cell (World.block_lt_of_cell? _ _ (hHeld.2.2.2.2))).trans (hHeld.2.2.2.2)
              refine ⟨_, rfl, ?_⟩
              replace ku := am (Kd.dO (kr ku.out) hb)
              replace aEF := am (Kd.fJ (kv aEF.out) hb)
              replace aED := am (Kd.fJ (kv aED.out) hb)
              replace aEm := am (ak (kp aEm.out) hb)
              replace aEr := am (ak (kp aEr.out) hb)
              replace aEz := am (ak (g := aEy) (o := mo) (kp aEz.out) hb)
              replace HB := am (au (bl3 HB.out aEu.out aEv.out aEK.out) hb)
              (try clear hb)
              refine hK.out _ _ ⟨bc aEm.out 0, bc aEm.out 1, bc aEm.out 2, bc aEm.out 3, aMZ⟩ (fun hHeld => ?_)
              clear hK K
              refine nx 176 ?_
              refine px 7 169 (rs true [8, 4]) HT_.out ?_
              refine px 8 177 (rs true [9, 3]) HT_.out ?_
              refine px 9 178 (rs true [10, 2]) HT_.out ?_
              refine px 10 27 (rs true [11, 1]) HT_.out ?_
              refine px 11 28 (rs true [12]) HT_.out ?_
              refine tV (kU HT_.out (by kernel_rfl)) ?_
              try go_wp2
              go_loopg [27, 28] kj88 (fun kq v27 v28 w' => ∃ (aFd : Int) (aHa : Bool), v27 = .int .i64 aFd ∧ v28 = .bool aHa ∧ ay (jA.l2 kq aEx aEw (rd aEw aEo) aFd aHa aEw (aEw.length : Int) aEo aQ aR aH av aEq 0 = some r) ∧ ay (kq ≤ kj88) ∧ ay (Kd.R k23 23 w' w.heap.size (fun k_ => k_ ≠ aEp ∧ k_ ≠ aEy) (.slice aFt aEx.length aFu) aEx) ∧ ay (Kd.V (Kd.int .i64) 3 w' w.heap.size (fun k_ => some k_ ≠ ((.slice aFt aEx.length aFu) : Value).ownBlock ∧ k_ ≠ aEs ∧ k_ ≠ aEp ∧ k_ ≠ aEy) (.slice (some aFV) aEw.length aHm) aEw) ∧ ay (Kd.V (Kd.int .i64) 3 w' w.heap.size (fun k_ => some k_ ≠ ((.slice aFt aEx.length aFu) : Value).ownBlock ∧ k_ ≠ aEs ∧ k_ ≠ aEp ∧ k_ ≠ aEy) (.slice (some aFV) aEw.length aHm) aEw) ∧ ay (w'.heap[aEs]? = some (.cells #[.int .i64 aQ, .int .i64 aR, (.slice cu aH.length bW), (.slice dz av.length bZ)] 28 (0, 0))) ∧ ay (w'.heap[aEp]? = some (.cells #[.int .i64 aER, .int .i64 aEX] 23 (0, 0))) ∧ ay (w'.heap[aEy]? = some mo) ∧ ay (Below w.heap.size w w'))
              case atStart => exact ⟨(aso), (aBB), sm, sm, H', ⟨Nat.le_refl _⟩, ⟨by (with_reducible repeat (first | apply Kd.qd | apply Kd.qg | apply Kd.qR)); exact ku.out⟩, ⟨by (with_reducible repeat (first | apply Kd.lD | apply Kd.lF | apply Kd.nL)); exact aEF.out⟩, ⟨by (with_reducible repeat (first | apply Kd.lD | apply Kd.lF | apply Kd.nL)); exact aED.out⟩, ⟨kp aEm.out⟩, ⟨kp aEr.out⟩, ⟨kp aEz.out⟩, ⟨bl3 HB.out aEu.out aEv.out aEK.out⟩⟩
              case round =>
               clear H'
               try clear aIT
               try clear aHo
               try clear aHp
               try clear aHq
               try clear aIU
               try clear aIV
               try clear aGi
               try clear aJg
               try clear aJh
               obtain ⟨aFd, aHa, rfl, rfl, HA, HK5, ku, aEF, aED, aEm, aEr, aEz, HB⟩ := hrel
               cases gk with
               | zero => exact absurd HA.out (by simp [jA.l2])
               | succ k5 =>
                have H := HA.out
                clear HA
                simp only [jA.l2] at H
                have aIe := am H
                clear H
                go_upto_region 26 with (fail)
                go_cut [184] (fun aM0 wc => ∃ (kq : Nat) (aFy : Bool), aM0 = .bool aFy ∧ ay (jA.j5 kq aEx aEw (rd aEw aEo) aFd aEw (aEw.length : Int) aEo aFy aQ aR aH av aEq 0 = some r) ∧ ay (kq ≤ k5) ∧ ay (Kd.R k23 23 wc w.heap.size (fun k_ => k_ ≠ aEp ∧ k_ ≠ aEy) (.slice aFt aEx.length aFu) aEx) ∧ ay (Kd.V (Kd.int .i64) 3 wc w.heap.size (fun k_ => some k_ ≠ ((.slice aFt aEx.length aFu) : Value).ownBlock ∧ k_ ≠ aEs ∧ k_ ≠ aEp ∧ k_ ≠ aEy) (.slice (some aFV) aEw.length aHm) aEw) ∧ ay (Kd.V (Kd.int .i64) 3 wc w.heap.size (fun k_ => some k_ ≠ ((.slice aFt aEx.length aFu) : Value).ownBlock ∧ k_ ≠ aEs ∧ k_ ≠ aEp ∧ k_ ≠ aEy) (.slice (some aFV) aEw.length aHm) aEw) ∧ ay (wc.heap[aEs]? = some (.cells #[.int .i64 aQ, .int .i64 aR, (.slice cu aH.length bW), (.slice dz av.length bZ)] 28 (0, 0))) ∧ ay (wc.heap[aEp]? = some (.cells #[.int .i64 aER, .int .i64 aEX] 23 (0, 0))) ∧ ay (wc.heap[aEy]? = some mo) ∧ ay (Below w.heap.size w wc))
                case first =>
                 have H := aIe.out
                 clear aIe
                 by_cases aJi : aHa = true
                 ·subst aJi
                  have H1 : (jA.j5 k5 aEx aEw (rd aEw aEo) aFd aEw (aEw.length : Int) aEo (decide (aFd < (rd aEw aEo))) aQ aR aH av aEq 0) = some r := by rw [if_pos rfl] at H; exact H
                  clear H
                  have H := H1
                  clear H1
                  have H' := am H
                  clear H
                  go_wp2
                  go_meet
                  case rel => exact ⟨_, (decide (aFd < (rd aEw aEo))), sm, H', ⟨by have := ave.out; have := HK2.out; have := HK3.out; have := aHn.out; have := HK5.out; first | omega | exact Nat.le_refl _⟩, ⟨by (with_reducible repeat (first | apply Kd.qd | apply Kd.qg | apply Kd.qR)); exact ku.out⟩, ⟨by (with_reducible repeat (first | apply Kd.lD | apply Kd.lF | apply Kd.nL)); exact aEF.out⟩, ⟨by (with_reducible repeat (first | apply Kd.lD | apply Kd.lF | apply Kd.nL)); exact aED.out⟩, ⟨kp aEm.out⟩, ⟨kp aEr.out⟩, ⟨kp aEz.out⟩, ⟨bl3 HB.out aEu.out aEv.out aEK.out⟩⟩
                 ·replace aJi := Bool.eq_false_iff.mpr aJi
                  subst aJi
                  have H1 : (jA.j5 k5 aEx aEw (rd aEw aEo) aFd aEw (aEw.length : Int) aEo false aQ aR aH av aEq 0) = some r := by rw [if_neg (show ¬ (false = true) by decide)] at H; exact H
                  clear H
                  have H := H1
                  clear H1
                  have H' := am H
                  clear H
                  go_wp2
                  go_meet
                  case rel => exact ⟨_, (false), sm, H', ⟨by have := ave.out; have := HK2.out; have := HK3.out; have := aHn.out; have := HK5.out; first | omega | exact Nat.le_refl _⟩, ⟨by (with_reducible repeat (first | apply Kd.qd | apply Kd.qg | apply Kd.qR)); exact ku.out⟩, ⟨by (with_reducible repeat (first | apply Kd.lD | apply Kd.lF | apply Kd.nL)); exact aEF.out⟩, ⟨by (with_reducible repeat (first | apply Kd.lD | apply Kd.lF | apply Kd.nL)); exact aED.out⟩, ⟨kp aEm.out⟩, ⟨kp aEr.out⟩, ⟨kp aEz.out⟩, ⟨bl3 HB.out aEu.out aEv.out aEK.out⟩⟩
                case rest =>
                 clear aIe
                 obtain ⟨kq, aFy, rfl, HA, aHb, ku, aEF, aED, aEm, aEr, aEz, HB⟩ := hcut
                 cases kq with
                 | zero => exact absurd HA.out (by simp [jA.j5])
                 | succ kj119 =>
                  have H := HA.out
                  clear HA
                  simp only [jA.j5] at H
                  by_cases aJj : aFy = true
                  ·subst aJj
                   have H1 : ((eO.f kj119 aQ aR aH av aFd).bind fun aGP => (if aGP.2 = 0 then ((oO.f aGP.1 aEx).bind fun aIF => (if aIF = true then (none) else ((fT.f kj119 aQ aR aH av aFd).bind fun aFY => (jA.l2 kj119 aEx aEw (rd aEw aEo) aFY.1 aFY.2 aEw (aEw.length : Int) aEo aQ aR aH av aEq 0)))) else (none))) = some r := by rw [if_pos rfl] at H; exact H
                   clear H
                   have H := H1
                   clear H1
                   replace H := Option.bind_eq_some_iff.mp H
                   obtain ⟨⟨anC, aJk⟩, A1230, H⟩ := H
                   try dsimp only at H
                   have aLJ := am A1230
                   clear A1230
                   by_cases c124 : aJk = 0
                   case neg => rw [if_neg c124] at H; exact absurd H (by simp)
                   rw [if_pos c124] at H
                   have aLK : (aJk == 0) = true := beq_iff_eq.mpr c124
                   have aLL : (aJk != 0) = false := bne_eq_false_iff_eq.mpr c124
                   clear c124
                   replace H := Option.bind_eq_some_iff.mp H
                   obtain ⟨aIF, aIW, H⟩ := H
                   try dsimp only at H
                   have aLM := am aIW
                   clear aIW
                   by_cases aJl : aIF = true
                   ·subst aJl
                    have H1 : (none) = some r := by rw [if_pos rfl] at H; exact H
                    clear H
                    have H := H1
                    clear H1
                    exact absurd H (by simp)
                   ·replace aJl := Bool.eq_false_iff.mpr aJl
                    subst aJl
                    have H1 : ((fT.f kj119 aQ aR aH av aFd).bind fun aFY => (jA.l2 kj119 aEx aEw (rd aEw aEo) aFY.1 aFY.2 aEw (aEw.length : Int) aEo aQ aR aH av aEq 0)) = some r := by rw [if_neg (show ¬ (false = true) by decide)] at H; exact H
                    clear H
                    have H := H1
                    clear H1
                    replace H := Option.bind_eq_some_iff.mp H
                    obtain ⟨⟨aLN, aLO⟩, A1270, H⟩ := H
                    try dsimp only at H
                    have aLP := am A1270
                    clear A1270
                    have H' := am H
                    clear H
                    have aLQ := aEC.out
                    have aLR := aEJ.out
                    have aLS := aEW.out
                    have aLT := aEZ.out
                    have aJm : wc.cell? ⟨aEs, 0, none⟩ = some (.int .i64 aQ) := bc aEm.out 0
                    have aJn : wc.cell? ⟨aEs, 1, none⟩ = some (.int .i64 aR) := bc aEm.out 1
                    have aJo : wc.cell? ⟨aEs, 2, none⟩ = some (.slice cu aH.length bW) := bc aEm.out 2
                    have aJp : wc.cell? ⟨aEs, 3, none⟩ = some (.slice dz av.length bZ) := bc aEm.out 3
                    have aJq := aj aEm.out 0
                    have aJr := aj aEm.out 1
                    have aJs := aj aEm.out 2
                    have aJt := aj aEm.out 3
                    go_wp2_with (first | ((with_reducible refine aC (f := 18) rfl ?_); refine bR (some 194) rfl rfl Try.func18 (by kernel_rfl) rfl #[.agg #[.int .i64 aQ, .int .i64 aR, .slice cu aH.length bW, .slice dz av.length bZ], .int .i64 aFd] rfl ar ?_; (with_reducible refine (eO.calls kj119 aQ aR _ _ aH _ _ av aFd anC aJk _ ?bH ?bI ?dG ?dI aLJ.out).mono ?_); (case bH => exact kc (Kd.bf gF.out HB.out)); (case bI => exact gX.out); (case dG => exact kc (Kd.bf fK.out HB.out)); (case dI => exact gW.out); clear aLJ; rintro e aNp ⟨aNq, rfl, ho0, hb⟩; refine ⟨_, rfl, ?_⟩; replace aEF := am (Kd.vI (kv aEF.out) (Kd.jN ho0) hb); replace aED := am (Kd.vI (kv aED.out) (Kd.jN ho0) hb); have aGj := am (Kd.jQ (Kd.aFK (Kd.aFK (Kd.qU ho0 (Kd.abm (kr ku.out))) (g := aEp) (o := .cells #[.int .i64 aER, .int .i64 aEX] 23 (0, 0)) (kp aEr.out)) (g := aEy) (o := mo) (kp aEz.out)) (bY (bl3 HB.out aEu.out aEv.out aEK.out))); replace ku := am (Kd.lN (kr ku.out) (Kd.jN ho0) hb); replace aEm := am (ak (kp aEm.out) hb); replace aEr := am (ak (kp aEr.out) hb); replace aEz := am (ak (g := aEy) (o := mo) (kp aEz.out) hb); replace HB := am (au (bl3 HB.out aEu.out aEv.out aEK.out) hb); (try clear hb); (try clear hb2); (try clear hk); (try clear hi); (try clear ho0); obtain ⟨aM1, aM2, aLc⟩ := Kd.iW aGj.out; subst aLc) | (go_at_call 38; (with_reducible refine (oO.calls _ _ anC _ _ aEx false _ ?bH ?bI ?dG ?dI aLM.out).mono ?_); (case bH => exact kc (Kd.bS aGj.out).2.2); (case bI => exact (Kd.bS aGj.out).2.1); (case dG => exact kc (Kd.bS ku.out).2.2); (case dI => exact (Kd.bS ku.out).2.1); clear aLM; rintro e aJu ⟨rfl, hb⟩; replace ku := am (Kd.dO (kr ku.out) hb); replace aEF := am (Kd.fJ (kv aEF.out) hb); replace aED := am (Kd.fJ (kv aED.out) hb); replace aGj := am (Kd.dO (kr aGj.out) hb); replace aEm := am (ak (kp aEm.out) hb); replace aEr := am (ak (kp aEr.out) hb); replace aEz := am (ak (g := aEy) (o := mo) (kp aEz.out) hb); replace HB := am (au (bl3 HB.out aEu.out aEv.out aEK.out) hb); (try clear hb); (try clear hb2); (try clear hk); (try clear hi); have aJv : aJu.cell? ⟨aEs, 0, none⟩ = some (.int .i64 aQ) := bc aEm.out 0; have aJw : aJu.cell? ⟨aEs, 1, none⟩ = some (.int .i64 aR) := bc aEm.out 1; have aJx : aJu.cell? ⟨aEs, 2, none⟩ = some (.slice cu aH.length bW) := bc aEm.out 2; have aJy : aJu.cell? ⟨aEs, 3, none⟩ = some (.slice dz av.length bZ) := bc aEm.out 3; have aJz := aj aEm.out 0; have aJA := aj aEm.out 1; have aJB := aj aEm.out 2; have aJC := aj aEm.out 3) | ((with_reducible refine aC (f := 25) rfl ?_); refine bR (some 188) rfl rfl Try.func25 (by kernel_rfl) rfl #[.agg #[.int .i64 aQ, .int .i64 aR, .slice cu aH.length bW, .slice dz av.length bZ], .int .i64 aFd] rfl ar ?_; (with_reducible refine (fT.calls kj119 aQ aR _ _ aH _ _ av aFd aLN aLO _ ?bH ?bI ?dG ?dI aLP.out).mono ?_); (case bH => exact kc (Kd.bf gF.out HB.out)); (case bI => exact gX.out); (case dG => exact kc (Kd.bf fK.out HB.out)); (case dI => exact gW.out); clear aLP; rintro e aNr ⟨rfl, hb⟩; refine ⟨_, rfl, ?_⟩; replace ku := am (Kd.dO (kr ku.out) hb); replace aEF := am (Kd.fJ (kv aEF.out) hb); replace aED := am (Kd.fJ (kv aED.out) hb); replace aGj := am (Kd.dO (kr aGj.out) hb); replace aEm := am (ak (kp aEm.out) hb); replace aEr := am (ak (kp aEr.out) hb); replace aEz := am (ak (g := aEy) (o := mo) (kp aEz.out) hb); replace HB := am (au (bl3 HB.out aEu.out aEv.out aEK.out) hb); (try clear hb); (try clear hb2); (try clear hk); (try clear hi)))
                    go_roundg kj119
                    case measure => have := ave.out; have := HK2.out; have := HK3.out; have := aHn.out; have := HK5.out; have := aHb.out; omega
                    case rel => exact ⟨(aLN), (aLO), sm, sm, H', ⟨by have := ave.out; have := HK2.out; have := HK3.out; have := aHn.out; have := HK5.out; have := aHb.out; omega⟩, ⟨by (with_reducible repeat (first | apply Kd.qd | apply Kd.qg | apply Kd.qR)); exact Kd.lY ku.out (fun _ hk => ⟨hk.1.1, hk.1.2⟩)⟩, ⟨by (with_reducible repeat (first | apply Kd.lD | apply Kd.lF | apply Kd.nL)); exact Kd.j4 aEF.out (fun _ hk => ⟨hk.1.1, ⟨hk.1.2.1, ⟨hk.1.2.2.1, hk.1.2.2.2⟩⟩⟩)⟩, ⟨by (with_reducible repeat (first | apply Kd.lD | apply Kd.lF | apply Kd.nL)); exact Kd.j4 aED.out (fun _ hk => ⟨hk.1.1, ⟨hk.1.2.1, ⟨hk.1.2.2.1, hk.1.2.2.2⟩⟩⟩)⟩, ⟨kp aEm.out⟩, ⟨kp aEr.out⟩, ⟨kp aEz.out⟩, ⟨bl3 HB.out aEu.out aEv.out aEK.out⟩⟩
                  ·replace aJj := Bool.eq_false_iff.mpr aJj
                   subst aJj
                   have H1 : (jA.l1 kj119 aEx aEw aEw (aEw.length : Int) (wrap64 (aEo + 1)) aQ aR aH av aEq 0) = some r := by rw [if_neg (show ¬ (false = true) by decide)] at H; exact H
                   clear H
                   have H := H1
                   clear H1
                   have H' := am H
                   clear H
                   go_wp2
                   go_roundg kj119
                   case measure => have := ave.out; have := HK2.out; have := HK3.out; have := aHn.out; have := HK5.out; have := aHb.out; omega
                   case rel => exact ⟨(wrap64 (aEo + 1)), sm, H', ⟨by have := ave.out; have := HK2.out; have := HK3.out; have := aHn.out; have := HK5.out; have := aHb.out; omega⟩, ⟨by (with_reducible repeat (first | apply Kd.qd | apply Kd.qg | apply Kd.qR)); exact ku.out⟩, ⟨by (with_reducible repeat (first | apply Kd.lD | apply Kd.lF | apply Kd.nL)); exact aEF.out⟩, ⟨by (with_reducible repeat (first | apply Kd.lD | apply Kd.lF | apply Kd.nL)); exact aED.out⟩, ⟨kp aEm.out⟩, ⟨kp aEr.out⟩, ⟨kp aEz.out⟩, ⟨bl3 HB.out aEu.out aEv.out aEK.out⟩⟩
         ·rw [if_neg c85] at H
          have aIR : decide (aEo < (aEw.length : Int)) = false := decide_eq_false c85
          clear c85
          obtain ⟨aJD, aGX⟩ : ∃ y_ : List (S23), y_ = (([(⟨2, 1⟩ : S23)] : List (S23))) := ⟨_, rfl⟩
          replace H : ((dM.f k3 aQ aR aH av aJD).bind fun aas => (if (aEw.length : Int) = aFk aEq then (if aas.2 = 50 then ((aY.f k3).bind fun amc => (some amc)) else (none)) else (none))) = some r := by first | (rw [aGX]; with_reducible exact H) | (have H2_ := (Option.bind_some _ _).symm.trans H; rw [aGX]; with_reducible exact H2_) | (have H2_ := (Option.bind_some _ _).symm.trans H; with_reducible exact H2_) | with_reducible exact H | (rw [aGX]; exact H) | exact H
          have aIX := am aGX
          clear aGX
          replace H := Option.bind_eq_some_iff.mp H
          obtain ⟨⟨auV, asl⟩, A1360, H⟩ := H
          try dsimp only at H
          have aLU := am A1360
          clear A1360
          by_cases aIY : (aEw.length : Int) = aFk aEq
          case neg => rw [if_neg aIY] at H; exact absurd H (by simp)
          rw [if_pos aIY] at H
          have aLV : ((aEw.length : Int) == aFk aEq) = true := beq_iff_eq.mpr aIY
          have aLW : ((aEw.length : Int) != aFk aEq) = false := bne_eq_false_iff_eq.mpr aIY
          clear aIY
          by_cases c138 : asl = 50
          case neg => rw [if_neg c138] at H; exact absurd H (by simp)
          rw [if_pos c138] at H
          have aLX : (asl == 50) = true := beq_iff_eq.mpr c138
          have aLY : (asl != 50) = false := bne_eq_false_iff_eq.mpr c138
          clear c138
          replace H := Option.bind_eq_some_iff.mp H
          obtain ⟨amc, aIZ, H⟩ := H
          try dsimp only at H
          have aLZ := am aIZ
          clear aIZ
          obtain rfl := Option.some.inj H
          have aL0 := aEC.out
          have aL1 := aEJ.out
          have aL2 := aEW.out
          have aL3 := aEZ.out
          have aJE : wr.cell? ⟨aEs, 0, none⟩ = some (.int .i64 aQ) := bc aEm.out 0
          have aJF : wr.cell? ⟨aEs, 1, none⟩ = some (.int .i64 aR) := bc aEm.out 1
          have aJG : wr.cell? ⟨aEs, 2, none⟩ = some (.slice cu aH.length bW) := bc aEm.out 2
          have aJH : wr.cell? ⟨aEs, 3, none⟩ = some (.slice dz av.length bZ) := bc aEm.out 3
          have aJI := aj aEm.out 0
          have aJJ := aj aEm.out 1
          have aJK := aj aEm.out 2
          have aJL := aj aEm.out 3
          go_wp2_with (first | ((with_reducible refine bq (N := 215) rfl ?_); at_len; refine CMo.len (b := aEy) (l := aEq) (mo := mo) (kp aEz.out) MO.out rfl _ rfl rfl ?_) | ((with_reducible refine bq (N := 208) rfl ?_); refine Kd.acO k23 _ 23 ?hg (N := 208) ?hd (xs := ([(⟨2, 1⟩ : S23)] : List (S23))) (inner := [.int .i64 2, .int .i64 1]) (ok := fun _ => True) (okp := fun _ => True) ?hr ?hp (fun _ hk => hk) trivial (Below.refl _ _) (Nat.le_refl _) (by simp) ?_; (case hd => rfl); (case hg => rfl); (case hr => first | (go_simp; done) | (go_simp; rfl)); (case hp => exact (kG.c2 (show Kd.M k23 _ _ _ (⟨2, 1⟩ : S23) [.int .i64 2, .int .i64 1] from (rP _ _ _ (⟨2, 1⟩ : S23) )) (kG.none _ _))); intro aNs aNt aF0 hb hg_ qI; clear hg_ qI; (first | rw [← aIX.out] at aF0 | (simp only [Int.reduceToNat] at aF0; rw [← aIX.out] at aF0)); replace aEF := am (Kd.vI (kv aEF.out) (Kd.jN aF0) hb); replace aED := am (Kd.vI (kv aED.out) (Kd.jN aF0) hb); have aF1 := am (Kd.jQ (Kd.aFK (Kd.aFK (Kd.qU aF0 (Kd.abm (kr ku.out))) (g := aEp) (o := .cells #[.int .i64 aER, .int .i64 aEX] 23 (0, 0)) (kp aEr.out)) (g := aEy) (o := mo) (kp aEz.out)) (bY (bl3 HB.out aEu.out aEv.out aEK.out))); replace ku := am (Kd.lN (kr ku.out) (Kd.jN aF0) hb); replace aEm := am (ak (kp aEm.out) hb); replace aEr := am (ak (kp aEr.out) hb); replace aEz := am (ak (g := aEy) (o := mo) (kp aEz.out) hb); replace HB := am (au (bl3 HB.out aEu.out aEv.out aEK.out) hb); clear hb aF0; obtain ⟨aI0, aI1, aLd⟩ := Kd.iW aF1.out; subst aLd) | ((with_reducible refine aC (f := 14) rfl ?_); refine bR (some 209) rfl rfl Try.func14 (by kernel_rfl) rfl #[.agg #[.int .i64 aQ, .int .i64 aR, .slice cu aH.length bW, .slice dz av.length bZ], .slice aI0 aJD.length aI1] rfl ar ?_; (with_reducible refine (dM.calls k3 aQ aR _ _ aH _ _ av _ _ aJD auV asl _ ?bH ?bI ?dG ?dI ?agy ?agz aLU.out).mono ?_); (case bH => exact kc (Kd.bf gF.out HB.out)); (case bI => exact gX.out); (case dG => exact kc (Kd.bf fK.out HB.out)); (case dI => exact gW.out); (case agy => exact kc (Kd.bS aF1.out).2.2); (case agz => exact (Kd.bS aF1.out).2.1); clear aLU; rintro e aNu ⟨aNv, rfl, ho0, hb⟩; refine ⟨_, rfl, ?_⟩; replace aEF := am (Kd.fJ (kv aEF.out) hb); replace aED := am (Kd.fJ (kv aED.out) hb); have aI2 := am (Kd.wT (Kd.j4 (ok' := fun k_ => some k_ ≠ (.slice aFt aEx.length aFu : Value).ownBlock ∧ some k_ ≠ (.slice aI0 aJD.length aI1 : Value).ownBlock ∧ k_ ≠ aEs ∧ k_ ≠ aEp ∧ k_ ≠ aEy) ho0 (fun k_ hk_ => ⟨(Kd.fresh' (Kd.abm (kr ku.out)) k_ hk_), (Kd.fresh' (Kd.abm (kr aF1.out)) k_ hk_), (Kd.qV (g := aEs) (o := .cells #[.int .i64 aQ, .int .i64 aR, .slice cu aH.length bW, .slice dz av.length bZ] 28 (0, 0)) (kp aEm.out) k_ hk_), (Kd.qV (g := aEp) (o := .cells #[.int .i64 aER, .int .i64 aEX] 23 (0, 0)) (kp aEr.out) k_ hk_), (Kd.qV (g := aEy) (o := mo) (kp aEz.out) k_ hk_)⟩)) (bY (bl3 HB.out aEu.out aEv.out aEK.out))); replace ku := am (Kd.dO (kr ku.out) hb); replace aF1 := am (Kd.dO (kr aF1.out) hb); replace aEm := am (ak (kp aEm.out) hb); replace aEr := am (ak (kp aEr.out) hb); replace aEz := am (ak (g := aEy) (o := mo) (kp aEz.out) hb); replace HB := am (au (bl3 HB.out aEu.out aEv.out aEK.out) hb); (try clear hb); (try clear hb2); (try clear hk); (try clear hi); (try clear ho0); have aL4 := aFl.out; have aL5 := aE3.out) | (go_at_call 16; (with_reducible refine (aY.calls k3  amc _ aLZ.out).mono ?_); clear aLZ; rintro e aNw ⟨rfl, hb⟩; replace ku := am (Kd.dO (kr ku.out) hb); replace aEF := am (Kd.fJ (kv aEF.out) hb); replace aED := am (Kd.fJ (kv aED.out) hb); replace aF1 := am (Kd.dO (kr aF1.out) hb); replace aI2 := am (Kd.fJ (kv aI2.out) hb); replace aEm := am (ak (kp aEm.out) hb); replace aEr := am (ak (kp aEr.out) hb); replace aEz := am (ak (g := aEy) (o := mo) (kp aEz.out) hb); replace HB := am (au (bl3 HB.out aEu.out aEv.out aEK.out) hb); (try clear hb); (try clear hb2); (try clear hk); (try clear hi)))
          go_ret
          exact ⟨by first | rfl | (simp [gu, gB] <;> rfl) | (simp only [← akp, ← aHl]; first | rfl | (simp [gu, gB] <;> rfl)) | (simp [*, gu, gB] <;> rfl), bl3 HB.out aEu.out aEv.out aEK.out⟩
end Go.Proofs.Ytmbmalkpmanaaaa.P

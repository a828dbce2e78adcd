/- Lemmas for laws of chapter 7: what the functions that they reach compute. No condition of its own. -/
import Derived.Test.YtmbmalkpmanaaaaYG4
import Derived.Test.YtmbmalkpmanaaaaYG2
import Derived.Test.YtmbmalkpmanaaaaYG9
import Derived.Test.YtmbmalkpmanaaaaYG8
import Derived.Test.YtmbmalkpmanaaaaYG10
import Derived.Test.YtmbmalkpmanaaaaYG12
namespace Go.Proofs.Ytmbmalkpmanaaaa.P
open Go.RowKit Go.Proofs.YtmbmalkpmanaaaaW.aK Go.Proofs.YtmbmalkpmanaaaaW.bK Go.Proofs.YtmbmalkpmanaaaaW.bM
attribute [local go_sem] dS dU fG fH dB dD dV dW   -- for this text's walks alone
set_option linter.unusedVariables false
set_option linter.unusedSimpArgs false
def aY.f (k : Nat)  : Option (Bool) := (kW.f).bind fun ko => ((some (([(⟨3, (([(⟨5, 6⟩ : S23)] : List (S23)))⟩ : S70)] : List (S70)) : List (S70))).bind fun oK => ((dM.f k ko.1 ko.2.1 ko.2.2.1 ko.2.2.2 (([(⟨3, 8⟩ : S23)] : List (S23)))).bind fun zV => ((dM.f k ko.1 ko.2.1 ko.2.2.1 ko.2.2.2 (([(⟨5, 6⟩ : S23)] : List (S23)))).bind fun xC => ((aX.f 1 true).bind fun aqN => ((jr.f k ko.1 ko.2.1 ko.2.2.1 ko.2.2.2 9).bind fun xD => ((aJ.f 1 true xD.1 xD.2).bind fun t143 => (if t143 = true then ((aX.f 0 false).bind fun anW => ((jr.f k ko.1 ko.2.1 ko.2.2.1 ko.2.2.2 5).bind fun uX => ((aJ.f 0 false uX.1 uX.2).bind fun agx => (if agx = true then ((aX.f 1 true).bind fun t148 => ((bP.f k ko.1 ko.2.1 ko.2.2.1 ko.2.2.2 5).bind fun tF => ((aJ.f 1 true tF.1 tF.2).bind fun ae3 => (if ae3 = true then ((aX.f 0 true).bind fun t152 => ((bV.f k ko.1 ko.2.1 ko.2.2.1 ko.2.2.2 5).bind fun qC => ((aJ.f 0 true qC.1 qC.2).bind fun adY => (if adY = true then (if zV.2 = 0 then (if xC.2 = 0 then ((bF.f k zV.1 (([0, 1] : List Int))).bind fun t159 => (if t159 = true then (if (xC.1.length : Int) = 0 then ((aX.f 0 false).bind fun t160 => ((bP.f k 0 0 ([] : List (List (S23))) oK 7).bind fun nP => ((aJ.f 0 false nP.1 nP.2).bind fun aa3 => (if aa3 = true then ((aX.f 3 true).bind fun t164 => ((bV.f k 0 0 ([] : List (List (S23))) oK 100).bind fun mU => ((aJ.f 3 true mU.1 mU.2).bind fun t167 => (some t167)))) else (none))))) else (none)) else (none))) else (none)) else (none)) else (none))))) else (none))))) else (none))))) else (none))))))))
theorem aY.mono : ∀ k, LeO (aY.f k ) (aY.f (k + 1) ) := by
 intro  k
 unfold aY.f
 repeat' first
  | (with_reducible exact bF.mono _ _ _)
  | (with_reducible exact jr.mono _ _ _ _ _ _)
  | (with_reducible exact bP.mono _ _ _ _ _ _)
  | (with_reducible exact dM.mono _ _ _ _ _ _)
  | (with_reducible exact bV.mono _ _ _ _ _ _)
  | (with_reducible exact LeO.refl _)
  | (with_reducible exact LeO.none _)
  | (with_reducible refine LeO.ite ?_ ?_)
  | (with_reducible refine LeO.bind ?_ (fun _ => ?_))
  | exact bF.mono _ _ _
  | exact jr.mono _ _ _ _ _ _
  | exact bP.mono _ _ _ _ _ _
  | exact dM.mono _ _ _ _ _ _
  | exact bV.mono _ _ _ _ _ _
  | exact LeO.none _
  | refine LeO.ite ?_ ?_
  | refine LeO.bind ?_ (fun _ => ?_)
def aY.T5 : Bool × List (List Nat × List Nat) := (true, [([], []), ([], []), ([1, 0], [1]), ([2], [2]), ([2], [2]), ([0, 3, 4, 2], [0, 3, 4]), ([5, 5], [5]), ([6, 6], [6]), ([6], [6]), ([8, 7, 6], [6, 8]), ([9, 6], [6, 9]), ([9, 6], [6, 9]), ([7, 10, 11, 9, 6], [6, 7, 10, 11]), ([6, 12], [6, 12]), ([13, 12], [13]), ([14, 14], [14]), ([14], [14]), ([16, 15, 14], [14, 16]), ([17, 14], [14, 17]), ([17, 14], [14, 17]), ([15, 18, 19, 17, 14], [14, 15, 18, 19]), ([14, 20], [14, 20]), ([21, 20], [21]), ([22, 22], [22]), ([22], [22]), ([24, 23, 22], [22, 24]), ([25, 22], [22, 25]), ([25, 22], [22, 25]), ([23, 26, 27, 25, 22], [22, 23, 26, 27]), ([22, 28], [22, 28]), ([29, 28], [29]), ([30], [30]), ([31, 30], [30, 31]), ([30, 32], [30, 32]), ([33, 30], [33]), ([34], [34]), ([35, 34], [34, 35]), ([34, 36], [34, 36]), ([37, 34], [37]), ([38], [38]), ([38], [38]), ([39, 40, 38, 38], [38, 39, 40]), ([38, 41], [38, 41]), ([42, 41], [42]), ([43], [43]), ([44, 43], [43, 44]), ([45, 43], [43, 45]), ([43, 46], [43, 46]), ([47, 43], [47]), ([48, 48], [48]), ([48], [48]), ([50, 49, 48], [48, 50]), ([51, 48], [48, 51]), ([51, 48], [48, 51]), ([49, 52, 53, 51, 48], [48, 49, 52, 53]), ([48, 54], [48, 54]), ([55, 54], [55]), ([56, 56], [56]), ([56], [56]), ([58, 57, 56], [56, 58]), ([59, 56], [56, 59]), ([59, 56], [56, 59]), ([57, 60, 61, 59, 56], [56, 57, 60, 61]), ([56, 62], [56, 62]), ([63, 62, 0, 1, 2, 3, 4, 5, 6, 7, 8, 9, 10, 11, 12, 13, 14, 15, 16, 17, 18, 19, 20, 21, 22, 23, 24, 25, 26, 27, 28, 29, 30, 31, 32, 33, 34, 35, 36, 37, 38, 39, 40, 41, 42, 43, 44, 45, 46, 47, 48, 49, 50, 51, 52, 53, 54, 55, 56, 57, 58, 59, 60, 61, 62, 63], [63])])
def aY.B5 : List Nat := [0, 0, 3, 7, 7, 31, 63, 127, 127, 511, 1023, 1023, 4095, 8191, 16383, 32767, 32767, 131071, 262143, 262143, 1048575, 2097151, 4194303, 8388607, 8388607, 33554431, 67108863, 67108863, 268435455, 536870911, 1073741823, 2147483647, 4294967295, 8589934591, 17179869183, 34359738367, 68719476735, 137438953471, 274877906943, 549755813887, 549755813887, 2199023255551, 4398046511103, 8796093022207, 17592186044415, 35184372088831, 70368744177663, 140737488355327, 281474976710655, 562949953421311, 562949953421311, 2251799813685247, 4503599627370495, 4503599627370495, 18014398509481983, 36028797018963967, 72057594037927935, 144115188075855871, 144115188075855871, 576460752303423487, 1152921504606846975, 1152921504606846975, 4611686018427387903, 9223372036854775807, 18446744073709551615]
theorem aY.aCa : xW .any (opsOf Try.f16 5) = aY.T5 := by kernel_rfl
theorem aY.ays : pq aY.T5.2 aY.B5 = true := by kernel_rfl
set_option maxHeartbeats 8000000 in
set_option maxRecDepth 100000 in
theorem aY.calls (k : Nat)  (r : Bool) (w : World) (h : aY.f k  = some r) :
 Calls Try.prog 16 #[] w fun e w' => e = .returned (.bool r) ∧ Below w.heap.size w w' := by
 have aaE := Try.underlying28
 have afs := Try.underlying23
 have ao0 := Try.underlying70
 have HB := am (Below.refl w.heap.size w)
 have H : ((kW.f).bind fun ko => ((some (([(⟨3, (([(⟨5, 6⟩ : S23)] : List (S23)))⟩ : S70)] : List (S70)) : List (S70))).bind fun oK => ((dM.f k ko.1 ko.2.1 ko.2.2.1 ko.2.2.2 (([(⟨3, 8⟩ : S23)] : List (S23)))).bind fun zV => ((dM.f k ko.1 ko.2.1 ko.2.2.1 ko.2.2.2 (([(⟨5, 6⟩ : S23)] : List (S23)))).bind fun xC => ((aX.f 1 true).bind fun aqN => ((jr.f k ko.1 ko.2.1 ko.2.2.1 ko.2.2.2 9).bind fun xD => ((aJ.f 1 true xD.1 xD.2).bind fun t143 => (if t143 = true then ((aX.f 0 false).bind fun anW => ((jr.f k ko.1 ko.2.1 ko.2.2.1 ko.2.2.2 5).bind fun uX => ((aJ.f 0 false uX.1 uX.2).bind fun agx => (if agx = true then ((aX.f 1 true).bind fun t148 => ((bP.f k ko.1 ko.2.1 ko.2.2.1 ko.2.2.2 5).bind fun tF => ((aJ.f 1 true tF.1 tF.2).bind fun ae3 => (if ae3 = true then ((aX.f 0 true).bind fun t152 => ((bV.f k ko.1 ko.2.1 ko.2.2.1 ko.2.2.2 5).bind fun qC => ((aJ.f 0 true qC.1 qC.2).bind fun adY => (if adY = true then (if zV.2 = 0 then (if xC.2 = 0 then ((bF.f k zV.1 (([0, 1] : List Int))).bind fun t159 => (if t159 = true then (if (xC.1.length : Int) = 0 then ((aX.f 0 false).bind fun t160 => ((bP.f k 0 0 ([] : List (List (S23))) oK 7).bind fun nP => ((aJ.f 0 false nP.1 nP.2).bind fun aa3 => (if aa3 = true then ((aX.f 3 true).bind fun t164 => ((bV.f k 0 0 ([] : List (List (S23))) oK 100).bind fun mU => ((aJ.f 3 true mU.1 mU.2).bind fun t167 => (some t167)))) else (none))))) else (none)) else (none))) else (none)) else (none)) else (none))))) else (none))))) else (none))))) else (none))))))))) = some r := h
 clear h
 replace H := Option.bind_eq_some_iff.mp H
 obtain ⟨⟨lV, lZ, lI, lK⟩, A10, H⟩ := H
 try dsimp only at H
 have A1 := am A10
 clear A10
 obtain ⟨aqO, akX⟩ : ∃ y_ : List (S23), y_ = (([(⟨5, 6⟩ : S23)] : List (S23))) := ⟨_, rfl⟩
 replace H : ((some (([(⟨3, aqO⟩ : S70)] : List (S70)) : List (S70))).bind fun oK => ((dM.f k lV lZ lI lK (([(⟨3, 8⟩ : S23)] : List (S23)))).bind fun zV => ((dM.f k lV lZ lI lK (([(⟨5, 6⟩ : S23)] : List (S23)))).bind fun xC => ((aX.f 1 true).bind fun aqN => ((jr.f k lV lZ lI lK 9).bind fun xD => ((aJ.f 1 true xD.1 xD.2).bind fun t143 => (if t143 = true then ((aX.f 0 false).bind fun anW => ((jr.f k lV lZ lI lK 5).bind fun uX => ((aJ.f 0 false uX.1 uX.2).bind fun agx => (if agx = true then ((aX.f 1 true).bind fun t148 => ((bP.f k lV lZ lI lK 5).bind fun tF => ((aJ.f 1 true tF.1 tF.2).bind fun ae3 => (if ae3 = true then ((aX.f 0 true).bind fun t152 => ((bV.f k lV lZ lI lK 5).bind fun qC => ((aJ.f 0 true qC.1 qC.2).bind fun adY => (if adY = true then (if zV.2 = 0 then (if xC.2 = 0 then ((bF.f k zV.1 (([0, 1] : List Int))).bind fun t159 => (if t159 = true then (if (xC.1.length : Int) = 0 then ((aX.f 0 false).bind fun t160 => ((bP.f k 0 0 ([] : List (List (S23))) oK 7).bind fun nP => ((aJ.f 0 false nP.1 nP.2).bind fun aa3 => (if aa3 = true then ((aX.f 3 true).bind fun t164 => ((bV.f k 0 0 ([] : List (List (S23))) oK 100).bind fun mU => ((aJ.f 3 true mU.1 mU.2).bind fun t167 => (some t167)))) else (none))))) else (none)) else (none))) else (none)) else (none)) else (none))))) else (none))))) else (none))))) else (none)))))))) = some r := by first | (rw [akX]; with_reducible exact H) | (have H2_ := (Option.bind_some _ _).symm.trans H; rw [akX]; with_reducible exact H2_) | (have H2_ := (Option.bind_some _ _).symm.trans H; with_reducible exact H2_) | with_reducible exact H | (rw [akX]; exact H) | exact H
 have atx := am akX
 clear akX
 obtain ⟨oK, akY⟩ : ∃ y_ : List (S70), y_ = (([(⟨3, aqO⟩ : S70)] : List (S70))) := ⟨_, rfl⟩
 replace H : ((dM.f k lV lZ lI lK (([(⟨3, 8⟩ : S23)] : List (S23)))).bind fun zV => ((dM.f k lV lZ lI lK (([(⟨5, 6⟩ : S23)] : List (S23)))).bind fun xC => ((aX.f 1 true).bind fun aqN => ((jr.f k lV lZ lI lK 9).bind fun xD => ((aJ.f 1 true xD.1 xD.2).bind fun t143 => (if t143 = true then ((aX.f 0 false).bind fun anW => ((jr.f k lV lZ lI lK 5).bind fun uX => ((aJ.f 0 false uX.1 uX.2).bind fun agx => (if agx = true then ((aX.f 1 true).bind fun t148 => ((bP.f k lV lZ lI lK 5).bind fun tF => ((aJ.f 1 true tF.1 tF.2).bind fun ae3 => (if ae3 = true then ((aX.f 0 true).bind fun t152 => ((bV.f k lV lZ lI lK 5).bind fun qC => ((aJ.f 0 true qC.1 qC.2).bind fun adY => (if adY = true then (if zV.2 = 0 then (if xC.2 = 0 then ((bF.f k zV.1 (([0, 1] : List Int))).bind fun t159 => (if t159 = true then (if (xC.1.length : Int) = 0 then ((aX.f 0 false).bind fun t160 => ((bP.f k 0 0 ([] : List (List (S23))) oK 7).bind fun nP => ((aJ.f 0 false nP.1 nP.2).bind fun aa3 => (if aa3 = true then ((aX.f 3 true).bind fun t164 => ((bV.f k 0 0 ([] : List (List (S23))) oK 100).bind fun mU => ((aJ.f 3 true mU.1 mU.2).bind fun t167 => (some t167)))) else (none))))) else (none)) else (none))) else (none)) else (none)) else (none))))) else (none))))) else (none))))) else (none))))))) = some r := by first | (rw [akY]; with_reducible exact H) | (have H2_ := (Option.bind_some _ _).symm.trans H; rw [akY]; with_reducible exact H2_) | (have H2_ := (Option.bind_some _ _).symm.trans H; with_reducible exact H2_) | with_reducible exact H | (rw [akY]; exact H) | exact H
 have aty := am akY
 clear akY
 obtain ⟨atz, akZ⟩ : ∃ y_ : List (S23), y_ = (([(⟨3, 8⟩ : S23)] : List (S23))) := ⟨_, rfl⟩
 replace H : ((dM.f k lV lZ lI lK atz).bind fun zV => ((dM.f k lV lZ lI lK (([(⟨5, 6⟩ : S23)] : List (S23)))).bind fun xC => ((aX.f 1 true).bind fun aqN => ((jr.f k lV lZ lI lK 9).bind fun xD => ((aJ.f 1 true xD.1 xD.2).bind fun t143 => (if t143 = true then ((aX.f 0 false).bind fun anW => ((jr.f k lV lZ lI lK 5).bind fun uX => ((aJ.f 0 false uX.1 uX.2).bind fun agx => (if agx = true then ((aX.f 1 true).bind fun t148 => ((bP.f k lV lZ lI lK 5).bind fun tF => ((aJ.f 1 true tF.1 tF.2).bind fun ae3 => (if ae3 = true then ((aX.f 0 true).bind fun t152 => ((bV.f k lV lZ lI lK 5).bind fun qC => ((aJ.f 0 true qC.1 qC.2).bind fun adY => (if adY = true then (if zV.2 = 0 then (if xC.2 = 0 then ((bF.f k zV.1 (([0, 1] : List Int))).bind fun t159 => (if t159 = true then (if (xC.1.length : Int) = 0 then ((aX.f 0 false).bind fun t160 => ((bP.f k 0 0 ([] : List (List (S23))) oK 7).bind fun nP => ((aJ.f 0 false nP.1 nP.2).bind fun aa3 => (if aa3 = true then ((aX.f 3 true).bind fun t164 => ((bV.f k 0 0 ([] : List (List (S23))) oK 100).bind fun mU => ((aJ.f 3 true mU.1 mU.2).bind fun t167 => (some t167)))) else (none))))) else (none)) else (none))) else (none)) else (none)) else (none))))) else (none))))) else (none))))) else (none))))))) = some r := by first | (rw [akZ]; with_reducible exact H) | (have H2_ := (Option.bind_some _ _).symm.trans H; rw [akZ]; with_reducible exact H2_) | (have H2_ := (Option.bind_some _ _).symm.trans H; with_reducible exact H2_) | with_reducible exact H | (rw [akZ]; exact H) | exact H
 have atA := am akZ
 clear akZ
 replace H := Option.bind_eq_some_iff.mp H
 obtain ⟨⟨ac9, ak0⟩, A20, H⟩ := H
 try dsimp only at H
 have A2 := am A20
 clear A20
 obtain ⟨avm, ak1⟩ : ∃ y_ : List (S23), y_ = (([(⟨5, 6⟩ : S23)] : List (S23))) := ⟨_, rfl⟩
 replace H : ((dM.f k lV lZ lI lK avm).bind fun xC => ((aX.f 1 true).bind fun aqN => ((jr.f k lV lZ lI lK 9).bind fun xD => ((aJ.f 1 true xD.1 xD.2).bind fun t143 => (if t143 = true then ((aX.f 0 false).bind fun anW => ((jr.f k lV lZ lI lK 5).bind fun uX => ((aJ.f 0 false uX.1 uX.2).bind fun agx => (if agx = true then ((aX.f 1 true).bind fun t148 => ((bP.f k lV lZ lI lK 5).bind fun tF => ((aJ.f 1 true tF.1 tF.2).bind fun ae3 => (if ae3 = true then ((aX.f 0 true).bind fun t152 => ((bV.f k lV lZ lI lK 5).bind fun qC => ((aJ.f 0 true qC.1 qC.2).bind fun adY => (if adY = true then (if ak0 = 0 then (if xC.2 = 0 then ((bF.f k ac9 (([0, 1] : List Int))).bind fun t159 => (if t159 = true then (if (xC.1.length : Int) = 0 then ((aX.f 0 false).bind fun t160 => ((bP.f k 0 0 ([] : List (List (S23))) oK 7).bind fun nP => ((aJ.f 0 false nP.1 nP.2).bind fun aa3 => (if aa3 = true then ((aX.f 3 true).bind fun t164 => ((bV.f k 0 0 ([] : List (List (S23))) oK 100).bind fun mU => ((aJ.f 3 true mU.1 mU.2).bind fun t167 => (some t167)))) else (none))))) else (none)) else (none))) else (none)) else (none)) else (none))))) else (none))))) else (none))))) else (none)))))) = some r := by first | (rw [ak1]; with_reducible exact H) | (have H2_ := (Option.bind_some _ _).symm.trans H; rw [ak1]; with_reducible exact H2_) | (have H2_ := (Option.bind_some _ _).symm.trans H; with_reducible exact H2_) | with_reducible exact H | (rw [ak1]; exact H) | exact H
 have atB := am ak1
 clear ak1
 replace H := Option.bind_eq_some_iff.mp H
 obtain ⟨⟨aiS, t139⟩, A30, H⟩ := H
 try dsimp only at H
 have A3 := am A30
 clear A30
 replace H := Option.bind_eq_some_iff.mp H
 obtain ⟨aqN, A40, H⟩ := H
 try dsimp only at H
 have A4 := am A40
 clear A40
 replace H := Option.bind_eq_some_iff.mp H
 obtain ⟨⟨t141, avn⟩, A50, H⟩ := H
 try dsimp only at H
 have A5 := am A50
 clear A50
 replace H := Option.bind_eq_some_iff.mp H
 obtain ⟨t143, A60, H⟩ := H
 try dsimp only at H
 have A6 := am A60
 clear A60
 by_cases c7 : t143 = true
 ·subst c7
  have H1 : ((aX.f 0 false).bind fun anW => ((jr.f k lV lZ lI lK 5).bind fun uX => ((aJ.f 0 false uX.1 uX.2).bind fun agx => (if agx = true then ((aX.f 1 true).bind fun t148 => ((bP.f k lV lZ lI lK 5).bind fun tF => ((aJ.f 1 true tF.1 tF.2).bind fun ae3 => (if ae3 = true then ((aX.f 0 true).bind fun t152 => ((bV.f k lV lZ lI lK 5).bind fun qC => ((aJ.f 0 true qC.1 qC.2).bind fun adY => (if adY = true then (if ak0 = 0 then (if t139 = 0 then ((bF.f k ac9 (([0, 1] : List Int))).bind fun t159 => (if t159 = true then (if (aiS.length : Int) = 0 then ((aX.f 0 false).bind fun t160 => ((bP.f k 0 0 ([] : List (List (S23))) oK 7).bind fun nP => ((aJ.f 0 false nP.1 nP.2).bind fun aa3 => (if aa3 = true then ((aX.f 3 true).bind fun t164 => ((bV.f k 0 0 ([] : List (List (S23))) oK 100).bind fun mU => ((aJ.f 3 true mU.1 mU.2).bind fun t167 => (some t167)))) else (none))))) else (none)) else (none))) else (none)) else (none)) else (none))))) else (none))))) else (none))))) = some r := by rw [if_pos rfl] at H; exact H
  clear H
  have H := H1
  clear H1
  replace H := Option.bind_eq_some_iff.mp H
  obtain ⟨anW, A80, H⟩ := H
  try dsimp only at H
  have A8 := am A80
  clear A80
  replace H := Option.bind_eq_some_iff.mp H
  obtain ⟨⟨t145, t146⟩, A90, H⟩ := H
  try dsimp only at H
  have A9 := am A90
  clear A90
  replace H := Option.bind_eq_some_iff.mp H
  obtain ⟨agx, aj1, H⟩ := H
  try dsimp only at H
  have A10 := am aj1
  clear aj1
  by_cases c11 : agx = true
  ·subst c11
   have H1 : ((aX.f 1 true).bind fun t148 => ((bP.f k lV lZ lI lK 5).bind fun tF => ((aJ.f 1 true tF.1 tF.2).bind fun ae3 => (if ae3 = true then ((aX.f 0 true).bind fun t152 => ((bV.f k lV lZ lI lK 5).bind fun qC => ((aJ.f 0 true qC.1 qC.2).bind fun adY => (if adY = true then (if ak0 = 0 then (if t139 = 0 then ((bF.f k ac9 (([0, 1] : List Int))).bind fun t159 => (if t159 = true then (if (aiS.length : Int) = 0 then ((aX.f 0 false).bind fun t160 => ((bP.f k 0 0 ([] : List (List (S23))) oK 7).bind fun nP => ((aJ.f 0 false nP.1 nP.2).bind fun aa3 => (if aa3 = true then ((aX.f 3 true).bind fun t164 => ((bV.f k 0 0 ([] : List (List (S23))) oK 100).bind fun mU => ((aJ.f 3 true mU.1 mU.2).bind fun t167 => (some t167)))) else (none))))) else (none)) else (none))) else (none)) else (none)) else (none))))) else (none))))) = some r := by rw [if_pos rfl] at H; exact H
   clear H
   have H := H1
   clear H1
   replace H := Option.bind_eq_some_iff.mp H
   obtain ⟨t148, anQ, H⟩ := H
   try dsimp only at H
   have A12 := am anQ
   clear anQ
   replace H := Option.bind_eq_some_iff.mp H
   obtain ⟨⟨avo, avp⟩, ajJ, H⟩ := H
   try dsimp only at H
   have A13 := am ajJ
   clear ajJ
   replace H := Option.bind_eq_some_iff.mp H
   obtain ⟨ae3, aAY, H⟩ := H
   try dsimp only at H
   have A14 := am aAY
   clear aAY
   by_cases c15 : ae3 = true
   ·subst c15
    have H1 : ((aX.f 0 true).bind fun t152 => ((bV.f k lV lZ lI lK 5).bind fun qC => ((aJ.f 0 true qC.1 qC.2).bind fun adY => (if adY = true then (if ak0 = 0 then (if t139 = 0 then ((bF.f k ac9 (([0, 1] : List Int))).bind fun t159 => (if t159 = true then (if (aiS.length : Int) = 0 then ((aX.f 0 false).bind fun t160 => ((bP.f k 0 0 ([] : List (List (S23))) oK 7).bind fun nP => ((aJ.f 0 false nP.1 nP.2).bind fun aa3 => (if aa3 = true then ((aX.f 3 true).bind fun t164 => ((bV.f k 0 0 ([] : List (List (S23))) oK 100).bind fun mU => ((aJ.f 3 true mU.1 mU.2).bind fun t167 => (some t167)))) else (none))))) else (none)) else (none))) else (none)) else (none)) else (none))))) = some r := by rw [if_pos rfl] at H; exact H
    clear H
    have H := H1
    clear H1
    replace H := Option.bind_eq_some_iff.mp H
    obtain ⟨t152, ahY, H⟩ := H
    try dsimp only at H
    have A16 := am ahY
    clear ahY
    replace H := Option.bind_eq_some_iff.mp H
    obtain ⟨⟨avq, t154⟩, A170, H⟩ := H
    try dsimp only at H
    have A17 := am A170
    clear A170
    replace H := Option.bind_eq_some_iff.mp H
    obtain ⟨adY, atC, H⟩ := H
    try dsimp only at H
    have A18 := am atC
    clear atC
    by_cases c19 : adY = true
    ·subst c19
     have H1 : (if ak0 = 0 then (if t139 = 0 then ((bF.f k ac9 (([0, 1] : List Int))).bind fun t159 => (if t159 = true then (if (aiS.length : Int) = 0 then ((aX.f 0 false).bind fun t160 => ((bP.f k 0 0 ([] : List (List (S23))) oK 7).bind fun nP => ((aJ.f 0 false nP.1 nP.2).bind fun aa3 => (if aa3 = true then ((aX.f 3 true).bind fun t164 => ((bV.f k 0 0 ([] : List (List (S23))) oK 100).bind fun mU => ((aJ.f 3 true mU.1 mU.2).bind fun t167 => (some t167)))) else (none))))) else (none)) else (none))) else (none)) else (none)) = some r := by rw [if_pos rfl] at H; exact H
     clear H
     have H := H1
     clear H1
     by_cases c20 : ak0 = 0
     ·rw [if_pos c20] at H
      have acY : (ak0 == 0) = true := beq_iff_eq.mpr c20
      have ayt : (ak0 != 0) = false := bne_eq_false_iff_eq.mpr c20
      clear c20
      by_cases c21 : t139 = 0
      ·rw [if_pos c21] at H
       have acZ : (t139 == 0) = true := beq_iff_eq.mpr c21
       have ayu : (t139 != 0) = false := bne_eq_false_iff_eq.mpr c21
       clear c21
       obtain ⟨ayv, ak2⟩ : ∃ y_ : List Int, y_ = (([0, 1] : List Int)) := ⟨_, rfl⟩
       replace H : ((bF.f k ac9 ayv).bind fun t159 => (if t159 = true then (if (aiS.length : Int) = 0 then ((aX.f 0 false).bind fun t160 => ((bP.f k 0 0 ([] : List (List (S23))) oK 7).bind fun nP => ((aJ.f 0 false nP.1 nP.2).bind fun aa3 => (if aa3 = true then ((aX.f 3 true).bind fun t164 => ((bV.f k 0 0 ([] : List (List (S23))) oK 100).bind fun mU => ((aJ.f 3 true mU.1 mU.2).bind fun t167 => (some t167)))) else (none))))) else (none)) else (none))) = some r := by first | (rw [ak2]; with_reducible exact H) | (have H2_ := (Option.bind_some _ _).symm.trans H; rw [ak2]; with_reducible exact H2_) | (have H2_ := (Option.bind_some _ _).symm.trans H; with_reducible exact H2_) | with_reducible exact H | (rw [ak2]; exact H) | exact H
       have atD := am ak2
       clear ak2
       replace H := Option.bind_eq_some_iff.mp H
       obtain ⟨t159, aAZ, H⟩ := H
       try dsimp only at H
       have A22 := am aAZ
       clear aAZ
       by_cases c23 : t159 = true
       ·subst c23
        have H1 : (if (aiS.length : Int) = 0 then ((aX.f 0 false).bind fun t160 => ((bP.f k 0 0 ([] : List (List (S23))) oK 7).bind fun nP => ((aJ.f 0 false nP.1 nP.2).bind fun aa3 => (if aa3 = true then ((aX.f 3 true).bind fun t164 => ((bV.f k 0 0 ([] : List (List (S23))) oK 100).bind fun mU => ((aJ.f 3 true mU.1 mU.2).bind fun t167 => (some t167)))) else (none))))) else (none)) = some r := by rw [if_pos rfl] at H; exact H
        clear H
        have H := H1
        clear H1
        by_cases c24 : (aiS.length : Int) = 0
        ·rw [if_pos c24] at H
         have ak3 : ((aiS.length : Int) == 0) = true := beq_iff_eq.mpr c24
         have aqP : ((aiS.length : Int) != 0) = false := bne_eq_false_iff_eq.mpr c24
         clear c24
         replace H := Option.bind_eq_some_iff.mp H
         obtain ⟨t160, atE, H⟩ := H
         try dsimp only at H
         have A25 := am atE
         clear atE
         replace H := Option.bind_eq_some_iff.mp H
         obtain ⟨⟨avr, t162⟩, atF, H⟩ := H
         try dsimp only at H
         have A26 := am atF
         clear atF
         replace H := Option.bind_eq_some_iff.mp H
         obtain ⟨aa3, anX, H⟩ := H
         try dsimp only at H
         have A27 := am anX
         clear anX
         by_cases c28 : aa3 = true
         ·subst c28
          have H1 : ((aX.f 3 true).bind fun t164 => ((bV.f k 0 0 ([] : List (List (S23))) oK 100).bind fun mU => ((aJ.f 3 true mU.1 mU.2).bind fun t167 => (some t167)))) = some r := by rw [if_pos rfl] at H; exact H
          clear H
          have H := H1
          clear H1
          replace H := Option.bind_eq_some_iff.mp H
          obtain ⟨t164, atG, H⟩ := H
          try dsimp only at H
          have A29 := am atG
          clear atG
          replace H := Option.bind_eq_some_iff.mp H
          obtain ⟨⟨avs, avt⟩, atd, H⟩ := H
          try dsimp only at H
          have A30 := am atd
          clear atd
          replace H := Option.bind_eq_some_iff.mp H
          obtain ⟨t167, atH, H⟩ := H
          try dsimp only at H
          have A31 := am atH
          clear atH
          obtain rfl := Option.some.inj H
          go_enter Try.func16, Try.ntmps16
          try go_wp2_with (first | ((with_reducible refine aC (f := 52) rfl ?_); refine bR (some 7) rfl rfl Try.func52 (by kernel_rfl) rfl #[] rfl ar ?_; (with_reducible refine (kW.calls  lV lZ lI lK _ A1.out).mono ?_); rintro e w32 ⟨aCb, aCc, rfl, ho0, ho1, hb⟩; refine ⟨_, rfl, ?_⟩; have iP := am (Kd.abv (Kd.qb (ok' := fun k_ => some k_ ≠ (aCc : Value).ownBlock) ho0 (fun k_ hk_ => hk_.2)) (bY (bl HB.out))); have iQ := am (Kd.abv (Kd.qb (ok' := fun k_ => some k_ ≠ (aCb : Value).ownBlock) ho1 (fun k_ hk_ => hk_.2)) (bY (bl HB.out))); replace HB := am (au (bl HB.out) hb); (try clear hb); (try clear hb2); (try clear hk); (try clear hi); (try clear ho0); (try clear ho1)) | ((with_reducible refine bq (N := 1) rfl ?_); (try (refine gH (by rfl) ?_; dsimp only)); refine bx 1 28 #[.int .i64 0, .int .i64 0, .slice none 0 0, .slice none 0 0] ?_; intro jg hg w33 dL hb; replace iP := am (Kd.d9 (Kd.xX (kn iP.out) jg (Nat.le_of_eq hg.symm)) hb); replace iQ := am (Kd.d9 (Kd.xX (kn iQ.out) jg (Nat.le_of_eq hg.symm)) hb); have dK := am (dL); have aCd := am ((bz hg HB.out : w.heap.size ≤ jg)); have nI := am ((bz hg HB.out : w.heap.size ≤ jg)); replace HB := am (au (bl HB.out) hb); clear hb dL hg; have af8 : w33.cell? ⟨jg, 0, none⟩ = some (.int .i64 0) := bc dK.out 0; have af9 : w33.cell? ⟨jg, 1, none⟩ = some (.int .i64 0) := bc dK.out 1; have aga : w33.cell? ⟨jg, 2, none⟩ = some (.slice none 0 0) := bc dK.out 2; have agb : w33.cell? ⟨jg, 3, none⟩ = some (.slice none 0 0) := bc dK.out 3; have agc := aj dK.out 0; have agd := aj dK.out 1; have agf := aj dK.out 2; have agh := aj dK.out 3; obtain ⟨qN, qO, ayw⟩ := Kd.aaz iP.out; subst ayw; obtain ⟨rA, rC, aCe⟩ := Kd.aaz iQ.out; subst aCe) | ((with_reducible refine bq (N := 9) rfl ?_); (try (refine gH (by rfl) ?_; dsimp only)); refine Kd.acO k23 _ 23 ?hg (N := 9) ?hd (xs := ([(⟨5, 6⟩ : S23)] : List (S23))) (inner := [.int .i64 5, .int .i64 6]) (ok := fun _ => True) (okp := fun _ => True) ?hr ?hp (fun _ hk => hk) trivial (Below.refl _ _) (Nat.le_refl _) (by simp) ?_; (case hd => rfl); (case hg => rfl); (case hr => first | (go_simp; done) | (go_simp; rfl)); (case hp => exact (kG.c2 (show Kd.M k23 _ _ _ (⟨5, 6⟩ : S23) [.int .i64 5, .int .i64 6] from (rP _ _ _ (⟨5, 6⟩ : S23) )) (kG.none _ _))); intro aDQ w37 aqQ hb hg_ qI; clear hg_ qI; (first | rw [← atx.out] at aqQ | (simp only [Int.reduceToNat] at aqQ; rw [← atx.out] at aqQ)); replace iP := am (Kd.lQ (by (with_reducible repeat (first | apply Kd.nX | apply Kd.nY | apply Kd.pz)); exact (Kd.qb (Kd.pX (p := ⟨jg, 3, none⟩) (Kd.pX (p := ⟨jg, 2, none⟩) (Kd.pX (p := ⟨jg, 1, none⟩) (Kd.pX (p := ⟨jg, 0, none⟩) (Kd.qb iP.out (fun k_ hk => (⟨hk, hk.2⟩ : _ ∧ k_ ≠ jg))) (fun _ hk => hk.2) (.int .i64 lV)) (fun _ hk => hk.2) (.int .i64 lZ)) (fun _ hk => hk.2) (.slice qN lI.length qO)) (fun _ hk => hk.2) (.slice rA lK.length rC)) (fun _ h_ => h_.1))) (Kd.jN aqQ) hb); replace iQ := am (Kd.lQ (by (with_reducible repeat (first | apply Kd.nX | apply Kd.nY | apply Kd.pz)); exact (Kd.qb (Kd.pX (p := ⟨jg, 3, none⟩) (Kd.pX (p := ⟨jg, 2, none⟩) (Kd.pX (p := ⟨jg, 1, none⟩) (Kd.pX (p := ⟨jg, 0, none⟩) (Kd.qb iQ.out (fun k_ hk => (⟨hk, hk.2⟩ : _ ∧ k_ ≠ jg))) (fun _ hk => hk.2) (.int .i64 lV)) (fun _ hk => hk.2) (.int .i64 lZ)) (fun _ hk => hk.2) (.slice qN lI.length qO)) (fun _ hk => hk.2) (.slice rA lK.length rC)) (fun _ h_ => h_.1))) (Kd.jN aqQ) hb); have aiT := am (Kd.jQ aqQ (bY (bl1 HB.out nI.out))); replace dK := am (ak (g := jg) (o := .cells #[.int .i64 lV, .int .i64 lZ, .slice qN lI.length qO, .slice rA lK.length rC] 28 (0, 0)) (by (with_reducible repeat (first | refine aM ?_ _ | refine aI ?_ | refine aA ?_ _)); refine bX (cs := #[.int .i64 lV, .int .i64 lZ, .slice qN lI.length qO, .slice none 0 0]) ?_ 3 _ rfl; (with_reducible repeat (first | refine aM ?_ _ | refine aI ?_ | refine aA ?_ _)); refine bX (cs := #[.int .i64 lV, .int .i64 lZ, .slice none 0 0, .slice none 0 0]) ?_ 2 _ rfl; (with_reducible repeat (first | refine aM ?_ _ | refine aI ?_ | refine aA ?_ _)); refine bX (cs := #[.int .i64 lV, .int .i64 0, .slice none 0 0, .slice none 0 0]) ?_ 1 _ rfl; (with_reducible repeat (first | refine aM ?_ _ | refine aI ?_ | refine aA ?_ _)); refine bX (cs := #[.int .i64 0, .int .i64 0, .slice none 0 0, .slice none 0 0]) ?_ 0 _ rfl; (with_reducible repeat (first | refine aM ?_ _ | refine aI ?_ | refine aA ?_ _)); exact dK.out) hb); replace HB := am (au (bl1 HB.out nI.out) hb); clear hb aqQ; obtain ⟨ayx, ayy, ayz⟩ := Kd.iW aiT.out; subst ayz) | ((with_reducible refine bq (N := 11) rfl ?_); (try (refine gH (by rfl) ?_; dsimp only)); refine Kd.aox k70 _ 70 ?hg (N' := 11) ?hd (xs := ([(⟨3, aqO⟩ : S70)] : List (S70))) (inner := [.int .i64 3, .slice ayx aqO.length ayy]) (ok := (fun k_ => some k_ ≠ (.slice qN lI.length qO : Value).ownBlock ∧ some k_ ≠ (.slice rA lK.length rC : Value).ownBlock ∧ k_ ≠ jg)) (okp := (fun k_ => some k_ ≠ (.slice qN lI.length qO : Value).ownBlock ∧ some k_ ≠ (.slice rA lK.length rC : Value).ownBlock ∧ k_ ≠ jg)) ?hr ?hp (fun _ hk => hk) ((show ∀ k_, w37.heap.size ≤ k_ → (fun k_ => some k_ ≠ (.slice qN lI.length qO : Value).ownBlock ∧ some k_ ≠ (.slice rA lK.length rC : Value).ownBlock ∧ k_ ≠ jg) k_ from fun k_ hk => ⟨Kd.fresh' (Kd.ajo (kn iP.out)) k_ hk, Kd.fresh' (Kd.ajo (kn iQ.out)) k_ hk, Kd.qV (g := jg) (o := .cells #[.int .i64 lV, .int .i64 lZ, .slice qN lI.length qO, .slice rA lK.length rC] 28 (0, 0)) (kp dK.out) k_ hk⟩) _ (Nat.le_refl _)) (Below.refl _ _) (Nat.le_refl _) (by simp) ?_; (case hd => rfl); (case hg => rfl); (case hr => first | (go_simp; done) | (go_simp; rfl)); (case hp => exact (kG.c2 (show Kd.FK k70 _ _ (⟨3, aqO⟩ : S70) [.int .i64 3, .slice ayx aqO.length ayy] from (aoz _ _ (⟨3, aqO⟩ : S70) (Kd.bS (Kd.lY (ok' := (fun k_ => some k_ ≠ (.slice qN lI.length qO : Value).ownBlock ∧ some k_ ≠ (.slice rA lK.length rC : Value).ownBlock ∧ k_ ≠ jg)) (Kd.adi (Kd.aa6 (Kd.aa6 (aiT.out) (Kd.adq iP.out) (by decide)) (Kd.adq iQ.out) (by decide)) dK.out (by decide)) (fun k_ hk => ⟨hk.1.1.2, ⟨hk.1.2, hk.2⟩⟩))).2.1 (Kd.R_F (Kd.lY (ok' := (fun k_ => some k_ ≠ (.slice qN lI.length qO : Value).ownBlock ∧ some k_ ≠ (.slice rA lK.length rC : Value).ownBlock ∧ k_ ≠ jg)) (Kd.adi (Kd.aa6 (Kd.aa6 (aiT.out) (Kd.adq iP.out) (by decide)) (Kd.adq iQ.out) (by decide)) dK.out (by decide)) (fun k_ hk => ⟨hk.1.1.2, ⟨hk.1.2, hk.2⟩⟩))))) (kG.none _ _))); intro aDR w40 aqR hb hg_ qI; have ak4 := am (Kd.lY (ok' := fun _ => True) (Kd.dO (kr aiT.out) hb) (fun _ _ => trivial)); clear hg_ qI; (first | rw [← aty.out] at aqR | (simp only [Int.reduceToNat] at aqR; rw [← aty.out] at aqR)); have n0_ := am (Kd.lQ (kn iP.out) (Kd.anG aqR) hb); have n1_ := am (Kd.lQ (kn iQ.out) (Kd.anG aqR) hb); have n2_ := am (Kd.abv aqR (bY (bl1 HB.out nI.out))); have n3_ := am (ak (g := jg) (o := .cells #[.int .i64 lV, .int .i64 lZ, .slice qN lI.length qO, .slice rA lK.length rC] 28 (0, 0)) (kp dK.out) hb); have n4_ := am (au (bl1 HB.out nI.out) hb); clear iP; clear iQ; clear dK; clear HB; clear aiT; have aiT := ak4; clear ak4; have iP := n0_; have iQ := n1_; have jM := n2_; have dK := n3_; have HB := n4_; clear n0_ n1_ n2_ n3_ n4_; clear hb aqR; obtain ⟨xE, xG, ayA⟩ := Kd.aaz jM.out; subst ayA) | ((with_reducible refine bq (N := 2) rfl ?_); (try (refine gH (by rfl) ?_; dsimp only)); refine bx 2 28 #[.int .i64 0, .int .i64 0, .slice none 0 0, .slice none 0 0] ?_; intro gL hg w43 dL hb; replace iP := am (Kd.d9 (Kd.xX (kn iP.out) gL (Nat.le_of_eq hg.symm)) hb); replace iQ := am (Kd.d9 (Kd.xX (kn iQ.out) gL (Nat.le_of_eq hg.symm)) hb); replace jM := am (Kd.d9 (Kd.xX (kn jM.out) gL (Nat.le_of_eq hg.symm)) hb); have dJ := am (dL); have aj3 := am ((bz1 hg HB.out nI.out : w.heap.size ≤ gL)); have lT := am ((bz1 hg HB.out nI.out : w.heap.size ≤ gL)); replace HB := am (au (bl1 HB.out nI.out) hb); have xH := am ((by rw [hg]; exact Nat.ne_of_lt (yY (g := jg) (o := .cells #[.int .i64 lV, .int .i64 lZ, .slice qN lI.length qO, .slice rA lK.length rC] 28 (0, 0)) (kp dK.out)) : jg ≠ gL)); have ak5 := am ((by rw [hg]; exact Nat.ne_of_gt (yY (g := jg) (o := .cells #[.int .i64 lV, .int .i64 lZ, .slice qN lI.length qO, .slice rA lK.length rC] 28 (0, 0)) (kp dK.out)) : gL ≠ jg)); replace dK := am (ak (g := jg) (o := .cells #[.int .i64 lV, .int .i64 lZ, .slice qN lI.length qO, .slice rA lK.length rC] 28 (0, 0)) (kp dK.out) hb); clear hb dL hg; have atm := ak5.out; have atn := xH.out; have aqS : w43.cell? ⟨gL, 0, none⟩ = some (.int .i64 0) := bc dJ.out 0; have aqT : w43.cell? ⟨gL, 1, none⟩ = some (.int .i64 0) := bc dJ.out 1; have aqU : w43.cell? ⟨gL, 2, none⟩ = some (.slice none 0 0) := bc dJ.out 2; have aqV : w43.cell? ⟨gL, 3, none⟩ = some (.slice none 0 0) := bc dJ.out 3; have aqW := aj dJ.out 0; have aqX := aj dJ.out 1; have aqY := aj dJ.out 2; have aqZ := aj dJ.out 3; have ayB : w43.cell? ⟨jg, 0, none⟩ = some (.int .i64 lV) := bc dK.out 0; have ayC : w43.cell? ⟨jg, 1, none⟩ = some (.int .i64 lZ) := bc dK.out 1; have ayD : w43.cell? ⟨jg, 2, none⟩ = some (.slice qN lI.length qO) := bc dK.out 2; have ayE : w43.cell? ⟨jg, 3, none⟩ = some (.slice rA lK.length rC) := bc dK.out 3; have ayF := aj dK.out 0; have ayG := aj dK.out 1; have ayH := aj dK.out 2; have ayI := aj dK.out 3) | ((with_reducible refine bq (N := 16) rfl ?_); (try (refine gH (by rfl) ?_; dsimp only)); refine Kd.acO k23 _ 23 ?hg (N := 16) ?hd (xs := ([(⟨3, 8⟩ : S23)] : List (S23))) (inner := [.int .i64 3, .int .i64 8]) (ok := fun _ => True) (okp := fun _ => True) ?hr ?hp (fun _ hk => hk) trivial (Below.refl _ _) (Nat.le_refl _) (by simp) ?_; (case hd => rfl); (case hg => rfl); (case hr => first | (go_simp; done) | (go_simp; rfl)); (case hp => exact (kG.c2 (show Kd.M k23 _ _ _ (⟨3, 8⟩ : S23) [.int .i64 3, .int .i64 8] from (rP _ _ _ (⟨3, 8⟩ : S23) )) (kG.none _ _))); intro v127 w47 anY hb hg_ qI; clear hg_ qI; (first | rw [← atA.out] at anY | (simp only [Int.reduceToNat] at anY; rw [← atA.out] at anY)); replace iP := am (Kd.lQ (by (with_reducible repeat (first | apply Kd.nX | apply Kd.nY | apply Kd.pz)); exact (Kd.qb (Kd.pX (p := ⟨gL, 3, none⟩) (Kd.pX (p := ⟨gL, 2, none⟩) (Kd.pX (p := ⟨gL, 1, none⟩) (Kd.pX (p := ⟨gL, 0, none⟩) (Kd.qb iP.out (fun k_ hk => (⟨hk, hk.2⟩ : _ ∧ k_ ≠ gL))) (fun _ hk => hk.2) (.int .i64 0)) (fun _ hk => hk.2) (.int .i64 0)) (fun _ hk => hk.2) (.slice none 0 0)) (fun _ hk => hk.2) (.slice xE oK.length xG)) (fun _ h_ => h_.1))) (Kd.jN anY) hb); replace iQ := am (Kd.lQ (by (with_reducible repeat (first | apply Kd.nX | apply Kd.nY | apply Kd.pz)); exact (Kd.qb (Kd.pX (p := ⟨gL, 3, none⟩) (Kd.pX (p := ⟨gL, 2, none⟩) (Kd.pX (p := ⟨gL, 1, none⟩) (Kd.pX (p := ⟨gL, 0, none⟩) (Kd.qb iQ.out (fun k_ hk => (⟨hk, hk.2⟩ : _ ∧ k_ ≠ gL))) (fun _ hk => hk.2) (.int .i64 0)) (fun _ hk => hk.2) (.int .i64 0)) (fun _ hk => hk.2) (.slice none 0 0)) (fun _ hk => hk.2) (.slice xE oK.length xG)) (fun _ h_ => h_.1))) (Kd.jN anY) hb); replace jM := am (Kd.lQ (by (with_reducible repeat (first | apply Kd.nX | apply Kd.nY | apply Kd.pz)); exact (Kd.qb (Kd.pX (p := ⟨gL, 3, none⟩) (Kd.pX (p := ⟨gL, 2, none⟩) (Kd.pX (p := ⟨gL, 1, none⟩) (Kd.pX (p := ⟨gL, 0, none⟩) (Kd.qb jM.out (fun k_ hk => (⟨hk, hk.2⟩ : _ ∧ k_ ≠ gL))) (fun _ hk => hk.2) (.int .i64 0)) (fun _ hk => hk.2) (.int .i64 0)) (fun _ hk => hk.2) (.slice none 0 0)) (fun _ hk => hk.2) (.slice xE oK.length xG)) (fun _ h_ => h_.1))) (Kd.jN anY) hb); have jZ := am (Kd.jQ anY (bY (bl2 HB.out nI.out lT.out))); replace dK := am (ak (g := jg) (o := .cells #[.int .i64 lV, .int .i64 lZ, .slice qN lI.length qO, .slice rA lK.length rC] 28 (0, 0)) (kf dK.out xH.out) hb); replace dJ := am (ak (g := gL) (o := .cells #[.int .i64 0, .int .i64 0, .slice none 0 0, .slice xE oK.length xG] 28 (0, 0)) (by (with_reducible repeat (first | refine aM ?_ _ | refine aI ?_ | refine aA ?_ _)); refine bX (cs := #[.int .i64 0, .int .i64 0, .slice none 0 0, .slice none 0 0]) ?_ 3 _ rfl; (with_reducible repeat (first | refine aM ?_ _ | refine aI ?_ | refine aA ?_ _)); refine bX (cs := #[.int .i64 0, .int .i64 0, .slice none 0 0, .slice none 0 0]) ?_ 2 _ rfl; (with_reducible repeat (first | refine aM ?_ _ | refine aI ?_ | refine aA ?_ _)); refine bX (cs := #[.int .i64 0, .int .i64 0, .slice none 0 0, .slice none 0 0]) ?_ 1 _ rfl; (with_reducible repeat (first | refine aM ?_ _ | refine aI ?_ | refine aA ?_ _)); refine bX (cs := #[.int .i64 0, .int .i64 0, .slice none 0 0, .slice none 0 0]) ?_ 0 _ rfl; (with_reducible repeat (first | refine aM ?_ _ | refine aI ?_ | refine aA ?_ _)); exact dJ.out) hb); replace HB := am (au (bl2 HB.out nI.out lT.out) hb); clear hb anY; obtain ⟨ayJ, ayK, aCf⟩ := Kd.iW jZ.out; subst aCf) | ((with_reducible refine aC (f := 14) rfl ?_); refine bR (some 17) rfl rfl Try.func14 (by kernel_rfl) rfl #[.agg #[.int .i64 lV, .int .i64 lZ, .slice qN lI.length qO, .slice rA lK.length rC], .slice ayJ atz.length ayK] rfl ar ?_; (with_reducible refine (dM.calls k lV lZ _ _ lI _ _ lK _ _ atz ac9 ak0 _ ?bH ?bI ?dG ?dI ?agy ?agz A2.out).mono ?_); (case bH => exact kc (Kd.fE iP.out).2.2); (case bI => exact (Kd.fE iP.out).2.1); (case dG => exact kc (Kd.fE iQ.out).2.2); (case dI => exact (Kd.fE iQ.out).2.1); (case agy => exact kc (Kd.bS jZ.out).2.2); (case agz => exact (Kd.bS jZ.out).2.1); rintro e w50 ⟨v130, rfl, ho0, hb⟩; refine ⟨_, rfl, ?_⟩; have kI := am (Kd.wT (Kd.j4 (ok' := fun k_ => some k_ ≠ (.slice qN lI.length qO : Value).ownBlock ∧ some k_ ≠ (.slice rA lK.length rC : Value).ownBlock ∧ some k_ ≠ (.slice xE oK.length xG : Value).ownBlock ∧ some k_ ≠ (.slice ayJ atz.length ayK : Value).ownBlock ∧ k_ ≠ jg ∧ k_ ≠ gL) ho0 (fun k_ hk_ => ⟨(Kd.fresh' (Kd.ajo (kn iP.out)) k_ hk_), (Kd.fresh' (Kd.ajo (kn iQ.out)) k_ hk_), (Kd.fresh' (Kd.ajo (kn jM.out)) k_ hk_), (Kd.fresh' (Kd.abm (kr jZ.out)) k_ hk_), (Kd.qV (g := jg) (o := .cells #[.int .i64 lV, .int .i64 lZ, .slice qN lI.length qO, .slice rA lK.length rC] 28 (0, 0)) (kp dK.out) k_ hk_), (Kd.qV (g := gL) (o := .cells #[.int .i64 0, .int .i64 0, .slice none 0 0, .slice xE oK.length xG] 28 (0, 0)) (kp dJ.out) k_ hk_)⟩)) (bY (bl2 HB.out nI.out lT.out))); replace iP := am (Kd.d9 (kn iP.out) hb); replace iQ := am (Kd.d9 (kn iQ.out) hb); replace jM := am (Kd.d9 (kn jM.out) hb); replace jZ := am (Kd.dO (kr jZ.out) hb); replace dK := am (ak (g := jg) (o := .cells #[.int .i64 lV, .int .i64 lZ, .slice qN lI.length qO, .slice rA lK.length rC] 28 (0, 0)) (kp dK.out) hb); replace dJ := am (ak (g := gL) (o := .cells #[.int .i64 0, .int .i64 0, .slice none 0 0, .slice xE oK.length xG] 28 (0, 0)) (kp dJ.out) hb); replace HB := am (au (bl2 HB.out nI.out lT.out) hb); (try clear hb); (try clear hb2); (try clear hk); (try clear hi); (try clear ho0); have akC : w50.cell? ⟨jg, 0, none⟩ = some (.int .i64 lV) := bc dK.out 0; have akD : w50.cell? ⟨jg, 1, none⟩ = some (.int .i64 lZ) := bc dK.out 1; have ayL : w50.cell? ⟨jg, 2, none⟩ = some (.slice qN lI.length qO) := bc dK.out 2; have ayM : w50.cell? ⟨jg, 3, none⟩ = some (.slice rA lK.length rC) := bc dK.out 3; have akE := aj dK.out 0; have akF := aj dK.out 1; have ayN := aj dK.out 2; have ayO := aj dK.out 3) | ((with_reducible refine bq (N := 23) rfl ?_); (try (refine gH (by rfl) ?_; dsimp only)); refine Kd.acO k23 _ 23 ?hg (N := 23) ?hd (xs := ([(⟨5, 6⟩ : S23)] : List (S23))) (inner := [.int .i64 5, .int .i64 6]) (ok := fun _ => True) (okp := fun _ => True) ?hr ?hp (fun _ hk => hk) trivial (Below.refl _ _) (Nat.le_refl _) (by simp) ?_; (case hd => rfl); (case hg => rfl); (case hr => first | (go_simp; done) | (go_simp; rfl)); (case hp => exact (kG.c2 (show Kd.M k23 _ _ _ (⟨5, 6⟩ : S23) [.int .i64 5, .int .i64 6] from (rP _ _ _ (⟨5, 6⟩ : S23) )) (kG.none _ _))); intro aDS w52 al9 hb hg_ qI; clear hg_ qI; (first | rw [← atB.out] at al9 | (simp only [Int.reduceToNat] at al9; rw [← atB.out] at al9)); replace iP := am (Kd.lQ (kn iP.out) (Kd.jN al9) hb); replace iQ := am (Kd.lQ (kn iQ.out) (Kd.jN al9) hb); replace jM := am (Kd.lQ (kn jM.out) (Kd.jN al9) hb); replace kI := am (Kd.vI (kv kI.out) (Kd.jN al9) hb); have kQ := am (Kd.jQ (Kd.qU al9 (Kd.abm (kr jZ.out))) (bY (bl2 HB.out nI.out lT.out))); replace jZ := am (Kd.lN (kr jZ.out) (Kd.jN al9) hb); replace dK := am (ak (g := jg) (o := .cells #[.int .i64 lV, .int .i64 lZ, .slice qN lI.length qO, .slice rA lK.length rC] 28 (0, 0)) (kp dK.out) hb); replace dJ := am (ak (g := gL) (o := .cells #[.int .i64 0, .int .i64 0, .slice none 0 0, .slice xE oK.length xG] 28 (0, 0)) (kp dJ.out) hb); replace HB := am (au (bl2 HB.out nI.out lT.out) hb); clear hb al9; obtain ⟨atI, atJ, ayP⟩ := Kd.iW kQ.out; subst ayP) | ((with_reducible refine aC (f := 14) rfl ?_); refine bR (some 24) rfl rfl Try.func14 (by kernel_rfl) rfl #[.agg #[.int .i64 lV, .int .i64 lZ, .slice qN lI.length qO, .slice rA lK.length rC], .slice atI avm.length atJ] rfl ar ?_; (with_reducible refine (dM.calls k lV lZ _ _ lI _ _ lK _ _ avm aiS t139 _ ?bH ?bI ?dG ?dI ?agy ?agz A3.out).mono ?_); (case bH => exact kc (Kd.fE iP.out).2.2); (case bI => exact (Kd.fE iP.out).2.1); (case dG => exact kc (Kd.fE iQ.out).2.2); (case dI => exact (Kd.fE iQ.out).2.1); (case agy => exact kc (Kd.bS kQ.out).2.2); (case agz => exact (Kd.bS kQ.out).2.1); rintro e w55 ⟨aDT, rfl, ho0, hb⟩; refine ⟨_, rfl, ?_⟩; replace kI := am (Kd.fJ (kv kI.out) hb); have lM := am (Kd.wT (Kd.j4 (ok' := fun k_ => some k_ ≠ (.slice qN lI.length qO : Value).ownBlock ∧ some k_ ≠ (.slice rA lK.length rC : Value).ownBlock ∧ some k_ ≠ (.slice xE oK.length xG : Value).ownBlock ∧ some k_ ≠ (.slice ayJ atz.length ayK : Value).ownBlock ∧ some k_ ≠ (.slice atI avm.length atJ : Value).ownBlock ∧ k_ ≠ jg ∧ k_ ≠ gL) ho0 (fun k_ hk_ => ⟨(Kd.fresh' (Kd.ajo (kn iP.out)) k_ hk_), (Kd.fresh' (Kd.ajo (kn iQ.out)) k_ hk_), (Kd.fresh' (Kd.ajo (kn jM.out)) k_ hk_), (Kd.fresh' (Kd.abm (kr jZ.out)) k_ hk_), (Kd.fresh' (Kd.abm (kr kQ.out)) k_ hk_), (Kd.qV (g := jg) (o := .cells #[.int .i64 lV, .int .i64 lZ, .slice qN lI.length qO, .slice rA lK.length rC] 28 (0, 0)) (kp dK.out) k_ hk_), (Kd.qV (g := gL) (o := .cells #[.int .i64 0, .int .i64 0, .slice none 0 0, .slice xE oK.length xG] 28 (0, 0)) (kp dJ.out) k_ hk_)⟩)) (bY (bl2 HB.out nI.out lT.out))); replace iP := am (Kd.d9 (kn iP.out) hb); replace iQ := am (Kd.d9 (kn iQ.out) hb); replace jM := am (Kd.d9 (kn jM.out) hb); replace jZ := am (Kd.dO (kr jZ.out) hb); replace kQ := am (Kd.dO (kr kQ.out) hb); replace dK := am (ak (g := jg) (o := .cells #[.int .i64 lV, .int .i64 lZ, .slice qN lI.length qO, .slice rA lK.length rC] 28 (0, 0)) (kp dK.out) hb); replace dJ := am (ak (g := gL) (o := .cells #[.int .i64 0, .int .i64 0, .slice none 0 0, .slice xE oK.length xG] 28 (0, 0)) (kp dJ.out) hb); replace HB := am (au (bl2 HB.out nI.out lT.out) hb); (try clear hb); (try clear hb2); (try clear hk); (try clear hi); (try clear ho0)))
          replace iP := am (Kd.pz iP.out)
          replace iQ := am (Kd.pz iQ.out)
          replace jM := am (Kd.pz jM.out)
          replace jZ := am (Kd.qR jZ.out)
          replace kI := am (Kd.nL kI.out)
          replace kQ := am (Kd.qR kQ.out)
          replace lM := am (Kd.nL lM.out)
          replace dK := am (aI dK.out)
          replace dJ := am (aI dJ.out)
          replace HB := am (dx HB.out)
          refine nW (n := 65) (S := fun w' => w'.cell? ⟨jg, 0, none⟩ = some (.int .i64 lV) ∧ w'.cell? ⟨jg, 1, none⟩ = some (.int .i64 lZ) ∧ w'.cell? ⟨jg, 2, none⟩ = some (.slice qN lI.length qO) ∧ w'.cell? ⟨jg, 3, none⟩ = some (.slice rA lK.length rC) ∧ w'.cell? ⟨gL, 0, none⟩ = some (.int .i64 0) ∧ w'.cell? ⟨gL, 1, none⟩ = some (.int .i64 0) ∧ w'.cell? ⟨gL, 2, none⟩ = some (.slice none 0 0) ∧ w'.cell? ⟨gL, 3, none⟩ = some (.slice xE oK.length xG)) (ds := []) (rs false [65]) (by kernel_rfl) rfl rfl ⟨bc dK.out 0, bc dK.out 1, bc dK.out 2, bc dK.out 3, bc dJ.out 0, bc dJ.out 1, bc dJ.out 2, bc dJ.out 3⟩ (fun hHeld => ?_); refine ji aY.aCa aY.ays (fun HT_ HW_ => ?_)
          generalize w55.drew = w56 at iP iQ jM jZ kI kQ lM dK dJ HB hHeld ⊢
          refine tx 1 28 (rs false [1, 1, 63]) HT_.out HW_.out hHeld ?_
          refine oZ (i := 0) (N := some 27) (rs true [2, 63]) rfl rfl (gM HT_.out (by kernel_rfl)) (by decide) (fun K hK => ?_)
          refine kg Try.func20 (by kernel_rfl) rfl #[.int .i64 1, .bool true] (by rfl) rfl rfl ar ?_
          with_reducible refine (aX.calls 1 true aqN _ A4.out).mono ?_
          rintro e w57 ⟨agA, agB, rfl, hI, hb⟩
          have HI := am hI
          clear hI
          refine ⟨_, rfl, ?_⟩
          replace iP := am (Kd.d9 (kn iP.out) hb)
          replace iQ := am (Kd.d9 (kn iQ.out) hb)
          replace jM := am (Kd.d9 (kn jM.out) hb)
          replace jZ := am (Kd.dO (kr jZ.out) hb)
          replace kI := am (Kd.fJ (kv kI.out) hb)
          replace kQ := am (Kd.dO (kr kQ.out) hb)
          replace lM := am (Kd.fJ (kv lM.out) hb)
          replace dK := am (ak (g := jg) (o := .cells #[.int .i64 lV, .int .i64 lZ, .slice qN lI.length qO, .slice rA lK.length rC] 28 (0, 0)) (kp dK.out) hb)
          replace dJ := am (ak (g := gL) (o := .cells #[.int .i64 0, .int .i64 0, .slice none 0 0, .slice xE oK.length xG] 28 (0, 0)) (kp dJ.out) hb)
          replace HB := am (au (bl2 HB.out nI.out lT.out) hb)
          (try clear hb)
          refine hK.out _ _ ⟨bc dK.out 0, bc dK.out 1, bc dK.out 2, bc dK.out 3, bc dJ.out 0, bc dJ.out 1, bc dJ.out 2, bc dJ.out 3⟩ (fun hHeld => ?_)
          clear hK K
          refine nx 27 ?_
          refine oZ (i := 2) (N := some 29) (rs true [3, 62]) rfl rfl (gM HT_.out (by kernel_rfl)) (by decide) (fun K hK => ?_)
          refine kg Try.func21 (by kernel_rfl) rfl #[.agg #[.int .i64 lV, .int .i64 lZ, .slice qN lI.length qO, .slice rA lK.length rC], .int .i64 9] (by rfl) rfl rfl ar ?_
          with_reducible refine (jr.calls k lV lZ _ _ lI _ _ lK 9 t141 avn _ ?bH ?bI ?dG ?dI A5.out).mono ?_
          (case bH => exact kc (Kd.fE iP.out).2.2)
          (case bI => exact (Kd.fE iP.out).2.1)
          (case dG => exact kc (Kd.fE iQ.out).2.2)
          (case dI => exact (Kd.fE iQ.out).2.1)
          rintro e w58 ⟨rfl, hb⟩
          have nI_ := am (HI.out.below hb)
          clear HI
          have HI := nI_
          clear nI_
          refine ⟨_, rfl, ?_⟩
          replace iP := am (Kd.d9 (kn iP.out) hb)
          replace iQ := am (Kd.d9 (kn iQ.out) hb)
          replace jM := am (Kd.d9 (kn jM.out) hb)
          replace jZ := am (Kd.dO (kr jZ.out) hb)
          replace kI := am (Kd.fJ (kv kI.out) hb)
          replace kQ := am (Kd.dO (kr kQ.out) hb)
          replace lM := am (Kd.fJ (kv lM.out) hb)
          replace dK := am (ak (g := jg) (o := .cells #[.int .i64 lV, .int .i64 lZ, .slice qN lI.length qO, .slice rA lK.length rC] 28 (0, 0)) (kp dK.out) hb)
          replace dJ := am (ak (g := gL) (o := .cells #[.int .i64 0, .int .i64 0, .slice none 0 0, .slice xE oK.length xG] 28 (0, 0)) (kp dJ.out) hb)
          replace HB := am (au (bl2 HB.out nI.out lT.out) hb)
          (try clear hb)
          refine hK.out _ _ ⟨bc dK.out 0, bc dK.out 1, bc dK.out 2, bc dK.out 3, bc dJ.out 0, bc dJ.out 1, bc dJ.out 2, bc dJ.out 3⟩ (fun hHeld => ?_)
          clear hK K
          refine nx 29 ?_
          refine px 3 30 (rs true [4, 61]) HT_.out ?_
          refine px 4 31 (rs true [5, 60]) HT_.out ?_
          refine oZ (i := 5) (N := some 32) (rs true [6, 59]) rfl rfl (gM HT_.out (by kernel_rfl)) (by decide) (fun K hK => ?_)
          refine zx Try.func57 (by kernel_rfl) rfl #[.int .i64 t141, .bool avn] #[.pointer (some ⟨agA, 0, none⟩), .pointer (some ⟨agB, 0, none⟩)] #[.int .i64 t141, .bool avn, .pointer (some ⟨agA, 0, none⟩), .pointer (some ⟨agB, 0, none⟩)] rfl (by rfl) rfl rfl rfl ar ?_
          with_reducible refine (aJ.calls 1 true t141 avn true _ A6.out agA agB HI.out).mono ?_
          rintro e w59 ⟨rfl, hb⟩
          clear HI
          refine ⟨_, rfl, ?_⟩
          replace iP := am (Kd.d9 (kn iP.out) hb)
          replace iQ := am (Kd.d9 (kn iQ.out) hb)
          replace jM := am (Kd.d9 (kn jM.out) hb)
          replace jZ := am (Kd.dO (kr jZ.out) hb)
          replace kI := am (Kd.fJ (kv kI.out) hb)
          replace kQ := am (Kd.dO (kr kQ.out) hb)
          replace lM := am (Kd.fJ (kv lM.out) hb)
          replace dK := am (ak (g := jg) (o := .cells #[.int .i64 lV, .int .i64 lZ, .slice qN lI.length qO, .slice rA lK.length rC] 28 (0, 0)) (kp dK.out) hb)
          replace dJ := am (ak (g := gL) (o := .cells #[.int .i64 0, .int .i64 0, .slice none 0 0, .slice xE oK.length xG] 28 (0, 0)) (kp dJ.out) hb)
          replace HB := am (au (bl2 HB.out nI.out lT.out) hb)
          (try clear hb)
          refine hK.out _ _ ⟨bc dK.out 0, bc dK.out 1, bc dK.out 2, bc dK.out 3, bc dJ.out 0, bc dJ.out 1, bc dJ.out 2, bc dJ.out 3⟩ (fun hHeld => ?_)
          clear hK K
          refine nx 32 ?_
          refine px 6 33 (rs true [7, 58]) HT_.out ?_
          refine tx 8 35 (rs true [7, 1, 1, 56]) HT_.out HW_.out hHeld ?_
          refine oZ (i := 7) (N := some 34) (rs true [9, 56]) rfl rfl (gM HT_.out (by kernel_rfl)) (by decide) (fun K hK => ?_)
          refine kg Try.func20 (by kernel_rfl) rfl #[.int .i64 0, .bool false] (by rfl) rfl rfl ar ?_
          with_reducible refine (aX.calls 0 false anW _ A8.out).mono ?_
          rintro e w60 ⟨agC, agD, rfl, hI, hb⟩
          have HI := am hI
          clear hI
          refine ⟨_, rfl, ?_⟩
          replace iP := am (Kd.d9 (kn iP.out) hb)
          replace iQ := am (Kd.d9 (kn iQ.out) hb)
          replace jM := am (Kd.d9 (kn jM.out) hb)
          replace jZ := am (Kd.dO (kr jZ.out) hb)
          replace kI := am (Kd.fJ (kv kI.out) hb)
          replace kQ := am (Kd.dO (kr kQ.out) hb)
          replace lM := am (Kd.fJ (kv lM.out) hb)
          replace dK := am (ak (g := jg) (o := .cells #[.int .i64 lV, .int .i64 lZ, .slice qN lI.length qO, .slice rA lK.length rC] 28 (0, 0)) (kp dK.out) hb)
          replace dJ := am (ak (g := gL) (o := .cells #[.int .i64 0, .int .i64 0, .slice none 0 0, .slice xE oK.length xG] 28 (0, 0)) (kp dJ.out) hb)
          replace HB := am (au (bl2 HB.out nI.out lT.out) hb)
          (try clear hb)
          refine hK.out _ _ ⟨bc dK.out 0, bc dK.out 1, bc dK.out 2, bc dK.out 3, bc dJ.out 0, bc dJ.out 1, bc dJ.out 2, bc dJ.out 3⟩ (fun hHeld => ?_)
          clear hK K
          refine nx 34 ?_
          refine oZ (i := 9) (N := some 36) (rs true [10, 55]) rfl rfl (gM HT_.out (by kernel_rfl)) (by decide) (fun K hK => ?_)
          refine kg Try.func21 (by kernel_rfl) rfl #[.agg #[.int .i64 lV, .int .i64 lZ, .slice qN lI.length qO, .slice rA lK.length rC], .int .i64 5] (by rfl) rfl rfl ar ?_
          with_reducible refine (jr.calls k lV lZ _ _ lI _ _ lK 5 t145 t146 _ ?bH ?bI ?dG ?dI A9.out).mono ?_
          (case bH => exact kc (Kd.fE iP.out).2.2)
          (case bI => exact (Kd.fE iP.out).2.1)
          (case dG => exact kc (Kd.fE iQ.out).2.2)
          (case dI => exact (Kd.fE iQ.out).2.1)
          rintro e w61 ⟨rfl, hb⟩
          have nI_ := am (HI.out.below hb)
          clear HI
          have HI := nI_
          clear nI_
          refine ⟨_, rfl, ?_⟩
          replace iP := am (Kd.d9 (kn iP.out) hb)
          replace iQ := am (Kd.d9 (kn iQ.out) hb)
          replace jM := am (Kd.d9 (kn jM.out) hb)
          replace jZ := am (Kd.dO (kr jZ.out) hb)
          replace kI := am (Kd.fJ (kv kI.out) hb)
          replace kQ := am (Kd.dO (kr kQ.out) hb)
          replace lM := am (Kd.fJ (kv lM.out) hb)
          replace dK := am (ak (g := jg) (o := .cells #[.int .i64 lV, .int .i64 lZ, .slice qN lI.length qO, .slice rA lK.length rC] 28 (0, 0)) (kp dK.out) hb)
          replace dJ := am (ak (g := gL) (o := .cells #[.int .i64 0, .int .i64 0, .slice none 0 0, .slice xE oK.length xG] 28 (0, 0)) (kp dJ.out) hb)
          replace HB := am (au (bl2 HB.out nI.out lT.out) hb)
          (try clear hb)
          refine hK.out _ _ ⟨bc dK.out 0, bc dK.out 1, bc dK.out 2, bc dK.out 3, bc dJ.out 0, bc dJ.out 1, bc dJ.out 2, bc dJ.out 3⟩ (fun hHeld => ?_)
          clear hK K
          refine nx 36 ?_
          refine px 10 37 (rs true [11, 54]) HT_.out ?_
          refine px 11 38 (rs true [12, 53]) HT_.out ?_
          refine oZ (i := 12) (N := some 39) (rs true [13, 52]) rfl rfl (gM HT_.out (by kernel_rfl)) (by decide) (fun K hK => ?_)
          refine zx Try.func57 (by kernel_rfl) rfl #[.int .i64 t145, .bool t146] #[.pointer (some ⟨agC, 0, none⟩), .pointer (some ⟨agD, 0, none⟩)] #[.int .i64 t145, .bool t146, .pointer (some ⟨agC, 0, none⟩), .pointer (some ⟨agD, 0, none⟩)] rfl (by rfl) rfl rfl rfl ar ?_
          with_reducible refine (aJ.calls 0 false t145 t146 true _ A10.out agC agD HI.out).mono ?_
          rintro e w62 ⟨rfl, hb⟩
          clear HI
          refine ⟨_, rfl, ?_⟩
          replace iP := am (Kd.d9 (kn iP.out) hb)
          replace iQ := am (Kd.d9 (kn iQ.out) hb)
          replace jM := am (Kd.d9 (kn jM.out) hb)
          replace jZ := am (Kd.dO (kr jZ.out) hb)
          replace kI := am (Kd.fJ (kv kI.out) hb)
          replace kQ := am (Kd.dO (kr kQ.out) hb)
          replace lM := am (Kd.fJ (kv lM.out) hb)
          replace dK := am (ak (g := jg) (o := .cells #[.int .i64 lV, .int .i64 lZ, .slice qN lI.length qO, .slice rA lK.length rC] 28 (0, 0)) (kp dK.out) hb)
          replace dJ := am (ak (g := gL) (o := .cells #[.int .i64 0, .int .i64 0, .slice none 0 0, .slice xE oK.length xG] 28 (0, 0)) (kp dJ.out) hb)
          replace HB := am (au (bl2 HB.out nI.out lT.out) hb)
          (try clear hb)
          refine hK.out _ _ ⟨bc dK.out 0, bc dK.out 1, bc dK.out 2, bc dK.out 3, bc dJ.out 0, bc dJ.out 1, bc dJ.out 2, bc dJ.out 3⟩ (fun hHeld => ?_)
          clear hK K
          refine nx 39 ?_
          refine px 13 40 (rs true [14, 51]) HT_.out ?_
          refine px 14 41 (rs true [15, 50]) HT_.out ?_
          refine tx 16 43 (rs true [15, 1, 1, 48]) HT_.out HW_.out hHeld ?_
          refine oZ (i := 15) (N := some 42) (rs true [17, 48]) rfl rfl (gM HT_.out (by kernel_rfl)) (by decide) (fun K hK => ?_)
          refine kg Try.func20 (by kernel_rfl) rfl #[.int .i64 1, .bool true] (by rfl) rfl rfl ar ?_
          with_reducible refine (aX.calls 1 true t148 _ A12.out).mono ?_
          rintro e w63 ⟨agE, agF, rfl, hI, hb⟩
          have HI := am hI
          clear hI
          refine ⟨_, rfl, ?_⟩
          replace iP := am (Kd.d9 (kn iP.out) hb)
          replace iQ := am (Kd.d9 (kn iQ.out) hb)
          replace jM := am (Kd.d9 (kn jM.out) hb)
          replace jZ := am (Kd.dO (kr jZ.out) hb)
          replace kI := am (Kd.fJ (kv kI.out) hb)
          replace kQ := am (Kd.dO (kr kQ.out) hb)
          replace lM := am (Kd.fJ (kv lM.out) hb)
          replace dK := am (ak (g := jg) (o := .cells #[.int .i64 lV, .int .i64 lZ, .slice qN lI.length qO, .slice rA lK.length rC] 28 (0, 0)) (kp dK.out) hb)
          replace dJ := am (ak (g := gL) (o := .cells #[.int .i64 0, .int .i64 0, .slice none 0 0, .slice xE oK.length xG] 28 (0, 0)) (kp dJ.out) hb)
          replace HB := am (au (bl2 HB.out nI.out lT.out) hb)
          (try clear hb)
          refine hK.out _ _ ⟨bc dK.out 0, bc dK.out 1, bc dK.out 2, bc dK.out 3, bc dJ.out 0, bc dJ.out 1, bc dJ.out 2, bc dJ.out 3⟩ (fun hHeld => ?_)
          clear hK K
          refine nx 42 ?_
          refine oZ (i := 17) (N := some 44) (rs true [18, 47]) rfl rfl (gM HT_.out (by kernel_rfl)) (by decide) (fun K hK => ?_)
          refine kg Try.func22 (by kernel_rfl) rfl #[.agg #[.int .i64 lV, .int .i64 lZ, .slice qN lI.length qO, .slice rA lK.length rC], .int .i64 5] (by rfl) rfl rfl ar ?_
          with_reducible refine (bP.calls k lV lZ _ _ lI _ _ lK 5 avo avp _ ?bH ?bI ?dG ?dI A13.out).mono ?_
          (case bH => exact kc (Kd.fE iP.out).2.2)
          (case bI => exact (Kd.fE iP.out).2.1)
          (case dG => exact kc (Kd.fE iQ.out).2.2)
          (case dI => exact (Kd.fE iQ.out).2.1)
          rintro e w64 ⟨rfl, hb⟩
          have nI_ := am (HI.out.below hb)
          clear HI
          have HI := nI_
          clear nI_
          refine ⟨_, rfl, ?_⟩
          replace iP := am (Kd.d9 (kn iP.out) hb)
          replace iQ := am (Kd.d9 (kn iQ.out) hb)
          replace jM := am (Kd.d9 (kn jM.out) hb)
          replace jZ := am (Kd.dO (kr jZ.out) hb)
          replace kI := am (Kd.fJ (kv kI.out) hb)
          replace kQ := am (Kd.dO (kr kQ.out) hb)
          replace lM := am (Kd.fJ (kv lM.out) hb)
          replace dK := am (ak (g := jg) (o := .cells #[.int .i64 lV, .int .i64 lZ, .slice qN lI.length qO, .slice rA lK.length rC] 28 (0, 0)) (kp dK.out) hb)
          replace dJ := am (ak (g := gL) (o := .cells #[.int .i64 0, .int .i64 0, .slice none 0 0, .slice xE oK.length xG] 28 (0, 0)) (kp dJ.out) hb)
          replace HB := am (au (bl2 HB.out nI.out lT.out) hb)
          (try clear hb)
          refine hK.out _ _ ⟨bc dK.out 0, bc dK.out 1, bc dK.out 2, bc dK.out 3, bc dJ.out 0, bc dJ.out 1, bc dJ.out 2, bc dJ.out 3⟩ (fun hHeld => ?_)
          clear hK K
          refine nx 44 ?_
          refine px 18 45 (rs true [19, 46]) HT_.out ?_
          refine px 19 46 (rs true [20, 45]) HT_.out ?_
          refine oZ (i := 20) (N := some 47) (rs true [21, 44]) rfl rfl (gM HT_.out (by kernel_rfl)) (by decide) (fun K hK => ?_)
          refine zx Try.func57 (by kernel_rfl) rfl #[.int .i64 avo, .bool avp] #[.pointer (some ⟨agE, 0, none⟩), .pointer (some ⟨agF, 0, none⟩)] #[.int .i64 avo, .bool avp, .pointer (some ⟨agE, 0, none⟩), .pointer (some ⟨agF, 0, none⟩)] rfl (by rfl) rfl rfl rfl ar ?_
          with_reducible refine (aJ.calls 1 true avo avp true _ A14.out agE agF HI.out).mono ?_
          rintro e w65 ⟨rfl, hb⟩
          clear HI
          refine ⟨_, rfl, ?_⟩
          replace iP := am (Kd.d9 (kn iP.out) hb)
          replace iQ := am (Kd.d9 (kn iQ.out) hb)
          replace jM := am (Kd.d9 (kn jM.out) hb)
          replace jZ := am (Kd.dO (kr jZ.out) hb)
          replace kI := am (Kd.fJ (kv kI.out) hb)
          replace kQ := am (Kd.dO (kr kQ.out) hb)
          replace lM := am (Kd.fJ (kv lM.out) hb)
          replace dK := am (ak (g := jg) (o := .cells #[.int .i64 lV, .int .i64 lZ, .slice qN lI.length qO, .slice rA lK.length rC] 28 (0, 0)) (kp dK.out) hb)
          replace dJ := am (ak (g := gL) (o := .cells #[.int .i64 0, .int .i64 0, .slice none 0 0, .slice xE oK.length xG] 28 (0, 0)) (kp dJ.out) hb)
          replace HB := am (au (bl2 HB.out nI.out lT.out) hb)
          (try clear hb)
          refine hK.out _ _ ⟨bc dK.out 0, bc dK.out 1, bc dK.out 2, bc dK.out 3, bc dJ.out 0, bc dJ.out 1, bc dJ.out 2, bc dJ.out 3⟩ (fun hHeld => ?_)
          clear hK K
          refine nx 47 ?_
          refine px 21 48 (rs true [22, 43]) HT_.out ?_
          refine px 22 49 (rs true [23, 42]) HT_.out ?_
          refine tx 24 51 (rs true [23, 1, 1, 40]) HT_.out HW_.out hHeld ?_
          refine oZ (i := 23) (N := some 50) (rs true [25, 40]) rfl rfl (gM HT_.out (by kernel_rfl)) (by decide) (fun K hK => ?_)
          refine kg Try.func20 (by kernel_rfl) rfl #[.int .i64 0, .bool true] (by rfl) rfl rfl ar ?_
          with_reducible refine (aX.calls 0 true t152 _ A16.out).mono ?_
          rintro e w66 ⟨agG, agH, rfl, hI, hb⟩
          have HI := am hI
          clear hI
          refine ⟨_, rfl, ?_⟩
          replace iP := am (Kd.d9 (kn iP.out) hb)
          replace iQ := am (Kd.d9 (kn iQ.out) hb)
          replace jM := am (Kd.d9 (kn jM.out) hb)
          replace jZ := am (Kd.dO (kr jZ.out) hb)
          replace kI := am (Kd.fJ (kv kI.out) hb)
          replace kQ := am (Kd.dO (kr kQ.out) hb)
          replace lM := am (Kd.fJ (kv lM.out) hb)
          replace dK := am (ak (g := jg) (o := .cells #[.int .i64 lV, .int .i64 lZ, .slice qN lI.length qO, .slice rA lK.length rC] 28 (0, 0)) (kp dK.out) hb)
          replace dJ := am (ak (g := gL) (o := .cells #[.int .i64 0, .int .i64 0, .slice none 0 0, .slice xE oK.length xG] 28 (0, 0)) (kp dJ.out) hb)
          replace HB := am (au (bl2 HB.out nI.out lT.out) hb)
          (try clear hb)
          refine hK.out _ _ ⟨bc dK.out 0, bc dK.out 1, bc dK.out 2, bc dK.out 3, bc dJ.out 0, bc dJ.out 1, bc dJ.out 2, bc dJ.out 3⟩ (fun hHeld => ?_)
          clear hK K
          refine nx 50 ?_
          refine oZ (i := 25) (N := some 52) (rs true [26, 39]) rfl rfl (gM HT_.out (by kernel_rfl)) (by decide) (fun K hK => ?_)
          refine kg Try.func23 (by kernel_rfl) rfl #[.agg #[.int .i64 lV, .int .i64 lZ, .slice qN lI.length qO, .slice rA lK.length rC], .int .i64 5] (by rfl) rfl rfl ar ?_
          with_reducible refine (bV.calls k lV lZ _ _ lI _ _ lK 5 avq t154 _ ?bH ?bI ?dG ?dI A17.out).mono ?_
          (case bH => exact kc (Kd.fE iP.out).2.2)
          (case bI => exact (Kd.fE iP.out).2.1)
          (case dG => exact kc (Kd.fE iQ.out).2.2)
          (case dI => exact (Kd.fE iQ.out).2.1)
          rintro e w67 ⟨rfl, hb⟩
          have nI_ := am (HI.out.below hb)
          clear HI
          have HI := nI_
          clear nI_
          refine ⟨_, rfl, ?_⟩
          replace iP := am (Kd.d9 (kn iP.out) hb)
          replace iQ := am (Kd.d9 (kn iQ.out) hb)
          replace jM := am (Kd.d9 (kn jM.out) hb)
          replace jZ := am (Kd.dO (kr jZ.out) hb)
          replace kI := am (Kd.fJ (kv kI.out) hb)
          replace kQ := am (Kd.dO (kr kQ.out) hb)
          replace lM := am (Kd.fJ (kv lM.out) hb)
          replace dK := am (ak (g := jg) (o := .cells #[.int .i64 lV, .int .i64 lZ, .slice qN lI.length qO, .slice rA lK.length rC] 28 (0, 0)) (kp dK.out) hb)
          replace dJ := am (ak (g := gL) (o := .cells #[.int .i64 0, .int .i64 0, .slice none 0 0, .slice xE oK.length xG] 28 (0, 0)) (kp dJ.out) hb)
          replace HB := am (au (bl2 HB.out nI.out lT.out) hb)
          (try clear hb)
          refine hK.out _ _ ⟨bc dK.out 0, bc dK.out 1, bc dK.out 2, bc dK.out 3, bc dJ.out 0, bc dJ.out 1, bc dJ.out 2, bc dJ.out 3⟩ (fun hHeld => ?_)
          clear hK K
          refine nx 52 ?_
          refine px 26 53 (rs true [27, 38]) HT_.out ?_
          refine px 27 54 (rs true [28, 37]) HT_.out ?_
          refine oZ (i := 28) (N := some 55) (rs true [29, 36]) rfl rfl (gM HT_.out (by kernel_rfl)) (by decide) (fun K hK => ?_)
          refine zx Try.func57 (by kernel_rfl) rfl #[.int .i64 avq, .bool t154] #[.pointer (some ⟨agG, 0, none⟩), .pointer (some ⟨agH, 0, none⟩)] #[.int .i64 avq, .bool t154, .pointer (some ⟨agG, 0, none⟩), .pointer (some ⟨agH, 0, none⟩)] rfl (by rfl) rfl rfl rfl ar ?_
          with_reducible refine (aJ.calls 0 true avq t154 true _ A18.out agG agH HI.out).mono ?_
          rintro e w68 ⟨rfl, hb⟩
          clear HI
          refine ⟨_, rfl, ?_⟩
          replace iP := am (Kd.d9 (kn iP.out) hb)
          replace iQ := am (Kd.d9 (kn iQ.out) hb)
          replace jM := am (Kd.d9 (kn jM.out) hb)
          replace jZ := am (Kd.dO (kr jZ.out) hb)
          replace kI := am (Kd.fJ (kv kI.out) hb)
          replace kQ := am (Kd.dO (kr kQ.out) hb)
          replace lM := am (Kd.fJ (kv lM.out) hb)
          replace dK := am (ak (g := jg) (o := .cells #[.int .i64 lV, .int .i64 lZ, .slice qN lI.length qO, .slice rA lK.length rC] 28 (0, 0)) (kp dK.out) hb)
          replace dJ := am (ak (g := gL) (o := .cells #[.int .i64 0, .int .i64 0, .slice none 0 0, .slice xE oK.length xG] 28 (0, 0)) (kp dJ.out) hb)
          replace HB := am (au (bl2 HB.out nI.out lT.out) hb)
          (try clear hb)
          refine hK.out _ _ ⟨bc dK.out 0, bc dK.out 1, bc dK.out 2, bc dK.out 3, bc dJ.out 0, bc dJ.out 1, bc dJ.out 2, bc dJ.out 3⟩ (fun hHeld => ?_)
          clear hK K
          refine nx 55 ?_
          refine px 29 56 (rs true [30, 35]) HT_.out ?_
          refine px 30 57 (rs true [31, 34]) HT_.out ?_
          refine px 31 58 (rs true [32, 33]) HT_.out ?_
          refine px 32 59 (rs true [33, 32]) HT_.out ?_
          refine px 33 60 (rs true [34, 31]) HT_.out ?_
          refine px 34 61 (rs true [35, 30]) HT_.out ?_
          refine px 35 62 (rs true [36, 29]) HT_.out ?_
          refine px 36 63 (rs true [37, 28]) HT_.out ?_
          refine px 37 64 (rs true [38, 27]) HT_.out ?_
          refine px 38 65 (rs true [39, 26]) HT_.out ?_
          refine px 39 66 (rs true [40, 25]) HT_.out ?_
          refine oZ (i := 40) (N := some 67) (rs true [41, 24]) rfl rfl (gM HT_.out (by kernel_rfl)) (by decide) (fun K hK => ?_)
          refine Kd.aiC (Kd.int .i64) _ 3 ?hg (N := 67) ?hd (xs := ([0, 1] : List Int)) (inner := [.int .i64 0, .int .i64 1]) (ok := fun _ => True) (okp := fun _ => True) ?hr ?hp (fun _ hk => hk) trivial (Below.refl _ _) (Nat.le_refl _) (by simp) ?_; (case hd => rfl); (case hg => rfl); (case hr => first | (go_simp; done) | (go_simp; rfl)); (case hp => exact (kG.one (show Kd.M (Kd.int .i64) _ _ _ 0 [.int .i64 0] from rfl) (kG.one (show Kd.M (Kd.int .i64) _ _ _ 1 [.int .i64 1] from rfl) (kG.none _ _))))
          intro v157 w69 ama hb hg_ qI
          clear hg_ qI
          (first | rw [← atD.out] at ama | (simp only [Int.reduceToNat] at ama; rw [← atD.out] at ama))
          replace iP := am (Kd.lQ (kn iP.out) (Kd.jN ama) hb)
          replace iQ := am (Kd.lQ (kn iQ.out) (Kd.jN ama) hb)
          replace jM := am (Kd.lQ (kn jM.out) (Kd.jN ama) hb)
          replace jZ := am (Kd.dO (kr jZ.out) hb)
          replace kI := am (Kd.vI (kv kI.out) (Kd.jN ama) hb)
          replace kQ := am (Kd.dO (kr kQ.out) hb)
          replace lM := am (Kd.vI (kv lM.out) (Kd.jN ama) hb)
          have yM := am (Kd.jQ ama (bY (bl2 HB.out nI.out lT.out)))
          replace dK := am (ak (g := jg) (o := .cells #[.int .i64 lV, .int .i64 lZ, .slice qN lI.length qO, .slice rA lK.length rC] 28 (0, 0)) (kp dK.out) hb)
          replace dJ := am (ak (g := gL) (o := .cells #[.int .i64 0, .int .i64 0, .slice none 0 0, .slice xE oK.length xG] 28 (0, 0)) (kp dJ.out) hb)
          replace HB := am (au (bl2 HB.out nI.out lT.out) hb)
          clear hb ama
          obtain ⟨aCg, aCh, aA0⟩ := Kd.wS kI.out
          (first | subst aA0 | (injection aA0 with f1_ f2_ f3_; have f4_ := f1_.symm; have f5_ := f3_.symm; clear f1_ f2_ f3_; subst f4_; subst f5_))
          obtain ⟨aCi, aCj, aA1⟩ := Kd.iW yM.out
          (first | subst aA1 | (injection aA1 with f1_ f2_ f3_; have f4_ := f1_.symm; have f5_ := f3_.symm; clear f1_ f2_ f3_; subst f4_; subst f5_))
          refine hK.out _ _ ⟨bc dK.out 0, bc dK.out 1, bc dK.out 2, bc dK.out 3, bc dJ.out 0, bc dJ.out 1, bc dJ.out 2, bc dJ.out 3⟩ (fun hHeld => ?_)
          clear hK K
          refine nx 67 ?_
          refine oZ (i := 41) (N := some 68) (rs true [42, 23]) rfl rfl (gM HT_.out (by kernel_rfl)) (by decide) (fun K hK => ?_)
          refine kg Try.func15 (by kernel_rfl) rfl #[.slice aCg ac9.length aCh, .slice aCi ayv.length aCj] (by rfl) rfl rfl ar ?_
          with_reducible refine (bF.calls k _ _ ac9 _ _ ayv true _ ?bH ?bI ?dG ?dI A22.out).mono ?_
          (case bH => exact kc (Kd.iT kI.out).2.2)
          (case bI => exact (Kd.iT kI.out).2.1)
          (case dG => exact kc (Kd.bS yM.out).2.2)
          (case dI => exact (Kd.bS yM.out).2.1)
          rintro e w' ⟨rfl, ⟨nd, rfl⟩⟩
          refine ⟨_, rfl, ?_⟩
          obtain ⟨aDU, aDV, aA2⟩ := Kd.wS lM.out
          (first | subst aA2 | (injection aA2 with f1_ f2_ f3_; have f4_ := f1_.symm; have f5_ := f3_.symm; clear f1_ f2_ f3_; subst f4_; subst f5_))
          refine hK.out _ _ ⟨bc dK.out 0, bc dK.out 1, bc dK.out 2, bc dK.out 3, bc dJ.out 0, bc dJ.out 1, bc dJ.out 2, bc dJ.out 3⟩ (fun hHeld => ?_)
          clear hK K
          refine nx 68 ?_
          refine px 42 69 (rs true [43, 22]) HT_.out ?_
          refine px 43 70 (rs true [44, 21]) HT_.out ?_
          refine px 44 71 (rs true [45, 20]) HT_.out ?_
          refine px 45 72 (rs true [46, 19]) HT_.out ?_
          refine px 46 73 (rs true [47, 18]) HT_.out ?_
          refine px 47 74 (rs true [48, 17]) HT_.out ?_
          refine px 48 75 (rs true [49, 16]) HT_.out ?_
          refine tx 50 77 (rs true [49, 1, 1, 14]) HT_.out HW_.out hHeld ?_
          refine oZ (i := 49) (N := some 76) (rs true [51, 14]) rfl rfl (gM HT_.out (by kernel_rfl)) (by decide) (fun K hK => ?_)
          refine kg Try.func20 (by kernel_rfl) rfl #[.int .i64 0, .bool false] (by rfl) rfl rfl ar ?_
          with_reducible refine (aX.calls 0 false t160 _ A25.out).mono ?_
          rintro e w74 ⟨agI, agJ, rfl, hI, hb⟩
          have HI := am hI
          clear hI
          refine ⟨_, rfl, ?_⟩
          replace iP := am (Kd.d9 (kn iP.out) hb)
          replace iQ := am (Kd.d9 (kn iQ.out) hb)
          replace jM := am (Kd.d9 (kn jM.out) hb)
          replace jZ := am (Kd.dO (kr jZ.out) hb)
          replace kI := am (Kd.fJ (kv kI.out) hb)
          replace kQ := am (Kd.dO (kr kQ.out) hb)
          replace lM := am (Kd.fJ (kv lM.out) hb)
          replace yM := am (Kd.dO (kr yM.out) hb)
          replace dK := am (ak (g := jg) (o := .cells #[.int .i64 lV, .int .i64 lZ, .slice qN lI.length qO, .slice rA lK.length rC] 28 (0, 0)) (kp dK.out) hb)
          replace dJ := am (ak (g := gL) (o := .cells #[.int .i64 0, .int .i64 0, .slice none 0 0, .slice xE oK.length xG] 28 (0, 0)) (kp dJ.out) hb)
          replace HB := am (au (bl2 HB.out nI.out lT.out) hb)
          (try clear hb)
          (try clear hk)
          refine hK.out _ _ ⟨bc dK.out 0, bc dK.out 1, bc dK.out 2, bc dK.out 3, bc dJ.out 0, bc dJ.out 1, bc dJ.out 2, bc dJ.out 3⟩ (fun hHeld => ?_)
          clear hK K
          refine nx 76 ?_
          refine oZ (i := 51) (N := some 78) (rs true [52, 13]) rfl rfl (gM HT_.out (by kernel_rfl)) (by decide) (fun K hK => ?_)
          refine kg Try.func22 (by kernel_rfl) rfl #[.agg #[.int .i64 0, .int .i64 0, .slice none 0 0, .slice xE oK.length xG], .int .i64 7] (by rfl) rfl rfl ar ?_
          refine (bP.calls k 0 0 _ _ ([] : List (List (S23))) _ _ oK 7 avr t162 _ ?bH ?bI ?dG ?dI A26.out).mono ?_
          (case bH => exact Kd.aav _ _)
          (case bI => exact Nat.le_refl _)
          (case dG => exact kc (Kd.fE jM.out).2.2)
          (case dI => exact (Kd.fE jM.out).2.1)
          rintro e w75 ⟨rfl, hb⟩
          have nI_ := am (HI.out.below hb)
          clear HI
          have HI := nI_
          clear nI_
          refine ⟨_, rfl, ?_⟩
          replace iP := am (Kd.d9 (kn iP.out) hb)
          replace iQ := am (Kd.d9 (kn iQ.out) hb)
          replace jM := am (Kd.d9 (kn jM.out) hb)
          replace jZ := am (Kd.dO (kr jZ.out) hb)
          replace kI := am (Kd.fJ (kv kI.out) hb)
          replace kQ := am (Kd.dO (kr kQ.out) hb)
          replace lM := am (Kd.fJ (kv lM.out) hb)
          replace yM := am (Kd.dO (kr yM.out) hb)
          replace dK := am (ak (g := jg) (o := .cells #[.int .i64 lV, .int .i64 lZ, .slice qN lI.length qO, .slice rA lK.length rC] 28 (0, 0)) (kp dK.out) hb)
          replace dJ := am (ak (g := gL) (o := .cells #[.int .i64 0, .int .i64 0, .slice none 0 0, .slice xE oK.length xG] 28 (0, 0)) (kp dJ.out) hb)
          replace HB := am (au (bl2 HB.out nI.out lT.out) hb)
          (try clear hb)
          refine hK.out _ _ ⟨bc dK.out 0, bc dK.out 1, bc dK.out 2, bc dK.out 3, bc dJ.out 0, bc dJ.out 1, bc dJ.out 2, bc dJ.out 3⟩ (fun hHeld => ?_)
          clear hK K
          refine nx 78 ?_
          refine px 52 79 (rs true [53, 12]) HT_.out ?_
          refine px 53 80 (rs true [54, 11]) HT_.out ?_
          refine oZ (i := 54) (N := some 81) (rs true [55, 10]) rfl rfl (gM HT_.out (by kernel_rfl)) (by decide) (fun K hK => ?_)
          refine zx Try.func57 (by kernel_rfl) rfl #[.int .i64 avr, .bool t162] #[.pointer (some ⟨agI, 0, none⟩), .pointer (some ⟨agJ, 0, none⟩)] #[.int .i64 avr, .bool t162, .pointer (some ⟨agI, 0, none⟩), .pointer (some ⟨agJ, 0, none⟩)] rfl (by rfl) rfl rfl rfl ar ?_
          with_reducible refine (aJ.calls 0 false avr t162 true _ A27.out agI agJ HI.out).mono ?_
          rintro e w76 ⟨rfl, hb⟩
          clear HI
          refine ⟨_, rfl, ?_⟩
          replace iP := am (Kd.d9 (kn iP.out) hb)
          replace iQ := am (Kd.d9 (kn iQ.out) hb)
          replace jM := am (Kd.d9 (kn jM.out) hb)
          replace jZ := am (Kd.dO (kr jZ.out) hb)
          replace kI := am (Kd.fJ (kv kI.out) hb)
          replace kQ := am (Kd.dO (kr kQ.out) hb)
          replace lM := am (Kd.fJ (kv lM.out) hb)
          replace yM := am (Kd.dO (kr yM.out) hb)
          replace dK := am (ak (g := jg) (o := .cells #[.int .i64 lV, .int .i64 lZ, .slice qN lI.length qO, .slice rA lK.length rC] 28 (0, 0)) (kp dK.out) hb)
          replace dJ := am (ak (g := gL) (o := .cells #[.int .i64 0, .int .i64 0, .slice none 0 0, .slice xE oK.length xG] 28 (0, 0)) (kp dJ.out) hb)
          replace HB := am (au (bl2 HB.out nI.out lT.out) hb)
          (try clear hb)
          refine hK.out _ _ ⟨bc dK.out 0, bc dK.out 1, bc dK.out 2, bc dK.out 3, bc dJ.out 0, bc dJ.out 1, bc dJ.out 2, bc dJ.out 3⟩ (fun hHeld => ?_)
          clear hK K
          refine nx 81 ?_
          refine px 55 82 (rs true [56, 9]) HT_.out ?_
          refine px 56 83 (rs true [57, 8]) HT_.out ?_
          refine tx 58 85 (rs true [57, 1, 1, 6]) HT_.out HW_.out hHeld ?_
          refine oZ (i := 57) (N := some 84) (rs true [59, 6]) rfl rfl (gM HT_.out (by kernel_rfl)) (by decide) (fun K hK => ?_)
          refine kg Try.func20 (by kernel_rfl) rfl #[.int .i64 3, .bool true] (by rfl) rfl rfl ar ?_
          with_reducible refine (aX.calls 3 true t164 _ A29.out).mono ?_
          rintro e w77 ⟨agK, agL, rfl, hI, hb⟩
          have HI := am hI
          clear hI
          refine ⟨_, rfl, ?_⟩
          replace iP := am (Kd.d9 (kn iP.out) hb)
          replace iQ := am (Kd.d9 (kn iQ.out) hb)
          replace jM := am (Kd.d9 (kn jM.out) hb)
          replace jZ := am (Kd.dO (kr jZ.out) hb)
          replace kI := am (Kd.fJ (kv kI.out) hb)
          replace kQ := am (Kd.dO (kr kQ.out) hb)
          replace lM := am (Kd.fJ (kv lM.out) hb)
          replace yM := am (Kd.dO (kr yM.out) hb)
          replace dK := am (ak (g := jg) (o := .cells #[.int .i64 lV, .int .i64 lZ, .slice qN lI.length qO, .slice rA lK.length rC] 28 (0, 0)) (kp dK.out) hb)
          replace dJ := am (ak (g := gL) (o := .cells #[.int .i64 0, .int .i64 0, .slice none 0 0, .slice xE oK.length xG] 28 (0, 0)) (kp dJ.out) hb)
          replace HB := am (au (bl2 HB.out nI.out lT.out) hb)
          (try clear hb)
          refine hK.out _ _ ⟨bc dK.out 0, bc dK.out 1, bc dK.out 2, bc dK.out 3, bc dJ.out 0, bc dJ.out 1, bc dJ.out 2, bc dJ.out 3⟩ (fun hHeld => ?_)
          clear hK K
          refine nx 84 ?_
          refine oZ (i := 59) (N := some 86) (rs true [60, 5]) rfl rfl (gM HT_.out (by kernel_rfl)) (by decide) (fun K hK => ?_)
          refine kg Try.func23 (by kernel_rfl) rfl #[.agg #[.int .i64 0, .int .i64 0, .slice none 0 0, .slice xE oK.length xG], .int .i64 100] (by rfl) rfl rfl ar ?_
          refine (bV.calls k 0 0 _ _ ([] : List (List (S23))) _ _ oK 100 avs avt _ ?bH ?bI ?dG ?dI A30.out).mono ?_
          (case bH => exact Kd.aav _ _)
          (case bI => exact Nat.le_refl _)
          (case dG => exact kc (Kd.fE jM.out).2.2)
          (case dI => exact (Kd.fE jM.out).2.1)
          rintro e w78 ⟨rfl, hb⟩
          have nI_ := am (HI.out.below hb)
          clear HI
          have HI := nI_
          clear nI_
          refine ⟨_, rfl, ?_⟩
          replace iP := am (Kd.d9 (kn iP.out) hb)
          replace iQ := am (Kd.d9 (kn iQ.out) hb)
          replace jM := am (Kd.d9 (kn jM.out) hb)
          replace jZ := am (Kd.dO (kr jZ.out) hb)
          replace kI := am (Kd.fJ (kv kI.out) hb)
          replace kQ := am (Kd.dO (kr kQ.out) hb)
          replace lM := am (Kd.fJ (kv lM.out) hb)
          replace yM := am (Kd.dO (kr yM.out) hb)
          replace dK := am (ak (g := jg) (o := .cells #[.int .i64 lV, .int .i64 lZ, .slice qN lI.length qO, .slice rA lK.length rC] 28 (0, 0)) (kp dK.out) hb)
          replace dJ := am (ak (g := gL) (o := .cells #[.int .i64 0, .int .i64 0, .slice none 0 0, .slice xE oK.length xG] 28 (0, 0)) (kp dJ.out) hb)
          replace HB := am (au (bl2 HB.out nI.out lT.out) hb)
          (try clear hb)
          refine hK.out _ _ ⟨bc dK.out 0, bc dK.out 1, bc dK.out 2, bc dK.out 3, bc dJ.out 0, bc dJ.out 1, bc dJ.out 2, bc dJ.out 3⟩ (fun hHeld => ?_)
          clear hK K
          refine nx 86 ?_
          refine px 60 87 (rs true [61, 4]) HT_.out ?_
          refine px 61 88 (rs true [62, 3]) HT_.out ?_
          refine oZ (i := 62) (N := some 89) (rs true [63, 2]) rfl rfl (gM HT_.out (by kernel_rfl)) (by decide) (fun K hK => ?_)
          refine zx Try.func57 (by kernel_rfl) rfl #[.int .i64 avs, .bool avt] #[.pointer (some ⟨agK, 0, none⟩), .pointer (some ⟨agL, 0, none⟩)] #[.int .i64 avs, .bool avt, .pointer (some ⟨agK, 0, none⟩), .pointer (some ⟨agL, 0, none⟩)] rfl (by rfl) rfl rfl rfl ar ?_
          with_reducible refine (aJ.calls 3 true avs avt t167 _ A31.out agK agL HI.out).mono ?_
          rintro e w79 ⟨rfl, hb⟩
          clear HI
          refine ⟨_, rfl, ?_⟩
          replace iP := am (Kd.d9 (kn iP.out) hb)
          replace iQ := am (Kd.d9 (kn iQ.out) hb)
          replace jM := am (Kd.d9 (kn jM.out) hb)
          replace jZ := am (Kd.dO (kr jZ.out) hb)
          replace kI := am (Kd.fJ (kv kI.out) hb)
          replace kQ := am (Kd.dO (kr kQ.out) hb)
          replace lM := am (Kd.fJ (kv lM.out) hb)
          replace yM := am (Kd.dO (kr yM.out) hb)
          replace dK := am (ak (g := jg) (o := .cells #[.int .i64 lV, .int .i64 lZ, .slice qN lI.length qO, .slice rA lK.length rC] 28 (0, 0)) (kp dK.out) hb)
          replace dJ := am (ak (g := gL) (o := .cells #[.int .i64 0, .int .i64 0, .slice none 0 0, .slice xE oK.length xG] 28 (0, 0)) (kp dJ.out) hb)
          replace HB := am (au (bl2 HB.out nI.out lT.out) hb)
          (try clear hb)
          refine hK.out _ _ ⟨bc dK.out 0, bc dK.out 1, bc dK.out 2, bc dK.out 3, bc dJ.out 0, bc dJ.out 1, bc dJ.out 2, bc dJ.out 3⟩ (fun hHeld => ?_)
          clear hK K
          refine nx 89 ?_
          refine px 63 90 (rs true [64, 1]) HT_.out ?_
          refine px 64 0 (rs true [65]) HT_.out ?_
          refine tV (kU HT_.out (by kernel_rfl)) ?_
          try go_wp2
          go_ret
          exact ⟨rt, bl2 HB.out nI.out lT.out⟩
         ·replace c28 := Bool.eq_false_iff.mpr c28
          subst c28
          have H1 : (none) = some r := by rw [if_neg (show ¬ (false = true) by decide)] at H; exact H
          clear H
          have H := H1
          clear H1
          exact absurd H (by simp)
        ·rw [if_neg c24] at H
         have ak3 : ((aiS.length : Int) == 0) = false := beq_eq_false_iff_ne.mpr c24
         have aqP : ((aiS.length : Int) != 0) = true := bne_iff_ne.mpr c24
         have aCk : ¬ (aiS = []) := fun h_ => c24 (by rw [h_]; rfl)
         exact absurd H (by simp)
       ·replace c23 := Bool.eq_false_iff.mpr c23
        subst c23
        have H1 : (none) = some r := by rw [if_neg (show ¬ (false = true) by decide)] at H; exact H
        clear H
        have H := H1
        clear H1
        exact absurd H (by simp)
      ·rw [if_neg c21] at H
       have acZ : (t139 == 0) = false := beq_eq_false_iff_ne.mpr c21
       have ayu : (t139 != 0) = true := bne_iff_ne.mpr c21
       exact absurd H (by simp)
     ·rw [if_neg c20] at H
      have acY : (ak0 == 0) = false := beq_eq_false_iff_ne.mpr c20
      have ayt : (ak0 != 0) = true := bne_iff_ne.mpr c20
      exact absurd H (by simp)
    ·replace c19 := Bool.eq_false_iff.mpr c19
     subst c19
     have H1 : (none) = some r := by rw [if_neg (show ¬ (false = true) by decide)] at H; exact H
     clear H
     have H := H1
     clear H1
     exact absurd H (by simp)
   ·replace c15 := Bool.eq_false_iff.mpr c15
    subst c15
    have H1 : (none) = some r := by rw [if_neg (show ¬ (false = true) by decide)] at H; exact H
    clear H
    have H := H1
    clear H1
    exact absurd H (by simp)
  ·replace c11 := Bool.eq_false_iff.mpr c11
   subst c11
   have H1 : (none) = some r := by rw [if_neg (show ¬ (false = true) by decide)] at H; exact H
   clear H
   have H := H1
   clear H1
   exact absurd H (by simp)
 ·replace c7 := Bool.eq_false_iff.mpr c7
  subst c7
  have H1 : (none) = some r := by rw [if_neg (show ¬ (false = true) by decide)] at H; exact H
  clear H
  have H := H1
  clear H1
  exact absurd H (by simp)
end Go.Proofs.Ytmbmalkpmanaaaa.P

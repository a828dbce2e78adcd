/- Lemmas for laws of chapter 7: what the functions that they reach compute. No condition of its own. -/
import Derived.Test.YtmbmalkpmanaaaaYG4
import Derived.Test.YtmbmalkpmanaaaaYG2
import Derived.Test.YtmbmalkpmanaaaaYG8
import Derived.Test.YtmbmalkpmanaaaaYG6
import Derived.Test.YtmbmalkpmanaaaaYG7
import Derived.Laws.EntriesVeiled
import Derived.WalkSpells
import Derived.Outline
namespace Go.Proofs.Ytmbmalkpmanaaaa.P
open Go.RowKit Go.Proofs.YtmbmalkpmanaaaaW.aK Go.Proofs.YtmbmalkpmanaaaaW.bK Go.Proofs.YtmbmalkpmanaaaaW.bM
attribute [local go_sem] dS dU fG fH dB dD dV dW   -- for this text's walks alone
set_option linter.unusedVariables false
set_option linter.unusedSimpArgs false
def jr.f (k : Nat) (aQ : Int) (aR : Int) (aH : List (List (S23))) (av : List (S70)) (a1 : Int) : Option (Int × Bool) := (bP.f k aQ aR aH av a1).bind fun agu => (if agu.2 = true then ((eO.f k aQ aR aH av agu.1).bind fun abO => ((jY.f k abO.1 a1).bind fun t228 => (if t228 = true then (some (agu.1, true)) else (some (0, false))))) else (some (0, false)))
theorem jr.mono : ∀ a0 a1 a2 a3 a4 k, LeO (jr.f k a0 a1 a2 a3 a4) (jr.f (k + 1) a0 a1 a2 a3 a4) := by
 intro a0 a1 a2 a3 a4 k
 unfold jr.f
 repeat' first
  | (with_reducible exact bP.mono _ _ _ _ _ _)
  | (with_reducible exact eO.mono _ _ _ _ _ _)
  | (with_reducible exact jY.mono _ _ _)
  | (with_reducible exact LeO.refl _)
  | (with_reducible exact LeO.none _)
  | (with_reducible refine LeO.ite ?_ ?_)
  | (with_reducible refine LeO.bind ?_ (fun _ => ?_))
  | exact bP.mono _ _ _ _ _ _
  | exact eO.mono _ _ _ _ _ _
  | exact jY.mono _ _ _
  | exact LeO.none _
  | refine LeO.ite ?_ ?_
  | refine LeO.bind ?_ (fun _ => ?_)
set_option maxHeartbeats 8000000 in
set_option maxRecDepth 100000 in
theorem jr.calls (k : Nat) (aQ : Int) (aR : Int) (cu : Option Addr) (bW : Nat) (aH : List (List (S23))) (dz : Option Addr) (bZ : Nat) (av : List (S70)) (a1 : Int) (r1 : Int) (r2 : Bool) (w : World) (iF : Kd.C (Kd.slice 23 k23) w cu aH.length aH) (iG : aH.length ≤ bW) (iw : Kd.C k70 w dz av.length av) (iy : av.length ≤ bZ) (h : jr.f k aQ aR aH av a1 = some (r1, r2)) :
 Calls Try.prog 21 #[.agg #[.int .i64 aQ, .int .i64 aR, .slice cu aH.length bW, .slice dz av.length bZ], .int .i64 a1] w fun e w' => e = .returned (.tuple #[.int .i64 r1, .bool r2]) ∧ Below w.heap.size w w' := by
 have aaE := Try.underlying28
 have gF := am iF
 have gX := am iG
 clear iF iG
 have fK := am iw
 have gW := am iy
 clear iw iy
 have HB := am (Below.refl w.heap.size w)
 have H : ((bP.f k aQ aR aH av a1).bind fun agu => (if agu.2 = true then ((eO.f k aQ aR aH av agu.1).bind fun abO => ((jY.f k abO.1 a1).bind fun t228 => (if t228 = true then (some (agu.1, true)) else (some (0, false))))) else (some (0, false)))) = some (r1, r2) := h
 clear h
 replace H := Option.bind_eq_some_iff.mp H
 obtain ⟨⟨t222, atp⟩, A30, H⟩ := H
 try dsimp only at H
 have A3 := am A30
 clear A30
 by_cases c4 : atp = true
 ·subst c4
  have H1 : ((eO.f k aQ aR aH av t222).bind fun abO => ((jY.f k abO.1 a1).bind fun t228 => (if t228 = true then (some (t222, true)) else (some (0, false))))) = some (r1, r2) := by rw [if_pos rfl] at H; exact H
  clear H
  have H := H1
  clear H1
  replace H := Option.bind_eq_some_iff.mp H
  obtain ⟨⟨anU, t227⟩, A50, H⟩ := H
  try dsimp only at H
  have A5 := am A50
  clear A50
  replace H := Option.bind_eq_some_iff.mp H
  obtain ⟨t228, A60, H⟩ := H
  try dsimp only at H
  have A6 := am A60
  clear A60
  by_cases c7 : t228 = true
  ·subst c7
   have H1 : (some (t222, true)) = some (r1, r2) := by rw [if_pos rfl] at H; exact H
   clear H
   have H := H1
   clear H1
   simp only [Option.some.injEq, Prod.mk.injEq] at H
   obtain ⟨rfl, rfl⟩ := H
   go_enter Try.func21, Try.ntmps21
   go_wp2_with (first | ((with_reducible refine bq (N := 2) rfl ?_); refine bx 2 28 #[.int .i64 aQ, .int .i64 aR, .slice cu aH.length bW, .slice dz av.length bZ] ?_; intro pY hg w8 dL hb; have jU := am (dL); have atq := am ((bz hg HB.out : w.heap.size ≤ pY)); have zT := am ((bz hg HB.out : w.heap.size ≤ pY)); replace HB := am (au (bl HB.out) hb); clear hb dL hg; have oq : w8.cell? ⟨pY, 0, none⟩ = some (.int .i64 aQ) := bc jU.out 0; have ou : w8.cell? ⟨pY, 1, none⟩ = some (.int .i64 aR) := bc jU.out 1; have ow : w8.cell? ⟨pY, 2, none⟩ = some (.slice cu aH.length bW) := bc jU.out 2; have oz : w8.cell? ⟨pY, 3, none⟩ = some (.slice dz av.length bZ) := bc jU.out 3; have oC := aj jU.out 0; have oD := aj jU.out 1; have oF := aj jU.out 2; have oG := aj jU.out 3) | ((with_reducible refine aC (f := 22) rfl ?_); refine bR (some 13) rfl rfl Try.func22 (by kernel_rfl) rfl #[.agg #[.int .i64 aQ, .int .i64 aR, .slice cu aH.length bW, .slice dz av.length bZ], .int .i64 a1] rfl ar ?_; (with_reducible refine (bP.calls k aQ aR _ _ aH _ _ av a1 t222 true _ ?bH ?bI ?dG ?dI A3.out).mono ?_); (case bH => exact kc (Kd.bf gF.out HB.out)); (case bI => exact gX.out); (case dG => exact kc (Kd.bf fK.out HB.out)); (case dI => exact gW.out); rintro e w10 ⟨rfl, hb⟩; refine ⟨_, rfl, ?_⟩; replace jU := am (ak (kp jU.out) hb); replace HB := am (au (bl1 HB.out zT.out) hb); (try clear hb); (try clear hb2); (try clear hk); (try clear hi); have mg : w10.cell? ⟨pY, 0, none⟩ = some (.int .i64 aQ) := bc jU.out 0; have mh : w10.cell? ⟨pY, 1, none⟩ = some (.int .i64 aR) := bc jU.out 1; have mX : w10.cell? ⟨pY, 2, none⟩ = some (.slice cu aH.length bW) := bc jU.out 2; have mY : w10.cell? ⟨pY, 3, none⟩ = some (.slice dz av.length bZ) := bc jU.out 3; have mq := aj jU.out 0; have mD := aj jU.out 1; have mZ := aj jU.out 2; have ni := aj jU.out 3) | ((with_reducible refine aC (f := 18) rfl ?_); refine bR (some 21) rfl rfl Try.func18 (by kernel_rfl) rfl #[.agg #[.int .i64 aQ, .int .i64 aR, .slice cu aH.length bW, .slice dz av.length bZ], .int .i64 t222] rfl ar ?_; (with_reducible refine (eO.calls k aQ aR _ _ aH _ _ av t222 anU t227 _ ?bH ?bI ?dG ?dI A5.out).mono ?_); (case bH => exact kc (Kd.bf gF.out HB.out)); (case bI => exact gX.out); (case dG => exact kc (Kd.bf fK.out HB.out)); (case dI => exact gW.out); rintro e w12 ⟨aB1, rfl, ho0, hb⟩; refine ⟨_, rfl, ?_⟩; have abP := am (Kd.jQ ho0 (bY (bl1 HB.out zT.out))); replace jU := am (ak (kp jU.out) hb); replace HB := am (au (bl1 HB.out zT.out) hb); (try clear hb); (try clear hb2); (try clear hk); (try clear hi); (try clear ho0); obtain ⟨avh, avi, ayh⟩ := Kd.iW abP.out; subst ayh) | ((with_reducible refine aC (f := 24) rfl ?_); refine bR (some 26) rfl rfl Try.func24 (by kernel_rfl) rfl #[.slice avh anU.length avi, .int .i64 a1] rfl ar ?_; (with_reducible refine (jY.calls k _ _ anU a1 true _ ?bH ?bI A6.out).mono ?_); (case bH => exact kc (Kd.bS abP.out).2.2); (case bI => exact (Kd.bS abP.out).2.1); rintro e w14 ⟨rfl, hb⟩; refine ⟨_, rfl, ?_⟩; replace abP := am (Kd.dO (kr abP.out) hb); replace jU := am (ak (kp jU.out) hb); replace HB := am (au (bl1 HB.out zT.out) hb); (try clear hb); (try clear hb2); (try clear hk); (try clear hi)))
   go_ret2
   exact ⟨rt, bl1 HB.out zT.out⟩
  ·replace c7 := Bool.eq_false_iff.mpr c7
   subst c7
   have H1 : (some (0, false)) = some (r1, r2) := by rw [if_neg (show ¬ (false = true) by decide)] at H; exact H
   clear H
   have H := H1
   clear H1
   simp only [Option.some.injEq, Prod.mk.injEq] at H
   obtain ⟨rfl, rfl⟩ := H
   go_enter Try.func21, Try.ntmps21
   go_wp2_with (first | ((with_reducible refine bq (N := 2) rfl ?_); refine bx 2 28 #[.int .i64 aQ, .int .i64 aR, .slice cu aH.length bW, .slice dz av.length bZ] ?_; intro pY hg w15 dL hb; have jU := am (dL); have atq := am ((bz hg HB.out : w.heap.size ≤ pY)); have zT := am ((bz hg HB.out : w.heap.size ≤ pY)); replace HB := am (au (bl HB.out) hb); clear hb dL hg; have aaF : w15.cell? ⟨pY, 0, none⟩ = some (.int .i64 aQ) := bc jU.out 0; have aaG : w15.cell? ⟨pY, 1, none⟩ = some (.int .i64 aR) := bc jU.out 1; have abQ : w15.cell? ⟨pY, 2, none⟩ = some (.slice cu aH.length bW) := bc jU.out 2; have abR : w15.cell? ⟨pY, 3, none⟩ = some (.slice dz av.length bZ) := bc jU.out 3; have aaH := aj jU.out 0; have aaI := aj jU.out 1; have abS := aj jU.out 2; have abT := aj jU.out 3) | ((with_reducible refine aC (f := 22) rfl ?_); refine bR (some 13) rfl rfl Try.func22 (by kernel_rfl) rfl #[.agg #[.int .i64 aQ, .int .i64 aR, .slice cu aH.length bW, .slice dz av.length bZ], .int .i64 a1] rfl ar ?_; (with_reducible refine (bP.calls k aQ aR _ _ aH _ _ av a1 t222 true _ ?bH ?bI ?dG ?dI A3.out).mono ?_); (case bH => exact kc (Kd.bf gF.out HB.out)); (case bI => exact gX.out); (case dG => exact kc (Kd.bf fK.out HB.out)); (case dI => exact gW.out); rintro e w17 ⟨rfl, hb⟩; refine ⟨_, rfl, ?_⟩; replace jU := am (ak (kp jU.out) hb); replace HB := am (au (bl1 HB.out zT.out) hb); (try clear hb); (try clear hb2); (try clear hk); (try clear hi); have sN : w17.cell? ⟨pY, 0, none⟩ = some (.int .i64 aQ) := bc jU.out 0; have sO : w17.cell? ⟨pY, 1, none⟩ = some (.int .i64 aR) := bc jU.out 1; have sP : w17.cell? ⟨pY, 2, none⟩ = some (.slice cu aH.length bW) := bc jU.out 2; have sQ : w17.cell? ⟨pY, 3, none⟩ = some (.slice dz av.length bZ) := bc jU.out 3; have sS := aj jU.out 0; have sU := aj jU.out 1; have sV := aj jU.out 2; have sW := aj jU.out 3) | ((with_reducible refine aC (f := 18) rfl ?_); refine bR (some 21) rfl rfl Try.func18 (by kernel_rfl) rfl #[.agg #[.int .i64 aQ, .int .i64 aR, .slice cu aH.length bW, .slice dz av.length bZ], .int .i64 t222] rfl ar ?_; (with_reducible refine (eO.calls k aQ aR _ _ aH _ _ av t222 anU t227 _ ?bH ?bI ?dG ?dI A5.out).mono ?_); (case bH => exact kc (Kd.bf gF.out HB.out)); (case bI => exact gX.out); (case dG => exact kc (Kd.bf fK.out HB.out)); (case dI => exact gW.out); rintro e w19 ⟨aB1, rfl, ho0, hb⟩; refine ⟨_, rfl, ?_⟩; have abP := am (Kd.jQ ho0 (bY (bl1 HB.out zT.out))); replace jU := am (ak (kp jU.out) hb); replace HB := am (au (bl1 HB.out zT.out) hb); (try clear hb); (try clear hb2); (try clear hk); (try clear hi); (try clear ho0); obtain ⟨aB2, aB3, aB4⟩ := Kd.iW abP.out; subst aB4) | ((with_reducible refine aC (f := 24) rfl ?_); refine bR (some 26) rfl rfl Try.func24 (by kernel_rfl) rfl #[.slice aB2 anU.length aB3, .int .i64 a1] rfl ar ?_; (with_reducible refine (jY.calls k _ _ anU a1 false _ ?bH ?bI A6.out).mono ?_); (case bH => exact kc (Kd.bS abP.out).2.2); (case bI => exact (Kd.bS abP.out).2.1); rintro e w21 ⟨rfl, hb⟩; refine ⟨_, rfl, ?_⟩; replace abP := am (Kd.dO (kr abP.out) hb); replace jU := am (ak (kp jU.out) hb); replace HB := am (au (bl1 HB.out zT.out) hb); (try clear hb); (try clear hb2); (try clear hk); (try clear hi)))
   go_ret2
   exact ⟨rt, bl1 HB.out zT.out⟩
 ·replace c4 := Bool.eq_false_iff.mpr c4
  subst c4
  have H1 : (some (0, false)) = some (r1, r2) := by rw [if_neg (show ¬ (false = true) by decide)] at H; exact H
  clear H
  have H := H1
  clear H1
  simp only [Option.some.injEq, Prod.mk.injEq] at H
  obtain ⟨rfl, rfl⟩ := H
  go_enter Try.func21, Try.ntmps21
  go_wp2_with (first | ((with_reducible refine bq (N := 2) rfl ?_); refine bx 2 28 #[.int .i64 aQ, .int .i64 aR, .slice cu aH.length bW, .slice dz av.length bZ] ?_; intro pY hg w22 dL hb; have jU := am (dL); have atq := am ((bz hg HB.out : w.heap.size ≤ pY)); have zT := am ((bz hg HB.out : w.heap.size ≤ pY)); replace HB := am (au (bl HB.out) hb); clear hb dL hg; have sH : w22.cell? ⟨pY, 0, none⟩ = some (.int .i64 aQ) := bc jU.out 0; have sI : w22.cell? ⟨pY, 1, none⟩ = some (.int .i64 aR) := bc jU.out 1; have uP : w22.cell? ⟨pY, 2, none⟩ = some (.slice cu aH.length bW) := bc jU.out 2; have uQ : w22.cell? ⟨pY, 3, none⟩ = some (.slice dz av.length bZ) := bc jU.out 3; have sJ := aj jU.out 0; have sK := aj jU.out 1; have uR := aj jU.out 2; have uS := aj jU.out 3) | ((with_reducible refine aC (f := 22) rfl ?_); refine bR (some 13) rfl rfl Try.func22 (by kernel_rfl) rfl #[.agg #[.int .i64 aQ, .int .i64 aR, .slice cu aH.length bW, .slice dz av.length bZ], .int .i64 a1] rfl ar ?_; (with_reducible refine (bP.calls k aQ aR _ _ aH _ _ av a1 t222 false _ ?bH ?bI ?dG ?dI A3.out).mono ?_); (case bH => exact kc (Kd.bf gF.out HB.out)); (case bI => exact gX.out); (case dG => exact kc (Kd.bf fK.out HB.out)); (case dI => exact gW.out); rintro e w24 ⟨rfl, hb⟩; refine ⟨_, rfl, ?_⟩; replace jU := am (ak (kp jU.out) hb); replace HB := am (au (bl1 HB.out zT.out) hb); (try clear hb); (try clear hb2); (try clear hk); (try clear hi)))
  go_ret2
  exact ⟨rt, bl1 HB.out zT.out⟩
def j6.f (aQ : Int) (aR : Int) (a1 : Int) : Option (Bool) := some (decide (aQ ≤ a1))
set_option maxHeartbeats 8000000 in
set_option maxRecDepth 100000 in
theorem j6.calls (aQ : Int) (aR : Int) (a1 : Int) (r : Bool) (w : World) (h : j6.f aQ aR a1 = some r) :
 Calls Try.prog 92 #[.agg #[.int .i64 aQ, .int .i64 aR], .int .i64 a1] w fun e w' => e = .returned (.bool r) ∧ Below w.heap.size w w' := by
 have afs := Try.underlying23
 have HB := am (Below.refl w.heap.size w)
 have H : (some (decide (aQ ≤ a1))) = some r := h
 clear h
 obtain rfl := Option.some.inj H
 go_enter Try.func92, Try.ntmps92
 go_wp2_with (first | ((with_reducible refine bq (N := 2) rfl ?_); refine bx 2 23 #[.int .i64 aQ, .int .i64 aR] ?_; intro adx hg w3 dL hb; have ady := am (dL); have av3 := am ((bz hg HB.out : w.heap.size ≤ adx)); have aoM := am ((bz hg HB.out : w.heap.size ≤ adx)); replace HB := am (au (bl HB.out) hb); clear hb dL hg; have ajB : w3.cell? ⟨adx, 0, none⟩ = some (.int .i64 aQ) := bc ady.out 0; have ajC : w3.cell? ⟨adx, 1, none⟩ = some (.int .i64 aR) := bc ady.out 1; have ajD := aj ady.out 0; have ajE := aj ady.out 1))
 go_ret
 exact ⟨rt, bl1 HB.out aoM.out⟩
def jd.f (k : Nat) (aQ : Int) (aR : Int) (a1 : Int) (a2 : Int) : Option (Int) := (eF.f k (wrap64 (a1 - aQ)) a2).bind fun afH => (some afH.1)
theorem jd.mono : ∀ a0 a1 a2 a3 k, LeO (jd.f k a0 a1 a2 a3) (jd.f (k + 1) a0 a1 a2 a3) := by
 intro a0 a1 a2 a3 k
 unfold jd.f
 repeat' first
  | (with_reducible exact eF.mono _ _ _)
  | (with_reducible exact LeO.refl _)
  | (with_reducible exact LeO.none _)
  | (with_reducible refine LeO.ite ?_ ?_)
  | (with_reducible refine LeO.bind ?_ (fun _ => ?_))
  | exact eF.mono _ _ _
  | exact LeO.none _
  | refine LeO.ite ?_ ?_
  | refine LeO.bind ?_ (fun _ => ?_)
set_option maxHeartbeats 8000000 in
set_option maxRecDepth 100000 in
theorem jd.calls (k : Nat) (aQ : Int) (aR : Int) (a1 : Int) (a2 : Int) (r : Int) (w : World) (h : jd.f k aQ aR a1 a2 = some r) :
 Calls Try.prog 91 #[.agg #[.int .i64 aQ, .int .i64 aR], .int .i64 a1, .int .i64 a2] w fun e w' => e = .returned (.int .i64 r) ∧ Below w.heap.size w w' := by
 have afs := Try.underlying23
 have HB := am (Below.refl w.heap.size w)
 have H : ((eF.f k (wrap64 (a1 - aQ)) a2).bind fun afH => (some afH.1)) = some r := h
 clear h
 replace H := Option.bind_eq_some_iff.mp H
 obtain ⟨⟨awf, awg, awh⟩, A40, H⟩ := H
 try dsimp only at H
 have A4 := am A40
 clear A40
 obtain rfl := Option.some.inj H
 go_enter Try.func91, Try.ntmps91
 go_wp2_with (first | ((with_reducible refine bq (N := 3) rfl ?_); refine bx 3 23 #[.int .i64 aQ, .int .i64 aR] ?_; intro adz hg w5 dL hb; have adA := am (dL); have awi := am ((bz hg HB.out : w.heap.size ≤ adz)); have aoO := am ((bz hg HB.out : w.heap.size ≤ adz)); replace HB := am (au (bl HB.out) hb); clear hb dL hg; have aby : w5.cell? ⟨adz, 0, none⟩ = some (.int .i64 aQ) := bc adA.out 0; have abz : w5.cell? ⟨adz, 1, none⟩ = some (.int .i64 aR) := bc adA.out 1; have abA := aj adA.out 0; have abB := aj adA.out 1) | ((with_reducible refine aC (f := 85) rfl ?_); refine bR (some 16) rfl rfl Try.func85 (by kernel_rfl) rfl #[.int .i64 (wrap64 (a1 - aQ)), .int .i64 a2] rfl ar ?_; (with_reducible refine (eF.calls k (wrap64 (a1 - aQ)) a2 awf awg awh _ A4.out).mono ?_); rintro e w' ⟨rfl, ⟨nd, rfl⟩⟩; refine ⟨_, rfl, ?_⟩))
 go_ret
 exact ⟨rt, bl1 HB.out aoO.out⟩
def bD.l0 : Nat → Int → Int → Bool → List (List (S23)) → Int → Int → Int → Int → List (List (S23)) → List (S70) → Int → Option (Int × Bool)
 | 0, _, _, _, _, _, _, _, _, _, _, _ => none
 | k + 1, x1, x8, x9, x16, x17, x18, x192000, x192001, x192002, x192003, x193000 => if x18 < x17 then (if 0 ≤ x18 then (if x18 < (x16.length : Int) then ((eD.f (dZ x16 x18)).bind fun afI => (if afI.2.2 = true then ((jd.f k afI.1 afI.2.1 x1 x192000).bind fun t198 => (if x9 = true then (if (wrap64 ((wrap64 ((wrap64 ((wrap64 (t198 * x192001)) + x18)) - x8)) * x193000)) < 0 then (bD.l0 k x1 (wrap64 ((wrap64 (t198 * x192001)) + x18)) true x16 x17 (wrap64 (x18 + 1)) x192000 x192001 x192002 x192003 x193000) else (bD.l0 k x1 x8 x9 x16 x17 (wrap64 (x18 + 1)) x192000 x192001 x192002 x192003 x193000)) else (bD.l0 k x1 (wrap64 ((wrap64 (t198 * x192001)) + x18)) true x16 x17 (wrap64 (x18 + 1)) x192000 x192001 x192002 x192003 x193000))) else (bD.l0 k x1 x8 x9 x16 x17 (wrap64 (x18 + 1)) x192000 x192001 x192002 x192003 x193000))) else (none)) else (none)) else (some (x8, x9))
def bD.f (k : Nat) (aQ : Int) (aR : Int) (aH : List (List (S23))) (av : List (S70)) (a1 : Int)  : Option (Int × Bool) := bD.l0 k a1 0 false aH (aH.length : Int) 0 aQ aR aH av (-1)
theorem bD.iX : ∀ k, (∀ y0 y1 y2 y3 y4 y5 y6 y7 y8 y9 y10, LeO (bD.l0 k y0 y1 y2 y3 y4 y5 y6 y7 y8 y9 y10) (bD.l0 (k + 1) y0 y1 y2 y3 y4 y5 y6 y7 y8 y9 y10))
 | 0 => fun _ _ _ _ _ _ _ _ _ _ _ r h => by simp [bD.l0] at h
 | k + 1 => by
  have ih0 := bD.iX k
  ·intro y0 y1 y2 y3 y4 y5 y6 y7 y8 y9 y10
   unfold bD.l0
   repeat' first
   | (with_reducible exact ih0 _ _ _ _ _ _ _ _ _ _ _)
   | (with_reducible exact jd.mono _ _ _ _ _)
   | (with_reducible exact LeO.refl _)
   | (with_reducible exact LeO.none _)
   | (with_reducible refine LeO.ite ?_ ?_)
   | (with_reducible refine LeO.bind ?_ (fun _ => ?_))
   | exact ih0 _ _ _ _ _ _ _ _ _ _ _
   | exact jd.mono _ _ _ _ _
   | exact LeO.none _
   | refine LeO.ite ?_ ?_
   | refine LeO.bind ?_ (fun _ => ?_)
theorem bD.mono : ∀ a0 a1 a2 a3 a4 k, LeO (bD.f k a0 a1 a2 a3 a4) (bD.f (k + 1) a0 a1 a2 a3 a4) := by
 intro a0 a1 a2 a3 a4 k
 have ih0 := bD.iX k
 unfold bD.f
 repeat' first
  | (with_reducible exact ih0 _ _ _ _ _ _ _ _ _ _ _)
  | (with_reducible exact jd.mono _ _ _ _ _)
  | (with_reducible exact LeO.refl _)
  | (with_reducible exact LeO.none _)
  | (with_reducible refine LeO.ite ?_ ?_)
  | (with_reducible refine LeO.bind ?_ (fun _ => ?_))
  | exact ih0 _ _ _ _ _ _ _ _ _ _ _
  | exact jd.mono _ _ _ _ _
  | exact LeO.none _
  | refine LeO.ite ?_ ?_
  | refine LeO.bind ?_ (fun _ => ?_)
def bD.T7 : Bool × List (List Nat × List Nat) := (true, [([], []), ([0], [0]), ([], []), ([], []), ([], []), ([4], [4]), ([1, 2, 3, 5], [1, 2, 3, 5]), ([], []), ([7], [7]), ([6, 8], [6, 8]), ([], []), ([9, 10], [9, 10]), ([11, 6, 0, 1, 2, 3, 4, 5, 6, 7, 8, 9, 10, 11], [11])])
def bD.B7 : List Nat := [0, 1, 0, 0, 0, 16, 63, 0, 128, 511, 0, 2047, 4095]
theorem bD.aoP : xW .any (opsOf Try.f105 7) = bD.T7 := by kernel_rfl
theorem bD.afJ : pq bD.T7.2 bD.B7 = true := by kernel_rfl
set_option maxHeartbeats 8000000 in
set_option maxRecDepth 100000 in
theorem bD.calls (k : Nat) (aQ : Int) (aR : Int) (cu : Option Addr) (bW : Nat) (aH : List (List (S23))) (dz : Option Addr) (bZ : Nat) (av : List (S70)) (a1 : Int)  (r1 : Int) (r2 : Bool) (w : World) (iF : Kd.C (Kd.slice 23 k23) w cu aH.length aH) (iG : aH.length ≤ bW) (iw : Kd.C k70 w dz av.length av) (iy : av.length ≤ bZ) (h : bD.f k aQ aR aH av a1 = some (r1, r2)) :
 Calls Try.prog 105 #[.agg #[.int .i64 aQ, .int .i64 aR, .slice cu aH.length bW, .slice dz av.length bZ], .int .i64 a1, .agg #[.int .i64 (-1), .func (.func 90) #[] #[], .func (.func 91) #[] #[], .func (.func 92) #[] #[]]] w fun e w' => e = .returned (.tuple #[.int .i64 r1, .bool r2]) ∧ Below w.heap.size w w' := by
 have aaE := Try.underlying28
 have awj := Try.underlying79
 have afs := Try.underlying23
 have gF := am iF
 have gX := am iG
 clear iF iG
 have fK := am iw
 have gW := am iy
 clear iw iy
 have HB := am (Below.refl w.heap.size w)
 have H : (bD.l0 k a1 0 false aH (aH.length : Int) 0 aQ aR aH av (-1)) = some (r1, r2) := h
 clear h
 have H' := am H
 clear H
 go_enter Try.func105, Try.ntmps105
 go_wp2_with (first | ((with_reducible refine bq (N := 3) rfl ?_); refine bx 3 28 #[.int .i64 aQ, .int .i64 aR, .slice cu aH.length bW, .slice dz av.length bZ] ?_; intro jk hg w4 dL hb; have dA := am (dL); have awk := am ((bz hg HB.out : w.heap.size ≤ jk)); have jB := am ((bz hg HB.out : w.heap.size ≤ jk)); replace HB := am (au (bl HB.out) hb); clear hb dL hg) | ((with_reducible refine bq (N := 5) rfl ?_); refine bx 5 79 #[.int .i64 (-1), .func (.func 90) #[] #[], .func (.func 91) #[] #[], .func (.func 92) #[] #[]] ?_; intro iV hg w5 dL hb; have cZ := am (dL); have awl := am ((bz1 hg HB.out jB.out : w.heap.size ≤ iV)); have jS := am ((bz1 hg HB.out jB.out : w.heap.size ≤ iV)); replace HB := am (au (bl1 HB.out jB.out) hb); have rQ := am ((nl hg dA.out : jk ≠ iV)); have rR := am ((ng hg dA.out : iV ≠ jk)); replace dA := am (ak (kp dA.out) hb); clear hb dL hg; have aBS := rQ.out; have aBT := rR.out; have zy : w5.cell? ⟨jk, 0, none⟩ = some (.int .i64 aQ) := bc dA.out 0; have zA : w5.cell? ⟨jk, 1, none⟩ = some (.int .i64 aR) := bc dA.out 1; have zB : w5.cell? ⟨jk, 2, none⟩ = some (.slice cu aH.length bW) := bc dA.out 2; have zC : w5.cell? ⟨jk, 3, none⟩ = some (.slice dz av.length bZ) := bc dA.out 3; have zD := aj dA.out 0; have zF := aj dA.out 1; have zG := aj dA.out 2; have zH := aj dA.out 3))
 go_loopg [8, 9, 18] k (fun kq v8 v9 v18 w' => ∃ (lG : Int) (kV : Bool) (fU : Int), v8 = .int .i64 lG ∧ v9 = .bool kV ∧ v18 = .int .i64 fU ∧ ay (bD.l0 kq a1 lG kV aH (aH.length : Int) fU aQ aR aH av (-1) = some (r1, r2)) ∧ ay (kq ≤ k) ∧ ay (w'.heap[jk]? = some (.cells #[.int .i64 aQ, .int .i64 aR, (.slice cu aH.length bW), (.slice dz av.length bZ)] 28 (0, 0))) ∧ ay (w'.heap[iV]? = some (.cells #[.int .i64 (-1), (.func (.func 90) #[] #[]), (.func (.func 91) #[] #[]), (.func (.func 92) #[] #[])] 79 (0, 0))) ∧ ay (Below w.heap.size w w'))
 case atStart => exact ⟨(0), (false), (0), sm, sm, sm, H', ⟨Nat.le_refl _⟩, ⟨kp dA.out⟩, ⟨kp cZ.out⟩, ⟨bl2 HB.out jB.out jS.out⟩⟩
 case round =>
  clear H'
  try clear zy
  try clear zA
  try clear zB
  try clear zC
  try clear zD
  try clear zF
  try clear zG
  try clear zH
  obtain ⟨lG, kV, fU, rfl, rfl, rfl, HA, HK1, dA, cZ, HB⟩ := hrel
  cases gk with
  | zero => exact absurd HA.out (by simp [bD.l0])
  | succ k1 =>
   have H := HA.out
   clear HA
   simp only [bD.l0] at H
   by_cases c8 : fU < (aH.length : Int)
   ·rw [if_pos c8] at H
    have aft : decide (fU < (aH.length : Int)) = true := decide_eq_true c8
    clear c8
    by_cases c9 : 0 ≤ fU
    case neg => rw [if_neg c9] at H; exact absurd H (by simp)
    rw [if_pos c9] at H
    have afG : decide (0 ≤ fU) = true := decide_eq_true c9
    clear c9
    by_cases c10 : fU < (aH.length : Int)
    case neg => rw [if_neg c10] at H; exact absurd H (by simp)
    rw [if_pos c10] at H
    have asT : decide (fU < (aH.length : Int)) = true := decide_eq_true c10
    clear c10
    replace H := Option.bind_eq_some_iff.mp H
    obtain ⟨⟨t194, nM, t196⟩, A110, H⟩ := H
    try dsimp only at H
    have A11 := am A110
    clear A110
    by_cases c12 : t196 = true
    ·subst c12
     have H1 : ((jd.f k1 t194 nM a1 aQ).bind fun t198 => (if kV = true then (if (wrap64 ((wrap64 ((wrap64 ((wrap64 (t198 * aR)) + fU)) - lG)) * (-1))) < 0 then (bD.l0 k1 a1 (wrap64 ((wrap64 (t198 * aR)) + fU)) true aH (aH.length : Int) (wrap64 (fU + 1)) aQ aR aH av (-1)) else (bD.l0 k1 a1 lG kV aH (aH.length : Int) (wrap64 (fU + 1)) aQ aR aH av (-1))) else (bD.l0 k1 a1 (wrap64 ((wrap64 (t198 * aR)) + fU)) true aH (aH.length : Int) (wrap64 (fU + 1)) aQ aR aH av (-1)))) = some (r1, r2) := by rw [if_pos rfl] at H; exact H
     clear H
     have H := H1
     clear H1
     replace H := Option.bind_eq_some_iff.mp H
     obtain ⟨t198, ajJ, H⟩ := H
     try dsimp only at H
     have A13 := am ajJ
     clear ajJ
     by_cases c14 : kV = true
     ·subst c14
      have H1 : (if (wrap64 ((wrap64 ((wrap64 ((wrap64 (t198 * aR)) + fU)) - lG)) * (-1))) < 0 then (bD.l0 k1 a1 (wrap64 ((wrap64 (t198 * aR)) + fU)) true aH (aH.length : Int) (wrap64 (fU + 1)) aQ aR aH av (-1)) else (bD.l0 k1 a1 lG true aH (aH.length : Int) (wrap64 (fU + 1)) aQ aR aH av (-1))) = some (r1, r2) := by rw [if_pos rfl] at H; exact H
      clear H
      have H := H1
      clear H1
      by_cases c15 : (wrap64 ((wrap64 ((wrap64 ((wrap64 (t198 * aR)) + fU)) - lG)) * (-1))) < 0
      ·rw [if_pos c15] at H
       have abC : decide ((wrap64 ((wrap64 ((wrap64 ((wrap64 (t198 * aR)) + fU)) - lG)) * (-1))) < 0) = true := decide_eq_true c15
       (try simp only [Int.mul_one, Int.mul_neg, Int.add_zero] at abC)
       clear c15
       have H' := am H
       clear H
       have yH : 0 ≤ (fU : Int) := of_decide_eq_true asm
       have yI : fU < (aH.length : Int) := of_decide_eq_true asm
       obtain ⟨vK, rT, rU, afK, jC, kJ, kK⟩ := ru gF.out fU yH yI
       cases afK
       replace jC := (HB.out.cell (World.block_lt_of_cell? w _ jC)).trans jC
       have oI := am kK
       have oJ := am kJ
       clear kK kJ
       replace yH := eq_true yH
       replace yI := eq_true yI
       try go_wp2_with (first | ((with_reducible refine aC (f := 43) rfl ?_); refine bR (some 25) rfl rfl Try.func43 (by kernel_rfl) rfl #[.slice rT (dZ aH fU).length rU] rfl ar ?_; (with_reducible refine (eD.calls _ _ (dZ aH fU) t194 nM true _ ?bH ?bI A11.out).mono ?_); (case bH => exact kc (Kd.bf oI.out HB.out)); (case bI => exact oJ.out); rintro e w16 ⟨rfl, hb⟩; refine ⟨_, rfl, ?_⟩; replace dA := am (ak (kp dA.out) hb); replace cZ := am (ak (kp cZ.out) hb); replace HB := am (au (bl2 HB.out jB.out jS.out) hb); (try clear hb); (try clear hb2); (try clear hk); (try clear hi)) | ((with_reducible refine bq (N := 12) rfl ?_); refine bx 12 23 #[.int .i64 0, .int .i64 0] ?_; intro dX hg w17 dL hb; have fM := am (dL); have afL := am ((bz2 hg HB.out jB.out jS.out : w.heap.size ≤ dX)); have qo := am ((bz2 hg HB.out jB.out jS.out : w.heap.size ≤ dX)); replace HB := am (au (bl2 HB.out jB.out jS.out) hb); have iZ := am ((nl hg dA.out : jk ≠ dX)); have kL := am ((ng hg dA.out : dX ≠ jk)); replace dA := am (ak (kp dA.out) hb); have jc := am ((nl hg cZ.out : iV ≠ dX)); have kM := am ((ng hg cZ.out : dX ≠ iV)); replace cZ := am (ak (kp cZ.out) hb); clear hb dL hg; have awm := kL.out; have awn := iZ.out; have awo := kM.out; have awp := jc.out; have rV : w17.cell? ⟨dX, 0, none⟩ = some (.int .i64 0) := bc fM.out 0; have rW : w17.cell? ⟨dX, 1, none⟩ = some (.int .i64 0) := bc fM.out 1; have rX := aj fM.out 0; have rY := aj fM.out 1))
       have n0_ : ay (((w17.setCell ⟨dX, 0, none⟩ (.int .i64 t194)).setCell ⟨dX, 1, none⟩ (.int .i64 nM)).heap[jk]? = some (.cells #[.int .i64 aQ, .int .i64 aR, .slice (some vK) aH.length bW, .slice dz av.length bZ] 28 (0, 0))) := ⟨kf dA.out iZ.out⟩
       have n1_ : ay (((w17.setCell ⟨dX, 0, none⟩ (.int .i64 t194)).setCell ⟨dX, 1, none⟩ (.int .i64 nM)).heap[iV]? = some (.cells #[.int .i64 (-1), .func (.func 90) #[] #[], .func (.func 91) #[] #[], .func (.func 92) #[] #[]] 79 (0, 0))) := ⟨kf cZ.out jc.out⟩
       have n2_ : ay (((w17.setCell ⟨dX, 0, none⟩ (.int .i64 t194)).setCell ⟨dX, 1, none⟩ (.int .i64 nM)).heap[dX]? = some (.cells #[.int .i64 t194, .int .i64 nM] 23 (0, 0))) := ⟨by (with_reducible repeat (first | refine aM ?_ _ | refine aI ?_ | refine aA ?_ _)); refine bX (cs := #[.int .i64 t194, .int .i64 0]) ?_ 1 _ rfl; (with_reducible repeat (first | refine aM ?_ _ | refine aI ?_ | refine aA ?_ _)); refine bX (cs := #[.int .i64 0, .int .i64 0]) ?_ 0 _ rfl; (with_reducible repeat (first | refine aM ?_ _ | refine aI ?_ | refine aA ?_ _)); exact fM.out⟩
       have n3_ : ay (Below w.heap.size w ((w17.setCell ⟨dX, 0, none⟩ (.int .i64 t194)).setCell ⟨dX, 1, none⟩ (.int .i64 nM))) := ⟨bl3 HB.out jB.out jS.out qo.out⟩
       (try clear dA)
       (try clear cZ)
       (try clear fM)
       (try clear HB)
       generalize ((w17.setCell ⟨dX, 0, none⟩ (.int .i64 t194)).setCell ⟨dX, 1, none⟩ (.int .i64 nM)) = w21 at n0_ n1_ n2_ n3_ ⊢
       have dA := n0_
       have cZ := n1_
       have fM := n2_
       have HB := n3_
       clear n0_ n1_ n2_ n3_
       replace dA := am (aI dA.out)
       replace cZ := am (aI cZ.out)
       replace fM := am (aI fM.out)
       replace HB := am (dx HB.out)
       refine nW (n := 13) (S := fun w' => w'.cell? ⟨iV, 0, none⟩ = some (.int .i64 (-1)) ∧ w'.cell? ⟨iV, 1, none⟩ = some (.func (.func 90) #[] #[]) ∧ w'.cell? ⟨iV, 2, none⟩ = some (.func (.func 91) #[] #[]) ∧ w'.cell? ⟨iV, 3, none⟩ = some (.func (.func 92) #[] #[]) ∧ w'.cell? ⟨dX, 0, none⟩ = some (.int .i64 t194) ∧ w'.cell? ⟨dX, 1, none⟩ = some (.int .i64 nM) ∧ w'.cell? ⟨jk, 0, none⟩ = some (.int .i64 aQ) ∧ w'.cell? ⟨jk, 1, none⟩ = some (.int .i64 aR) ∧ w'.cell? ⟨jk, 2, none⟩ = some (.slice (some vK) aH.length bW) ∧ w'.cell? ⟨jk, 3, none⟩ = some (.slice dz av.length bZ)) (ds := []) (rs false [13]) (by kernel_rfl) rfl rfl ⟨bc cZ.out 0, bc cZ.out 1, bc cZ.out 2, bc cZ.out 3, bc fM.out 0, bc fM.out 1, bc dA.out 0, bc dA.out 1, bc dA.out 2, bc dA.out 3⟩ (fun hHeld => ?_); refine ji bD.aoP bD.afJ (fun HT_ HW_ => ?_)
       generalize w21.drew = w22 at dA cZ fM HB hHeld ⊢
       refine px 0 30 (rs true [1, 12]) HT_.out ?_
       refine px 3 33 (rs true [1, 2, 1, 9]) HT_.out ?_
       refine px 4 34 (rs true [1, 2, 2, 8]) HT_.out ?_
       refine px 7 37 (rs true [1, 2, 2, 2, 1, 5]) HT_.out ?_
       refine px 10 40 (rs true [1, 2, 2, 2, 1, 2, 1, 2]) HT_.out ?_
       refine tx 1 31 (rs true [2, 1, 2, 2, 1, 2, 1, 2]) HT_.out HW_.out hHeld ?_
       refine tx 2 32 (rs true [5, 2, 1, 2, 1, 2]) HT_.out HW_.out hHeld ?_
       refine tx 5 35 (rs true [6, 1, 1, 2, 1, 2]) HT_.out HW_.out hHeld ?_
       refine tx 8 38 (rs true [6, 1, 2, 1, 1, 2]) HT_.out HW_.out hHeld ?_
       refine oZ (i := 6) (N := some 36) (rs true [9, 1, 1, 2]) rfl rfl (gM HT_.out (by kernel_rfl)) (by decide) (fun K hK => ?_)
       first | refine kg Try.func91 (by kernel_rfl) rfl #[.agg #[.int .i64 t194, .int .i64 nM], .int .i64 a1, .int .i64 aQ] (by rfl) rfl rfl ar ?_ | refine ac7 Try.func91 (by kernel_rfl) rfl #[.agg #[.int .i64 t194, .int .i64 nM], .int .i64 a1, .int .i64 aQ] (by rfl) rfl rfl rfl ar ?_
       with_reducible refine (jd.calls k1 t194 nM a1 aQ t198 _ A13.out).mono ?_
       rintro e w23 ⟨rfl, hb⟩
       refine ⟨_, rfl, ?_⟩
       replace dA := am (ak (kp dA.out) hb)
       replace cZ := am (ak (kp cZ.out) hb)
       replace fM := am (ak (kp fM.out) hb)
       replace HB := am (au (bl3 HB.out jB.out jS.out qo.out) hb)
       (try clear hb)
       refine hK.out _ _ ⟨bc cZ.out 0, bc cZ.out 1, bc cZ.out 2, bc cZ.out 3, bc fM.out 0, bc fM.out 1, bc dA.out 0, bc dA.out 1, bc dA.out 2, bc dA.out 3⟩ (fun hHeld => ?_)
       clear hK K
       refine nx 36 ?_
       refine px 9 39 (rs true [11, 2]) HT_.out ?_
       refine px 11 41 (rs true [12, 1]) HT_.out ?_
       refine px 12 14 (rs true [13]) HT_.out ?_
       refine tV (kU HT_.out (by kernel_rfl)) ?_
       have aoQ := rR.out
       have aoR := rQ.out
       have afM : w23.cell? ⟨iV, 0, none⟩ = some (.int .i64 (-1)) := bc cZ.out 0
       have afN : w23.cell? ⟨iV, 1, none⟩ = some (.func (.func 90) #[] #[]) := bc cZ.out 1
       have ajK : w23.cell? ⟨iV, 2, none⟩ = some (.func (.func 91) #[] #[]) := bc cZ.out 2
       have ajL : w23.cell? ⟨iV, 3, none⟩ = some (.func (.func 92) #[] #[]) := bc cZ.out 3
       have afO := aj cZ.out 0
       have afP := aj cZ.out 1
       have ajM := aj cZ.out 2
       have ajN := aj cZ.out 3
       try go_wp2
       go_roundg k1
       case measure => have := HK1.out; omega
       case rel => exact ⟨(wrap64 ((wrap64 (t198 * aR)) + fU)), (true), (wrap64 (fU + 1)), sm, sm, sm, H', ⟨by have := HK1.out; omega⟩, ⟨kp dA.out⟩, ⟨kp cZ.out⟩, ⟨bl3 HB.out jB.out jS.out qo.out⟩⟩
      ·rw [if_neg c15] at H
       have abC : decide ((wrap64 ((wrap64 ((wrap64 ((wrap64 (t198 * aR)) + fU)) - lG)) * (-1))) < 0) = false := decide_eq_false c15
       (try simp only [Int.mul_one, Int.mul_neg, Int.add_zero] at abC)
       clear c15
       have H' := am H
       clear H
       have yH : 0 ≤ (fU : Int) := of_decide_eq_true asm
       have yI : fU < (aH.length : Int) := of_decide_eq_true asm
       obtain ⟨vK, rT, rU, afK, jC, kJ, kK⟩ := ru gF.out fU yH yI
       cases afK
       replace jC := (HB.out.cell (World.block_lt_of_cell? w _ jC)).trans jC
       have oI := am kK
       have oJ := am kJ
       clear kK kJ
       replace yH := eq_true yH
       replace yI := eq_true yI
       try go_wp2_with (first | ((with_reducible refine aC (f := 43) rfl ?_); refine bR (some 25) rfl rfl Try.func43 (by kernel_rfl) rfl #[.slice rT (dZ aH fU).length rU] rfl ar ?_; (with_reducible refine (eD.calls _ _ (dZ aH fU) t194 nM true _ ?bH ?bI A11.out).mono ?_); (case bH => exact kc (Kd.bf oI.out HB.out)); (case bI => exact oJ.out); rintro e w26 ⟨rfl, hb⟩; refine ⟨_, rfl, ?_⟩; replace dA := am (ak (kp dA.out) hb); replace cZ := am (ak (kp cZ.out) hb); replace HB := am (au (bl2 HB.out jB.out jS.out) hb); (try clear hb); (try clear hb2); (try clear hk); (try clear hi)) | ((with_reducible refine bq (N := 12) rfl ?_); refine bx 12 23 #[.int .i64 0, .int .i64 0] ?_; intro dX hg w27 dL hb; have fM := am (dL); have afL := am ((bz2 hg HB.out jB.out jS.out : w.heap.size ≤ dX)); have qo := am ((bz2 hg HB.out jB.out jS.out : w.heap.size ≤ dX)); replace HB := am (au (bl2 HB.out jB.out jS.out) hb); have iZ := am ((nl hg dA.out : jk ≠ dX)); have kL := am ((ng hg dA.out : dX ≠ jk)); replace dA := am (ak (kp dA.out) hb); have jc := am ((nl hg cZ.out : iV ≠ dX)); have kM := am ((ng hg cZ.out : dX ≠ iV)); replace cZ := am (ak (kp cZ.out) hb); clear hb dL hg; have awq := kL.out; have awr := iZ.out; have aoS := kM.out; have aoT := jc.out; have ajO : w27.cell? ⟨dX, 0, none⟩ = some (.int .i64 0) := bc fM.out 0; have ajP : w27.cell? ⟨dX, 1, none⟩ = some (.int .i64 0) := bc fM.out 1; have ajQ := aj fM.out 0; have ajR := aj fM.out 1))
       have n0_ : ay (((w27.setCell ⟨dX, 0, none⟩ (.int .i64 t194)).setCell ⟨dX, 1, none⟩ (.int .i64 nM)).heap[jk]? = some (.cells #[.int .i64 aQ, .int .i64 aR, .slice (some vK) aH.length bW, .slice dz av.length bZ] 28 (0, 0))) := ⟨kf dA.out iZ.out⟩
       have n1_ : ay (((w27.setCell ⟨dX, 0, none⟩ (.int .i64 t194)).setCell ⟨dX, 1, none⟩ (.int .i64 nM)).heap[iV]? = some (.cells #[.int .i64 (-1), .func (.func 90) #[] #[], .func (.func 91) #[] #[], .func (.func 92) #[] #[]] 79 (0, 0))) := ⟨kf cZ.out jc.out⟩
       have n2_ : ay (((w27.setCell ⟨dX, 0, none⟩ (.int .i64 t194)).setCell ⟨dX, 1, none⟩ (.int .i64 nM)).heap[dX]? = some (.cells #[.int .i64 t194, .int .i64 nM] 23 (0, 0))) := ⟨by (with_reducible repeat (first | refine aM ?_ _ | refine aI ?_ | refine aA ?_ _)); refine bX (cs := #[.int .i64 t194, .int .i64 0]) ?_ 1 _ rfl; (with_reducible repeat (first | refine aM ?_ _ | refine aI ?_ | refine aA ?_ _)); refine bX (cs := #[.int .i64 0, .int .i64 0]) ?_ 0 _ rfl; (with_reducible repeat (first | refine aM ?_ _ | refine aI ?_ | refine aA ?_ _)); exact fM.out⟩
       have n3_ : ay (Below w.heap.size w ((w27.setCell ⟨dX, 0, none⟩ (.int .i64 t194)).setCell ⟨dX, 1, none⟩ (.int .i64 nM))) := ⟨bl3 HB.out jB.out jS.out qo.out⟩
       (try clear dA)
       (try clear cZ)
       (try clear fM)
       (try clear HB)
       generalize ((w27.setCell ⟨dX, 0, none⟩ (.int .i64 t194)).setCell ⟨dX, 1, none⟩ (.int .i64 nM)) = w31 at n0_ n1_ n2_ n3_ ⊢
       have dA := n0_
       have cZ := n1_
       have fM := n2_
       have HB := n3_
       clear n0_ n1_ n2_ n3_
       replace dA := am (aI dA.out)
       replace cZ := am (aI cZ.out)
       replace fM := am (aI fM.out)
       replace HB := am (dx HB.out)
       refine nW (n := 13) (S := fun w' => w'.cell? ⟨iV, 0, none⟩ = some (.int .i64 (-1)) ∧ w'.cell? ⟨iV, 1, none⟩ = some (.func (.func 90) #[] #[]) ∧ w'.cell? ⟨iV, 2, none⟩ = some (.func (.func 91) #[] #[]) ∧ w'.cell? ⟨iV, 3, none⟩ = some (.func (.func 92) #[] #[]) ∧ w'.cell? ⟨dX, 0, none⟩ = some (.int .i64 t194) ∧ w'.cell? ⟨dX, 1, none⟩ = some (.int .i64 nM) ∧ w'.cell? ⟨jk, 0, none⟩ = some (.int .i64 aQ) ∧ w'.cell? ⟨jk, 1, none⟩ = some (.int .i64 aR) ∧ w'.cell? ⟨jk, 2, none⟩ = some (.slice (some vK) aH.length bW) ∧ w'.cell? ⟨jk, 3, none⟩ = some (.slice dz av.length bZ)) (ds := []) (rs false [13]) (by kernel_rfl) rfl rfl ⟨bc cZ.out 0, bc cZ.out 1, bc cZ.out 2, bc cZ.out 3, bc fM.out 0, bc fM.out 1, bc dA.out 0, bc dA.out 1, bc dA.out 2, bc dA.out 3⟩ (fun hHeld => ?_); refine ji bD.aoP bD.afJ (fun HT_ HW_ => ?_)
       generalize w31.drew = w32 at dA cZ fM HB hHeld ⊢
       refine px 0 30 (rs true [1, 12]) HT_.out ?_
       refine px 3 33 (rs true [1, 2, 1, 9]) HT_.out ?_
       refine px 4 34 (rs true [1, 2, 2, 8]) HT_.out ?_
       refine px 7 37 (rs true [1, 2, 2, 2, 1, 5]) HT_.out ?_
       refine px 10 40 (rs true [1, 2, 2, 2, 1, 2, 1, 2]) HT_.out ?_
       refine tx 1 31 (rs true [2, 1, 2, 2, 1, 2, 1, 2]) HT_.out HW_.out hHeld ?_
       refine tx 2 32 (rs true [5, 2, 1, 2, 1, 2]) HT_.out HW_.out hHeld ?_
       refine tx 5 35 (rs true [6, 1, 1, 2, 1, 2]) HT_.out HW_.out hHeld ?_
       refine tx 8 38 (rs true [6, 1, 2, 1, 1, 2]) HT_.out HW_.out hHeld ?_
       refine oZ (i := 6) (N := some 36) (rs true [9, 1, 1, 2]) rfl rfl (gM HT_.out (by kernel_rfl)) (by decide) (fun K hK => ?_)
       first | refine kg Try.func91 (by kernel_rfl) rfl #[.agg #[.int .i64 t194, .int .i64 nM], .int .i64 a1, .int .i64 aQ] (by rfl) rfl rfl ar ?_ | refine ac7 Try.func91 (by kernel_rfl) rfl #[.agg #[.int .i64 t194, .int .i64 nM], .int .i64 a1, .int .i64 aQ] (by rfl) rfl rfl rfl ar ?_
       with_reducible refine (jd.calls k1 t194 nM a1 aQ t198 _ A13.out).mono ?_
       rintro e w33 ⟨rfl, hb⟩
       refine ⟨_, rfl, ?_⟩
       replace dA := am (ak (kp dA.out) hb)
       replace cZ := am (ak (kp cZ.out) hb)
       replace fM := am (ak (kp fM.out) hb)
       replace HB := am (au (bl3 HB.out jB.out jS.out qo.out) hb)
       (try clear hb)
       refine hK.out _ _ ⟨bc cZ.out 0, bc cZ.out 1, bc cZ.out 2, bc cZ.out 3, bc fM.out 0, bc fM.out 1, bc dA.out 0, bc dA.out 1, bc dA.out 2, bc dA.out 3⟩ (fun hHeld => ?_)
       clear hK K
       refine nx 36 ?_
       refine px 9 39 (rs true [11, 2]) HT_.out ?_
       refine px 11 41 (rs true [12, 1]) HT_.out ?_
       refine px 12 14 (rs true [13]) HT_.out ?_
       refine tV (kU HT_.out (by kernel_rfl)) ?_
       have asU := rR.out
       have asV := rQ.out
       have afQ : w33.cell? ⟨iV, 0, none⟩ = some (.int .i64 (-1)) := bc cZ.out 0
       have afR : w33.cell? ⟨iV, 1, none⟩ = some (.func (.func 90) #[] #[]) := bc cZ.out 1
       have ajS : w33.cell? ⟨iV, 2, none⟩ = some (.func (.func 91) #[] #[]) := bc cZ.out 2
       have ajT : w33.cell? ⟨iV, 3, none⟩ = some (.func (.func 92) #[] #[]) := bc cZ.out 3
       have afS := aj cZ.out 0
       have afT := aj cZ.out 1
       have ajU := aj cZ.out 2
       have ajV := aj cZ.out 3
       try go_wp2
       go_roundg k1
       case measure => have := HK1.out; omega
       case rel => exact ⟨(lG), (true), (wrap64 (fU + 1)), sm, sm, sm, H', ⟨by have := HK1.out; omega⟩, ⟨kp dA.out⟩, ⟨kp cZ.out⟩, ⟨bl3 HB.out jB.out jS.out qo.out⟩⟩
     ·replace c14 := Bool.eq_false_iff.mpr c14
      subst c14
      have H1 : (bD.l0 k1 a1 (wrap64 ((wrap64 (t198 * aR)) + fU)) true aH (aH.length : Int) (wrap64 (fU + 1)) aQ aR aH av (-1)) = some (r1, r2) := by rw [if_neg (show ¬ (false = true) by decide)] at H; exact H
      clear H
      have H := H1
      clear H1
      have H' := am H
      clear H
      have yH : 0 ≤ (fU : Int) := of_decide_eq_true asm
      have yI : fU < (aH.length : Int) := of_decide_eq_true asm
      obtain ⟨vK, rT, rU, afK, jC, kJ, kK⟩ := ru gF.out fU yH yI
      cases afK
      replace jC := (HB.out.cell (World.block_lt_of_cell? w _ jC)).trans jC
      have oI := am kK
      have oJ := am kJ
      clear kK kJ
      replace yH := eq_true yH
      replace yI := eq_true yI
      try go_wp2_with (first | ((with_reducible refine aC (f := 43) rfl ?_); refine bR (some 25) rfl rfl Try.func43 (by kernel_rfl) rfl #[.slice rT (dZ aH fU).length rU] rfl ar ?_; (with_reducible refine (eD.calls _ _ (dZ aH fU) t194 nM true _ ?bH ?bI A11.out).mono ?_); (case bH => exact kc (Kd.bf oI.out HB.out)); (case bI => exact oJ.out); rintro e w36 ⟨rfl, hb⟩; refine ⟨_, rfl, ?_⟩; replace dA := am (ak (kp dA.out) hb); replace cZ := am (ak (kp cZ.out) hb); replace HB := am (au (bl2 HB.out jB.out jS.out) hb); (try clear hb); (try clear hb2); (try clear hk); (try clear hi)) | ((with_reducible refine bq (N := 12) rfl ?_); refine bx 12 23 #[.int .i64 0, .int .i64 0] ?_; intro dX hg w37 dL hb; have fM := am (dL); have afL := am ((bz2 hg HB.out jB.out jS.out : w.heap.size ≤ dX)); have qo := am ((bz2 hg HB.out jB.out jS.out : w.heap.size ≤ dX)); replace HB := am (au (bl2 HB.out jB.out jS.out) hb); have iZ := am ((nl hg dA.out : jk ≠ dX)); have kL := am ((ng hg dA.out : dX ≠ jk)); replace dA := am (ak (kp dA.out) hb); have jc := am ((nl hg cZ.out : iV ≠ dX)); have kM := am ((ng hg cZ.out : dX ≠ iV)); replace cZ := am (ak (kp cZ.out) hb); clear hb dL hg; have aws := kL.out; have awt := iZ.out; have aoU := kM.out; have aoV := jc.out; have afU : w37.cell? ⟨dX, 0, none⟩ = some (.int .i64 0) := bc fM.out 0; have afV : w37.cell? ⟨dX, 1, none⟩ = some (.int .i64 0) := bc fM.out 1; have afW := aj fM.out 0; have afX := aj fM.out 1))
      have n0_ : ay (((w37.setCell ⟨dX, 0, none⟩ (.int .i64 t194)).setCell ⟨dX, 1, none⟩ (.int .i64 nM)).heap[jk]? = some (.cells #[.int .i64 aQ, .int .i64 aR, .slice (some vK) aH.length bW, .slice dz av.length bZ] 28 (0, 0))) := ⟨kf dA.out iZ.out⟩
      have n1_ : ay (((w37.setCell ⟨dX, 0, none⟩ (.int .i64 t194)).setCell ⟨dX, 1, none⟩ (.int .i64 nM)).heap[iV]? = some (.cells #[.int .i64 (-1), .func (.func 90) #[] #[], .func (.func 91) #[] #[], .func (.func 92) #[] #[]] 79 (0, 0))) := ⟨kf cZ.out jc.out⟩
      have n2_ : ay (((w37.setCell ⟨dX, 0, none⟩ (.int .i64 t194)).setCell ⟨dX, 1, none⟩ (.int .i64 nM)).heap[dX]? = some (.cells #[.int .i64 t194, .int .i64 nM] 23 (0, 0))) := ⟨by (with_reducible repeat (first | refine aM ?_ _ | refine aI ?_ | refine aA ?_ _)); refine bX (cs := #[.int .i64 t194, .int .i64 0]) ?_ 1 _ rfl; (with_reducible repeat (first | refine aM ?_ _ | refine aI ?_ | refine aA ?_ _)); refine bX (cs := #[.int .i64 0, .int .i64 0]) ?_ 0 _ rfl; (with_reducible repeat (first | refine aM ?_ _ | refine aI ?_ | refine aA ?_ _)); exact fM.out⟩
      have n3_ : ay (Below w.heap.size w ((w37.setCell ⟨dX, 0, none⟩ (.int .i64 t194)).setCell ⟨dX, 1, none⟩ (.int .i64 nM))) := ⟨bl3 HB.out jB.out jS.out qo.out⟩
      (try clear dA)
      (try clear cZ)
      (try clear fM)
      (try clear HB)
      generalize ((w37.setCell ⟨dX, 0, none⟩ (.int .i64 t194)).setCell ⟨dX, 1, none⟩ (.int .i64 nM)) = w41 at n0_ n1_ n2_ n3_ ⊢
      have dA := n0_
      have cZ := n1_
      have fM := n2_
      have HB := n3_
      clear n0_ n1_ n2_ n3_
      replace dA := am (aI dA.out)
      replace cZ := am (aI cZ.out)
      replace fM := am (aI fM.out)
      replace HB := am (dx HB.out)
      refine nW (n := 13) (S := fun w' => w'.cell? ⟨iV, 0, none⟩ = some (.int .i64 (-1)) ∧ w'.cell? ⟨iV, 1, none⟩ = some (.func (.func 90) #[] #[]) ∧ w'.cell? ⟨iV, 2, none⟩ = some (.func (.func 91) #[] #[]) ∧ w'.cell? ⟨iV, 3, none⟩ = some (.func (.func 92) #[] #[]) ∧ w'.cell? ⟨dX, 0, none⟩ = some (.int .i64 t194) ∧ w'.cell? ⟨dX, 1, none⟩ = some (.int .i64 nM) ∧ w'.cell? ⟨jk, 0, none⟩ = some (.int .i64 aQ) ∧ w'.cell? ⟨jk, 1, none⟩ = some (.int .i64 aR) ∧ w'.cell? ⟨jk, 2, none⟩ = some (.slice (some vK) aH.length bW) ∧ w'.cell? ⟨jk, 3, none⟩ = some (.slice dz av.length bZ)) (ds := []) (rs false [13]) (by kernel_rfl) rfl rfl ⟨bc cZ.out 0, bc cZ.out 1, bc cZ.out 2, bc cZ.out 3, bc fM.out 0, bc fM.out 1, bc dA.out 0, bc dA.out 1, bc dA.out 2, bc dA.out 3⟩ (fun hHeld => ?_); refine ji bD.aoP bD.afJ (fun HT_ HW_ => ?_)
      generalize w41.drew = w42 at dA cZ fM HB hHeld ⊢
      refine px 0 30 (rs true [1, 12]) HT_.out ?_
      refine px 3 33 (rs true [1, 2, 1, 9]) HT_.out ?_
      refine px 4 34 (rs true [1, 2, 2, 8]) HT_.out ?_
      refine px 7 37 (rs true [1, 2, 2, 2, 1, 5]) HT_.out ?_
      refine px 10 40 (rs true [1, 2, 2, 2, 1, 2, 1, 2]) HT_.out ?_
      refine tx 1 31 (rs true [2, 1, 2, 2, 1, 2, 1, 2]) HT_.out HW_.out hHeld ?_
      refine tx 2 32 (rs true [5, 2, 1, 2, 1, 2]) HT_.out HW_.out hHeld ?_
      refine tx 5 35 (rs true [6, 1, 1, 2, 1, 2]) HT_.out HW_.out hHeld ?_
      refine tx 8 38 (rs true [6, 1, 2, 1, 1, 2]) HT_.out HW_.out hHeld ?_
      refine oZ (i := 6) (N := some 36) (rs true [9, 1, 1, 2]) rfl rfl (gM HT_.out (by kernel_rfl)) (by decide) (fun K hK => ?_)
      first | refine kg Try.func91 (by kernel_rfl) rfl #[.agg #[.int .i64 t194, .int .i64 nM], .int .i64 a1, .int .i64 aQ] (by rfl) rfl rfl ar ?_ | refine ac7 Try.func91 (by kernel_rfl) rfl #[.agg #[.int .i64 t194, .int .i64 nM], .int .i64 a1, .int .i64 aQ] (by rfl) rfl rfl rfl ar ?_
      with_reducible refine (jd.calls k1 t194 nM a1 aQ t198 _ A13.out).mono ?_
      rintro e w43 ⟨rfl, hb⟩
      refine ⟨_, rfl, ?_⟩
      replace dA := am (ak (kp dA.out) hb)
      replace cZ := am (ak (kp cZ.out) hb)
      replace fM := am (ak (kp fM.out) hb)
      replace HB := am (au (bl3 HB.out jB.out jS.out qo.out) hb)
      (try clear hb)
      refine hK.out _ _ ⟨bc cZ.out 0, bc cZ.out 1, bc cZ.out 2, bc cZ.out 3, bc fM.out 0, bc fM.out 1, bc dA.out 0, bc dA.out 1, bc dA.out 2, bc dA.out 3⟩ (fun hHeld => ?_)
      clear hK K
      refine nx 36 ?_
      refine px 9 39 (rs true [11, 2]) HT_.out ?_
      refine px 11 41 (rs true [12, 1]) HT_.out ?_
      refine px 12 14 (rs true [13]) HT_.out ?_
      refine tV (kU HT_.out (by kernel_rfl)) ?_
      try go_wp2
      go_roundg k1
      case measure => have := HK1.out; omega
      case rel => exact ⟨(wrap64 ((wrap64 (t198 * aR)) + fU)), (true), (wrap64 (fU + 1)), sm, sm, sm, H', ⟨by have := HK1.out; omega⟩, ⟨kp dA.out⟩, ⟨kp cZ.out⟩, ⟨bl3 HB.out jB.out jS.out qo.out⟩⟩
    ·replace c12 := Bool.eq_false_iff.mpr c12
     subst c12
     have H1 : (bD.l0 k1 a1 lG kV aH (aH.length : Int) (wrap64 (fU + 1)) aQ aR aH av (-1)) = some (r1, r2) := by rw [if_neg (show ¬ (false = true) by decide)] at H; exact H
     clear H
     have H := H1
     clear H1
     have H' := am H
     clear H
     have yH : 0 ≤ (fU : Int) := of_decide_eq_true asm
     have yI : fU < (aH.length : Int) := of_decide_eq_true asm
     obtain ⟨vK, rT, rU, afK, jC, kJ, kK⟩ := ru gF.out fU yH yI
     cases afK
     replace jC := (HB.out.cell (World.block_lt_of_cell? w _ jC)).trans jC
     have oI := am kK
     have oJ := am kJ
     clear kK kJ
     replace yH := eq_true yH
     replace yI := eq_true yI
     go_wp2_with (first | ((with_reducible refine aC (f := 43) rfl ?_); refine bR (some 25) rfl rfl Try.func43 (by kernel_rfl) rfl #[.slice rT (dZ aH fU).length rU] rfl ar ?_; (with_reducible refine (eD.calls _ _ (dZ aH fU) t194 nM false _ ?bH ?bI A11.out).mono ?_); (case bH => exact kc (Kd.bf oI.out HB.out)); (case bI => exact oJ.out); rintro e w44 ⟨rfl, hb⟩; refine ⟨_, rfl, ?_⟩; replace dA := am (ak (kp dA.out) hb); replace cZ := am (ak (kp cZ.out) hb); replace HB := am (au (bl2 HB.out jB.out jS.out) hb); (try clear hb); (try clear hb2); (try clear hk); (try clear hi)) | ((with_reducible refine bq (N := 12) rfl ?_); refine bx 12 23 #[.int .i64 0, .int .i64 0] ?_; intro dX hg w45 dL hb; have fM := am (dL); have afL := am ((bz2 hg HB.out jB.out jS.out : w.heap.size ≤ dX)); have qo := am ((bz2 hg HB.out jB.out jS.out : w.heap.size ≤ dX)); replace HB := am (au (bl2 HB.out jB.out jS.out) hb); have iZ := am ((nl hg dA.out : jk ≠ dX)); have kL := am ((ng hg dA.out : dX ≠ jk)); replace dA := am (ak (kp dA.out) hb); have jc := am ((nl hg cZ.out : iV ≠ dX)); have kM := am ((ng hg cZ.out : dX ≠ iV)); replace cZ := am (ak (kp cZ.out) hb); clear hb dL hg; have amw := kL.out; have amx := iZ.out; have awu := kM.out; have awv := jc.out; have aoW : w45.cell? ⟨dX, 0, none⟩ = some (.int .i64 0) := bc fM.out 0; have aoX : w45.cell? ⟨dX, 1, none⟩ = some (.int .i64 0) := bc fM.out 1; have aoY := aj fM.out 0; have aoZ := aj fM.out 1))
     go_roundg k1
     case measure => have := HK1.out; omega
     case rel => exact ⟨(lG), (kV), (wrap64 (fU + 1)), sm, sm, sm, H', ⟨by have := HK1.out; omega⟩, ⟨kf dA.out iZ.out⟩, ⟨kf cZ.out jc.out⟩, ⟨bl3 HB.out jB.out jS.out qo.out⟩⟩
   ·rw [if_neg c8] at H
    have aft : decide (fU < (aH.length : Int)) = false := decide_eq_false c8
    clear c8
    simp only [Option.some.injEq, Prod.mk.injEq] at H
    obtain ⟨rfl, rfl⟩ := H
    go_wp2
    go_ret2
    exact ⟨rt, bl2 HB.out jB.out jS.out⟩
def iD.f (k : Nat) (aQ : Int) (aR : Int) (aH : List (List (S23))) (av : List (S70)) (a1 : Int) : Option (Int × Bool) := if a1 ≤ (-1099511627776) then (some (0, false)) else ((aV.f k aQ aR aH av (mn (wrap64 (a1 - 1)) 1099511627776) (-1)).bind fun aaY => (some (aaY.1, aaY.2)))
theorem iD.mono : ∀ a0 a1 a2 a3 a4 k, LeO (iD.f k a0 a1 a2 a3 a4) (iD.f (k + 1) a0 a1 a2 a3 a4) := by
 intro a0 a1 a2 a3 a4 k
 unfold iD.f
 repeat' first
  | (with_reducible exact aV.mono _ _ _ _ _ _ _)
  | (with_reducible exact LeO.refl _)
  | (with_reducible exact LeO.none _)
  | (with_reducible refine LeO.ite ?_ ?_)
  | (with_reducible refine LeO.bind ?_ (fun _ => ?_))
  | exact aV.mono _ _ _ _ _ _ _
  | exact LeO.none _
  | refine LeO.ite ?_ ?_
  | refine LeO.bind ?_ (fun _ => ?_)
set_option maxHeartbeats 8000000 in
set_option maxRecDepth 100000 in
theorem iD.calls (k : Nat) (aQ : Int) (aR : Int) (cu : Option Addr) (bW : Nat) (aH : List (List (S23))) (dz : Option Addr) (bZ : Nat) (av : List (S70)) (a1 : Int) (r1 : Int) (r2 : Bool) (w : World) (iF : Kd.C (Kd.slice 23 k23) w cu aH.length aH) (iG : aH.length ≤ bW) (iw : Kd.C k70 w dz av.length av) (iy : av.length ≤ bZ) (h : iD.f k aQ aR aH av a1 = some (r1, r2)) :
 Calls Try.prog 90 #[.agg #[.int .i64 aQ, .int .i64 aR, .slice cu aH.length bW, .slice dz av.length bZ], .int .i64 a1] w fun e w' => e = .returned (.tuple #[.int .i64 r1, .bool r2]) ∧ Below w.heap.size w w' := by
 have aaE := Try.underlying28
 have gF := am iF
 have gX := am iG
 clear iF iG
 have fK := am iw
 have gW := am iy
 clear iw iy
 have HB := am (Below.refl w.heap.size w)
 have H : (if a1 ≤ (-1099511627776) then (some (0, false)) else ((aV.f k aQ aR aH av (mn (wrap64 (a1 - 1)) 1099511627776) (-1)).bind fun aaY => (some (aaY.1, aaY.2)))) = some (r1, r2) := h
 clear h
 by_cases c3 : a1 ≤ (-1099511627776)
 ·rw [if_pos c3] at H
  have aa8 : decide (a1 ≤ (-1099511627776)) = true := decide_eq_true c3
  clear c3
  simp only [Option.some.injEq, Prod.mk.injEq] at H
  obtain ⟨rfl, rfl⟩ := H
  go_enter Try.func90, Try.ntmps90
  go_wp2_with (first | ((with_reducible refine bq (N := 2) rfl ?_); refine bx 2 28 #[.int .i64 aQ, .int .i64 aR, .slice cu aH.length bW, .slice dz av.length bZ] ?_; intro zU hg w4 dL hb; have xA := am (dL); have atr := am ((bz hg HB.out : w.heap.size ≤ zU)); have ah8 := am ((bz hg HB.out : w.heap.size ≤ zU)); replace HB := am (au (bl HB.out) hb); clear hb dL hg))
  go_ret2
  exact ⟨rt, bl1 HB.out ah8.out⟩
 ·rw [if_neg c3] at H
  have aa8 : decide (a1 ≤ (-1099511627776)) = false := decide_eq_false c3
  clear c3
  obtain ⟨ji5, uW⟩ : ∃ j_ : Int, (mn (wrap64 (a1 - 1)) 1099511627776) = j_ := ⟨_, rfl⟩
  replace H : ((aV.f k aQ aR aH av (ji5) (-1)).bind fun aaY => (some (aaY.1, aaY.2))) = some (r1, r2) := by first | (rw [uW] at H; exact H) | (simp only [uW] at H ⊢; exact H)
  (try (have aB5 : ji5 ≤ 1099511627776 := by (rw [← uW]; unfold mn; (repeat' split) <;> omega)))
  (try (have aB6 : ji5 ≤ 64 := by omega))
  have apI : (if 1099511627776 < (wrap64 (a1 - 1)) then 1099511627776 else (wrap64 (a1 - 1))) = ji5 := uW
  replace H := Option.bind_eq_some_iff.mp H
  obtain ⟨⟨ayi, ayj⟩, A60, H⟩ := H
  try dsimp only at H
  have A6 := am A60
  clear A60
  simp only [Option.some.injEq, Prod.mk.injEq] at H
  obtain ⟨rfl, rfl⟩ := H
  go_enter Try.func90, Try.ntmps90
  go_wp2_with (first | ((with_reducible refine bq (N := 2) rfl ?_); refine bx 2 28 #[.int .i64 aQ, .int .i64 aR, .slice cu aH.length bW, .slice dz av.length bZ] ?_; intro zU hg w7 dL hb; have xA := am (dL); have atr := am ((bz hg HB.out : w.heap.size ≤ zU)); have ah8 := am ((bz hg HB.out : w.heap.size ≤ zU)); replace HB := am (au (bl HB.out) hb); clear hb dL hg; have yx : w7.cell? ⟨zU, 0, none⟩ = some (.int .i64 aQ) := bc xA.out 0; have yA : w7.cell? ⟨zU, 1, none⟩ = some (.int .i64 aR) := bc xA.out 1; have zn : w7.cell? ⟨zU, 2, none⟩ = some (.slice cu aH.length bW) := bc xA.out 2; have zo : w7.cell? ⟨zU, 3, none⟩ = some (.slice dz av.length bZ) := bc xA.out 3; have yB := aj xA.out 0; have yC := aj xA.out 1; have zq := aj xA.out 2; have zu := aj xA.out 3) | ((with_reducible refine aC (f := 63) rfl ?_); refine bR (some 12) rfl rfl Try.func63 (by kernel_rfl) rfl #[.agg #[.int .i64 aQ, .int .i64 aR, .slice cu aH.length bW, .slice dz av.length bZ], .int .i64 ji5, .int .i64 (-1)] rfl (by (try simp only [List.map_toArray, List.map_cons, List.map_nil]); first | done | (simp only [uW]; rfl) | rfl | (simp only [List.length_drop, List.length_take]; rfl)) ?_; (with_reducible refine (aV.calls k aQ aR _ _ aH _ _ av ji5 (-1) ayi ayj _ ?bH ?bI ?dG ?dI A6.out).mono ?_); (case bH => exact kc (Kd.bf gF.out HB.out)); (case bI => exact gX.out); (case dG => exact kc (Kd.bf fK.out HB.out)); (case dI => exact gW.out); rintro e w9 ⟨rfl, hb⟩; refine ⟨_, rfl, ?_⟩; replace xA := am (ak (kp xA.out) hb); replace HB := am (au (bl1 HB.out ah8.out) hb); (try clear hb); (try clear hb2); (try clear hk); (try clear hi)))
  go_ret2
  exact ⟨by first | rfl | (simp [gu, gB] <;> rfl) | (simp only [← uW]; first | rfl | (simp [gu, gB] <;> rfl)) | (simp [*, gu, gB] <;> rfl), bl1 HB.out ah8.out⟩
end Go.Proofs.Ytmbmalkpmanaaaa.P
namespace Go.Proofs.Ytmbmalkpmanaaaa.P
set_option linter.unusedVariables false
set_option linter.unusedSimpArgs false
open Go.RowKit Go.Proofs.YtmbmalkpmanaaaaW.aK Go.Proofs.YtmbmalkpmanaaaaW.bK Go.Proofs.YtmbmalkpmanaaaaW.bM
def bU.l1 : Nat → Int → Bool → Int → Int → Int → List (List S23) → List Gr → Option (Int × Bool)
  | 0, _, _, _, _, _, _, _ => none
  | k + 1, i, ok, beyond, p, c, core, odd => if ok = true then (if beyond < 2 then ((eO.f k p c core [] i).bind fun g => if g.2 = 0 then if yK i = true then if yD (nH odd) i = 0 then some (i, true) else (iD.f k p c core [] i).bind fun n => bU.l1 k n.1 n.2 beyond p c core odd else none else (iD.f k p c core [] i).bind fun n => bU.l1 k n.1 n.2 (wrap64 (beyond + 1)) p c core odd) else some (0, false)) else some (0, false)
def bU.f (k : Nat) (p c : Int) (core : List (List S23)) (odd : List Gr) (t : Int) : Option (Int × Bool) :=
  if odd.length < 1000000000 ∧ odd.all (fun g => yK g.f0) = true then (bD.f k p c core odd t).bind fun a => if a.2 = true then (iD.f k p c core [] (wrap64 (a.1 - (-1)))).bind fun n => bU.l1 k n.1 n.2 0 p c core odd else some (0, false) else none
theorem bU.iX : ∀ (k : Nat) (i : Int) (ok : Bool) (b p c : Int) (core : List (List S23)) (odd : List Gr), LeO (bU.l1 k i ok b p c core odd) (bU.l1 (k + 1) i ok b p c core odd)
  | 0, _, _, _, _, _, _, _ => fun r h => by simp [bU.l1] at h
  | k + 1, i, ok, b, p, c, core, odd => by
    have ih := bU.iX k
    unfold bU.l1
    repeat' first
      | (with_reducible exact ih _ _ _ _ _ _ _)
      | (with_reducible exact eO.mono _ _ _ _ _ _)
      | (with_reducible exact iD.mono _ _ _ _ _ _)
      | (with_reducible exact LeO.refl _)
      | (with_reducible exact LeO.none _)
      | (with_reducible refine LeO.ite ?_ ?_)
      | (with_reducible refine LeO.bind ?_ (fun _ => ?_))
theorem bU.mono (p c : Int) (core : List (List S23)) (odd : List Gr) (t : Int) (k : Nat) : LeO (bU.f k p c core odd t) (bU.f (k + 1) p c core odd t) := by
  unfold bU.f
  repeat' first
    | (with_reducible exact bU.iX _ _ _ _ _ _ _ _)
    | (with_reducible exact bD.mono _ _ _ _ _ _)
    | (with_reducible exact iD.mono _ _ _ _ _ _)
    | (with_reducible exact LeO.refl _)
    | (with_reducible exact LeO.none _)
    | (with_reducible refine LeO.ite ?_ ?_)
    | (with_reducible refine LeO.bind ?_ (fun _ => ?_))
set_option maxHeartbeats 8000000 in
set_option maxRecDepth 100000 in
theorem bU.calls (k : Nat) (aQ : Int) (aR : Int) (cu : Option Addr) (bW : Nat) (aH : List (List (S23))) (dz : Option Addr) (bZ : Nat) (av : List (S70)) (a1 : Int)  (r1 : Int) (r2 : Bool) (w : World) (iF : Kd.C (Kd.slice 23 k23) w cu aH.length aH) (iG : aH.length ≤ bW) (iw : Kd.C k70 w dz av.length av) (iy : av.length ≤ bZ) (h : bU.f k aQ aR aH av a1 = some (r1, r2)) :
    Calls Try.prog 87 #[.agg #[.int .i64 aQ, .int .i64 aR, .slice cu aH.length bW, .slice dz av.length bZ], .int .i64 a1, .agg #[.int .i64 (-1), .func (.func 90) #[] #[], .func (.func 91) #[] #[], .func (.func 92) #[] #[]]] w fun e w' => e = .returned (.tuple #[.int .i64 r1, .bool r2]) ∧ Below w.heap.size w w' := by
  have hmm := @run_makeMap Try.prog
  have HR2 := ay.mk iF
  have HC2 := ay.mk iG
  have HR3 := ay.mk iw
  have HC3 := ay.mk iy
  unfold bU.f at h
  by_cases hlen : av.length < 1000000000 ∧ av.all (fun g => yK g.f0) = true
  case neg => rw [if_neg hlen] at h; cases h
  rw [if_pos hlen] at h
  obtain ⟨⟨i0, ok0⟩, hpl, h⟩ := Option.bind_eq_some_iff.mp h
  have HP := ay.mk hpl
  have HL := ay.mk hlen
  have H := ay.mk h
  clear iF iG iw iy h hpl hlen
  go_enter Try.func87, Try.ntmps87
  go_wp2_with fail
  refine (bD.calls k aQ aR cu bW aH dz bZ av a1 i0 ok0 _ ?_ HC2.out ?_ HC3.out HP.out).mono ?_
  · exact Kd.bf HR2.out (by repeat (first | exact Below.refl _ _ | apply eG))
  · exact Kd.bf HR3.out (by repeat (first | exact Below.refl _ _ | apply eG))
  rintro e w1 ⟨rfl, hb1⟩
  have HB1 := ay.mk (((((Below.refl w.heap.size w).alloc (Nat.le_refl _) _).alloc (by simp) _).alloc (by simp; try omega) _).trans (hb1.mono (by simp; try omega)))
  have BK3 : ay (w1.heap[w.heap.size]? = some (.cells #[.int .i64 aQ, .int .i64 aR, .slice cu aH.length bW, .slice dz av.length bZ] 28 (0, 0))) := ⟨ak (aA (aA (l6 w _) _) _) hb1⟩
  have BK5 : ay (w1.heap[w.heap.size + 1]? = some (.cells #[.int .i64 (-1), .func (.func 90) #[] #[], .func (.func 91) #[] #[], .func (.func 92) #[] #[]] 79 (0, 0))) := ⟨by have := ak (aA (l6 (w.alloc _) _) _) hb1; simpa using this⟩
  have BK8 : ay (w1.heap[w.heap.size + 1 + 1]? = some (.cells #[.int .i64 aQ, .int .i64 aR, .slice cu aH.length bW, .slice none 0 0] 28 (0, 0))) := ⟨by have := ak (l6 ((w.alloc _).alloc _) _) hb1; simpa using this⟩
  have SZ : ay (w.heap.size + 3 ≤ w1.heap.size) := ⟨by have := hb1.size; simp at this; omega⟩
  clear hb1
  cases ok0
  · go_wp2
    have h := H.out
    simp at h
    obtain ⟨rfl, rfl⟩ := h
    go_ret2
    exact ⟨rfl, HB1.out⟩
  · have hc3 : (w1.alloc (.map #[] 0)).cell? ⟨w.heap.size, 3, none⟩ = some (.slice dz av.length bZ) := (cO (aA BK3.out _) 3).trans rfl
    have hf3 := aj (aA BK3.out (.map #[] 0)) 3
    go_wp2_with fail
    clear hc3 hf3
    have HX := H.out
    rw [if_pos trivial] at HX
    obtain ⟨⟨n1, n2⟩, hn, HX⟩ := Option.bind_eq_some_iff.mp HX
    have HN := ay.mk hn
    have H2 := ay.mk HX
    clear H HX hn
    go_loopw [37] (fun v wr => ∃ m : Nat, ay (m ≤ av.length) ∧ v = .int .i64 (m : Int) ∧ ay (wr.heap[w.heap.size]? = some (.cells #[.int .i64 aQ, .int .i64 aR, .slice cu aH.length bW, .slice dz av.length bZ] 28 (0, 0))) ∧ ay (wr.heap[w.heap.size + 1]? = some (.cells #[.int .i64 (-1), .func (.func 90) #[] #[], .func (.func 91) #[] #[], .func (.func 92) #[] #[]] 79 (0, 0))) ∧ ay (wr.heap[w.heap.size + 1 + 1]? = some (.cells #[.int .i64 aQ, .int .i64 aR, .slice cu aH.length bW, .slice none 0 0] 28 (0, 0))) ∧ ay (vw wr w1.heap.size (nH (av.take m))) ∧ ay (Below w.heap.size w wr)) (fun v _ => av.length - (intOf v).toNat)
    case atStart => exact ⟨0, ⟨Nat.zero_le _⟩, rfl, ⟨aA BK3.out _⟩, ⟨aA BK5.out _⟩, ⟨aA BK8.out _⟩, ⟨vw.made w1⟩, ⟨HB1.out.alloc HB1.out.size _⟩⟩
    case round =>
      clear BK3 BK5 BK8 HB1
      obtain ⟨m, hm, rfl, BK3, BK5, BK8, OM, HB⟩ := hrel
      by_cases hlt : m < av.length
      · obtain ⟨ad, A1, c1, e, hx0, hx1, hl1, hi1⟩ := kZ HR3.out (m : Int) (by omega) (by omega)
        subst e
        have hy : aU av (m : Int) = av[m] := by simp [aU, hlt]
        have hwf : yK (aU av (m : Int)).f0 = true := by
          rw [hy]; exact List.all_eq_true.1 HL.out.2 _ (List.getElem_mem hlt)
        have htk : nH (av.take (m + 1)) = nH (av.take m) ++ [(aU av (m : Int)).f0] := by
          rw [hy, List.take_succ_eq_append_getElem hlt]; exact List.map_append
        have hln : (nH (av.take m)).length < maxLen := by simp only [nH, List.length_map, List.length_take]; have := HL.out.1; unfold maxLen; omega
        have HTK := ay.mk htk
        have HWF := ay.mk (abe hwf)
        have HLN := ay.mk hln
        have HLT := ay.mk hlt
        have hw : wrap64 ((m : Int) + 1) = ((m + 1 : Nat) : Int) := by have := HL.out.1; unfold wrap64; omega
        have HW := ay.mk hw
        clear hy hwf htk hln hw
        replace hx0 := (HB.out.cell (World.block_lt_of_cell? w _ hx0)).trans hx0
        replace hx1 := (HB.out.cell (World.block_lt_of_cell? w _ hx1)).trans hx1
        have p0 : 0 ≤ (m : Int) := by omega
        have p1 : (m : Int) < (av.length : Int) := by omega
        obtain ⟨x, hx⟩ : ∃ x : Int, (m : Int) = x := ⟨_, rfl⟩
        rw [hx] at p0 p1 hx0 hx1 HTK HWF HW ⊢
        have HXX := ay.mk hx
        clear hx hlt
        have p2 : decide (x < (av.length : Int)) = true := decide_eq_true p1
        replace p0 := eq_true p0
        replace p1 := eq_true p1
        go_wp2_with (first
          | (at_lookup; refine vw.lookup (b := w1.heap.size) (l := nH (av.take m)) (vw.heap OM.out (Below.heap_alloc wr _ _ OM.out.lt)) rfl _ _ rfl rfl _ HWF.out rfl ?_)
          | (at_mapUpdate; refine vw.update (b := w1.heap.size) (l := nH (av.take m)) (vw.heap OM.out (Below.heap_alloc wr _ _ OM.out.lt)) rfl _ _ _ rfl rfl HLN.out _ HWF.out rfl rfl ?_; intro w4 om4 gr4; have OM4 := ay.mk om4; have GR4 := ay.mk gr4; clear om4 gr4))
        go_roundw
        case rel =>
          have hne : ∀ g, g < w.heap.size + 3 → some g ≠ some w1.heap.size := fun g hg e => by have := SZ.out; injection e; omega
          exact ⟨m + 1, ⟨HLT.out⟩, by rw [HW.out], ⟨oh (aA BK3.out _) GR4.out (hne _ (by omega))⟩, ⟨oh (aA BK5.out _) GR4.out (hne _ (by omega))⟩, ⟨oh (aA BK8.out _) GR4.out (hne _ (by omega))⟩,
            ⟨by rw [HTK.out]; exact OM4.out⟩, ⟨(HB.out.alloc HB.out.size _).grown GR4.out (HB.out.alloc HB.out.size _).size (fun j hj => by cases hj; have := SZ.out; omega)⟩⟩
        case measure => have := HLT.out; have := HW.out; have := HXX.out; simp only [intOf]; omega
      · have axn : m = av.length := by have := hm.out; omega
        subst axn
        have OM2 : ay (vw wr w1.heap.size (nH av)) := ⟨by have := OM.out; rwa [List.take_length] at this⟩
        clear OM hlt hm
        have hc0 := (cO BK5.out 0).trans rfl
        have hc1 := (cO BK5.out 1).trans rfl
        have h80 := (cO BK8.out 0).trans rfl
        have h81 := (cO BK8.out 1).trans rfl
        have h82 := (cO BK8.out 2).trans rfl
        have h83 := (cO BK8.out 3).trans rfl
        have p2 : decide ((av.length : Int) < (av.length : Int)) = false := by simp
        go_wp2_with fail
        refine (iD.calls k aQ aR cu bW aH none 0 [] _ n1 n2 _ (Kd.bf HR2.out HB.out) HC2.out (Kd.aav _ _) (Nat.le_refl _) HN.out).mono ?_
        rintro e w5 ⟨rfl, hb5⟩
        have n5 := ay.mk (ak BK5.out hb5)
        have n8 := ay.mk (ak BK8.out hb5)
        have nm := ay.mk (vw.heap OM2.out (hb5.block _ OM2.out.lt))
        have nb := ay.mk (au HB.out hb5)
        clear BK3 BK5 BK8 OM2 HB hc0 hc1 h80 h81 h82 h83 hb5 p2
        go_wp2_with fail
        go_loopg [9, 10, 14] k (fun kq v9 v10 v14 w' => ∃ (i : Int) (ok : Bool) (by_ : Int), v9 = .int .i64 i ∧ v10 = .bool ok ∧ v14 = .int .i64 by_ ∧ ay (bU.l1 kq i ok by_ aQ aR aH av = some (r1, r2)) ∧ ay (kq ≤ k) ∧ ay (w'.heap[w.heap.size + 1]? = some (.cells #[.int .i64 (-1), .func (.func 90) #[] #[], .func (.func 91) #[] #[], .func (.func 92) #[] #[]] 79 (0, 0))) ∧ ay (w'.heap[w.heap.size + 1 + 1]? = some (.cells #[.int .i64 aQ, .int .i64 aR, .slice cu aH.length bW, .slice none 0 0] 28 (0, 0))) ∧ ay (vw w' w1.heap.size (nH av)) ∧ ay (Below w.heap.size w w'))
        case atStart => exact ⟨n1, n2, 0, rfl, rfl, rfl, H2, ⟨Nat.le_refl _⟩, n5, n8, nm, nb⟩
        case round =>
          clear n5 n8 nm nb H2 HN
          obtain ⟨i, ok, by_, rfl, rfl, rfl, HA, HK1, BK5, BK8, OM, HB⟩ := hrel
          cases gk with
          | zero => exact absurd HA.out (by simp [bU.l1])
          | succ k1 =>
            have hc0 := (cO BK5.out 0).trans rfl
            have hc1 := (cO BK5.out 1).trans rfl
            have h80 := (cO BK8.out 0).trans rfl
            have h81 := (cO BK8.out 1).trans rfl
            have h82 := (cO BK8.out 2).trans rfl
            have h83 := (cO BK8.out 3).trans rfl
            have H := HA.out
            clear HA
            simp only [bU.l1] at H
            cases ok
            · simp at H
              obtain ⟨rfl, rfl⟩ := H
              go_wp2
              all_goals (go_ret2; exact ⟨rfl, HB.out⟩)
            · rw [if_pos rfl] at H
              by_cases cb : by_ < 2
              · rw [if_pos cb] at H
                obtain ⟨⟨l, e⟩, hg, H⟩ := Option.bind_eq_some_iff.mp H
                have cb0 : decide (by_ < 2) = true := decide_eq_true cb
                clear cb
                have HG := ay.mk hg
                have H' := ay.mk H
                clear hg H
                go_wp2_with fail
                refine (eO.calls k1 aQ aR cu bW aH none 0 [] i l e _ (Kd.bf HR2.out HB.out) HC2.out (Kd.aav _ _) (Nat.le_refl _) HG.out).mono ?_
                rintro e' w6 ⟨v, rfl, hR, hb6⟩
                have n5 := ay.mk (ak BK5.out hb6)
                have n8 := ay.mk (ak BK8.out hb6)
                have nm := ay.mk (vw.heap OM.out (hb6.block _ OM.out.lt))
                have nb := ay.mk (au HB.out hb6)
                clear BK5 BK8 OM HB hc0 hc1 h80 h81 h82 h83 hb6 hR
                have BK5 := n5
                have BK8 := n8
                have OM := nm
                have HB := nb
                clear n5 n8 nm nb
                have hc0 := (cO BK5.out 0).trans rfl
                have hc1 := (cO BK5.out 1).trans rfl
                have h80 := (cO BK8.out 0).trans rfl
                have h81 := (cO BK8.out 1).trans rfl
                have h82 := (cO BK8.out 2).trans rfl
                have h83 := (cO BK8.out 3).trans rfl
                have H := H'.out
                clear H'
                by_cases ce : e = 0
                · subst ce
                  rw [if_pos rfl] at H
                  by_cases cf : yK i = true
                  case neg => rw [if_neg cf] at H; cases H
                  rw [if_pos cf] at H
                  have HWF := ay.mk (abe cf)
                  clear cf
                  by_cases cz : yD (nH av) i = 0
                  · rw [if_pos cz] at H
                    simp only [Option.some.injEq, Prod.mk.injEq] at H
                    obtain ⟨e1, rfl⟩ := H
                    have E1 := ay.mk e1
                    clear e1
                    have cz0 : (yD (nH av) i == 0) = true := by simpa using cz
                    have cz1 : decide (yD (nH av) i = 0) = true := by simpa using cz
                    go_wp2_with (at_lookup; refine vw.lookup (b := w1.heap.size) (l := nH av) OM.out rfl _ _ rfl rfl _ HWF.out rfl ?_)
                    go_ret2
                    exact ⟨by simp [E1.out], HB.out⟩
                  · rw [if_neg cz] at H
                    have cz0 : (yD (nH av) i == 0) = false := by simpa using cz
                    have cz1 : decide (yD (nH av) i = 0) = false := by simpa using cz
                    clear cz
                    obtain ⟨⟨m1, m2⟩, hn, H⟩ := Option.bind_eq_some_iff.mp H
                    have HN := ay.mk hn
                    have H' := ay.mk H
                    clear hn H
                    go_wp2_with (first | (at_lookup; refine vw.lookup (b := w1.heap.size) (l := nH av) OM.out rfl _ _ rfl rfl _ HWF.out rfl ?_) | fail)
                    refine (iD.calls k1 aQ aR cu bW aH none 0 [] _ m1 m2 _ (Kd.bf HR2.out HB.out) HC2.out (Kd.aav _ _) (Nat.le_refl _) HN.out).mono ?_
                    rintro e w7 ⟨rfl, hb7⟩
                    have n5 := ay.mk (ak BK5.out hb7)
                    have n8 := ay.mk (ak BK8.out hb7)
                    have nm := ay.mk (vw.heap OM.out (hb7.block _ OM.out.lt))
                    have nb := ay.mk (au HB.out hb7)
                    clear BK5 BK8 OM HB hc0 hc1 h80 h81 h82 h83 hb7
                    go_wp2
                    go_roundg k1
                    case measure => exact Nat.lt_succ_self _
                    case rel => exact ⟨m1, m2, _, rfl, rfl, rfl, H', ⟨Nat.le_of_succ_le HK1.out⟩, n5, n8, nm, nb⟩
                · rw [if_neg ce] at H
                  have ce0 : (e != 0) = true := by simpa using ce
                  have ce1 : (e == 0) = false := by simpa using ce
                  clear ce
                  obtain ⟨⟨m1, m2⟩, hn, H⟩ := Option.bind_eq_some_iff.mp H
                  have HN := ay.mk hn
                  have H' := ay.mk H
                  clear hn H
                  go_wp2_with fail
                  refine (iD.calls k1 aQ aR cu bW aH none 0 [] _ m1 m2 _ (Kd.bf HR2.out HB.out) HC2.out (Kd.aav _ _) (Nat.le_refl _) HN.out).mono ?_
                  rintro e w7 ⟨rfl, hb7⟩
                  have n5 := ay.mk (ak BK5.out hb7)
                  have n8 := ay.mk (ak BK8.out hb7)
                  have nm := ay.mk (vw.heap OM.out (hb7.block _ OM.out.lt))
                  have nb := ay.mk (au HB.out hb7)
                  clear BK5 BK8 OM HB hc0 hc1 h80 h81 h82 h83 hb7
                  go_wp2
                  go_roundg k1
                  case measure => exact Nat.lt_succ_self _
                  case rel => exact ⟨m1, m2, _, rfl, rfl, rfl, H', ⟨Nat.le_of_succ_le HK1.out⟩, n5, n8, nm, nb⟩
              · rw [if_neg cb] at H
                have cb0 : decide (by_ < 2) = false := decide_eq_false cb
                clear cb
                cases H
                go_wp2
                all_goals (go_ret2; exact ⟨rfl, HB.out⟩)
end Go.Proofs.Ytmbmalkpmanaaaa.P

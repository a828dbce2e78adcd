/- Lemmas for laws of chapter 7: what the functions that they reach compute. No condition of its own. -/
import Derived.Test.YtmbmalkpmanaaaaYG4
import Derived.Test.YtmbmalkpmanaaaaYG2
import Derived.Test.YtmbmalkpmanaaaaYG5
namespace Go.Proofs.Ytmbmalkpmanaaaa.P
open Go.RowKit Go.Proofs.YtmbmalkpmanaaaaW.aK Go.Proofs.YtmbmalkpmanaaaaW.bK Go.Proofs.YtmbmalkpmanaaaaW.bM
attribute [local go_sem] dS dU fG fH dB dD dV dW   -- for this text's walks alone
set_option linter.unusedVariables false
set_option linter.unusedSimpArgs false
def jl.f (k : Nat) (aQ : Int) (aR : Int) (aH : List (List (S23))) (av : List (S70)) (a1 : Int) : Option ((List (S23)) × Int × Int) := (iH.f k aQ aR aH av a1).bind fun zK => (if zK.2 = true then (if 0 ≤ zK.1 then (if zK.1 < (av.length : Int) then (some ((aU av zK.1).f1, 0, 0)) else (none)) else (none)) else (if aR = 0 then (some (([] : List (S23)), 0, 0)) else ((eF.f k a1 aR).bind fun uh => ((nA.f k uh.1 aQ).bind fun aaS => (if 0 ≤ uh.2.1 then (if uh.2.1 < (aH.length : Int) then (some (dZ aH uh.2.1, aaS.1, aaS.2)) else (none)) else (none))))))
theorem jl.mono : ∀ a0 a1 a2 a3 a4 k, LeO (jl.f k a0 a1 a2 a3 a4) (jl.f (k + 1) a0 a1 a2 a3 a4) := by
 intro a0 a1 a2 a3 a4 k
 unfold jl.f
 repeat' first
  | (with_reducible exact iH.mono _ _ _ _ _ _)
  | (with_reducible exact eF.mono _ _ _)
  | (with_reducible exact nA.mono _ _ _)
  | (with_reducible exact LeO.refl _)
  | (with_reducible exact LeO.none _)
  | (with_reducible refine LeO.ite ?_ ?_)
  | (with_reducible refine LeO.bind ?_ (fun _ => ?_))
  | exact iH.mono _ _ _ _ _ _
  | exact eF.mono _ _ _
  | exact nA.mono _ _ _
  | exact LeO.none _
  | refine LeO.ite ?_ ?_
  | refine LeO.bind ?_ (fun _ => ?_)
set_option maxHeartbeats 8000000 in
set_option maxRecDepth 100000 in
theorem jl.calls (k : Nat) (aQ : Int) (aR : Int) (nS : Nat → Prop) (cu : Option Addr) (bW : Nat) (aH : List (List (S23))) (amC : Nat → Prop) (dz : Option Addr) (bZ : Nat) (av : List (S70)) (a1 : Int) (r1 : List (S23)) (r2 : Int) (r3 : Int) (w : World) (ao7 : Kd.V (Kd.slice 23 k23) 24 w w.heap.size (fun k_ => nS k_) (.slice cu aH.length bW) aH) (awF : Kd.V k70 70 w w.heap.size (fun k_ => amC k_) (.slice dz av.length bZ) av) (h : jl.f k aQ aR aH av a1 = some (r1, r2, r3)) :
 Calls Try.prog 56 #[.agg #[.int .i64 aQ, .int .i64 aR, .slice cu aH.length bW, .slice dz av.length bZ], .int .i64 a1] w fun e w' => ∃ v0_ : Value, e = .returned (.tuple #[v0_, .int .i64 r2, .int .i64 r3]) ∧ Kd.V k23 23 w' w.heap.size (fun k_ => ((nS k_ ∨ amC k_) ∨ w.heap.size ≤ k_)) v0_ r1 ∧ Below w.heap.size w w' := by
 have aaE := Try.underlying28
 have oQ := am (show Kd.V (Kd.slice 23 k23) 24 w w.heap.size (fun k_ => ((nS k_ ∨ amC k_) ∨ w.heap.size ≤ k_)) (.slice cu aH.length bW) aH from Kd.j4 ao7 (fun k_ hk => .inl (.inl hk)))
 have uK := am (show Kd.V k70 70 w w.heap.size (fun k_ => ((nS k_ ∨ amC k_) ∨ w.heap.size ≤ k_)) (.slice dz av.length bZ) av from Kd.j4 awF (fun k_ hk => .inl (.inr hk)))
 have HB := am (Below.refl w.heap.size w)
 have H : ((iH.f k aQ aR aH av a1).bind fun zK => (if zK.2 = true then (if 0 ≤ zK.1 then (if zK.1 < (av.length : Int) then (some ((aU av zK.1).f1, 0, 0)) else (none)) else (none)) else (if aR = 0 then (some (([] : List (S23)), 0, 0)) else ((eF.f k a1 aR).bind fun uh => ((nA.f k uh.1 aQ).bind fun aaS => (if 0 ≤ uh.2.1 then (if uh.2.1 < (aH.length : Int) then (some (dZ aH uh.2.1, aaS.1, aaS.2)) else (none)) else (none))))))) = some (r1, r2, r3) := h
 clear h
 replace H := Option.bind_eq_some_iff.mp H
 obtain ⟨⟨yJ, awG⟩, A30, H⟩ := H
 try dsimp only at H
 have A3 := am A30
 clear A30
 by_cases c4 : awG = true
 ·subst c4
  have H1 : (if 0 ≤ yJ then (if yJ < (av.length : Int) then (some ((aU av yJ).f1, 0, 0)) else (none)) else (none)) = some (r1, r2, r3) := by rw [if_pos rfl] at H; exact H
  clear H
  have H := H1
  clear H1
  by_cases c5 : 0 ≤ yJ
  case neg => rw [if_neg c5] at H; exact absurd H (by simp)
  rw [if_pos c5] at H
  have acT : decide (0 ≤ yJ) = true := decide_eq_true c5
  clear c5
  by_cases c6 : yJ < (av.length : Int)
  case neg => rw [if_neg c6] at H; exact absurd H (by simp)
  rw [if_pos c6] at H
  have adw : decide (yJ < (av.length : Int)) = true := decide_eq_true c6
  clear c6
  simp only [Option.some.injEq, Prod.mk.injEq] at H
  obtain ⟨rfl, rfl, rfl⟩ := H
  go_enter Try.func56, Try.ntmps56
  go_wp2_with (first | ((with_reducible refine bq (N := 2) rfl ?_); refine bx 2 28 #[.int .i64 aQ, .int .i64 aR, .slice cu aH.length bW, .slice dz av.length bZ] ?_; intro jO hg w7 dL hb; replace oQ := am (Kd.fJ (Kd.q9 (kv oQ.out) jO (Nat.le_of_eq hg.symm)) hb); replace uK := am (Kd.fJ (Kd.q9 (kv uK.out) jO (Nat.le_of_eq hg.symm)) hb); have iB := am (dL); have anP := am ((bz hg HB.out : w.heap.size ≤ jO)); have aaT := am ((bz hg HB.out : w.heap.size ≤ jO)); replace HB := am (au (bl HB.out) hb); clear hb dL hg; have yx : w7.cell? ⟨jO, 0, none⟩ = some (.int .i64 aQ) := bc iB.out 0; have yA : w7.cell? ⟨jO, 1, none⟩ = some (.int .i64 aR) := bc iB.out 1; have zn : w7.cell? ⟨jO, 2, none⟩ = some (.slice cu aH.length bW) := bc iB.out 2; have zo : w7.cell? ⟨jO, 3, none⟩ = some (.slice dz av.length bZ) := bc iB.out 3; have yB := aj iB.out 0; have yC := aj iB.out 1; have zq := aj iB.out 2; have zu := aj iB.out 3) | ((with_reducible refine aC (f := 84) rfl ?_); refine bR (some 17) rfl rfl Try.func84 (by kernel_rfl) rfl #[.agg #[.int .i64 aQ, .int .i64 aR, .slice cu aH.length bW, .slice dz av.length bZ], .int .i64 a1] rfl ar ?_; (with_reducible refine (iH.calls k aQ aR _ _ aH _ _ av a1 yJ true _ ?bH ?bI ?dG ?dI A3.out).mono ?_); (case bH => exact kc (Kd.iT oQ.out).2.2); (case bI => exact (Kd.iT oQ.out).2.1); (case dG => exact kc (Kd.iT uK.out).2.2); (case dI => exact (Kd.iT uK.out).2.1); rintro e w9 ⟨rfl, hb⟩; refine ⟨_, rfl, ?_⟩; replace oQ := am (Kd.fJ (kv oQ.out) hb); replace uK := am (Kd.fJ (kv uK.out) hb); replace iB := am (ak (kp iB.out) hb); replace HB := am (au (bl1 HB.out aaT.out) hb); (try clear hb); (try clear hb2); (try clear hk); (try clear hi); have qJ : w9.cell? ⟨jO, 0, none⟩ = some (.int .i64 aQ) := bc iB.out 0; have qK : w9.cell? ⟨jO, 1, none⟩ = some (.int .i64 aR) := bc iB.out 1; have rZ : w9.cell? ⟨jO, 2, none⟩ = some (.slice cu aH.length bW) := bc iB.out 2; have r9 : w9.cell? ⟨jO, 3, none⟩ = some (.slice dz av.length bZ) := bc iB.out 3; have qL := aj iB.out 0; have qM := aj iB.out 1; have sj := aj iB.out 2; have su := aj iB.out 3; have amD : 0 ≤ (yJ : Int) := of_decide_eq_true asm; have amE : yJ < (av.length : Int) := of_decide_eq_true asm; obtain ⟨aAJ, awH, awI, awJ, au5, amF, ahW, ahX⟩ := kZ (Kd.iT uK.out).2.2 yJ amD amE; cases awJ; obtain ⟨aAK, ao8, ao9, ajY⟩ := Kd.amn uK.out z70 yJ amD (by first | exact amE | exact of_decide_eq_true asm | (have e_ := (Kd.iT uK.out).1; omega)); obtain ⟨au6, au7, rfl, adG, adH⟩ := ajs ao9; have aa9 := ajY 1 _ rfl; rw [abj _ _ 1 (by omega)] at aa9; replace aa9 := Option.some.inj (aa9.symm.trans amF); injection aa9 with wZ abH xg; rw [wZ] at adH; rw [xg] at adG; have amG := am (show Kd.V k23 23 _ w.heap.size _ _ ((aU av yJ).f1) from Kd.acM adG adH); clear wZ abH xg adH adG; clear ajY ao8; have au8 := am ahX; have au9 := am ahW; clear ahX ahW; replace amD := eq_true amD; replace amE := eq_true amE))
  go_ret3
  exact ⟨_, rt, by (with_reducible repeat (first | apply Kd.lD | apply Kd.lF | apply Kd.nL)); exact Kd.j4 amG.out (fun _ hk => hk.1), bl1 HB.out aaT.out⟩
 ·replace c4 := Bool.eq_false_iff.mpr c4
  subst c4
  have H1 : (if aR = 0 then (some (([] : List (S23)), 0, 0)) else ((eF.f k a1 aR).bind fun uh => ((nA.f k uh.1 aQ).bind fun aaS => (if 0 ≤ uh.2.1 then (if uh.2.1 < (aH.length : Int) then (some (dZ aH uh.2.1, aaS.1, aaS.2)) else (none)) else (none))))) = some (r1, r2, r3) := by rw [if_neg (show ¬ (false = true) by decide)] at H; exact H
  clear H
  have H := H1
  clear H1
  by_cases c11 : aR = 0
  ·rw [if_pos c11] at H
   have ajZ : (aR == 0) = true := beq_iff_eq.mpr c11
   have apa : (aR != 0) = false := bne_eq_false_iff_eq.mpr c11
   clear c11
   simp only [Option.some.injEq, Prod.mk.injEq] at H
   obtain ⟨rfl, rfl, rfl⟩ := H
   go_enter Try.func56, Try.ntmps56
   go_wp2_with (first | ((with_reducible refine bq (N := 2) rfl ?_); refine bx 2 28 #[.int .i64 aQ, .int .i64 aR, .slice cu aH.length bW, .slice dz av.length bZ] ?_; intro jO hg w12 dL hb; replace oQ := am (Kd.fJ (Kd.q9 (kv oQ.out) jO (Nat.le_of_eq hg.symm)) hb); replace uK := am (Kd.fJ (Kd.q9 (kv uK.out) jO (Nat.le_of_eq hg.symm)) hb); have iB := am (dL); have anP := am ((bz hg HB.out : w.heap.size ≤ jO)); have aaT := am ((bz hg HB.out : w.heap.size ≤ jO)); replace HB := am (au (bl HB.out) hb); clear hb dL hg; have sw : w12.cell? ⟨jO, 0, none⟩ = some (.int .i64 aQ) := bc iB.out 0; have sD : w12.cell? ⟨jO, 1, none⟩ = some (.int .i64 aR) := bc iB.out 1; have uL : w12.cell? ⟨jO, 2, none⟩ = some (.slice cu aH.length bW) := bc iB.out 2; have uM : w12.cell? ⟨jO, 3, none⟩ = some (.slice dz av.length bZ) := bc iB.out 3; have sF := aj iB.out 0; have sG := aj iB.out 1; have uN := aj iB.out 2; have uO := aj iB.out 3) | ((with_reducible refine aC (f := 84) rfl ?_); refine bR (some 17) rfl rfl Try.func84 (by kernel_rfl) rfl #[.agg #[.int .i64 aQ, .int .i64 aR, .slice cu aH.length bW, .slice dz av.length bZ], .int .i64 a1] rfl ar ?_; (with_reducible refine (iH.calls k aQ aR _ _ aH _ _ av a1 yJ false _ ?bH ?bI ?dG ?dI A3.out).mono ?_); (case bH => exact kc (Kd.iT oQ.out).2.2); (case bI => exact (Kd.iT oQ.out).2.1); (case dG => exact kc (Kd.iT uK.out).2.2); (case dI => exact (Kd.iT uK.out).2.1); rintro e w14 ⟨rfl, hb⟩; refine ⟨_, rfl, ?_⟩; replace oQ := am (Kd.fJ (kv oQ.out) hb); replace uK := am (Kd.fJ (kv uK.out) hb); replace iB := am (ak (kp iB.out) hb); replace HB := am (au (bl1 HB.out aaT.out) hb); (try clear hb); (try clear hb2); (try clear hk); (try clear hi); have awK : w14.cell? ⟨jO, 0, none⟩ = some (.int .i64 aQ) := bc iB.out 0; have awL : w14.cell? ⟨jO, 1, none⟩ = some (.int .i64 aR) := bc iB.out 1; have awM : w14.cell? ⟨jO, 2, none⟩ = some (.slice cu aH.length bW) := bc iB.out 2; have awN : w14.cell? ⟨jO, 3, none⟩ = some (.slice dz av.length bZ) := bc iB.out 3; have awO := aj iB.out 0; have awP := aj iB.out 1; have awQ := aj iB.out 2; have awR := aj iB.out 3))
   go_ret3
   exact ⟨_, rt, (by first | exact Kd.wI _ _ _ _ _ | exact Kd.j4 (Kd.R_V (by first | exact Kd.wP _ _ _ _ _ | exact Kd.zk _ _ _ _ _ | exact Kd.wI _ _ _ _ _ | exact Kd.yZ _ _ _ _ _ | exact Kd.zi _ _ _ _ _)) (fun k_ hk => by first | exact ⟨(.inr (hk.1)), hk.2⟩ | exact (.inr (hk)))), bl1 HB.out aaT.out⟩
  ·rw [if_neg c11] at H
   have ajZ : (aR == 0) = false := beq_eq_false_iff_ne.mpr c11
   have apa : (aR != 0) = true := bne_iff_ne.mpr c11
   replace H := Option.bind_eq_some_iff.mp H
   obtain ⟨⟨apb, acX, awS⟩, ahY, H⟩ := H
   try dsimp only at H
   have A16 := am ahY
   clear ahY
   replace H := Option.bind_eq_some_iff.mp H
   obtain ⟨⟨awT, awU⟩, A170, H⟩ := H
   try dsimp only at H
   have A17 := am A170
   clear A170
   by_cases c18 : 0 ≤ acX
   case neg => rw [if_neg c18] at H; exact absurd H (by simp)
   rw [if_pos c18] at H
   have aeU : decide (0 ≤ acX) = true := decide_eq_true c18
   clear c18
   by_cases c19 : acX < (aH.length : Int)
   case neg => rw [if_neg c19] at H; exact absurd H (by simp)
   rw [if_pos c19] at H
   have amH : decide (acX < (aH.length : Int)) = true := decide_eq_true c19
   clear c19
   simp only [Option.some.injEq, Prod.mk.injEq] at H
   obtain ⟨rfl, rfl, rfl⟩ := H
   go_enter Try.func56, Try.ntmps56
   go_wp2_with (first | ((with_reducible refine bq (N := 2) rfl ?_); refine bx 2 28 #[.int .i64 aQ, .int .i64 aR, .slice cu aH.length bW, .slice dz av.length bZ] ?_; intro jO hg w20 dL hb; replace oQ := am (Kd.fJ (Kd.q9 (kv oQ.out) jO (Nat.le_of_eq hg.symm)) hb); replace uK := am (Kd.fJ (Kd.q9 (kv uK.out) jO (Nat.le_of_eq hg.symm)) hb); have iB := am (dL); have anP := am ((bz hg HB.out : w.heap.size ≤ jO)); have aaT := am ((bz hg HB.out : w.heap.size ≤ jO)); replace HB := am (au (bl HB.out) hb); clear hb dL hg; have apc : w20.cell? ⟨jO, 0, none⟩ = some (.int .i64 aQ) := bc iB.out 0; have apd : w20.cell? ⟨jO, 1, none⟩ = some (.int .i64 aR) := bc iB.out 1; have awV : w20.cell? ⟨jO, 2, none⟩ = some (.slice cu aH.length bW) := bc iB.out 2; have awW : w20.cell? ⟨jO, 3, none⟩ = some (.slice dz av.length bZ) := bc iB.out 3; have ape := aj iB.out 0; have apf := aj iB.out 1; have awX := aj iB.out 2; have awY := aj iB.out 3) | ((with_reducible refine aC (f := 84) rfl ?_); refine bR (some 17) rfl rfl Try.func84 (by kernel_rfl) rfl #[.agg #[.int .i64 aQ, .int .i64 aR, .slice cu aH.length bW, .slice dz av.length bZ], .int .i64 a1] rfl ar ?_; (with_reducible refine (iH.calls k aQ aR _ _ aH _ _ av a1 yJ false _ ?bH ?bI ?dG ?dI A3.out).mono ?_); (case bH => exact kc (Kd.iT oQ.out).2.2); (case bI => exact (Kd.iT oQ.out).2.1); (case dG => exact kc (Kd.iT uK.out).2.2); (case dI => exact (Kd.iT uK.out).2.1); rintro e w22 ⟨rfl, hb⟩; refine ⟨_, rfl, ?_⟩; replace oQ := am (Kd.fJ (kv oQ.out) hb); replace uK := am (Kd.fJ (kv uK.out) hb); replace iB := am (ak (kp iB.out) hb); replace HB := am (au (bl1 HB.out aaT.out) hb); (try clear hb); (try clear hb2); (try clear hk); (try clear hi); have sH : w22.cell? ⟨jO, 0, none⟩ = some (.int .i64 aQ) := bc iB.out 0; have sI : w22.cell? ⟨jO, 1, none⟩ = some (.int .i64 aR) := bc iB.out 1; have uP : w22.cell? ⟨jO, 2, none⟩ = some (.slice cu aH.length bW) := bc iB.out 2; have uQ : w22.cell? ⟨jO, 3, none⟩ = some (.slice dz av.length bZ) := bc iB.out 3; have sJ := aj iB.out 0; have sK := aj iB.out 1; have uR := aj iB.out 2; have uS := aj iB.out 3) | ((with_reducible refine aC (f := 85) rfl ?_); refine bR (some 34) rfl rfl Try.func85 (by kernel_rfl) rfl #[.int .i64 a1, .int .i64 aR] rfl ar ?_; (with_reducible refine (eF.calls k a1 aR apb acX awS _ A16.out).mono ?_); rintro e w' ⟨rfl, ⟨nd, rfl⟩⟩; refine ⟨_, rfl, ?_⟩) | ((with_reducible refine aC (f := 86) rfl ?_); refine bR (some 42) rfl rfl Try.func86 (by kernel_rfl) rfl #[.int .i64 apb, .int .i64 aQ] rfl ar ?_; (with_reducible refine (nA.calls k apb aQ awT awU _ A17.out).mono ?_); rintro e w' ⟨rfl, ⟨nd, rfl⟩⟩; refine ⟨_, rfl, ?_⟩; have amI : 0 ≤ (acX : Int) := of_decide_eq_true asm; have amJ : acX < (aH.length : Int) := of_decide_eq_true asm; obtain ⟨aAL, awZ, aw0, aw1, amK, ahZ, ah0⟩ := ru (Kd.iT oQ.out).2.2 acX amI amJ; cases aw1; obtain ⟨aAM, apg, aph, aj0⟩ := Kd.amn oQ.out [] acX amI (by first | exact amJ | exact of_decide_eq_true asm | (have e_ := (Kd.iT oQ.out).1; omega)); obtain ⟨ava, avb, rfl, adI, adJ⟩ := Kd.jD aph; have abb := aj0 0 _ rfl; rw [Nat.add_zero, show ((Kd.slice 23 k23)).sz = 1 from rfl, Nat.mul_one] at abb; replace abb := Option.some.inj (abb.symm.trans amK); injection abb with wZ abH xg; rw [wZ] at adJ; rw [xg] at adI; have amL := am (show Kd.V k23 23 _ w.heap.size _ _ (dZ aH acX) from Kd.acM adI adJ); clear wZ abH xg adJ adI; clear aj0 apg; have avc := am ah0; have avd := am ahZ; clear ah0 ahZ; replace amI := eq_true amI; replace amJ := eq_true amJ))
   go_ret3
   exact ⟨_, rt, by (with_reducible repeat (first | apply Kd.lD | apply Kd.lF | apply Kd.nL)); exact Kd.j4 amL.out (fun _ hk => hk.1), bl1 HB.out aaT.out⟩
def kS.f (a0 : Int) (a1 : Int) : Option (Int × Int) := if ((decide ((wrap64 (a0 + a1)) > a0)) != (decide (a1 > 0))) = true then (if a1 = 0 then (some (wrap64 (a0 + a1), 0)) else (some (0, 10))) else (some (wrap64 (a0 + a1), 0))
set_option maxHeartbeats 8000000 in
set_option maxRecDepth 100000 in
theorem kS.calls (a0 : Int) (a1 : Int) (r1 : Int) (r2 : Int) (w : World) (h : kS.f a0 a1 = some (r1, r2)) :
 Calls Try.prog 76 #[.int .i64 a0, .int .i64 a1] w fun e w' => e = .returned (.tuple #[.int .i64 r1, .int .i64 r2]) ∧ dh w w' := by
 have H : (if ((decide ((wrap64 (a0 + a1)) > a0)) != (decide (a1 > 0))) = true then (if a1 = 0 then (some (wrap64 (a0 + a1), 0)) else (some (0, 10))) else (some (wrap64 (a0 + a1), 0))) = some (r1, r2) := h
 clear h
 by_cases c3 : ((decide ((wrap64 (a0 + a1)) > a0)) != (decide (a1 > 0))) = true
 ·rw [if_pos c3] at H
  have aa8 : ((decide ((wrap64 (a0 + a1)) > a0)) != (decide (a1 > 0))) = true := c3
  (try (have ajA : decide ((decide ((wrap64 (a0 + a1)) > a0)) = (decide (a1 > 0))) = false := by simpa using c3))
  (try (have asS : ((decide ((wrap64 (a0 + a1)) > a0)) == (decide (a1 > 0))) = false := by simpa using c3))
  (try (have aDM : ¬ ((decide ((wrap64 (a0 + a1)) > a0)) = (decide (a1 > 0))) := by simpa using c3))
  clear c3
  by_cases c4 : a1 = 0
  ·rw [if_pos c4] at H
   have vv : (a1 == 0) = true := beq_iff_eq.mpr c4
   have aeV : (a1 != 0) = false := bne_eq_false_iff_eq.mpr c4
   clear c4
   simp only [Option.some.injEq, Prod.mk.injEq] at H
   obtain ⟨rfl, rfl⟩ := H
   go_enter Try.func76, Try.ntmps76
   go_wp2
   go_ret2
   exact ⟨by first | rfl | (simp; done) | (simp [*]; done), by repeat (first | exact dh.refl _ | apply dh.step)⟩
  ·rw [if_neg c4] at H
   have vv : (a1 == 0) = false := beq_eq_false_iff_ne.mpr c4
   have aeV : (a1 != 0) = true := bne_iff_ne.mpr c4
   simp only [Option.some.injEq, Prod.mk.injEq] at H
   obtain ⟨rfl, rfl⟩ := H
   go_enter Try.func76, Try.ntmps76
   go_wp2
   go_ret2
   exact ⟨by first | rfl | (simp; done) | (simp [*]; done), by repeat (first | exact dh.refl _ | apply dh.step)⟩
 ·rw [if_neg c3] at H
  have aa8 : ((decide ((wrap64 (a0 + a1)) > a0)) != (decide (a1 > 0))) = false := by simpa using c3
  (try (have ajA : decide ((decide ((wrap64 (a0 + a1)) > a0)) = (decide (a1 > 0))) = true := by simpa using c3))
  (try (have asS : ((decide ((wrap64 (a0 + a1)) > a0)) == (decide (a1 > 0))) = true := by simpa using c3))
  clear c3
  simp only [Option.some.injEq, Prod.mk.injEq] at H
  obtain ⟨rfl, rfl⟩ := H
  go_enter Try.func76, Try.ntmps76
  go_wp2
  go_ret2
  exact ⟨by first | rfl | (simp; done) | (simp [*]; done), by repeat (first | exact dh.refl _ | apply dh.step)⟩
def gJ.f (a0 : Int) : Option (Bool) := if a0 ≥ (-1099511627776) then (some (decide (a0 ≤ 1099511627776))) else (some false)
set_option maxHeartbeats 8000000 in
set_option maxRecDepth 100000 in
theorem gJ.calls (a0 : Int) (r : Bool) (w : World) (h : gJ.f a0 = some r) :
 Calls Try.prog 66 #[.int .i64 a0] w fun e w' => e = .returned (.bool r) ∧ dh w w' := by
 have H : (if a0 ≥ (-1099511627776) then (some (decide (a0 ≤ 1099511627776))) else (some false)) = some r := h
 clear h
 by_cases c2 : a0 ≥ (-1099511627776)
 ·rw [if_pos c2] at H
  have ajF : decide ((-1099511627776) ≤ a0) = true := decide_eq_true c2
  clear c2
  obtain rfl := Option.some.inj H
  go_enter Try.func66, Try.ntmps66
  go_wp2
  go_ret
  exact ⟨by first | rfl | (simp; done) | (simp [*]; done), by repeat (first | exact dh.refl _ | apply dh.step)⟩
 ·rw [if_neg c2] at H
  have ajF : decide ((-1099511627776) ≤ a0) = false := decide_eq_false c2
  clear c2
  obtain rfl := Option.some.inj H
  go_enter Try.func66, Try.ntmps66
  go_wp2
  go_ret
  exact ⟨by first | rfl | (simp; done) | (simp [*]; done), by repeat (first | exact dh.refl _ | apply dh.step)⟩
def eU.l0 : Nat → Int → List (S23) → List (S23) → Int → Int → Option ((List (S23)) × Int)
 | 0, _, _, _, _, _ => none
 | k + 1, x1, x6, x13, x14, x15 => if x15 < x14 then (if 0 ≤ x15 then (if x15 < (x13.length : Int) then ((kS.f ((aT x13 x15).f0) x1).bind fun apj => ((kS.f ((aT x13 x15).f1) x1).bind fun apk => (if apj.2 = 0 then (if apk.2 = 0 then ((gJ.f apj.1).bind fun t130 => (if t130 = true then ((gJ.f apk.1).bind fun t131 => (if t131 = true then (if x6.length < 8796093022208 then (eU.l0 k x1 (x6 ++ [(⟨apj.1, apk.1⟩ : S23)]) x13 x14 (wrap64 (x15 + 1))) else (none)) else (some (([] : List (S23)), 20)))) else (some (([] : List (S23)), 20)))) else (some (([] : List (S23)), 20))) else (some (([] : List (S23)), 20))))) else (none)) else (none)) else (some (x6, 0))
def eU.f (k : Nat) (l0 : List (S23)) (a1 : Int) : Option ((List (S23)) × Int) := eU.l0 k a1 ([] : List (S23)) l0 (l0.length : Int) 0
theorem eU.iX : ∀ k, (∀ y0 y1 y2 y3 y4, LeO (eU.l0 k y0 y1 y2 y3 y4) (eU.l0 (k + 1) y0 y1 y2 y3 y4))
 | 0 => fun _ _ _ _ _ r h => by simp [eU.l0] at h
 | k + 1 => by
  have ih0 := eU.iX k
  ·intro y0 y1 y2 y3 y4
   unfold eU.l0
   repeat' first
   | (with_reducible exact ih0 _ _ _ _ _)
   | (with_reducible exact LeO.refl _)
   | (with_reducible exact LeO.none _)
   | (with_reducible refine LeO.ite ?_ ?_)
   | (with_reducible refine LeO.bind ?_ (fun _ => ?_))
   | exact ih0 _ _ _ _ _
   | exact LeO.none _
   | refine LeO.ite ?_ ?_
   | refine LeO.bind ?_ (fun _ => ?_)
theorem eU.mono : ∀ a0 a1 k, LeO (eU.f k a0 a1) (eU.f (k + 1) a0 a1) := by
 intro a0 a1 k
 have ih0 := eU.iX k
 unfold eU.f
 repeat' first
  | (with_reducible exact ih0 _ _ _ _ _)
  | (with_reducible exact LeO.refl _)
  | (with_reducible exact LeO.none _)
  | (with_reducible refine LeO.ite ?_ ?_)
  | (with_reducible refine LeO.bind ?_ (fun _ => ?_))
  | exact ih0 _ _ _ _ _
  | exact LeO.none _
  | refine LeO.ite ?_ ?_
  | refine LeO.bind ?_ (fun _ => ?_)
set_option maxHeartbeats 8000000 in
set_option maxRecDepth 100000 in
theorem eU.calls (k : Nat) (A0 : Option Addr) (c0 : Nat) (l0 : List (S23)) (a1 : Int) (r1 : List (S23)) (r2 : Int) (w : World) (hr0 : Kd.C k23 w A0 l0.length l0) (hc0 : l0.length ≤ c0) (h : eU.f k l0 a1 = some (r1, r2)) :
 Calls Try.prog 41 #[.slice A0 l0.length c0, .int .i64 a1] w fun e w' => ∃ v0_ : Value, e = .returned (.tuple #[v0_, .int .i64 r2]) ∧ Kd.R k23 23 w' w.heap.size (fun _ => True) v0_ r1 ∧ Below w.heap.size w w' := by
 have afs := Try.underlying23
 have HR0 := am hr0
 have HC0 := am hc0
 clear hr0 hc0
 have HB := am (Below.refl w.heap.size w)
 have H : (eU.l0 k a1 ([] : List (S23)) l0 (l0.length : Int) 0) = some (r1, r2) := h
 clear h
 have H' := am H
 clear H
 go_enter Try.func41, Try.ntmps41
 go_wp2
 go_loopg [6, 15] k (fun kq v6 v15 w' => ∃ (al8 : List (S23)) (jT : Int), v15 = .int .i64 jT ∧ ay (eU.l0 kq a1 al8 l0 (l0.length : Int) jT = some (r1, r2)) ∧ ay (kq ≤ k) ∧ ay (Kd.R k23 23 w' w.heap.size (fun _ => True) v6 al8) ∧ ay (Below w.heap.size w w'))
 case atStart => exact ⟨(([] : List (S23))), (0), sm, H', ⟨Nat.le_refl _⟩, ⟨by first | exact Kd.wP _ _ _ _ _ | exact Kd.zk _ _ _ _ _ | exact Kd.wI _ _ _ _ _ | exact Kd.yZ _ _ _ _ _ | exact Kd.zi _ _ _ _ _⟩, ⟨bl HB.out⟩⟩
 case round =>
  clear H'
  obtain ⟨al8, jT, rfl, HA, HK1, ah1, HB⟩ := hrel
  cases gk with
  | zero => exact absurd HA.out (by simp [eU.l0])
  | succ k1 =>
   have H := HA.out
   clear HA
   simp only [eU.l0] at H
   by_cases c3 : jT < (l0.length : Int)
   ·rw [if_pos c3] at H
    have aa8 : decide (jT < (l0.length : Int)) = true := decide_eq_true c3
    clear c3
    by_cases c4 : 0 ≤ jT
    case neg => rw [if_neg c4] at H; exact absurd H (by simp)
    rw [if_pos c4] at H
    have vv : decide (0 ≤ jT) = true := decide_eq_true c4
    clear c4
    by_cases c5 : jT < (l0.length : Int)
    case neg => rw [if_neg c5] at H; exact absurd H (by simp)
    rw [if_pos c5] at H
    have acT : decide (jT < (l0.length : Int)) = true := decide_eq_true c5
    clear c5
    replace H := Option.bind_eq_some_iff.mp H
    obtain ⟨⟨ah2, t127⟩, A60, H⟩ := H
    try dsimp only at H
    have A6 := am A60
    clear A60
    replace H := Option.bind_eq_some_iff.mp H
    obtain ⟨⟨ah3, ac9⟩, A70, H⟩ := H
    try dsimp only at H
    have A7 := am A70
    clear A70
    by_cases c8 : t127 = 0
    ·rw [if_pos c8] at H
     have aft : (t127 == 0) = true := beq_iff_eq.mpr c8
     have aoF : (t127 != 0) = false := bne_eq_false_iff_eq.mpr c8
     clear c8
     by_cases c9 : ac9 = 0
     ·rw [if_pos c9] at H
      have afG : (ac9 == 0) = true := beq_iff_eq.mpr c9
      have au1 : (ac9 != 0) = false := bne_eq_false_iff_eq.mpr c9
      clear c9
      replace H := Option.bind_eq_some_iff.mp H
      obtain ⟨t130, aj1, H⟩ := H
      try dsimp only at H
      have A10 := am aj1
      clear aj1
      by_cases c11 : t130 = true
      ·subst c11
       have H1 : ((gJ.f ah3).bind fun t131 => (if t131 = true then (if al8.length < 8796093022208 then (eU.l0 k1 a1 (al8 ++ [(⟨ah2, ah3⟩ : S23)]) l0 (l0.length : Int) (wrap64 (jT + 1))) else (none)) else (some (([] : List (S23)), 20)))) = some (r1, r2) := by rw [if_pos rfl] at H; exact H
       clear H
       have H := H1
       clear H1
       replace H := Option.bind_eq_some_iff.mp H
       obtain ⟨t131, anQ, H⟩ := H
       try dsimp only at H
       have A12 := am anQ
       clear anQ
       by_cases c13 : t131 = true
       ·subst c13
        have H1 : (if al8.length < 8796093022208 then (eU.l0 k1 a1 (al8 ++ [(⟨ah2, ah3⟩ : S23)]) l0 (l0.length : Int) (wrap64 (jT + 1))) else (none)) = some (r1, r2) := by rw [if_pos rfl] at H; exact H
        clear H
        have H := H1
        clear H1
        by_cases c14 : al8.length < 8796093022208
        case neg => rw [if_neg c14] at H; exact absurd H (by simp)
        rw [if_pos c14] at H
        have aw2 := am c14
        clear c14
        obtain ⟨aAN, aj2⟩ : ∃ y_ : List (S23), y_ = (al8 ++ [(⟨ah2, ah3⟩ : S23)]) := ⟨_, rfl⟩
        replace H : (eU.l0 k1 a1 aAN l0 (l0.length : Int) (wrap64 (jT + 1))) = some (r1, r2) := by first | (rw [aj2]; with_reducible exact H) | (have H2_ := (Option.bind_some _ _).symm.trans H; rw [aj2]; with_reducible exact H2_) | (have H2_ := (Option.bind_some _ _).symm.trans H; with_reducible exact H2_) | with_reducible exact H | (rw [aj2]; exact H) | exact H
        have aw3 := am aj2
        clear aj2
        have H' := am H
        clear H
        have adK : 0 ≤ (jT : Int) := of_decide_eq_true asm
        have adL : jT < (l0.length : Int) := of_decide_eq_true asm
        obtain ⟨amM, amN, l8, l9⟩ := jW HR0.out jT adK adL
        cases amN
        replace l8 := (HB.out.cell (World.block_lt_of_cell? w _ l8)).trans l8
        replace l9 := (HB.out.cell (World.block_lt_of_cell? w _ l9)).trans l9
        replace adK := eq_true adK
        replace adL := eq_true adL
        go_wp2_with (first | ((with_reducible refine bq (N := 8) rfl ?_); refine bx 8 23 #[.int .i64 0, .int .i64 0] ?_; intro gL hg w15 dL hb; replace ah1 := am (Kd.dO (Kd.xV (kr ah1.out) gL (Nat.le_of_eq hg.symm)) hb); have dJ := am (dL); have aj3 := am ((bz hg HB.out : w.heap.size ≤ gL)); have lT := am ((bz hg HB.out : w.heap.size ≤ gL)); replace HB := am (au (bl HB.out) hb); clear hb dL hg; have aaF : w15.cell? ⟨gL, 0, none⟩ = some (.int .i64 0) := bc dJ.out 0; have aaG : w15.cell? ⟨gL, 1, none⟩ = some (.int .i64 0) := bc dJ.out 1; have aaH := aj dJ.out 0; have aaI := aj dJ.out 1) | ((with_reducible refine aC (f := 76) rfl ?_); refine bR (some 23) rfl rfl Try.func76 (by kernel_rfl) rfl #[.int .i64 ((aT l0 jT).f0), .int .i64 a1] rfl ar ?_; (with_reducible refine (kS.calls ((aT l0 jT).f0) a1 ah2 t127 _ A6.out).mono ?_); rintro e w' ⟨rfl, ⟨nd, rfl⟩⟩; refine ⟨_, rfl, ?_⟩) | ((with_reducible refine aC (f := 76) rfl ?_); refine bR (some 30) rfl rfl Try.func76 (by kernel_rfl) rfl #[.int .i64 ((aT l0 jT).f1), .int .i64 a1] rfl ar ?_; (with_reducible refine (kS.calls ((aT l0 jT).f1) a1 ah3 ac9 _ A7.out).mono ?_); rintro e w' ⟨rfl, ⟨nd, rfl⟩⟩; refine ⟨_, rfl, ?_⟩) | (go_at_call 66; (with_reducible refine (gJ.calls ah2 true _ A10.out).mono ?_); rintro e w' ⟨rfl, ⟨nd, rfl⟩⟩) | (go_at_call 66; (with_reducible refine (gJ.calls ah3 true _ A12.out).mono ?_); rintro e w' ⟨rfl, ⟨nd, rfl⟩⟩) | ((with_reducible refine ug (b := .append) (xs := #[.tmp 49, .tmp 53]) rfl ?_); at_builtin; refine Kd.ahJ k23 (w0 := w) w.heap.size rfl (.tmp 49) (.tmp 53) 24 23 (.agg #[(.int .i64 0), (.int .i64 0)]) 16 rfl Try.underlying24 asK rfl (by decide) (by omega) u6 al8 (⟨ah2, ah3⟩ : S23) [.int .i64 ah2, .int .i64 ah3] (fun k_ => k_ ≠ gL) (fun _ => False) rfl (by first | (go_simp; done) | (go_simp; rfl)) ?aP (fun _ hk => hk.elim) ?aF ?aO ?aB ?aS ?aL ?_; (case aP => exact rP _ _ _ (⟨ah2, ah3⟩ : S23)); (case aB => exact (bl1 HB.out lT.out)); (case aF => exact (fun k_ hk => Kd.qV (g := gL) (o := .cells #[.int .i64 ((aT l0 jT).f0), .int .i64 ((aT l0 jT).f1)] 23 (0, 0)) (by (with_reducible repeat (first | refine aM ?_ _ | refine aI ?_ | refine aA ?_ _)); refine bX (cs := #[.int .i64 ((aT l0 jT).f0), .int .i64 0]) ?_ 1 _ rfl; (with_reducible repeat (first | refine aM ?_ _ | refine aI ?_ | refine aA ?_ _)); refine bX (cs := #[.int .i64 0, .int .i64 0]) ?_ 0 _ rfl; (with_reducible repeat (first | refine aM ?_ _ | refine aI ?_ | refine aA ?_ _)); exact dJ.out) k_ hk)); (case aO => exact (by (with_reducible repeat (first | apply Kd.qd | apply Kd.qg | apply Kd.qR)); exact Kd.lY (Kd.amf (p := ⟨gL, 1, none⟩) (Kd.amf (p := ⟨gL, 0, none⟩) (Kd.lY ah1.out (fun k_ hk => (⟨hk, hk.2⟩ : _ ∧ k_ ≠ gL))) (fun _ hk => hk.2) (.int .i64 ((aT l0 jT).f0))) (fun _ hk => hk.2) (.int .i64 ((aT l0 jT).f1))) (fun _ hk => hk.1.2))); (case aS => exact (bY (bl1 HB.out lT.out))); (case aL => have := aw2.out; omega); intro aDN w17 ho hb hg hat; rw [← aw3.out] at ho; replace dJ := am (oh (g := gL) (o := .cells #[.int .i64 ((aT l0 jT).f0), .int .i64 ((aT l0 jT).f1)] 23 (0, 0)) (by (with_reducible repeat (first | refine aM ?_ _ | refine aI ?_ | refine aA ?_ _)); refine bX (cs := #[.int .i64 ((aT l0 jT).f0), .int .i64 0]) ?_ 1 _ rfl; (with_reducible repeat (first | refine aM ?_ _ | refine aI ?_ | refine aA ?_ _)); refine bX (cs := #[.int .i64 0, .int .i64 0]) ?_ 0 _ rfl; (with_reducible repeat (first | refine aM ?_ _ | refine aI ?_ | refine aA ?_ _)); exact dJ.out) hg (Kd.asr ah1.out (fun _ hk => hk.2))); replace HB := am (hb); have aw4 := am (ho); clear ah1; clear ho hb hg hat))
        go_roundg k1
        case measure => have := HK1.out; omega
        case rel => exact ⟨(aAN), (wrap64 (jT + 1)), sm, H', ⟨by have := HK1.out; omega⟩, ⟨by (with_reducible repeat (first | apply Kd.qd | apply Kd.qg | apply Kd.qR)); exact Kd.lY aw4.out (fun _ hk => trivial)⟩, ⟨bl1 HB.out lT.out⟩⟩
       ·replace c13 := Bool.eq_false_iff.mpr c13
        subst c13
        have H1 : (some (([] : List (S23)), 20)) = some (r1, r2) := by rw [if_neg (show ¬ (false = true) by decide)] at H; exact H
        clear H
        have H := H1
        clear H1
        simp only [Option.some.injEq, Prod.mk.injEq] at H
        obtain ⟨rfl, rfl⟩ := H
        have adK : 0 ≤ (jT : Int) := of_decide_eq_true asm
        have adL : jT < (l0.length : Int) := of_decide_eq_true asm
        obtain ⟨amM, amN, l8, l9⟩ := jW HR0.out jT adK adL
        cases amN
        replace l8 := (HB.out.cell (World.block_lt_of_cell? w _ l8)).trans l8
        replace l9 := (HB.out.cell (World.block_lt_of_cell? w _ l9)).trans l9
        replace adK := eq_true adK
        replace adL := eq_true adL
        go_wp2_with (first | ((with_reducible refine bq (N := 8) rfl ?_); refine bx 8 23 #[.int .i64 0, .int .i64 0] ?_; intro gL hg w18 dL hb; replace ah1 := am (Kd.dO (Kd.xV (kr ah1.out) gL (Nat.le_of_eq hg.symm)) hb); have dJ := am (dL); have aj3 := am ((bz hg HB.out : w.heap.size ≤ gL)); have lT := am ((bz hg HB.out : w.heap.size ≤ gL)); replace HB := am (au (bl HB.out) hb); clear hb dL hg; have apl : w18.cell? ⟨gL, 0, none⟩ = some (.int .i64 0) := bc dJ.out 0; have apm : w18.cell? ⟨gL, 1, none⟩ = some (.int .i64 0) := bc dJ.out 1; have apn := aj dJ.out 0; have apo := aj dJ.out 1) | ((with_reducible refine aC (f := 76) rfl ?_); refine bR (some 23) rfl rfl Try.func76 (by kernel_rfl) rfl #[.int .i64 ((aT l0 jT).f0), .int .i64 a1] rfl ar ?_; (with_reducible refine (kS.calls ((aT l0 jT).f0) a1 ah2 t127 _ A6.out).mono ?_); rintro e w' ⟨rfl, ⟨nd, rfl⟩⟩; refine ⟨_, rfl, ?_⟩) | ((with_reducible refine aC (f := 76) rfl ?_); refine bR (some 30) rfl rfl Try.func76 (by kernel_rfl) rfl #[.int .i64 ((aT l0 jT).f1), .int .i64 a1] rfl ar ?_; (with_reducible refine (kS.calls ((aT l0 jT).f1) a1 ah3 ac9 _ A7.out).mono ?_); rintro e w' ⟨rfl, ⟨nd, rfl⟩⟩; refine ⟨_, rfl, ?_⟩) | (go_at_call 66; (with_reducible refine (gJ.calls ah2 true _ A10.out).mono ?_); rintro e w' ⟨rfl, ⟨nd, rfl⟩⟩) | (go_at_call 66; (with_reducible refine (gJ.calls ah3 false _ A12.out).mono ?_); rintro e w' ⟨rfl, ⟨nd, rfl⟩⟩))
        go_ret2
        exact ⟨_, rt, by first | exact Kd.wP _ _ _ _ _ | exact Kd.zk _ _ _ _ _ | exact Kd.wI _ _ _ _ _ | exact Kd.yZ _ _ _ _ _ | exact Kd.zi _ _ _ _ _, bl1 HB.out lT.out⟩
      ·replace c11 := Bool.eq_false_iff.mpr c11
       subst c11
       have H1 : (some (([] : List (S23)), 20)) = some (r1, r2) := by rw [if_neg (show ¬ (false = true) by decide)] at H; exact H
       clear H
       have H := H1
       clear H1
       simp only [Option.some.injEq, Prod.mk.injEq] at H
       obtain ⟨rfl, rfl⟩ := H
       have adK : 0 ≤ (jT : Int) := of_decide_eq_true asm
       have adL : jT < (l0.length : Int) := of_decide_eq_true asm
       obtain ⟨amM, amN, l8, l9⟩ := jW HR0.out jT adK adL
       cases amN
       replace l8 := (HB.out.cell (World.block_lt_of_cell? w _ l8)).trans l8
       replace l9 := (HB.out.cell (World.block_lt_of_cell? w _ l9)).trans l9
       replace adK := eq_true adK
       replace adL := eq_true adL
       go_wp2_with (first | ((with_reducible refine bq (N := 8) rfl ?_); refine bx 8 23 #[.int .i64 0, .int .i64 0] ?_; intro gL hg w20 dL hb; replace ah1 := am (Kd.dO (Kd.xV (kr ah1.out) gL (Nat.le_of_eq hg.symm)) hb); have dJ := am (dL); have aj3 := am ((bz hg HB.out : w.heap.size ≤ gL)); have lT := am ((bz hg HB.out : w.heap.size ≤ gL)); replace HB := am (au (bl HB.out) hb); clear hb dL hg; have apc : w20.cell? ⟨gL, 0, none⟩ = some (.int .i64 0) := bc dJ.out 0; have apd : w20.cell? ⟨gL, 1, none⟩ = some (.int .i64 0) := bc dJ.out 1; have ape := aj dJ.out 0; have apf := aj dJ.out 1) | ((with_reducible refine aC (f := 76) rfl ?_); refine bR (some 23) rfl rfl Try.func76 (by kernel_rfl) rfl #[.int .i64 ((aT l0 jT).f0), .int .i64 a1] rfl ar ?_; (with_reducible refine (kS.calls ((aT l0 jT).f0) a1 ah2 t127 _ A6.out).mono ?_); rintro e w' ⟨rfl, ⟨nd, rfl⟩⟩; refine ⟨_, rfl, ?_⟩) | ((with_reducible refine aC (f := 76) rfl ?_); refine bR (some 30) rfl rfl Try.func76 (by kernel_rfl) rfl #[.int .i64 ((aT l0 jT).f1), .int .i64 a1] rfl ar ?_; (with_reducible refine (kS.calls ((aT l0 jT).f1) a1 ah3 ac9 _ A7.out).mono ?_); rintro e w' ⟨rfl, ⟨nd, rfl⟩⟩; refine ⟨_, rfl, ?_⟩) | (go_at_call 66; (with_reducible refine (gJ.calls ah2 false _ A10.out).mono ?_); rintro e w' ⟨rfl, ⟨nd, rfl⟩⟩))
       go_ret2
       exact ⟨_, rt, by first | exact Kd.wP _ _ _ _ _ | exact Kd.zk _ _ _ _ _ | exact Kd.wI _ _ _ _ _ | exact Kd.yZ _ _ _ _ _ | exact Kd.zi _ _ _ _ _, bl1 HB.out lT.out⟩
     ·rw [if_neg c9] at H
      have afG : (ac9 == 0) = false := beq_eq_false_iff_ne.mpr c9
      have au1 : (ac9 != 0) = true := bne_iff_ne.mpr c9
      simp only [Option.some.injEq, Prod.mk.injEq] at H
      obtain ⟨rfl, rfl⟩ := H
      have adK : 0 ≤ (jT : Int) := of_decide_eq_true asm
      have adL : jT < (l0.length : Int) := of_decide_eq_true asm
      obtain ⟨amM, amN, l8, l9⟩ := jW HR0.out jT adK adL
      cases amN
      replace l8 := (HB.out.cell (World.block_lt_of_cell? w _ l8)).trans l8
      replace l9 := (HB.out.cell (World.block_lt_of_cell? w _ l9)).trans l9
      replace adK := eq_true adK
      replace adL := eq_true adL
      go_wp2_with (first | ((with_reducible refine bq (N := 8) rfl ?_); refine bx 8 23 #[.int .i64 0, .int .i64 0] ?_; intro gL hg w22 dL hb; replace ah1 := am (Kd.dO (Kd.xV (kr ah1.out) gL (Nat.le_of_eq hg.symm)) hb); have dJ := am (dL); have aj3 := am ((bz hg HB.out : w.heap.size ≤ gL)); have lT := am ((bz hg HB.out : w.heap.size ≤ gL)); replace HB := am (au (bl HB.out) hb); clear hb dL hg; have sH : w22.cell? ⟨gL, 0, none⟩ = some (.int .i64 0) := bc dJ.out 0; have sI : w22.cell? ⟨gL, 1, none⟩ = some (.int .i64 0) := bc dJ.out 1; have sJ := aj dJ.out 0; have sK := aj dJ.out 1) | ((with_reducible refine aC (f := 76) rfl ?_); refine bR (some 23) rfl rfl Try.func76 (by kernel_rfl) rfl #[.int .i64 ((aT l0 jT).f0), .int .i64 a1] rfl ar ?_; (with_reducible refine (kS.calls ((aT l0 jT).f0) a1 ah2 t127 _ A6.out).mono ?_); rintro e w' ⟨rfl, ⟨nd, rfl⟩⟩; refine ⟨_, rfl, ?_⟩) | ((with_reducible refine aC (f := 76) rfl ?_); refine bR (some 30) rfl rfl Try.func76 (by kernel_rfl) rfl #[.int .i64 ((aT l0 jT).f1), .int .i64 a1] rfl ar ?_; (with_reducible refine (kS.calls ((aT l0 jT).f1) a1 ah3 ac9 _ A7.out).mono ?_); rintro e w' ⟨rfl, ⟨nd, rfl⟩⟩; refine ⟨_, rfl, ?_⟩))
      go_ret2
      exact ⟨_, rt, by first | exact Kd.wP _ _ _ _ _ | exact Kd.zk _ _ _ _ _ | exact Kd.wI _ _ _ _ _ | exact Kd.yZ _ _ _ _ _ | exact Kd.zi _ _ _ _ _, bl1 HB.out lT.out⟩
    ·rw [if_neg c8] at H
     have aft : (t127 == 0) = false := beq_eq_false_iff_ne.mpr c8
     have aoF : (t127 != 0) = true := bne_iff_ne.mpr c8
     simp only [Option.some.injEq, Prod.mk.injEq] at H
     obtain ⟨rfl, rfl⟩ := H
     have adK : 0 ≤ (jT : Int) := of_decide_eq_true asm
     have adL : jT < (l0.length : Int) := of_decide_eq_true asm
     obtain ⟨amM, amN, l8, l9⟩ := jW HR0.out jT adK adL
     cases amN
     replace l8 := (HB.out.cell (World.block_lt_of_cell? w _ l8)).trans l8
     replace l9 := (HB.out.cell (World.block_lt_of_cell? w _ l9)).trans l9
     replace adK := eq_true adK
     replace adL := eq_true adL
     go_wp2_with (first | ((with_reducible refine bq (N := 8) rfl ?_); refine bx 8 23 #[.int .i64 0, .int .i64 0] ?_; intro gL hg w24 dL hb; replace ah1 := am (Kd.dO (Kd.xV (kr ah1.out) gL (Nat.le_of_eq hg.symm)) hb); have dJ := am (dL); have aj3 := am ((bz hg HB.out : w.heap.size ≤ gL)); have lT := am ((bz hg HB.out : w.heap.size ≤ gL)); replace HB := am (au (bl HB.out) hb); clear hb dL hg; have afM : w24.cell? ⟨gL, 0, none⟩ = some (.int .i64 0) := bc dJ.out 0; have afN : w24.cell? ⟨gL, 1, none⟩ = some (.int .i64 0) := bc dJ.out 1; have afO := aj dJ.out 0; have afP := aj dJ.out 1) | ((with_reducible refine aC (f := 76) rfl ?_); refine bR (some 23) rfl rfl Try.func76 (by kernel_rfl) rfl #[.int .i64 ((aT l0 jT).f0), .int .i64 a1] rfl ar ?_; (with_reducible refine (kS.calls ((aT l0 jT).f0) a1 ah2 t127 _ A6.out).mono ?_); rintro e w' ⟨rfl, ⟨nd, rfl⟩⟩; refine ⟨_, rfl, ?_⟩) | ((with_reducible refine aC (f := 76) rfl ?_); refine bR (some 30) rfl rfl Try.func76 (by kernel_rfl) rfl #[.int .i64 ((aT l0 jT).f1), .int .i64 a1] rfl ar ?_; (with_reducible refine (kS.calls ((aT l0 jT).f1) a1 ah3 ac9 _ A7.out).mono ?_); rintro e w' ⟨rfl, ⟨nd, rfl⟩⟩; refine ⟨_, rfl, ?_⟩))
     go_ret2
     exact ⟨_, rt, by first | exact Kd.wP _ _ _ _ _ | exact Kd.zk _ _ _ _ _ | exact Kd.wI _ _ _ _ _ | exact Kd.yZ _ _ _ _ _ | exact Kd.zi _ _ _ _ _, bl1 HB.out lT.out⟩
   ·rw [if_neg c3] at H
    have aa8 : decide (jT < (l0.length : Int)) = false := decide_eq_false c3
    clear c3
    simp only [Option.some.injEq, Prod.mk.injEq] at H
    obtain ⟨rfl, rfl⟩ := H
    go_wp2
    go_ret2
    exact ⟨_, rt, by (with_reducible repeat (first | apply Kd.qd | apply Kd.qg | apply Kd.qR)); exact ah1.out, bl HB.out⟩
def eO.f (k : Nat) (aQ : Int) (aR : Int) (aH : List (List (S23))) (av : List (S70)) (a1 : Int) : Option ((List (S23)) × Int) := (gI.f a1).bind fun aj4 => (if aj4 = true then ((jl.f k aQ aR aH av a1).bind fun uj => (if (uj.1.length : Int) = 0 then (some (([] : List (S23)), 0)) else (if uj.2.2 = 0 then ((eU.f k uj.1 uj.2.1).bind fun aaU => (some (aaU.1, aaU.2))) else (some (([] : List (S23)), 20))))) else (some (([] : List (S23)), 20)))
theorem eO.mono : ∀ a0 a1 a2 a3 a4 k, LeO (eO.f k a0 a1 a2 a3 a4) (eO.f (k + 1) a0 a1 a2 a3 a4) := by
 intro a0 a1 a2 a3 a4 k
 unfold eO.f
 repeat' first
  | (with_reducible exact jl.mono _ _ _ _ _ _)
  | (with_reducible exact eU.mono _ _ _)
  | (with_reducible exact LeO.refl _)
  | (with_reducible exact LeO.none _)
  | (with_reducible refine LeO.ite ?_ ?_)
  | (with_reducible refine LeO.bind ?_ (fun _ => ?_))
  | exact jl.mono _ _ _ _ _ _
  | exact eU.mono _ _ _
  | exact LeO.none _
  | refine LeO.ite ?_ ?_
  | refine LeO.bind ?_ (fun _ => ?_)
set_option maxHeartbeats 8000000 in
set_option maxRecDepth 100000 in
theorem eO.calls (k : Nat) (aQ : Int) (aR : Int) (cu : Option Addr) (bW : Nat) (aH : List (List (S23))) (dz : Option Addr) (bZ : Nat) (av : List (S70)) (a1 : Int) (r1 : List (S23)) (r2 : Int) (w : World) (iF : Kd.C (Kd.slice 23 k23) w cu aH.length aH) (iG : aH.length ≤ bW) (iw : Kd.C k70 w dz av.length av) (iy : av.length ≤ bZ) (h : eO.f k aQ aR aH av a1 = some (r1, r2)) :
 Calls Try.prog 18 #[.agg #[.int .i64 aQ, .int .i64 aR, .slice cu aH.length bW, .slice dz av.length bZ], .int .i64 a1] w fun e w' => ∃ v0_ : Value, e = .returned (.tuple #[v0_, .int .i64 r2]) ∧ Kd.R k23 23 w' w.heap.size (fun _ => True) v0_ r1 ∧ Below w.heap.size w w' := by
 have aaE := Try.underlying28
 have gF := am iF
 have gX := am iG
 clear iF iG
 have fK := am iw
 have gW := am iy
 clear iw iy
 have HB := am (Below.refl w.heap.size w)
 have H : ((gI.f a1).bind fun aj4 => (if aj4 = true then ((jl.f k aQ aR aH av a1).bind fun uj => (if (uj.1.length : Int) = 0 then (some (([] : List (S23)), 0)) else (if uj.2.2 = 0 then ((eU.f k uj.1 uj.2.1).bind fun aaU => (some (aaU.1, aaU.2))) else (some (([] : List (S23)), 20))))) else (some (([] : List (S23)), 20)))) = some (r1, r2) := h
 clear h
 replace H := Option.bind_eq_some_iff.mp H
 obtain ⟨aj4, A30, H⟩ := H
 try dsimp only at H
 have A3 := am A30
 clear A30
 by_cases c4 : aj4 = true
 ·subst c4
  have H1 : ((jl.f k aQ aR aH av a1).bind fun uj => (if (uj.1.length : Int) = 0 then (some (([] : List (S23)), 0)) else (if uj.2.2 = 0 then ((eU.f k uj.1 uj.2.1).bind fun aaU => (some (aaU.1, aaU.2))) else (some (([] : List (S23)), 20))))) = some (r1, r2) := by rw [if_pos rfl] at H; exact H
  clear H
  have H := H1
  clear H1
  replace H := Option.bind_eq_some_iff.mp H
  obtain ⟨⟨abI, aj5, aeW⟩, A50, H⟩ := H
  try dsimp only at H
  have A5 := am A50
  clear A50
  by_cases c6 : (abI.length : Int) = 0
  ·rw [if_pos c6] at H
   have adw : ((abI.length : Int) == 0) = true := beq_iff_eq.mpr c6
   have anO : ((abI.length : Int) != 0) = false := bne_eq_false_iff_eq.mpr c6
   clear c6
   simp only [Option.some.injEq, Prod.mk.injEq] at H
   obtain ⟨rfl, rfl⟩ := H
   go_enter Try.func18, Try.ntmps18
   go_wp2_with (first | ((with_reducible refine bq (N := 2) rfl ?_); refine bx 2 28 #[.int .i64 aQ, .int .i64 aR, .slice cu aH.length bW, .slice dz av.length bZ] ?_; intro lu hg w7 dL hb; have jP := am (dL); have zL := am ((bz hg HB.out : w.heap.size ≤ lu)); have oo := am ((bz hg HB.out : w.heap.size ≤ lu)); replace HB := am (au (bl HB.out) hb); clear hb dL hg) | ((with_reducible refine aC (f := 55) rfl ?_); refine bR (some 10) rfl rfl Try.func55 (by kernel_rfl) rfl #[.int .i64 a1] rfl ar ?_; (with_reducible refine (gI.calls a1 true _ A3.out).mono ?_); rintro e w' ⟨rfl, ⟨nd, rfl⟩⟩; refine ⟨_, rfl, ?_⟩; have yx : w7.cell? ⟨lu, 0, none⟩ = some (.int .i64 aQ) := bc jP.out 0; have yA : w7.cell? ⟨lu, 1, none⟩ = some (.int .i64 aR) := bc jP.out 1; have zn : w7.cell? ⟨lu, 2, none⟩ = some (.slice cu aH.length bW) := bc jP.out 2; have zo : w7.cell? ⟨lu, 3, none⟩ = some (.slice dz av.length bZ) := bc jP.out 3; have yB := aj jP.out 0; have yC := aj jP.out 1; have zq := aj jP.out 2; have zu := aj jP.out 3) | ((with_reducible refine aC (f := 56) rfl ?_); refine bR (some 15) rfl rfl Try.func56 (by kernel_rfl) rfl #[.agg #[.int .i64 aQ, .int .i64 aR, .slice cu aH.length bW, .slice dz av.length bZ], .int .i64 a1] rfl ar ?_; (with_reducible refine (jl.calls k aQ aR (fun k_ => k_ < w.heap.size) _ _ aH (fun k_ => k_ < w.heap.size) _ _ av a1 abI aj5 aeW _ ?bH ?bI A5.out).mono ?_); (case bH => exact Kd.acM gX.out (Kd.qj (Kd.C_F (Kd.rM 23 xY) gF.out) (bl1 HB.out oo.out))); (case bI => exact Kd.acM gW.out (Kd.qj (Kd.C_F aa7 fK.out) (bl1 HB.out oo.out))); rintro e w9 ⟨as1, rfl, ho0, hb⟩; refine ⟨_, rfl, ?_⟩; have zM := am (Kd.wT (Kd.j4 (ok' := fun k_ => k_ ≠ lu) ho0 (fun k_ hk_ => Or.elim hk_ (fun hs_ => Or.elim hs_ (fun hs_ => fun e_ => Nat.not_le.2 hs_ (by rw [e_]; exact zL.out)) (fun hs_ => fun e_ => Nat.not_le.2 hs_ (by rw [e_]; exact zL.out))) (fun hn_ => (Kd.qV (g := lu) (o := .cells #[.int .i64 aQ, .int .i64 aR, .slice cu aH.length bW, .slice dz av.length bZ] 28 (0, 0)) (kp jP.out) k_ hn_)))) (bY (bl1 HB.out oo.out))); replace jP := am (ak (kp jP.out) hb); replace HB := am (au (bl1 HB.out oo.out) hb); (try clear hb); (try clear hb2); (try clear hk); (try clear hi); (try clear ho0); obtain ⟨as2, as3, aw5⟩ := Kd.wS zM.out; subst aw5))
   go_ret2
   exact ⟨_, rt, by first | exact Kd.wP _ _ _ _ _ | exact Kd.zk _ _ _ _ _ | exact Kd.wI _ _ _ _ _ | exact Kd.yZ _ _ _ _ _ | exact Kd.zi _ _ _ _ _, bl1 HB.out oo.out⟩
  ·rw [if_neg c6] at H
   have adw : ((abI.length : Int) == 0) = false := beq_eq_false_iff_ne.mpr c6
   have anO : ((abI.length : Int) != 0) = true := bne_iff_ne.mpr c6
   have aDO : ¬ (abI = []) := fun h_ => c6 (by rw [h_]; rfl)
   by_cases c11 : aeW = 0
   ·rw [if_pos c11] at H
    have ajZ : (aeW == 0) = true := beq_iff_eq.mpr c11
    have apa : (aeW != 0) = false := bne_eq_false_iff_eq.mpr c11
    clear c11
    replace H := Option.bind_eq_some_iff.mp H
    obtain ⟨⟨aw6, aw7⟩, anQ, H⟩ := H
    try dsimp only at H
    have A12 := am anQ
    clear anQ
    simp only [Option.some.injEq, Prod.mk.injEq] at H
    obtain ⟨rfl, rfl⟩ := H
    go_enter Try.func18, Try.ntmps18
    go_wp2_with (first | ((with_reducible refine bq (N := 2) rfl ?_); refine bx 2 28 #[.int .i64 aQ, .int .i64 aR, .slice cu aH.length bW, .slice dz av.length bZ] ?_; intro lu hg w13 dL hb; have jP := am (dL); have zL := am ((bz hg HB.out : w.heap.size ≤ lu)); have oo := am ((bz hg HB.out : w.heap.size ≤ lu)); replace HB := am (au (bl HB.out) hb); clear hb dL hg) | ((with_reducible refine aC (f := 55) rfl ?_); refine bR (some 10) rfl rfl Try.func55 (by kernel_rfl) rfl #[.int .i64 a1] rfl ar ?_; (with_reducible refine (gI.calls a1 true _ A3.out).mono ?_); rintro e w' ⟨rfl, ⟨nd, rfl⟩⟩; refine ⟨_, rfl, ?_⟩; have aj6 : w13.cell? ⟨lu, 0, none⟩ = some (.int .i64 aQ) := bc jP.out 0; have aj7 : w13.cell? ⟨lu, 1, none⟩ = some (.int .i64 aR) := bc jP.out 1; have aj8 : w13.cell? ⟨lu, 2, none⟩ = some (.slice cu aH.length bW) := bc jP.out 2; have aj9 : w13.cell? ⟨lu, 3, none⟩ = some (.slice dz av.length bZ) := bc jP.out 3; have akb := aj jP.out 0; have akc := aj jP.out 1; have akd := aj jP.out 2; have ake := aj jP.out 3) | ((with_reducible refine aC (f := 56) rfl ?_); refine bR (some 15) rfl rfl Try.func56 (by kernel_rfl) rfl #[.agg #[.int .i64 aQ, .int .i64 aR, .slice cu aH.length bW, .slice dz av.length bZ], .int .i64 a1] rfl ar ?_; (with_reducible refine (jl.calls k aQ aR (fun k_ => k_ < w.heap.size) _ _ aH (fun k_ => k_ < w.heap.size) _ _ av a1 abI aj5 aeW _ ?bH ?bI A5.out).mono ?_); (case bH => exact Kd.acM gX.out (Kd.qj (Kd.C_F (Kd.rM 23 xY) gF.out) (bl1 HB.out oo.out))); (case bI => exact Kd.acM gW.out (Kd.qj (Kd.C_F aa7 fK.out) (bl1 HB.out oo.out))); rintro e w15 ⟨as1, rfl, ho0, hb⟩; refine ⟨_, rfl, ?_⟩; have zM := am (Kd.wT (Kd.j4 (ok' := fun k_ => k_ ≠ lu) ho0 (fun k_ hk_ => Or.elim hk_ (fun hs_ => Or.elim hs_ (fun hs_ => fun e_ => Nat.not_le.2 hs_ (by rw [e_]; exact zL.out)) (fun hs_ => fun e_ => Nat.not_le.2 hs_ (by rw [e_]; exact zL.out))) (fun hn_ => (Kd.qV (g := lu) (o := .cells #[.int .i64 aQ, .int .i64 aR, .slice cu aH.length bW, .slice dz av.length bZ] 28 (0, 0)) (kp jP.out) k_ hn_)))) (bY (bl1 HB.out oo.out))); replace jP := am (ak (kp jP.out) hb); replace HB := am (au (bl1 HB.out oo.out) hb); (try clear hb); (try clear hb2); (try clear hk); (try clear hi); (try clear ho0); obtain ⟨ai7, ai8, aw8⟩ := Kd.wS zM.out; subst aw8) | ((with_reducible refine aC (f := 41) rfl ?_); refine bR (some 26) rfl rfl Try.func41 (by kernel_rfl) rfl #[.slice ai7 abI.length ai8, .int .i64 aj5] rfl ar ?_; (with_reducible refine (eU.calls k _ _ abI aj5 aw6 aw7 _ ?bH ?bI A12.out).mono ?_); (case bH => exact kc (Kd.iT zM.out).2.2); (case bI => exact (Kd.iT zM.out).2.1); rintro e w17 ⟨aBW, rfl, ho0, hb⟩; refine ⟨_, rfl, ?_⟩; replace zM := am (Kd.vI (kv zM.out) (Kd.jN ho0) hb); have as4 := am (Kd.jQ ho0 (bY (bl1 HB.out oo.out))); replace jP := am (ak (kp jP.out) hb); replace HB := am (au (bl1 HB.out oo.out) hb); (try clear hb); (try clear hb2); (try clear hk); (try clear hi); (try clear ho0)))
    go_ret2
    exact ⟨_, rt, by (with_reducible repeat (first | apply Kd.qd | apply Kd.qg | apply Kd.qR)); exact as4.out, bl1 HB.out oo.out⟩
   ·rw [if_neg c11] at H
    have ajZ : (aeW == 0) = false := beq_eq_false_iff_ne.mpr c11
    have apa : (aeW != 0) = true := bne_iff_ne.mpr c11
    simp only [Option.some.injEq, Prod.mk.injEq] at H
    obtain ⟨rfl, rfl⟩ := H
    go_enter Try.func18, Try.ntmps18
    go_wp2_with (first | ((with_reducible refine bq (N := 2) rfl ?_); refine bx 2 28 #[.int .i64 aQ, .int .i64 aR, .slice cu aH.length bW, .slice dz av.length bZ] ?_; intro lu hg w18 dL hb; have jP := am (dL); have zL := am ((bz hg HB.out : w.heap.size ≤ lu)); have oo := am ((bz hg HB.out : w.heap.size ≤ lu)); replace HB := am (au (bl HB.out) hb); clear hb dL hg) | ((with_reducible refine aC (f := 55) rfl ?_); refine bR (some 10) rfl rfl Try.func55 (by kernel_rfl) rfl #[.int .i64 a1] rfl ar ?_; (with_reducible refine (gI.calls a1 true _ A3.out).mono ?_); rintro e w' ⟨rfl, ⟨nd, rfl⟩⟩; refine ⟨_, rfl, ?_⟩; have apl : w18.cell? ⟨lu, 0, none⟩ = some (.int .i64 aQ) := bc jP.out 0; have apm : w18.cell? ⟨lu, 1, none⟩ = some (.int .i64 aR) := bc jP.out 1; have aw9 : w18.cell? ⟨lu, 2, none⟩ = some (.slice cu aH.length bW) := bc jP.out 2; have axa : w18.cell? ⟨lu, 3, none⟩ = some (.slice dz av.length bZ) := bc jP.out 3; have apn := aj jP.out 0; have apo := aj jP.out 1; have axb := aj jP.out 2; have axc := aj jP.out 3) | ((with_reducible refine aC (f := 56) rfl ?_); refine bR (some 15) rfl rfl Try.func56 (by kernel_rfl) rfl #[.agg #[.int .i64 aQ, .int .i64 aR, .slice cu aH.length bW, .slice dz av.length bZ], .int .i64 a1] rfl ar ?_; (with_reducible refine (jl.calls k aQ aR (fun k_ => k_ < w.heap.size) _ _ aH (fun k_ => k_ < w.heap.size) _ _ av a1 abI aj5 aeW _ ?bH ?bI A5.out).mono ?_); (case bH => exact Kd.acM gX.out (Kd.qj (Kd.C_F (Kd.rM 23 xY) gF.out) (bl1 HB.out oo.out))); (case bI => exact Kd.acM gW.out (Kd.qj (Kd.C_F aa7 fK.out) (bl1 HB.out oo.out))); rintro e w20 ⟨as1, rfl, ho0, hb⟩; refine ⟨_, rfl, ?_⟩; have zM := am (Kd.wT (Kd.j4 (ok' := fun k_ => k_ ≠ lu) ho0 (fun k_ hk_ => Or.elim hk_ (fun hs_ => Or.elim hs_ (fun hs_ => fun e_ => Nat.not_le.2 hs_ (by rw [e_]; exact zL.out)) (fun hs_ => fun e_ => Nat.not_le.2 hs_ (by rw [e_]; exact zL.out))) (fun hn_ => (Kd.qV (g := lu) (o := .cells #[.int .i64 aQ, .int .i64 aR, .slice cu aH.length bW, .slice dz av.length bZ] 28 (0, 0)) (kp jP.out) k_ hn_)))) (bY (bl1 HB.out oo.out))); replace jP := am (ak (kp jP.out) hb); replace HB := am (au (bl1 HB.out oo.out) hb); (try clear hb); (try clear hb2); (try clear hk); (try clear hi); (try clear ho0); obtain ⟨ar8, ar9, as5⟩ := Kd.wS zM.out; subst as5))
    go_ret2
    exact ⟨_, rt, by first | exact Kd.wP _ _ _ _ _ | exact Kd.zk _ _ _ _ _ | exact Kd.wI _ _ _ _ _ | exact Kd.yZ _ _ _ _ _ | exact Kd.zi _ _ _ _ _, bl1 HB.out oo.out⟩
 ·replace c4 := Bool.eq_false_iff.mpr c4
  subst c4
  have H1 : (some (([] : List (S23)), 20)) = some (r1, r2) := by rw [if_neg (show ¬ (false = true) by decide)] at H; exact H
  clear H
  have H := H1
  clear H1
  simp only [Option.some.injEq, Prod.mk.injEq] at H
  obtain ⟨rfl, rfl⟩ := H
  go_enter Try.func18, Try.ntmps18
  go_wp2_with (first | ((with_reducible refine bq (N := 2) rfl ?_); refine bx 2 28 #[.int .i64 aQ, .int .i64 aR, .slice cu aH.length bW, .slice dz av.length bZ] ?_; intro lu hg w22 dL hb; have jP := am (dL); have zL := am ((bz hg HB.out : w.heap.size ≤ lu)); have oo := am ((bz hg HB.out : w.heap.size ≤ lu)); replace HB := am (au (bl HB.out) hb); clear hb dL hg) | ((with_reducible refine aC (f := 55) rfl ?_); refine bR (some 10) rfl rfl Try.func55 (by kernel_rfl) rfl #[.int .i64 a1] rfl ar ?_; (with_reducible refine (gI.calls a1 false _ A3.out).mono ?_); rintro e w' ⟨rfl, ⟨nd, rfl⟩⟩; refine ⟨_, rfl, ?_⟩))
  go_ret2
  exact ⟨_, rt, by first | exact Kd.wP _ _ _ _ _ | exact Kd.zk _ _ _ _ _ | exact Kd.wI _ _ _ _ _ | exact Kd.yZ _ _ _ _ _ | exact Kd.zi _ _ _ _ _, bl1 HB.out oo.out⟩
def qp.f (l0 : List (S23)) : Option (Bool) := some (decide ((l0.length : Int) > 0))
set_option maxHeartbeats 8000000 in
set_option maxRecDepth 100000 in
theorem qp.calls (A0 : Option Addr) (c0 : Nat) (l0 : List (S23)) (r : Bool) (w : World) (hr0 : Kd.C k23 w A0 l0.length l0) (hc0 : l0.length ≤ c0) (h : qp.f l0 = some r) :
 Calls Try.prog 107 #[.slice A0 l0.length c0] w fun e w' => e = .returned (.bool r) ∧ dh w w' := by
 have HR0 := am hr0
 have HC0 := am hc0
 clear hr0 hc0
 have H : (some (decide ((l0.length : Int) > 0))) = some r := h
 clear h
 obtain rfl := Option.some.inj H
 go_enter Try.func107, Try.ntmps107
 go_wp2
 go_ret
 exact ⟨by first | rfl | (simp; done) | (simp [*]; done), by repeat (first | exact dh.refl _ | apply dh.step)⟩
def bG.l0 : Nat → List (List (S23)) → Int → Int → Option (Int)
 | 0, _, _, _ => none
 | k + 1, x0, x7, x8 => if x8 < x7 then (if 0 ≤ x8 then (if x8 < (x0.length : Int) then ((qp.f (dZ x0 x8)).bind fun apq => (if apq = true then (some x8) else (bG.l0 k x0 x7 (wrap64 (x8 + 1))))) else (none)) else (none)) else (some (-1))
def bG.f (k : Nat) (l0 : List (List (S23)))  : Option (Int) := bG.l0 k l0 (l0.length : Int) 0
theorem bG.iX : ∀ k, (∀ y0 y1 y2, LeO (bG.l0 k y0 y1 y2) (bG.l0 (k + 1) y0 y1 y2))
 | 0 => fun _ _ _ r h => by simp [bG.l0] at h
 | k + 1 => by
  have ih0 := bG.iX k
  ·intro y0 y1 y2
   unfold bG.l0
   repeat' first
   | (with_reducible exact ih0 _ _ _)
   | (with_reducible exact LeO.refl _)
   | (with_reducible exact LeO.none _)
   | (with_reducible refine LeO.ite ?_ ?_)
   | (with_reducible refine LeO.bind ?_ (fun _ => ?_))
   | exact ih0 _ _ _
   | exact LeO.none _
   | refine LeO.ite ?_ ?_
   | refine LeO.bind ?_ (fun _ => ?_)
theorem bG.mono : ∀ a0 k, LeO (bG.f k a0) (bG.f (k + 1) a0) := by
 intro a0 k
 have ih0 := bG.iX k
 unfold bG.f
 repeat' first
  | (with_reducible exact ih0 _ _ _)
  | (with_reducible exact LeO.refl _)
  | (with_reducible exact LeO.none _)
  | (with_reducible refine LeO.ite ?_ ?_)
  | (with_reducible refine LeO.bind ?_ (fun _ => ?_))
  | exact ih0 _ _ _
  | exact LeO.none _
  | refine LeO.ite ?_ ?_
  | refine LeO.bind ?_ (fun _ => ?_)
set_option maxHeartbeats 8000000 in
set_option maxRecDepth 100000 in
theorem bG.calls (k : Nat) (A0 : Option Addr) (c0 : Nat) (l0 : List (List (S23)))  (r : Int) (w : World) (hr0 : Kd.C (Kd.slice 23 k23) w A0 l0.length l0) (hc0 : l0.length ≤ c0) (h : bG.f k l0 = some r) :
 Calls Try.prog 121 #[.slice A0 l0.length c0, .func (.func 107) #[] #[]] w fun e w' => e = .returned (.int .i64 r) ∧ dh w w' := by
 have HR0 := am hr0
 have HC0 := am hc0
 clear hr0 hc0
 have H : (bG.l0 k l0 (l0.length : Int) 0) = some r := h
 clear h
 have H' := am H
 clear H
 go_enter Try.func121, Try.ntmps121
 go_wp2
 go_loopg [8] k (fun kq v8 w' => ∃ (lG : Int), v8 = .int .i64 lG ∧ ay (bG.l0 kq l0 (l0.length : Int) lG = some r) ∧ ay (kq ≤ k) ∧ dh w w')
 case atStart => exact ⟨(0), sm, H', ⟨Nat.le_refl _⟩, by repeat (first | exact dh.refl _ | apply dh.step)⟩
 case round =>
  clear H'
  obtain ⟨lG, rfl, HA, HK1, ⟨m1, rfl⟩⟩ := hrel
  cases gk with
  | zero => exact absurd HA.out (by simp [bG.l0])
  | succ k1 =>
   have H := HA.out
   clear HA
   simp only [bG.l0] at H
   by_cases c3 : lG < (l0.length : Int)
   ·rw [if_pos c3] at H
    have aa8 : decide (lG < (l0.length : Int)) = true := decide_eq_true c3
    clear c3
    by_cases c4 : 0 ≤ lG
    case neg => rw [if_neg c4] at H; exact absurd H (by simp)
    rw [if_pos c4] at H
    have vv : decide (0 ≤ lG) = true := decide_eq_true c4
    clear c4
    by_cases c5 : lG < (l0.length : Int)
    case neg => rw [if_neg c5] at H; exact absurd H (by simp)
    rw [if_pos c5] at H
    have acT : decide (lG < (l0.length : Int)) = true := decide_eq_true c5
    clear c5
    replace H := Option.bind_eq_some_iff.mp H
    obtain ⟨apq, A60, H⟩ := H
    try dsimp only at H
    have A6 := am A60
    clear A60
    by_cases c7 : apq = true
    ·subst c7
     have H1 : (some lG) = some r := by rw [if_pos rfl] at H; exact H
     clear H
     have H := H1
     clear H1
     obtain rfl := Option.some.inj H
     have af2 : 0 ≤ (lG : Int) := of_decide_eq_true asm
     have af3 : lG < (l0.length : Int) := of_decide_eq_true asm
     obtain ⟨as6, apr, aps, apt, amO, zN, zO⟩ := ru HR0.out lG af2 af3
     cases apt
     have adM := am zO
     have adN := am zN
     clear zO zN
     replace af2 := eq_true af2
     replace af3 := eq_true af3
     go_wp2_with (first | (go_at_call 107; (with_reducible refine (qp.calls _ _ (dZ l0 lG) true _ ?bH ?bI A6.out).mono ?_); (case bH => exact kc adM.out); (case bI => exact adN.out); rintro e w' ⟨rfl, ⟨nd, rfl⟩⟩))
     go_ret
     exact ⟨by first | rfl | (simp; done) | (simp [*]; done), by repeat (first | exact dh.refl _ | apply dh.step)⟩
    ·replace c7 := Bool.eq_false_iff.mpr c7
     subst c7
     have H1 : (bG.l0 k1 l0 (l0.length : Int) (wrap64 (lG + 1))) = some r := by rw [if_neg (show ¬ (false = true) by decide)] at H; exact H
     clear H
     have H := H1
     clear H1
     have H' := am H
     clear H
     have af2 : 0 ≤ (lG : Int) := of_decide_eq_true asm
     have af3 : lG < (l0.length : Int) := of_decide_eq_true asm
     obtain ⟨as6, apr, aps, apt, amO, zN, zO⟩ := ru HR0.out lG af2 af3
     cases apt
     have adM := am zO
     have adN := am zN
     clear zO zN
     replace af2 := eq_true af2
     replace af3 := eq_true af3
     go_wp2_with (first | (go_at_call 107; (with_reducible refine (qp.calls _ _ (dZ l0 lG) false _ ?bH ?bI A6.out).mono ?_); (case bH => exact kc adM.out); (case bI => exact adN.out); rintro e w' ⟨rfl, ⟨nd, rfl⟩⟩))
     go_roundg k1
     case measure => have := HK1.out; omega
     case rel => exact ⟨(wrap64 (lG + 1)), sm, H', ⟨by have := HK1.out; omega⟩, by repeat (first | exact dh.refl _ | apply dh.step)⟩
   ·rw [if_neg c3] at H
    have aa8 : decide (lG < (l0.length : Int)) = false := decide_eq_false c3
    clear c3
    obtain rfl := Option.some.inj H
    go_wp2
    go_ret
    exact ⟨by first | rfl | (simp; done) | (simp [*]; done), by repeat (first | exact dh.refl _ | apply dh.step)⟩
def eX.f (k : Nat) (l0 : List (List (S23)))  : Option (Bool) := (bG.f k l0).bind fun akf => (some (decide (akf ≥ 0)))
theorem eX.mono : ∀ a0 k, LeO (eX.f k a0) (eX.f (k + 1) a0) := by
 intro a0 k
 unfold eX.f
 repeat' first
  | (with_reducible exact bG.mono _ _)
  | (with_reducible exact LeO.refl _)
  | (with_reducible exact LeO.none _)
  | (with_reducible refine LeO.ite ?_ ?_)
  | (with_reducible refine LeO.bind ?_ (fun _ => ?_))
  | exact bG.mono _ _
  | exact LeO.none _
  | refine LeO.ite ?_ ?_
  | refine LeO.bind ?_ (fun _ => ?_)
set_option maxHeartbeats 8000000 in
set_option maxRecDepth 100000 in
theorem eX.calls (k : Nat) (A0 : Option Addr) (c0 : Nat) (l0 : List (List (S23)))  (r : Bool) (w : World) (hr0 : Kd.C (Kd.slice 23 k23) w A0 l0.length l0) (hc0 : l0.length ≤ c0) (h : eX.f k l0 = some r) :
 Calls Try.prog 106 #[.slice A0 l0.length c0, .func (.func 107) #[] #[]] w fun e w' => e = .returned (.bool r) ∧ dh w w' := by
 have HR0 := am hr0
 have HC0 := am hc0
 clear hr0 hc0
 have H : ((bG.f k l0).bind fun akf => (some (decide (akf ≥ 0)))) = some r := h
 clear h
 replace H := Option.bind_eq_some_iff.mp H
 obtain ⟨akf, A30, H⟩ := H
 try dsimp only at H
 have A3 := am A30
 clear A30
 obtain rfl := Option.some.inj H
 go_enter Try.func106, Try.ntmps106
 go_wp2_with (first | ((with_reducible refine aC (f := 121) rfl ?_); refine bR (some 7) rfl rfl Try.func121 (by kernel_rfl) rfl #[.slice A0 l0.length c0, .func (.func 107) #[] #[]] rfl ar ?_; (with_reducible refine (bG.calls k _ _ l0 akf _ ?bH ?bI A3.out).mono ?_); (case bH => exact kc HR0.out); (case bI => exact HC0.out); rintro e w' ⟨rfl, ⟨nd, rfl⟩⟩; refine ⟨_, rfl, ?_⟩))
 go_ret
 exact ⟨by first | rfl | (simp; done) | (simp [*]; done), by repeat (first | exact dh.refl _ | apply dh.step)⟩
def iU.f (k : Nat) (aQ : Int) (aR : Int) (aH : List (List (S23))) (av : List (S70)) : Option (Bool) := (eX.f k aH).bind fun akg => (some (!akg))
theorem iU.mono : ∀ a0 a1 a2 a3 k, LeO (iU.f k a0 a1 a2 a3) (iU.f (k + 1) a0 a1 a2 a3) := by
 intro a0 a1 a2 a3 k
 unfold iU.f
 repeat' first
  | (with_reducible exact eX.mono _ _)
  | (with_reducible exact LeO.refl _)
  | (with_reducible exact LeO.none _)
  | (with_reducible refine LeO.ite ?_ ?_)
  | (with_reducible refine LeO.bind ?_ (fun _ => ?_))
  | exact eX.mono _ _
  | exact LeO.none _
  | refine LeO.ite ?_ ?_
  | refine LeO.bind ?_ (fun _ => ?_)
set_option maxHeartbeats 8000000 in
set_option maxRecDepth 100000 in
theorem iU.calls (k : Nat) (aQ : Int) (aR : Int) (cu : Option Addr) (bW : Nat) (aH : List (List (S23))) (dz : Option Addr) (bZ : Nat) (av : List (S70)) (r : Bool) (w : World) (iF : Kd.C (Kd.slice 23 k23) w cu aH.length aH) (iG : aH.length ≤ bW) (iw : Kd.C k70 w dz av.length av) (iy : av.length ≤ bZ) (h : iU.f k aQ aR aH av = some r) :
 Calls Try.prog 93 #[.agg #[.int .i64 aQ, .int .i64 aR, .slice cu aH.length bW, .slice dz av.length bZ]] w fun e w' => e = .returned (.bool r) ∧ Below w.heap.size w w' := by
 have aaE := Try.underlying28
 have gF := am iF
 have gX := am iG
 clear iF iG
 have fK := am iw
 have gW := am iy
 clear iw iy
 have HB := am (Below.refl w.heap.size w)
 have H : ((eX.f k aH).bind fun akg => (some (!akg))) = some r := h
 clear h
 replace H := Option.bind_eq_some_iff.mp H
 obtain ⟨akg, A20, H⟩ := H
 try dsimp only at H
 have A2 := am A20
 clear A20
 obtain rfl := Option.some.inj H
 go_enter Try.func93, Try.ntmps93
 go_wp2_with (first | ((with_reducible refine bq (N := 1) rfl ?_); refine bx 1 28 #[.int .i64 aQ, .int .i64 aR, .slice cu aH.length bW, .slice dz av.length bZ] ?_; intro ada hg w3 dL hb; have aaV := am (dL); have aAO := am ((bz hg HB.out : w.heap.size ≤ ada)); have as7 := am ((bz hg HB.out : w.heap.size ≤ ada)); replace HB := am (au (bl HB.out) hb); clear hb dL hg; have ajB : w3.cell? ⟨ada, 0, none⟩ = some (.int .i64 aQ) := bc aaV.out 0; have ajC : w3.cell? ⟨ada, 1, none⟩ = some (.int .i64 aR) := bc aaV.out 1; have aAP : w3.cell? ⟨ada, 2, none⟩ = some (.slice cu aH.length bW) := bc aaV.out 2; have aAQ : w3.cell? ⟨ada, 3, none⟩ = some (.slice dz av.length bZ) := bc aaV.out 3; have ajD := aj aaV.out 0; have ajE := aj aaV.out 1; have aAR := aj aaV.out 2; have aAS := aj aaV.out 3) | ((with_reducible refine aC (f := 106) rfl ?_); refine bR (some 5) rfl rfl Try.func106 (by kernel_rfl) rfl #[.slice cu aH.length bW, .func (.func 107) #[] #[]] rfl ar ?_; (with_reducible refine (eX.calls k _ _ aH akg _ ?bH ?bI A2.out).mono ?_); (case bH => exact kc (Kd.bf gF.out HB.out)); (case bI => exact gX.out); rintro e w' ⟨rfl, ⟨nd, rfl⟩⟩; refine ⟨_, rfl, ?_⟩))
 go_ret
 exact ⟨rt, bl1 HB.out as7.out⟩
def gZ.f (k : Nat) (aQ : Int) (aR : Int) (aH : List (List (S23))) (av : List (S70)) (a1 : Int) : Option (Bool) := (jl.f k aQ aR aH av a1).bind fun akh => (some (decide ((akh.1.length : Int) > 0)))
theorem gZ.mono : ∀ a0 a1 a2 a3 a4 k, LeO (gZ.f k a0 a1 a2 a3 a4) (gZ.f (k + 1) a0 a1 a2 a3 a4) := by
 intro a0 a1 a2 a3 a4 k
 unfold gZ.f
 repeat' first
  | (with_reducible exact jl.mono _ _ _ _ _ _)
  | (with_reducible exact LeO.refl _)
  | (with_reducible exact LeO.none _)
  | (with_reducible refine LeO.ite ?_ ?_)
  | (with_reducible refine LeO.bind ?_ (fun _ => ?_))
  | exact jl.mono _ _ _ _ _ _
  | exact LeO.none _
  | refine LeO.ite ?_ ?_
  | refine LeO.bind ?_ (fun _ => ?_)
set_option maxHeartbeats 8000000 in
set_option maxRecDepth 100000 in
theorem gZ.calls (k : Nat) (aQ : Int) (aR : Int) (cu : Option Addr) (bW : Nat) (aH : List (List (S23))) (dz : Option Addr) (bZ : Nat) (av : List (S70)) (a1 : Int) (r : Bool) (w : World) (iF : Kd.C (Kd.slice 23 k23) w cu aH.length aH) (iG : aH.length ≤ bW) (iw : Kd.C k70 w dz av.length av) (iy : av.length ≤ bZ) (h : gZ.f k aQ aR aH av a1 = some r) :
 Calls Try.prog 94 #[.agg #[.int .i64 aQ, .int .i64 aR, .slice cu aH.length bW, .slice dz av.length bZ], .int .i64 a1] w fun e w' => e = .returned (.bool r) ∧ Below w.heap.size w w' := by
 have aaE := Try.underlying28
 have gF := am iF
 have gX := am iG
 clear iF iG
 have fK := am iw
 have gW := am iy
 clear iw iy
 have HB := am (Below.refl w.heap.size w)
 have H : ((jl.f k aQ aR aH av a1).bind fun akh => (some (decide ((akh.1.length : Int) > 0)))) = some r := h
 clear h
 replace H := Option.bind_eq_some_iff.mp H
 obtain ⟨⟨axd, axe, axf⟩, A30, H⟩ := H
 try dsimp only at H
 have A3 := am A30
 clear A30
 obtain rfl := Option.some.inj H
 go_enter Try.func94, Try.ntmps94
 go_wp2_with (first | ((with_reducible refine bq (N := 2) rfl ?_); refine bx 2 28 #[.int .i64 aQ, .int .i64 aR, .slice cu aH.length bW, .slice dz av.length bZ] ?_; intro aaW hg w4 dL hb; have xk := am (dL); have anR := am ((bz hg HB.out : w.heap.size ≤ aaW)); have aeX := am ((bz hg HB.out : w.heap.size ≤ aaW)); replace HB := am (au (bl HB.out) hb); clear hb dL hg; have abD : w4.cell? ⟨aaW, 0, none⟩ = some (.int .i64 aQ) := bc xk.out 0; have abE : w4.cell? ⟨aaW, 1, none⟩ = some (.int .i64 aR) := bc xk.out 1; have aeO : w4.cell? ⟨aaW, 2, none⟩ = some (.slice cu aH.length bW) := bc xk.out 2; have aeP : w4.cell? ⟨aaW, 3, none⟩ = some (.slice dz av.length bZ) := bc xk.out 3; have abF := aj xk.out 0; have abG := aj xk.out 1; have aeQ := aj xk.out 2; have aeR := aj xk.out 3) | ((with_reducible refine aC (f := 56) rfl ?_); refine bR (some 11) rfl rfl Try.func56 (by kernel_rfl) rfl #[.agg #[.int .i64 aQ, .int .i64 aR, .slice cu aH.length bW, .slice dz av.length bZ], .int .i64 a1] rfl ar ?_; (with_reducible refine (jl.calls k aQ aR (fun k_ => k_ < w.heap.size) _ _ aH (fun k_ => k_ < w.heap.size) _ _ av a1 axd axe axf _ ?bH ?bI A3.out).mono ?_); (case bH => exact Kd.acM gX.out (Kd.qj (Kd.C_F (Kd.rM 23 xY) gF.out) (bl1 HB.out aeX.out))); (case bI => exact Kd.acM gW.out (Kd.qj (Kd.C_F aa7 fK.out) (bl1 HB.out aeX.out))); rintro e w6 ⟨aBX, rfl, ho0, hb⟩; refine ⟨_, rfl, ?_⟩; have as8 := am (Kd.wT (Kd.j4 (ok' := fun k_ => k_ ≠ aaW) ho0 (fun k_ hk_ => Or.elim hk_ (fun hs_ => Or.elim hs_ (fun hs_ => fun e_ => Nat.not_le.2 hs_ (by rw [e_]; exact anR.out)) (fun hs_ => fun e_ => Nat.not_le.2 hs_ (by rw [e_]; exact anR.out))) (fun hn_ => (Kd.qV (g := aaW) (o := .cells #[.int .i64 aQ, .int .i64 aR, .slice cu aH.length bW, .slice dz av.length bZ] 28 (0, 0)) (kp xk.out) k_ hn_)))) (bY (bl1 HB.out aeX.out))); replace xk := am (ak (kp xk.out) hb); replace HB := am (au (bl1 HB.out aeX.out) hb); (try clear hb); (try clear hb2); (try clear hk); (try clear hi); (try clear ho0); obtain ⟨Ao7, co7, eo7⟩ := Kd.wS as8.out; subst eo7))
 go_ret
 exact ⟨rt, bl1 HB.out aeX.out⟩
end Go.Proofs.Ytmbmalkpmanaaaa.P

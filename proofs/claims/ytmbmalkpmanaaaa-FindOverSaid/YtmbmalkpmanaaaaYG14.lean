/- Lemmas for laws of chapter 7: what the functions that they reach compute. No condition of its own. -/
import Derived.Test.YtmbmalkpmanaaaaYG4
import Derived.Test.YtmbmalkpmanaaaaYG2
import Derived.Test.YtmbmalkpmanaaaaYG9
import Derived.Test.YtmbmalkpmanaaaaYG7
import Derived.Test.YtmbmalkpmanaaaaYG6
namespace Go.Proofs.Ytmbmalkpmanaaaa.P
open Go.RowKit Go.Proofs.YtmbmalkpmanaaaaW.aK Go.Proofs.YtmbmalkpmanaaaaW.bK Go.Proofs.YtmbmalkpmanaaaaW.bM
attribute [local go_sem] dS dU fG fH dB dD dV dW   -- for this text's walks alone
set_option linter.unusedVariables false
set_option linter.unusedSimpArgs false
mutual
def iq.l0 : Nat → Int → List (List (S23)) → Int → Int → Int → Int → List (List (S23)) → List (S70) → Option (Int)
 | 0, _, _, _, _, _, _, _, _ => none
 | k + 1, x3, x9, x10, x11, x2128000, x2128001, x2128002, x2128003 => if x11 < x10 then (if 0 ≤ x11 then (if x11 < (x9.length : Int) then (iq.l0 k (wrap64 (x3 + ((dZ x9 x11).length : Int))) x9 x10 (wrap64 (x11 + 1)) x2128000 x2128001 x2128002 x2128003) else (none)) else (none)) else (iq.l1 k x3 x2128003 (x2128003.length : Int) 0)
def iq.l1 : Nat → Int → List (S70) → Int → Int → Option (Int)
 | 0, _, _, _, _ => none
 | k + 1, x3, x21, x22, x23 => if x23 < x22 then (if 0 ≤ x23 then (if x23 < (x21.length : Int) then (iq.l1 k (wrap64 (x3 + (((aU x21 x23).f1).length : Int))) x21 x22 (wrap64 (x23 + 1))) else (none)) else (none)) else (some x3)
end
def iq.f (k : Nat) (aQ : Int) (aR : Int) (aH : List (List (S23))) (av : List (S70)) : Option (Int) := iq.l0 k 0 aH (aH.length : Int) 0 aQ aR aH av
set_option maxHeartbeats 8000000 in
set_option maxRecDepth 100000 in
theorem iq.calls (k : Nat) (aQ : Int) (aR : Int) (cu : Option Addr) (bW : Nat) (aH : List (List (S23))) (dz : Option Addr) (bZ : Nat) (av : List (S70)) (r : Int) (w : World) (iF : Kd.C (Kd.slice 23 k23) w cu aH.length aH) (iG : aH.length ≤ bW) (iw : Kd.C k70 w dz av.length av) (iy : av.length ≤ bZ) (h : iq.f k aQ aR aH av = some r) :
 Calls Try.prog 80 #[.agg #[.int .i64 aQ, .int .i64 aR, .slice cu aH.length bW, .slice dz av.length bZ]] w fun e w' => e = .returned (.int .i64 r) ∧ Below w.heap.size w w' := by
 have aaE := Try.underlying28
 have ao0 := Try.underlying70
 have gF := am iF
 have gX := am iG
 clear iF iG
 have fK := am iw
 have gW := am iy
 clear iw iy
 have HB := am (Below.refl w.heap.size w)
 have H : (iq.l0 k 0 aH (aH.length : Int) 0 aQ aR aH av) = some r := h
 clear h
 have H' := am H
 clear H
 go_enter Try.func80, Try.ntmps80
 go_wp2_with (first | ((with_reducible refine bq (N := 1) rfl ?_); refine bx 1 28 #[.int .i64 aQ, .int .i64 aR, .slice cu aH.length bW, .slice dz av.length bZ] ?_; intro uz hg w2 dL hb; have l5 := am (dL); have aA3 := am ((bz hg HB.out : w.heap.size ≤ uz)); have aaZ := am ((bz hg HB.out : w.heap.size ≤ uz)); replace HB := am (au (bl HB.out) hb); clear hb dL hg; have abX : w2.cell? ⟨uz, 0, none⟩ = some (.int .i64 aQ) := bc l5.out 0; have abY : w2.cell? ⟨uz, 1, none⟩ = some (.int .i64 aR) := bc l5.out 1; have abZ : w2.cell? ⟨uz, 2, none⟩ = some (.slice cu aH.length bW) := bc l5.out 2; have ab0 : w2.cell? ⟨uz, 3, none⟩ = some (.slice dz av.length bZ) := bc l5.out 3; have ab1 := aj l5.out 0; have ab2 := aj l5.out 1; have ab3 := aj l5.out 2; have ab4 := aj l5.out 3))
 go_loopg [3, 11] k (fun kq v3 v11 w' => ∃ (jv : Int) (yN : Int), v3 = .int .i64 jv ∧ v11 = .int .i64 yN ∧ ay (iq.l0 kq jv aH (aH.length : Int) yN aQ aR aH av = some r) ∧ ay (kq ≤ k) ∧ ay (w'.heap[uz]? = some (.cells #[.int .i64 aQ, .int .i64 aR, (.slice cu aH.length bW), (.slice dz av.length bZ)] 28 (0, 0))) ∧ ay (Below w.heap.size w w'))
 case atStart => exact ⟨(0), (0), sm, sm, H', ⟨Nat.le_refl _⟩, ⟨kp l5.out⟩, ⟨bl1 HB.out aaZ.out⟩⟩
 case round =>
  clear H'
  try clear abX
  try clear abY
  try clear abZ
  try clear ab0
  try clear ab1
  try clear ab2
  try clear ab3
  try clear ab4
  obtain ⟨jv, yN, rfl, rfl, HA, HK1, l5, HB⟩ := hrel
  cases gk with
  | zero => exact absurd HA.out (by simp [iq.l0])
  | succ k1 =>
   have H := HA.out
   clear HA
   simp only [iq.l0] at H
   by_cases c4 : yN < (aH.length : Int)
   ·rw [if_pos c4] at H
    have vv : decide (yN < (aH.length : Int)) = true := decide_eq_true c4
    clear c4
    by_cases c5 : 0 ≤ yN
    case neg => rw [if_neg c5] at H; exact absurd H (by simp)
    rw [if_pos c5] at H
    have acT : decide (0 ≤ yN) = true := decide_eq_true c5
    clear c5
    by_cases c6 : yN < (aH.length : Int)
    case neg => rw [if_neg c6] at H; exact absurd H (by simp)
    rw [if_pos c6] at H
    have adw : decide (yN < (aH.length : Int)) = true := decide_eq_true c6
    clear c6
    have H' := am H
    clear H
    have amW : 0 ≤ (yN : Int) := of_decide_eq_true asm
    have amX : yN < (aH.length : Int) := of_decide_eq_true asm
    obtain ⟨aA4, ayQ, ayR, ayS, abf, aia, aib⟩ := ru gF.out yN amW amX
    cases ayS
    replace abf := (HB.out.cell (World.block_lt_of_cell? w _ abf)).trans abf
    have avu := am aib
    have avv := am aia
    clear aib aia
    replace amW := eq_true amW
    replace amX := eq_true amX
    go_wp2
    go_roundg k1
    case measure => have := HK1.out; omega
    case rel => exact ⟨(wrap64 (jv + ((dZ aH yN).length : Int))), (wrap64 (yN + 1)), sm, sm, H', ⟨by have := HK1.out; omega⟩, ⟨kp l5.out⟩, ⟨bl1 HB.out aaZ.out⟩⟩
   ·rw [if_neg c4] at H
    have vv : decide (yN < (aH.length : Int)) = false := decide_eq_false c4
    clear c4
    have H' := am H
    clear H
    have zy : wr.cell? ⟨uz, 0, none⟩ = some (.int .i64 aQ) := bc l5.out 0
    have zA : wr.cell? ⟨uz, 1, none⟩ = some (.int .i64 aR) := bc l5.out 1
    have zB : wr.cell? ⟨uz, 2, none⟩ = some (.slice cu aH.length bW) := bc l5.out 2
    have zC : wr.cell? ⟨uz, 3, none⟩ = some (.slice dz av.length bZ) := bc l5.out 3
    have zD := aj l5.out 0
    have zF := aj l5.out 1
    have zG := aj l5.out 2
    have zH := aj l5.out 3
    go_wp2
    go_loopg [3, 23] k1 (fun kq v3 v23 w' => ∃ (avw : Int) (yO : Int), v3 = .int .i64 avw ∧ v23 = .int .i64 yO ∧ ay (iq.l1 kq avw av (av.length : Int) yO = some r) ∧ ay (kq ≤ k1) ∧ ay (w'.heap[uz]? = some (.cells #[.int .i64 aQ, .int .i64 aR, (.slice cu aH.length bW), (.slice dz av.length bZ)] 28 (0, 0))) ∧ ay (Below w.heap.size w w'))
    case atStart => exact ⟨(jv), (0), sm, sm, H', ⟨Nat.le_refl _⟩, ⟨kp l5.out⟩, ⟨bl1 HB.out aaZ.out⟩⟩
    case round =>
     clear H'
     try clear vv
     try clear zy
     try clear zA
     try clear zB
     try clear zC
     try clear zD
     try clear zF
     try clear zG
     try clear zH
     obtain ⟨avw, yO, rfl, rfl, HA, HK2, l5, HB⟩ := hrel
     cases gk with
     | zero => exact absurd HA.out (by simp [iq.l1])
     | succ k2 =>
      have H := HA.out
      clear HA
      simp only [iq.l1] at H
      by_cases c8 : yO < (av.length : Int)
      ·rw [if_pos c8] at H
       have aft : decide (yO < (av.length : Int)) = true := decide_eq_true c8
       clear c8
       by_cases c9 : 0 ≤ yO
       case neg => rw [if_neg c9] at H; exact absurd H (by simp)
       rw [if_pos c9] at H
       have afG : decide (0 ≤ yO) = true := decide_eq_true c9
       clear c9
       by_cases c10 : yO < (av.length : Int)
       case neg => rw [if_neg c10] at H; exact absurd H (by simp)
       rw [if_pos c10] at H
       have asT : decide (yO < (av.length : Int)) = true := decide_eq_true c10
       clear c10
       have H' := am H
       clear H
       have aq0 : 0 ≤ (yO : Int) := of_decide_eq_true asm
       have aq1 : yO < (av.length : Int) := of_decide_eq_true asm
       obtain ⟨aA5, ayT, ayU, ayV, adZ, ad1, aic, aie⟩ := kZ fK.out yO aq0 aq1
       cases ayV
       replace adZ := (HB.out.cell (World.block_lt_of_cell? w _ adZ)).trans adZ
       replace ad1 := (HB.out.cell (World.block_lt_of_cell? w _ ad1)).trans ad1
       have avx := am aie
       have avy := am aic
       clear aie aic
       replace aq0 := eq_true aq0
       replace aq1 := eq_true aq1
       go_wp2_with (first | ((with_reducible refine bq (N := 7) rfl ?_); refine bx 7 70 #[.int .i64 0, .slice none 0 0] ?_; intro adb hg w11 dL hb; have aif := am (dL); have aA6 := am ((bz1 hg HB.out aaZ.out : w.heap.size ≤ adb)); have atK := am ((bz1 hg HB.out aaZ.out : w.heap.size ≤ adb)); replace HB := am (au (bl1 HB.out aaZ.out) hb); have ab5 := am ((nl hg l5.out : uz ≠ adb)); have agM := am ((ng hg l5.out : adb ≠ uz)); replace l5 := am (ak (kp l5.out) hb); clear hb dL hg; have aCl := agM.out; have aCm := ab5.out; have sw : w11.cell? ⟨adb, 0, none⟩ = some (.int .i64 0) := bc aif.out 0; have sD : w11.cell? ⟨adb, 1, none⟩ = some (.slice none 0 0) := bc aif.out 1; have sF := aj aif.out 0; have sG := aj aif.out 1))
       go_roundg k2
       case measure => have := HK1.out; have := HK2.out; omega
       case rel => exact ⟨(wrap64 (avw + (((aU av yO).f1).length : Int))), (wrap64 (yO + 1)), sm, sm, H', ⟨by have := HK1.out; have := HK2.out; omega⟩, ⟨kf l5.out ab5.out⟩, ⟨bl2 HB.out aaZ.out atK.out⟩⟩
      ·rw [if_neg c8] at H
       have aft : decide (yO < (av.length : Int)) = false := decide_eq_false c8
       clear c8
       obtain rfl := Option.some.inj H
       go_wp2
       go_ret
       exact ⟨rt, bl1 HB.out aaZ.out⟩
def jf.f (k : Nat) (aQ : Int) (aR : Int) (aH : List (List (S23))) (av : List (S70)) : Option (Bool) := if (aH.length : Int) ≤ 12 then (if (av.length : Int) ≤ 8 then ((iq.f k aQ aR aH av).bind fun t173 => (some (decide (t173 ≤ 60)))) else (some false)) else (some false)
set_option maxHeartbeats 8000000 in
set_option maxRecDepth 100000 in
theorem jf.calls (k : Nat) (aQ : Int) (aR : Int) (cu : Option Addr) (bW : Nat) (aH : List (List (S23))) (dz : Option Addr) (bZ : Nat) (av : List (S70)) (r : Bool) (w : World) (iF : Kd.C (Kd.slice 23 k23) w cu aH.length aH) (iG : aH.length ≤ bW) (iw : Kd.C k70 w dz av.length av) (iy : av.length ≤ bZ) (h : jf.f k aQ aR aH av = some r) :
 Calls Try.prog 53 #[.agg #[.int .i64 aQ, .int .i64 aR, .slice cu aH.length bW, .slice dz av.length bZ]] w fun e w' => e = .returned (.bool r) ∧ Below w.heap.size w w' := by
 have aaE := Try.underlying28
 have gF := am iF
 have gX := am iG
 clear iF iG
 have fK := am iw
 have gW := am iy
 clear iw iy
 have HB := am (Below.refl w.heap.size w)
 have H : (if (aH.length : Int) ≤ 12 then (if (av.length : Int) ≤ 8 then ((iq.f k aQ aR aH av).bind fun t173 => (some (decide (t173 ≤ 60)))) else (some false)) else (some false)) = some r := h
 clear h
 by_cases c2 : (aH.length : Int) ≤ 12
 ·rw [if_pos c2] at H
  have ajF : decide ((aH.length : Int) ≤ 12) = true := decide_eq_true c2
  have av5 : decide (aH.length ≤ 12) = true := decide_eq_true (by omega)
  clear c2
  by_cases c3 : (av.length : Int) ≤ 8
  ·rw [if_pos c3] at H
   have aa8 : decide ((av.length : Int) ≤ 8) = true := decide_eq_true c3
   have ajA : decide (av.length ≤ 8) = true := decide_eq_true (by omega)
   clear c3
   replace H := Option.bind_eq_some_iff.mp H
   obtain ⟨t173, A40, H⟩ := H
   try dsimp only at H
   have A4 := am A40
   clear A40
   obtain rfl := Option.some.inj H
   go_enter Try.func53, Try.ntmps53
   go_wp2_with (first | ((with_reducible refine bq (N := 1) rfl ?_); (try (refine gH (by rfl) ?_; dsimp only)); refine bx 1 28 #[.int .i64 aQ, .int .i64 aR, .slice cu aH.length bW, .slice dz av.length bZ] ?_; intro uY hg w5 dL hb; have p8 := am (dL); have atM := am ((bz hg HB.out : w.heap.size ≤ uY)); have aiU := am ((bz hg HB.out : w.heap.size ≤ uY)); replace HB := am (au (bl HB.out) hb); clear hb dL hg; have aby : w5.cell? ⟨uY, 0, none⟩ = some (.int .i64 aQ) := bc p8.out 0; have abz : w5.cell? ⟨uY, 1, none⟩ = some (.int .i64 aR) := bc p8.out 1; have ae4 : w5.cell? ⟨uY, 2, none⟩ = some (.slice cu aH.length bW) := bc p8.out 2; have ae5 : w5.cell? ⟨uY, 3, none⟩ = some (.slice dz av.length bZ) := bc p8.out 3; have abA := aj p8.out 0; have abB := aj p8.out 1; have ae6 := aj p8.out 2; have ae7 := aj p8.out 3) | (go_at_call 80; (with_reducible refine (iq.calls k aQ aR _ _ aH _ _ av t173 _ ?bH ?bI ?dG ?dI A4.out).mono ?_); (case bH => exact kc (Kd.bf gF.out HB.out)); (case bI => exact gX.out); (case dG => exact kc (Kd.bf fK.out HB.out)); (case dI => exact gW.out); rintro e w7 ⟨rfl, hb⟩; replace p8 := am (ak (kp p8.out) hb); replace HB := am (au (bl1 HB.out aiU.out) hb); (try clear hb); (try clear hb2); (try clear hk); (try clear hi)))
   go_ret
   exact ⟨rt, bl1 HB.out aiU.out⟩
  ·rw [if_neg c3] at H
   have aa8 : decide ((av.length : Int) ≤ 8) = false := decide_eq_false c3
   have ajA : decide (av.length ≤ 8) = false := decide_eq_false (by omega)
   clear c3
   obtain rfl := Option.some.inj H
   go_enter Try.func53, Try.ntmps53
   go_wp2_with (first | ((with_reducible refine bq (N := 1) rfl ?_); (try (refine gH (by rfl) ?_; dsimp only)); refine bx 1 28 #[.int .i64 aQ, .int .i64 aR, .slice cu aH.length bW, .slice dz av.length bZ] ?_; intro uY hg w8 dL hb; have p8 := am (dL); have atM := am ((bz hg HB.out : w.heap.size ≤ uY)); have aiU := am ((bz hg HB.out : w.heap.size ≤ uY)); replace HB := am (au (bl HB.out) hb); clear hb dL hg; have oq : w8.cell? ⟨uY, 0, none⟩ = some (.int .i64 aQ) := bc p8.out 0; have ou : w8.cell? ⟨uY, 1, none⟩ = some (.int .i64 aR) := bc p8.out 1; have ow : w8.cell? ⟨uY, 2, none⟩ = some (.slice cu aH.length bW) := bc p8.out 2; have oz : w8.cell? ⟨uY, 3, none⟩ = some (.slice dz av.length bZ) := bc p8.out 3; have oC := aj p8.out 0; have oD := aj p8.out 1; have oF := aj p8.out 2; have oG := aj p8.out 3))
   go_ret
   exact ⟨rt, bl1 HB.out aiU.out⟩
 ·rw [if_neg c2] at H
  have ajF : decide ((aH.length : Int) ≤ 12) = false := decide_eq_false c2
  have av5 : decide (aH.length ≤ 12) = false := decide_eq_false (by omega)
  clear c2
  obtain rfl := Option.some.inj H
  go_enter Try.func53, Try.ntmps53
  go_wp2_with (first | ((with_reducible refine bq (N := 1) rfl ?_); (try (refine gH (by rfl) ?_; dsimp only)); refine bx 1 28 #[.int .i64 aQ, .int .i64 aR, .slice cu aH.length bW, .slice dz av.length bZ] ?_; intro uY hg w10 dL hb; have p8 := am (dL); have atM := am ((bz hg HB.out : w.heap.size ≤ uY)); have aiU := am ((bz hg HB.out : w.heap.size ≤ uY)); replace HB := am (au (bl HB.out) hb); clear hb dL hg; have mg : w10.cell? ⟨uY, 0, none⟩ = some (.int .i64 aQ) := bc p8.out 0; have mh : w10.cell? ⟨uY, 1, none⟩ = some (.int .i64 aR) := bc p8.out 1; have mX : w10.cell? ⟨uY, 2, none⟩ = some (.slice cu aH.length bW) := bc p8.out 2; have mY : w10.cell? ⟨uY, 3, none⟩ = some (.slice dz av.length bZ) := bc p8.out 3; have mq := aj p8.out 0; have mD := aj p8.out 1; have mZ := aj p8.out 2; have ni := aj p8.out 3))
  go_ret
  exact ⟨rt, bl1 HB.out aiU.out⟩
def dF.f (l0 : List (S23)) (l1 : List (S23)) : Option (Bool) := if (l0.length : Int) = 0 then (some true) else (if (l1.length : Int) = 0 then (some true) else (if 0 ≤ (wrap64 ((l0.length : Int) - 1)) then (if (wrap64 ((l0.length : Int) - 1)) < (l0.length : Int) then (if 0 < (l1.length : Int) then (some (decide (((aT l0 (wrap64 ((l0.length : Int) - 1))).f1) < ((aT l1 0).f0)))) else (none)) else (none)) else (none)))
set_option maxHeartbeats 8000000 in
set_option maxRecDepth 100000 in
theorem dF.calls (A0 : Option Addr) (c0 : Nat) (l0 : List (S23)) (A1 : Option Addr) (c1 : Nat) (l1 : List (S23)) (r : Bool) (w : World) (hr0 : Kd.C k23 w A0 l0.length l0) (hc0 : l0.length ≤ c0) (hr1 : Kd.C k23 w A1 l1.length l1) (hc1 : l1.length ≤ c1) (h : dF.f l0 l1 = some r) :
 Calls Try.prog 42 #[.slice A0 l0.length c0, .slice A1 l1.length c1] w fun e w' => e = .returned (.bool r) ∧ dh w w' := by
 have HR0 := am hr0
 have HC0 := am hc0
 clear hr0 hc0
 have HR1 := am hr1
 have HC1 := am hc1
 clear hr1 hc1
 have H : (if (l0.length : Int) = 0 then (some true) else (if (l1.length : Int) = 0 then (some true) else (if 0 ≤ (wrap64 ((l0.length : Int) - 1)) then (if (wrap64 ((l0.length : Int) - 1)) < (l0.length : Int) then (if 0 < (l1.length : Int) then (some (decide (((aT l0 (wrap64 ((l0.length : Int) - 1))).f1) < ((aT l1 0).f0)))) else (none)) else (none)) else (none)))) = some r := h
 clear h
 by_cases c3 : (l0.length : Int) = 0
 ·rw [if_pos c3] at H
  have aa8 : ((l0.length : Int) == 0) = true := beq_iff_eq.mpr c3
  have ajA : ((l0.length : Int) != 0) = false := bne_eq_false_iff_eq.mpr c3
  clear c3
  obtain rfl := Option.some.inj H
  go_enter Try.func42, Try.ntmps42
  go_wp2
  repeat (go_quiet (fail); try go_wp2)
  go_ret
  exact ⟨by first | rfl | (simp; done) | (simp [*]; done), by repeat (first | exact dh.refl _ | apply dh.step)⟩
 ·rw [if_neg c3] at H
  have aa8 : ((l0.length : Int) == 0) = false := beq_eq_false_iff_ne.mpr c3
  have ajA : ((l0.length : Int) != 0) = true := bne_iff_ne.mpr c3
  have asS : ¬ (l0 = []) := fun h_ => c3 (by rw [h_]; rfl)
  by_cases c4 : (l1.length : Int) = 0
  ·rw [if_pos c4] at H
   have vv : ((l1.length : Int) == 0) = true := beq_iff_eq.mpr c4
   have aeV : ((l1.length : Int) != 0) = false := bne_eq_false_iff_eq.mpr c4
   clear c4
   obtain rfl := Option.some.inj H
   go_enter Try.func42, Try.ntmps42
   go_wp2
   repeat (go_quiet (fail); try go_wp2)
   go_ret
   exact ⟨by first | rfl | (simp; done) | (simp [*]; done), by repeat (first | exact dh.refl _ | apply dh.step)⟩
  ·rw [if_neg c4] at H
   have vv : ((l1.length : Int) == 0) = false := beq_eq_false_iff_ne.mpr c4
   have aeV : ((l1.length : Int) != 0) = true := bne_iff_ne.mpr c4
   have aDW : ¬ (l1 = []) := fun h_ => c4 (by rw [h_]; rfl)
   obtain ⟨ji5, uW⟩ : ∃ j_ : Int, (wrap64 ((l0.length : Int) - 1)) = j_ := ⟨_, rfl⟩
   replace H : (if 0 ≤ (ji5) then (if (ji5) < (l0.length : Int) then (if 0 < (l1.length : Int) then (some (decide (((aT l0 (ji5)).f1) < ((aT l1 0).f0)))) else (none)) else (none)) else (none)) = some r := by first | (rw [uW] at H; exact H) | (simp only [uW] at H ⊢; exact H)
   have asZ : (IntKind.i64.wrap ((l0.length : Int) - 1)) = ji5 := (jR _).trans uW
   by_cases c6 : 0 ≤ (ji5)
   case neg => rw [if_neg c6] at H; exact absurd H (by simp)
   rw [if_pos c6] at H
   have adw : decide (0 ≤ (ji5)) = true := decide_eq_true c6
   clear c6
   by_cases c7 : (ji5) < (l0.length : Int)
   case neg => rw [if_neg c7] at H; exact absurd H (by simp)
   rw [if_pos c7] at H
   have afE : decide ((ji5) < (l0.length : Int)) = true := decide_eq_true c7
   clear c7
   by_cases c8 : 0 < (l1.length : Int)
   case neg => rw [if_neg c8] at H; exact absurd H (by simp)
   rw [if_pos c8] at H
   have aft : decide (0 < (l1.length : Int)) = true := decide_eq_true c8
   have aoF : decide (0 < l1.length) = true := decide_eq_true (by omega)
   clear c8
   obtain rfl := Option.some.inj H
   have ayW : 0 ≤ ((ji5) : Int) := of_decide_eq_true asm
   have ayX : (ji5) < (l0.length : Int) := of_decide_eq_true asm
   obtain ⟨aCn, aCo, ayY, ayZ⟩ := jW HR0.out (ji5) ayW ayX
   cases aCo
   replace ayW := eq_true ayW
   replace ayX := eq_true ayX
   have ay0 : 0 ≤ (0 : Int) := (by omega)
   have ay1 : 0 < (l1.length : Int) := of_decide_eq_true asm
   obtain ⟨aCp, aCq, agN, agO⟩ := jW HR1.out 0 ay0 ay1
   cases aCq
   have aCr : (0 < l1.length) = True := eq_true (by omega)
   (try rw [show ((0 : Int)).toNat = 0 from rfl] at agN)
   (try rw [show 0 * 2 = 0 from rfl] at agN)
   (try rw [Addr.add_zero'] at agN)
   (try rw [show ((0 : Int)).toNat = 0 from rfl] at agO)
   (try rw [show 0 * 2 = 0 from rfl] at agO)
   (try rw [Addr.add_zero'] at agO)
   replace ay0 := eq_true ay0
   replace ay1 := eq_true ay1
   go_enter Try.func42, Try.ntmps42
   go_wp2
   repeat (go_quiet (fail); try go_wp2)
   go_ret
   exact ⟨by first | rfl | (simp; done) | (simp only [← uW] <;> (first | rfl | simp)) | (simp [*]; done), by repeat (first | exact dh.refl _ | apply dh.step)⟩
def fu.j0 : Nat → List (S23) → Int → Bool → List (S23) → List (S23) → Int → Int → List (List (S23)) → List (S70) → Option (Bool)
 | 0, _, _, _, _, _, _, _, _, _ => none
 | k + 1, x5, x9, x10, x11, x12, x2153000, x2153001, x2153002, x2153003 => if x10 = true then ((eO.f k x2153000 x2153001 x2153002 x2153003 x9).bind fun ab6 => (if ab6.2 = 0 then ((dF.f x11 x5).bind fun agP => (if agP = true then ((dF.f x5 ab6.1).bind fun ad2 => (if ad2 = true then ((dF.f x11 ab6.1).bind fun ab7 => (some ab7)) else (some false))) else (some false))) else (some false))) else ((dF.f x11 x5).bind fun agQ => (if agQ = true then ((dF.f x5 x12).bind fun ad3 => (if ad3 = true then ((dF.f x11 x12).bind fun ab8 => (some ab8)) else (some false))) else (some false)))
def fu.f (k : Nat) (aQ : Int) (aR : Int) (aH : List (List (S23))) (av : List (S70)) (a1 : Int) : Option (Bool) := (eO.f k aQ aR aH av a1).bind fun ab9 => (if ab9.2 = 0 then ((iD.f k aQ aR aH av a1).bind fun ae8 => ((fT.f k aQ aR aH av a1).bind fun zW => (if ae8.2 = true then ((eO.f k aQ aR aH av ae8.1).bind fun xI => (if xI.2 = 0 then (fu.j0 k ab9.1 zW.1 zW.2 xI.1 ([] : List (S23)) aQ aR aH av) else (some false))) else (fu.j0 k ab9.1 zW.1 zW.2 ([] : List (S23)) ([] : List (S23)) aQ aR aH av)))) else (some false))
set_option maxHeartbeats 8000000 in
set_option maxRecDepth 100000 in
theorem fu.calls (k : Nat) (aQ : Int) (aR : Int) (cu : Option Addr) (bW : Nat) (aH : List (List (S23))) (dz : Option Addr) (bZ : Nat) (av : List (S70)) (a1 : Int) (r : Bool) (w : World) (iF : Kd.C (Kd.slice 23 k23) w cu aH.length aH) (iG : aH.length ≤ bW) (iw : Kd.C k70 w dz av.length av) (iy : av.length ≤ bZ) (h : fu.f k aQ aR aH av a1 = some r) :
 Calls Try.prog 83 #[.agg #[.int .i64 aQ, .int .i64 aR, .slice cu aH.length bW, .slice dz av.length bZ], .int .i64 a1] w fun e w' => e = .returned (.bool r) ∧ Below w.heap.size w w' := by
 have aaE := Try.underlying28
 have gF := am iF
 have gX := am iG
 clear iF iG
 have fK := am iw
 have gW := am iy
 clear iw iy
 have HB := am (Below.refl w.heap.size w)
 have H : ((eO.f k aQ aR aH av a1).bind fun ab9 => (if ab9.2 = 0 then ((iD.f k aQ aR aH av a1).bind fun ae8 => ((fT.f k aQ aR aH av a1).bind fun zW => (if ae8.2 = true then ((eO.f k aQ aR aH av ae8.1).bind fun xI => (if xI.2 = 0 then (fu.j0 k ab9.1 zW.1 zW.2 xI.1 ([] : List (S23)) aQ aR aH av) else (some false))) else (fu.j0 k ab9.1 zW.1 zW.2 ([] : List (S23)) ([] : List (S23)) aQ aR aH av)))) else (some false))) = some r := h
 clear h
 replace H := Option.bind_eq_some_iff.mp H
 obtain ⟨⟨oU, agR⟩, A30, H⟩ := H
 try dsimp only at H
 have A3 := am A30
 clear A30
 by_cases c4 : agR = 0
 ·rw [if_pos c4] at H
  have vv : (agR == 0) = true := beq_iff_eq.mpr c4
  have aeV : (agR != 0) = false := bne_eq_false_iff_eq.mpr c4
  clear c4
  replace H := Option.bind_eq_some_iff.mp H
  obtain ⟨⟨aiV, atN⟩, A50, H⟩ := H
  try dsimp only at H
  have A5 := am A50
  clear A50
  replace H := Option.bind_eq_some_iff.mp H
  obtain ⟨⟨aaK, ak6⟩, A60, H⟩ := H
  try dsimp only at H
  have A6 := am A60
  clear A60
  have HC7 := am H
  clear H
  go_enter Try.func83, Try.ntmps83
  go_upto_if 33 with (first | ((with_reducible refine bq (N := 2) rfl ?_); refine bx 2 28 #[.int .i64 aQ, .int .i64 aR, .slice cu aH.length bW, .slice dz av.length bZ] ?_; intro jh hg w8 dL hb; have dP := am (dL); have atO := am ((bz hg HB.out : w.heap.size ≤ jh)); have kT := am ((bz hg HB.out : w.heap.size ≤ jh)); replace HB := am (au (bl HB.out) hb); clear hb dL hg; have oq : w8.cell? ⟨jh, 0, none⟩ = some (.int .i64 aQ) := bc dP.out 0; have ou : w8.cell? ⟨jh, 1, none⟩ = some (.int .i64 aR) := bc dP.out 1; have ow : w8.cell? ⟨jh, 2, none⟩ = some (.slice cu aH.length bW) := bc dP.out 2; have oz : w8.cell? ⟨jh, 3, none⟩ = some (.slice dz av.length bZ) := bc dP.out 3; have oC := aj dP.out 0; have oD := aj dP.out 1; have oF := aj dP.out 2; have oG := aj dP.out 3) | ((with_reducible refine aC (f := 18) rfl ?_); refine bR (some 16) rfl rfl Try.func18 (by kernel_rfl) rfl #[.agg #[.int .i64 aQ, .int .i64 aR, .slice cu aH.length bW, .slice dz av.length bZ], .int .i64 a1] rfl ar ?_; (with_reducible refine (eO.calls k aQ aR _ _ aH _ _ av a1 oU agR _ ?bH ?bI ?dG ?dI A3.out).mono ?_); (case bH => exact kc (Kd.bf gF.out HB.out)); (case bI => exact gX.out); (case dG => exact kc (Kd.bf fK.out HB.out)); (case dI => exact gW.out); rintro e w10 ⟨amY, rfl, ho0, hb⟩; refine ⟨_, rfl, ?_⟩; have uZ := am (Kd.jQ ho0 (bY (bl1 HB.out kT.out))); replace dP := am (ak (kp dP.out) hb); replace HB := am (au (bl1 HB.out kT.out) hb); (try clear hb); (try clear hb2); (try clear hk); (try clear hi); (try clear ho0); have mg : w10.cell? ⟨jh, 0, none⟩ = some (.int .i64 aQ) := bc dP.out 0; have mh : w10.cell? ⟨jh, 1, none⟩ = some (.int .i64 aR) := bc dP.out 1; have mX : w10.cell? ⟨jh, 2, none⟩ = some (.slice cu aH.length bW) := bc dP.out 2; have mY : w10.cell? ⟨jh, 3, none⟩ = some (.slice dz av.length bZ) := bc dP.out 3; have mq := aj dP.out 0; have mD := aj dP.out 1; have mZ := aj dP.out 2; have ni := aj dP.out 3) | ((with_reducible refine aC (f := 90) rfl ?_); refine bR (some 24) rfl rfl Try.func90 (by kernel_rfl) rfl #[.agg #[.int .i64 aQ, .int .i64 aR, .slice cu aH.length bW, .slice dz av.length bZ], .int .i64 a1] rfl ar ?_; (with_reducible refine (iD.calls k aQ aR _ _ aH _ _ av a1 aiV atN _ ?bH ?bI ?dG ?dI A5.out).mono ?_); (case bH => exact kc (Kd.bf gF.out HB.out)); (case bI => exact gX.out); (case dG => exact kc (Kd.bf fK.out HB.out)); (case dI => exact gW.out); rintro e w12 ⟨rfl, hb⟩; refine ⟨_, rfl, ?_⟩; replace uZ := am (Kd.dO (kr uZ.out) hb); replace dP := am (ak (kp dP.out) hb); replace HB := am (au (bl1 HB.out kT.out) hb); (try clear hb); (try clear hb2); (try clear hk); (try clear hi); have sw : w12.cell? ⟨jh, 0, none⟩ = some (.int .i64 aQ) := bc dP.out 0; have sD : w12.cell? ⟨jh, 1, none⟩ = some (.int .i64 aR) := bc dP.out 1; have uL : w12.cell? ⟨jh, 2, none⟩ = some (.slice cu aH.length bW) := bc dP.out 2; have uM : w12.cell? ⟨jh, 3, none⟩ = some (.slice dz av.length bZ) := bc dP.out 3; have sF := aj dP.out 0; have sG := aj dP.out 1; have uN := aj dP.out 2; have uO := aj dP.out 3) | ((with_reducible refine aC (f := 25) rfl ?_); refine bR (some 30) rfl rfl Try.func25 (by kernel_rfl) rfl #[.agg #[.int .i64 aQ, .int .i64 aR, .slice cu aH.length bW, .slice dz av.length bZ], .int .i64 a1] rfl ar ?_; (with_reducible refine (fT.calls k aQ aR _ _ aH _ _ av a1 aaK ak6 _ ?bH ?bI ?dG ?dI A6.out).mono ?_); (case bH => exact kc (Kd.bf gF.out HB.out)); (case bI => exact gX.out); (case dG => exact kc (Kd.bf fK.out HB.out)); (case dI => exact gW.out); rintro e w14 ⟨rfl, hb⟩; refine ⟨_, rfl, ?_⟩; replace uZ := am (Kd.dO (kr uZ.out) hb); replace dP := am (ak (kp dP.out) hb); replace HB := am (au (bl1 HB.out kT.out) hb); (try clear hb); (try clear hb2); (try clear hk); (try clear hi)))
  (try simp only [Act.put, List.setIfInBounds_toArray, List.set_cons_zero, List.set_cons_succ])
  go_cut [11] (fun v11 wc => ∃ (kq : Nat) (qD : List (S23)), ay (fu.j0 kq oU aaK ak6 qD ([] : List (S23)) aQ aR aH av = some r) ∧ ay (kq ≤ k) ∧ ay (Kd.R k23 23 wc w.heap.size (fun k_ => some k_ ≠ (v11 : Value).ownBlock ∧ some k_ ≠ ((.slice none 0 0) : Value).ownBlock) amY oU) ∧ ay (Kd.R k23 23 wc w.heap.size (fun k_ => some k_ ≠ (amY : Value).ownBlock ∧ some k_ ≠ ((.slice none 0 0) : Value).ownBlock) v11 qD) ∧ ay (Kd.R k23 23 wc w.heap.size (fun k_ => some k_ ≠ (amY : Value).ownBlock ∧ some k_ ≠ (v11 : Value).ownBlock) (.slice none 0 0) ([] : List (S23))) ∧ ay (wc.heap[jh]? = some (.cells #[.int .i64 aQ, .int .i64 aR, (.slice cu aH.length bW), (.slice dz av.length bZ)] 28 (0, 0))) ∧ ay (Below w.heap.size w wc))
  case first =>
   have H := HC7.out
   clear HC7
   by_cases c15 : atN = true
   ·subst c15
    have H1 : ((eO.f k aQ aR aH av aiV).bind fun xI => (if xI.2 = 0 then (fu.j0 k oU aaK ak6 xI.1 ([] : List (S23)) aQ aR aH av) else (some false))) = some r := by rw [if_pos rfl] at H; exact H
    clear H
    have H := H1
    clear H1
    replace H := Option.bind_eq_some_iff.mp H
    obtain ⟨⟨aq2, agS⟩, ahY, H⟩ := H
    try dsimp only at H
    have A16 := am ahY
    clear ahY
    by_cases c17 : agS = 0
    ·rw [if_pos c17] at H
     have tY : (agS == 0) = true := beq_iff_eq.mpr c17
     have aiW : (agS != 0) = false := bne_eq_false_iff_eq.mpr c17
     clear c17
     (first | rw [tY] | (simp only [jR, kH]; rw [tY]) | skip)
     have H' := am H
     clear H
     have sN : w14.cell? ⟨jh, 0, none⟩ = some (.int .i64 aQ) := bc dP.out 0
     have sO : w14.cell? ⟨jh, 1, none⟩ = some (.int .i64 aR) := bc dP.out 1
     have sP : w14.cell? ⟨jh, 2, none⟩ = some (.slice cu aH.length bW) := bc dP.out 2
     have sQ : w14.cell? ⟨jh, 3, none⟩ = some (.slice dz av.length bZ) := bc dP.out 3
     have sS := aj dP.out 0
     have sU := aj dP.out 1
     have sV := aj dP.out 2
     have sW := aj dP.out 3
     go_wp2_with (first | ((with_reducible refine aC (f := 18) rfl ?_); refine bR (some 37) rfl rfl Try.func18 (by kernel_rfl) rfl #[.agg #[.int .i64 aQ, .int .i64 aR, .slice cu aH.length bW, .slice dz av.length bZ], .int .i64 aiV] rfl ar ?_; (with_reducible refine (eO.calls k aQ aR _ _ aH _ _ av aiV aq2 agS _ ?bH ?bI ?dG ?dI A16.out).mono ?_); (case bH => exact kc (Kd.bf gF.out HB.out)); (case bI => exact gX.out); (case dG => exact kc (Kd.bf fK.out HB.out)); (case dI => exact gW.out); rintro e w19 ⟨ay2, rfl, ho0, hb⟩; refine ⟨_, rfl, ?_⟩; have anZ := am (Kd.jQ (Kd.qU ho0 (Kd.abm (kr uZ.out))) (bY (bl1 HB.out kT.out))); replace uZ := am (Kd.lN (kr uZ.out) (Kd.jN ho0) hb); replace dP := am (ak (kp dP.out) hb); replace HB := am (au (bl1 HB.out kT.out) hb); (try clear hb); (try clear hb2); (try clear hk); (try clear hi); (try clear ho0)))
     go_meet
     case rel => exact ⟨_, (aq2), H', ⟨by first | omega | exact Nat.le_refl _⟩, ⟨by (with_reducible repeat (first | apply Kd.qd | apply Kd.qg | apply Kd.qR)); exact Kd.lY uZ.out (fun _ hk => ⟨hk.2, (by simp [Value.ownBlock])⟩)⟩, ⟨by (with_reducible repeat (first | apply Kd.qd | apply Kd.qg | apply Kd.qR)); exact Kd.lY anZ.out (fun _ hk => ⟨hk.2, (by simp [Value.ownBlock])⟩)⟩, ⟨by first | exact Kd.wP _ _ _ _ _ | exact Kd.zk _ _ _ _ _ | exact Kd.wI _ _ _ _ _ | exact Kd.yZ _ _ _ _ _ | exact Kd.zi _ _ _ _ _⟩, ⟨kp dP.out⟩, ⟨bl1 HB.out kT.out⟩⟩
    ·rw [if_neg c17] at H
     have tY : (agS == 0) = false := beq_eq_false_iff_ne.mpr c17
     have aiW : (agS != 0) = true := bne_iff_ne.mpr c17
     (first | rw [tY] | (simp only [jR, kH]; rw [tY]) | skip)
     obtain rfl := Option.some.inj H
     have rV : w14.cell? ⟨jh, 0, none⟩ = some (.int .i64 aQ) := bc dP.out 0
     have rW : w14.cell? ⟨jh, 1, none⟩ = some (.int .i64 aR) := bc dP.out 1
     have xJ : w14.cell? ⟨jh, 2, none⟩ = some (.slice cu aH.length bW) := bc dP.out 2
     have xK : w14.cell? ⟨jh, 3, none⟩ = some (.slice dz av.length bZ) := bc dP.out 3
     have rX := aj dP.out 0
     have rY := aj dP.out 1
     have xL := aj dP.out 2
     have xM := aj dP.out 3
     go_wp2_with (first | ((with_reducible refine aC (f := 18) rfl ?_); refine bR (some 37) rfl rfl Try.func18 (by kernel_rfl) rfl #[.agg #[.int .i64 aQ, .int .i64 aR, .slice cu aH.length bW, .slice dz av.length bZ], .int .i64 aiV] rfl ar ?_; (with_reducible refine (eO.calls k aQ aR _ _ aH _ _ av aiV aq2 agS _ ?bH ?bI ?dG ?dI A16.out).mono ?_); (case bH => exact kc (Kd.bf gF.out HB.out)); (case bI => exact gX.out); (case dG => exact kc (Kd.bf fK.out HB.out)); (case dI => exact gW.out); rintro e w21 ⟨ay2, rfl, ho0, hb⟩; refine ⟨_, rfl, ?_⟩; have anZ := am (Kd.jQ (Kd.qU ho0 (Kd.abm (kr uZ.out))) (bY (bl1 HB.out kT.out))); replace uZ := am (Kd.lN (kr uZ.out) (Kd.jN ho0) hb); replace dP := am (ak (kp dP.out) hb); replace HB := am (au (bl1 HB.out kT.out) hb); (try clear hb); (try clear hb2); (try clear hk); (try clear hi); (try clear ho0)))
     go_ret
     exact ⟨rt, bl1 HB.out kT.out⟩
   ·replace c15 := Bool.eq_false_iff.mpr c15
    subst c15
    have H1 : (fu.j0 k oU aaK ak6 ([] : List (S23)) ([] : List (S23)) aQ aR aH av) = some r := by rw [if_neg (show ¬ (false = true) by decide)] at H; exact H
    clear H
    have H := H1
    clear H1
    have H' := am H
    clear H
    go_wp2
    go_meet
    case rel => exact ⟨_, (([] : List (S23))), H', ⟨by first | omega | exact Nat.le_refl _⟩, ⟨by (with_reducible repeat (first | apply Kd.qd | apply Kd.qg | apply Kd.qR)); exact Kd.lY uZ.out (fun _ hk => ⟨(by simp [Value.ownBlock]), (by simp [Value.ownBlock])⟩)⟩, ⟨by first | exact Kd.wP _ _ _ _ _ | exact Kd.zk _ _ _ _ _ | exact Kd.wI _ _ _ _ _ | exact Kd.yZ _ _ _ _ _ | exact Kd.zi _ _ _ _ _⟩, ⟨by first | exact Kd.wP _ _ _ _ _ | exact Kd.zk _ _ _ _ _ | exact Kd.wI _ _ _ _ _ | exact Kd.yZ _ _ _ _ _ | exact Kd.zi _ _ _ _ _⟩, ⟨kp dP.out⟩, ⟨bl1 HB.out kT.out⟩⟩
  case rest =>
   clear HC7
   try clear vv
   try clear aeV
   try clear mg
   try clear mh
   try clear mX
   try clear mY
   try clear sw
   try clear sD
   try clear uL
   try clear uM
   try clear oq
   try clear ou
   try clear ow
   try clear oz
   try clear mq
   try clear mD
   try clear mZ
   try clear ni
   try clear sF
   try clear sG
   try clear uN
   try clear uO
   try clear oC
   try clear oD
   try clear oF
   try clear oG
   obtain ⟨kq, qD, HA, HJ6, wH, ku, rD, dP, HB⟩ := hcut
   cases kq with
   | zero => exact absurd HA.out (by simp [fu.j0])
   | succ kj6 =>
    have H := HA.out
    clear HA
    simp only [fu.j0] at H
    by_cases c22 : ak6 = true
    ·subst c22
     have H1 : ((eO.f kj6 aQ aR aH av aaK).bind fun ab6 => (if ab6.2 = 0 then ((dF.f qD oU).bind fun agP => (if agP = true then ((dF.f oU ab6.1).bind fun ad2 => (if ad2 = true then ((dF.f qD ab6.1).bind fun ab7 => (some ab7)) else (some false))) else (some false))) else (some false))) = some r := by rw [if_pos rfl] at H; exact H
     clear H
     have H := H1
     clear H1
     replace H := Option.bind_eq_some_iff.mp H
     obtain ⟨⟨ac0, ad4⟩, aIo, H⟩ := H
     try dsimp only at H
     have A23 := am aIo
     clear aIo
     by_cases c24 : ad4 = 0
     ·rw [if_pos c24] at H
      have ak3 : (ad4 == 0) = true := beq_iff_eq.mpr c24
      have aqP : (ad4 != 0) = false := bne_eq_false_iff_eq.mpr c24
      clear c24
      replace H := Option.bind_eq_some_iff.mp H
      obtain ⟨agP, atE, H⟩ := H
      try dsimp only at H
      have A25 := am atE
      clear atE
      by_cases c26 : agP = true
      ·subst c26
       have H1 : ((dF.f oU ac0).bind fun ad2 => (if ad2 = true then ((dF.f qD ac0).bind fun ab7 => (some ab7)) else (some false))) = some r := by rw [if_pos rfl] at H; exact H
       clear H
       have H := H1
       clear H1
       replace H := Option.bind_eq_some_iff.mp H
       obtain ⟨ad2, anX, H⟩ := H
       try dsimp only at H
       have A27 := am anX
       clear anX
       by_cases c28 : ad2 = true
       ·subst c28
        have H1 : ((dF.f qD ac0).bind fun ab7 => (some ab7)) = some r := by rw [if_pos rfl] at H; exact H
        clear H
        have H := H1
        clear H1
        replace H := Option.bind_eq_some_iff.mp H
        obtain ⟨ab7, atG, H⟩ := H
        try dsimp only at H
        have A29 := am atG
        clear atG
        obtain rfl := Option.some.inj H
        have ajO : wc.cell? ⟨jh, 0, none⟩ = some (.int .i64 aQ) := bc dP.out 0
        have ajP : wc.cell? ⟨jh, 1, none⟩ = some (.int .i64 aR) := bc dP.out 1
        have ay3 : wc.cell? ⟨jh, 2, none⟩ = some (.slice cu aH.length bW) := bc dP.out 2
        have ay4 : wc.cell? ⟨jh, 3, none⟩ = some (.slice dz av.length bZ) := bc dP.out 3
        have ajQ := aj dP.out 0
        have ajR := aj dP.out 1
        have ay5 := aj dP.out 2
        have ay6 := aj dP.out 3
        go_wp2_with (first | ((with_reducible refine aC (f := 18) rfl ?_); refine bR (some 46) rfl rfl Try.func18 (by kernel_rfl) rfl #[.agg #[.int .i64 aQ, .int .i64 aR, .slice cu aH.length bW, .slice dz av.length bZ], .int .i64 aaK] rfl ar ?_; (with_reducible refine (eO.calls kj6 aQ aR _ _ aH _ _ av aaK ac0 ad4 _ ?bH ?bI ?dG ?dI A23.out).mono ?_); (case bH => exact kc (Kd.bf gF.out HB.out)); (case bI => exact gX.out); (case dG => exact kc (Kd.bf fK.out HB.out)); (case dI => exact gW.out); rintro e w31 ⟨aq3, rfl, ho0, hb⟩; refine ⟨_, rfl, ?_⟩; have xO := am (Kd.jQ (Kd.qU (Kd.qU (Kd.qU ho0 (Kd.abm (kr wH.out))) (Kd.abm (kr ku.out))) (Kd.abm (kr rD.out))) (bY (bl1 HB.out kT.out))); replace wH := am (Kd.lN (kr wH.out) (Kd.jN ho0) hb); replace ku := am (Kd.lN (kr ku.out) (Kd.jN ho0) hb); replace rD := am (Kd.lN (kr rD.out) (Kd.jN ho0) hb); replace dP := am (ak (kp dP.out) hb); replace HB := am (au (bl1 HB.out kT.out) hb); (try clear hb); (try clear hb2); (try clear hk); (try clear hi); (try clear ho0); obtain ⟨aA7, aA8, ay7⟩ := Kd.iW ku.out; subst ay7; obtain ⟨aCs, aCt, aCu⟩ := Kd.iW wH.out; subst aCu) | ((with_reducible refine aC (f := 42) rfl ?_); refine bR (some 53) rfl rfl Try.func42 (by kernel_rfl) rfl #[.slice aA7 qD.length aA8, .slice aCs oU.length aCt] rfl ar ?_; (with_reducible refine (dF.calls _ _ qD _ _ oU true _ ?bH ?bI ?dG ?dI A25.out).mono ?_); (case bH => exact kc (Kd.bS ku.out).2.2); (case bI => exact (Kd.bS ku.out).2.1); (case dG => exact kc (Kd.bS wH.out).2.2); (case dI => exact (Kd.bS wH.out).2.1); rintro e w' ⟨rfl, ⟨nd, rfl⟩⟩; refine ⟨_, rfl, ?_⟩; obtain ⟨aDX, aDY, aCv⟩ := Kd.iW xO.out; subst aCv) | (go_at_call 42; (with_reducible refine (dF.calls _ _ oU _ _ ac0 true _ ?bH ?bI ?dG ?dI A27.out).mono ?_); (case bH => exact kc (Kd.bS wH.out).2.2); (case bI => exact (Kd.bS wH.out).2.1); (case dG => exact kc (Kd.bS xO.out).2.2); (case dI => exact (Kd.bS xO.out).2.1); rintro e w' ⟨rfl, ⟨nd, rfl⟩⟩) | (go_at_call 42; (with_reducible refine (dF.calls _ _ qD _ _ ac0 ab7 _ ?bH ?bI ?dG ?dI A29.out).mono ?_); (case bH => exact kc (Kd.bS ku.out).2.2); (case bI => exact (Kd.bS ku.out).2.1); (case dG => exact kc (Kd.bS xO.out).2.2); (case dI => exact (Kd.bS xO.out).2.1); rintro e w' ⟨rfl, ⟨nd, rfl⟩⟩))
        go_ret
        exact ⟨rt, bl1 HB.out kT.out⟩
       ·replace c28 := Bool.eq_false_iff.mpr c28
        subst c28
        have H1 : (some false) = some r := by rw [if_neg (show ¬ (false = true) by decide)] at H; exact H
        clear H
        have H := H1
        clear H1
        obtain rfl := Option.some.inj H
        have afQ : wc.cell? ⟨jh, 0, none⟩ = some (.int .i64 aQ) := bc dP.out 0
        have afR : wc.cell? ⟨jh, 1, none⟩ = some (.int .i64 aR) := bc dP.out 1
        have ajS : wc.cell? ⟨jh, 2, none⟩ = some (.slice cu aH.length bW) := bc dP.out 2
        have ajT : wc.cell? ⟨jh, 3, none⟩ = some (.slice dz av.length bZ) := bc dP.out 3
        have afS := aj dP.out 0
        have afT := aj dP.out 1
        have ajU := aj dP.out 2
        have ajV := aj dP.out 3
        go_wp2_with (first | ((with_reducible refine aC (f := 18) rfl ?_); refine bR (some 46) rfl rfl Try.func18 (by kernel_rfl) rfl #[.agg #[.int .i64 aQ, .int .i64 aR, .slice cu aH.length bW, .slice dz av.length bZ], .int .i64 aaK] rfl ar ?_; (with_reducible refine (eO.calls kj6 aQ aR _ _ aH _ _ av aaK ac0 ad4 _ ?bH ?bI ?dG ?dI A23.out).mono ?_); (case bH => exact kc (Kd.bf gF.out HB.out)); (case bI => exact gX.out); (case dG => exact kc (Kd.bf fK.out HB.out)); (case dI => exact gW.out); rintro e w36 ⟨aq3, rfl, ho0, hb⟩; refine ⟨_, rfl, ?_⟩; have xO := am (Kd.jQ (Kd.qU (Kd.qU (Kd.qU ho0 (Kd.abm (kr wH.out))) (Kd.abm (kr ku.out))) (Kd.abm (kr rD.out))) (bY (bl1 HB.out kT.out))); replace wH := am (Kd.lN (kr wH.out) (Kd.jN ho0) hb); replace ku := am (Kd.lN (kr ku.out) (Kd.jN ho0) hb); replace rD := am (Kd.lN (kr rD.out) (Kd.jN ho0) hb); replace dP := am (ak (kp dP.out) hb); replace HB := am (au (bl1 HB.out kT.out) hb); (try clear hb); (try clear hb2); (try clear hk); (try clear hi); (try clear ho0); obtain ⟨aCw, aCx, aCy⟩ := Kd.iW ku.out; subst aCy; obtain ⟨aCz, aCA, aCB⟩ := Kd.iW wH.out; subst aCB) | ((with_reducible refine aC (f := 42) rfl ?_); refine bR (some 53) rfl rfl Try.func42 (by kernel_rfl) rfl #[.slice aCw qD.length aCx, .slice aCz oU.length aCA] rfl ar ?_; (with_reducible refine (dF.calls _ _ qD _ _ oU true _ ?bH ?bI ?dG ?dI A25.out).mono ?_); (case bH => exact kc (Kd.bS ku.out).2.2); (case bI => exact (Kd.bS ku.out).2.1); (case dG => exact kc (Kd.bS wH.out).2.2); (case dI => exact (Kd.bS wH.out).2.1); rintro e w' ⟨rfl, ⟨nd, rfl⟩⟩; refine ⟨_, rfl, ?_⟩; obtain ⟨ayx, ayy, ayz⟩ := Kd.iW xO.out; subst ayz) | (go_at_call 42; (with_reducible refine (dF.calls _ _ oU _ _ ac0 false _ ?bH ?bI ?dG ?dI A27.out).mono ?_); (case bH => exact kc (Kd.bS wH.out).2.2); (case bI => exact (Kd.bS wH.out).2.1); (case dG => exact kc (Kd.bS xO.out).2.2); (case dI => exact (Kd.bS xO.out).2.1); rintro e w' ⟨rfl, ⟨nd, rfl⟩⟩))
        go_ret
        exact ⟨rt, bl1 HB.out kT.out⟩
      ·replace c26 := Bool.eq_false_iff.mpr c26
       subst c26
       have H1 : (some false) = some r := by rw [if_neg (show ¬ (false = true) by decide)] at H; exact H
       clear H
       have H := H1
       clear H1
       obtain rfl := Option.some.inj H
       have afU : wc.cell? ⟨jh, 0, none⟩ = some (.int .i64 aQ) := bc dP.out 0
       have afV : wc.cell? ⟨jh, 1, none⟩ = some (.int .i64 aR) := bc dP.out 1
       have aq4 : wc.cell? ⟨jh, 2, none⟩ = some (.slice cu aH.length bW) := bc dP.out 2
       have aq5 : wc.cell? ⟨jh, 3, none⟩ = some (.slice dz av.length bZ) := bc dP.out 3
       have afW := aj dP.out 0
       have afX := aj dP.out 1
       have aq6 := aj dP.out 2
       have aq7 := aj dP.out 3
       go_wp2_with (first | ((with_reducible refine aC (f := 18) rfl ?_); refine bR (some 46) rfl rfl Try.func18 (by kernel_rfl) rfl #[.agg #[.int .i64 aQ, .int .i64 aR, .slice cu aH.length bW, .slice dz av.length bZ], .int .i64 aaK] rfl ar ?_; (with_reducible refine (eO.calls kj6 aQ aR _ _ aH _ _ av aaK ac0 ad4 _ ?bH ?bI ?dG ?dI A23.out).mono ?_); (case bH => exact kc (Kd.bf gF.out HB.out)); (case bI => exact gX.out); (case dG => exact kc (Kd.bf fK.out HB.out)); (case dI => exact gW.out); rintro e w41 ⟨aq3, rfl, ho0, hb⟩; refine ⟨_, rfl, ?_⟩; have xO := am (Kd.jQ (Kd.qU (Kd.qU (Kd.qU ho0 (Kd.abm (kr wH.out))) (Kd.abm (kr ku.out))) (Kd.abm (kr rD.out))) (bY (bl1 HB.out kT.out))); replace wH := am (Kd.lN (kr wH.out) (Kd.jN ho0) hb); replace ku := am (Kd.lN (kr ku.out) (Kd.jN ho0) hb); replace rD := am (Kd.lN (kr rD.out) (Kd.jN ho0) hb); replace dP := am (ak (kp dP.out) hb); replace HB := am (au (bl1 HB.out kT.out) hb); (try clear hb); (try clear hb2); (try clear hk); (try clear hi); (try clear ho0); obtain ⟨xE, xG, ayA⟩ := Kd.iW ku.out; subst ayA; obtain ⟨aCC, aCD, aCE⟩ := Kd.iW wH.out; subst aCE) | ((with_reducible refine aC (f := 42) rfl ?_); refine bR (some 53) rfl rfl Try.func42 (by kernel_rfl) rfl #[.slice xE qD.length xG, .slice aCC oU.length aCD] rfl ar ?_; (with_reducible refine (dF.calls _ _ qD _ _ oU false _ ?bH ?bI ?dG ?dI A25.out).mono ?_); (case bH => exact kc (Kd.bS ku.out).2.2); (case bI => exact (Kd.bS ku.out).2.1); (case dG => exact kc (Kd.bS wH.out).2.2); (case dI => exact (Kd.bS wH.out).2.1); rintro e w' ⟨rfl, ⟨nd, rfl⟩⟩; refine ⟨_, rfl, ?_⟩))
       go_ret
       exact ⟨rt, bl1 HB.out kT.out⟩
     ·rw [if_neg c24] at H
      have ak3 : (ad4 == 0) = false := beq_eq_false_iff_ne.mpr c24
      have aqP : (ad4 != 0) = true := bne_iff_ne.mpr c24
      obtain rfl := Option.some.inj H
      have ay8 : wc.cell? ⟨jh, 0, none⟩ = some (.int .i64 aQ) := bc dP.out 0
      have ay9 : wc.cell? ⟨jh, 1, none⟩ = some (.int .i64 aR) := bc dP.out 1
      have aza : wc.cell? ⟨jh, 2, none⟩ = some (.slice cu aH.length bW) := bc dP.out 2
      have azb : wc.cell? ⟨jh, 3, none⟩ = some (.slice dz av.length bZ) := bc dP.out 3
      have azc := aj dP.out 0
      have azd := aj dP.out 1
      have aze := aj dP.out 2
      have azf := aj dP.out 3
      go_wp2_with (first | ((with_reducible refine aC (f := 18) rfl ?_); refine bR (some 46) rfl rfl Try.func18 (by kernel_rfl) rfl #[.agg #[.int .i64 aQ, .int .i64 aR, .slice cu aH.length bW, .slice dz av.length bZ], .int .i64 aaK] rfl ar ?_; (with_reducible refine (eO.calls kj6 aQ aR _ _ aH _ _ av aaK ac0 ad4 _ ?bH ?bI ?dG ?dI A23.out).mono ?_); (case bH => exact kc (Kd.bf gF.out HB.out)); (case bI => exact gX.out); (case dG => exact kc (Kd.bf fK.out HB.out)); (case dI => exact gW.out); rintro e w45 ⟨aq3, rfl, ho0, hb⟩; refine ⟨_, rfl, ?_⟩; have xO := am (Kd.jQ (Kd.qU (Kd.qU (Kd.qU ho0 (Kd.abm (kr wH.out))) (Kd.abm (kr ku.out))) (Kd.abm (kr rD.out))) (bY (bl1 HB.out kT.out))); replace wH := am (Kd.lN (kr wH.out) (Kd.jN ho0) hb); replace ku := am (Kd.lN (kr ku.out) (Kd.jN ho0) hb); replace rD := am (Kd.lN (kr rD.out) (Kd.jN ho0) hb); replace dP := am (ak (kp dP.out) hb); replace HB := am (au (bl1 HB.out kT.out) hb); (try clear hb); (try clear hb2); (try clear hk); (try clear hi); (try clear ho0)))
      go_ret
      exact ⟨rt, bl1 HB.out kT.out⟩
    ·replace c22 := Bool.eq_false_iff.mpr c22
     subst c22
     have H1 : ((dF.f qD oU).bind fun agQ => (if agQ = true then ((dF.f oU ([] : List (S23))).bind fun ad3 => (if ad3 = true then ((dF.f qD ([] : List (S23))).bind fun ab8 => (some ab8)) else (some false))) else (some false))) = some r := by rw [if_neg (show ¬ (false = true) by decide)] at H; exact H
     clear H
     have H := H1
     clear H1
     replace H := Option.bind_eq_some_iff.mp H
     obtain ⟨agQ, atP, H⟩ := H
     try dsimp only at H
     have A46 := am atP
     clear atP
     by_cases c47 : agQ = true
     ·subst c47
      have H1 : ((dF.f oU ([] : List (S23))).bind fun ad3 => (if ad3 = true then ((dF.f qD ([] : List (S23))).bind fun ab8 => (some ab8)) else (some false))) = some r := by rw [if_pos rfl] at H; exact H
      clear H
      have H := H1
      clear H1
      replace H := Option.bind_eq_some_iff.mp H
      obtain ⟨ad3, aA9, H⟩ := H
      try dsimp only at H
      have A48 := am aA9
      clear aA9
      by_cases c49 : ad3 = true
      ·subst c49
       have H1 : ((dF.f qD ([] : List (S23))).bind fun ab8 => (some ab8)) = some r := by rw [if_pos rfl] at H; exact H
       clear H
       have H := H1
       clear H1
       replace H := Option.bind_eq_some_iff.mp H
       obtain ⟨ab8, atQ, H⟩ := H
       try dsimp only at H
       have A50 := am atQ
       clear atQ
       obtain rfl := Option.some.inj H
       obtain ⟨aBa, aBb, aCF⟩ := Kd.iW ku.out
       subst aCF
       obtain ⟨aBd, aBe, aCG⟩ := Kd.iW wH.out
       subst aCG
       go_wp2_with (first | ((with_reducible refine aC (f := 42) rfl ?_); refine bR (some 53) rfl rfl Try.func42 (by kernel_rfl) rfl #[.slice aBa qD.length aBb, .slice aBd oU.length aBe] rfl ar ?_; (with_reducible refine (dF.calls _ _ qD _ _ oU true _ ?bH ?bI ?dG ?dI A46.out).mono ?_); (case bH => exact kc (Kd.bS ku.out).2.2); (case bI => exact (Kd.bS ku.out).2.1); (case dG => exact kc (Kd.bS wH.out).2.2); (case dI => exact (Kd.bS wH.out).2.1); rintro e w' ⟨rfl, ⟨nd, rfl⟩⟩; refine ⟨_, rfl, ?_⟩) | (go_at_call 42; refine vH (args' := #[.slice aBd oU.length aBe, .slice none ([] : List (S23)).length 0]) (by first | (rw [show ([] : List (S23)).length = 0 from (Kd.bS rD.out).1.symm] <;> rfl) | rfl) ?_; (with_reducible refine (dF.calls _ _ oU _ _ ([] : List (S23)) true _ ?bH ?bI ?dG ?dI A48.out).mono ?_); (case bH => exact kc (Kd.bS wH.out).2.2); (case bI => exact (Kd.bS wH.out).2.1); (case dG => exact kc (Kd.bS rD.out).2.2); (case dI => rw [show ([] : List (S23)).length = 0 from (Kd.bS rD.out).1.symm]; exact (Kd.bS rD.out).2.1); rintro e w' ⟨rfl, ⟨nd, rfl⟩⟩) | (go_at_call 42; refine vH (args' := #[.slice aBa qD.length aBb, .slice none ([] : List (S23)).length 0]) (by first | (rw [show ([] : List (S23)).length = 0 from (Kd.bS rD.out).1.symm] <;> rfl) | rfl) ?_; (with_reducible refine (dF.calls _ _ qD _ _ ([] : List (S23)) ab8 _ ?bH ?bI ?dG ?dI A50.out).mono ?_); (case bH => exact kc (Kd.bS ku.out).2.2); (case bI => exact (Kd.bS ku.out).2.1); (case dG => exact kc (Kd.bS rD.out).2.2); (case dI => rw [show ([] : List (S23)).length = 0 from (Kd.bS rD.out).1.symm]; exact (Kd.bS rD.out).2.1); rintro e w' ⟨rfl, ⟨nd, rfl⟩⟩))
       go_ret
       exact ⟨rt, bl1 HB.out kT.out⟩
      ·replace c49 := Bool.eq_false_iff.mpr c49
       subst c49
       have H1 : (some false) = some r := by rw [if_neg (show ¬ (false = true) by decide)] at H; exact H
       clear H
       have H := H1
       clear H1
       obtain rfl := Option.some.inj H
       obtain ⟨aCH, aCI, aCJ⟩ := Kd.iW ku.out
       subst aCJ
       obtain ⟨atI, atJ, ayP⟩ := Kd.iW wH.out
       subst ayP
       go_wp2_with (first | ((with_reducible refine aC (f := 42) rfl ?_); refine bR (some 53) rfl rfl Try.func42 (by kernel_rfl) rfl #[.slice aCH qD.length aCI, .slice atI oU.length atJ] rfl ar ?_; (with_reducible refine (dF.calls _ _ qD _ _ oU true _ ?bH ?bI ?dG ?dI A46.out).mono ?_); (case bH => exact kc (Kd.bS ku.out).2.2); (case bI => exact (Kd.bS ku.out).2.1); (case dG => exact kc (Kd.bS wH.out).2.2); (case dI => exact (Kd.bS wH.out).2.1); rintro e w' ⟨rfl, ⟨nd, rfl⟩⟩; refine ⟨_, rfl, ?_⟩) | (go_at_call 42; refine vH (args' := #[.slice atI oU.length atJ, .slice none ([] : List (S23)).length 0]) (by first | (rw [show ([] : List (S23)).length = 0 from (Kd.bS rD.out).1.symm] <;> rfl) | rfl) ?_; (with_reducible refine (dF.calls _ _ oU _ _ ([] : List (S23)) false _ ?bH ?bI ?dG ?dI A48.out).mono ?_); (case bH => exact kc (Kd.bS wH.out).2.2); (case bI => exact (Kd.bS wH.out).2.1); (case dG => exact kc (Kd.bS rD.out).2.2); (case dI => rw [show ([] : List (S23)).length = 0 from (Kd.bS rD.out).1.symm]; exact (Kd.bS rD.out).2.1); rintro e w' ⟨rfl, ⟨nd, rfl⟩⟩))
       go_ret
       exact ⟨rt, bl1 HB.out kT.out⟩
     ·replace c47 := Bool.eq_false_iff.mpr c47
      subst c47
      have H1 : (some false) = some r := by rw [if_neg (show ¬ (false = true) by decide)] at H; exact H
      clear H
      have H := H1
      clear H1
      obtain rfl := Option.some.inj H
      obtain ⟨aCK, aCL, aCM⟩ := Kd.iW ku.out
      subst aCM
      obtain ⟨aCN, aCO, aCP⟩ := Kd.iW wH.out
      subst aCP
      go_wp2_with (first | ((with_reducible refine aC (f := 42) rfl ?_); refine bR (some 53) rfl rfl Try.func42 (by kernel_rfl) rfl #[.slice aCK qD.length aCL, .slice aCN oU.length aCO] rfl ar ?_; (with_reducible refine (dF.calls _ _ qD _ _ oU false _ ?bH ?bI ?dG ?dI A46.out).mono ?_); (case bH => exact kc (Kd.bS ku.out).2.2); (case bI => exact (Kd.bS ku.out).2.1); (case dG => exact kc (Kd.bS wH.out).2.2); (case dI => exact (Kd.bS wH.out).2.1); rintro e w' ⟨rfl, ⟨nd, rfl⟩⟩; refine ⟨_, rfl, ?_⟩))
      go_ret
      exact ⟨rt, bl1 HB.out kT.out⟩
 ·rw [if_neg c4] at H
  have vv : (agR == 0) = false := beq_eq_false_iff_ne.mpr c4
  have aeV : (agR != 0) = true := bne_iff_ne.mpr c4
  obtain rfl := Option.some.inj H
  go_enter Try.func83, Try.ntmps83
  go_wp2_with (first | ((with_reducible refine bq (N := 2) rfl ?_); refine bx 2 28 #[.int .i64 aQ, .int .i64 aR, .slice cu aH.length bW, .slice dz av.length bZ] ?_; intro jh hg w57 dL hb; have dP := am (dL); have atO := am ((bz hg HB.out : w.heap.size ≤ jh)); have kT := am ((bz hg HB.out : w.heap.size ≤ jh)); replace HB := am (au (bl HB.out) hb); clear hb dL hg; have azg : w57.cell? ⟨jh, 0, none⟩ = some (.int .i64 aQ) := bc dP.out 0; have azh : w57.cell? ⟨jh, 1, none⟩ = some (.int .i64 aR) := bc dP.out 1; have azi : w57.cell? ⟨jh, 2, none⟩ = some (.slice cu aH.length bW) := bc dP.out 2; have azj : w57.cell? ⟨jh, 3, none⟩ = some (.slice dz av.length bZ) := bc dP.out 3; have azk := aj dP.out 0; have azl := aj dP.out 1; have azm := aj dP.out 2; have azn := aj dP.out 3) | ((with_reducible refine aC (f := 18) rfl ?_); refine bR (some 16) rfl rfl Try.func18 (by kernel_rfl) rfl #[.agg #[.int .i64 aQ, .int .i64 aR, .slice cu aH.length bW, .slice dz av.length bZ], .int .i64 a1] rfl ar ?_; (with_reducible refine (eO.calls k aQ aR _ _ aH _ _ av a1 oU agR _ ?bH ?bI ?dG ?dI A3.out).mono ?_); (case bH => exact kc (Kd.bf gF.out HB.out)); (case bI => exact gX.out); (case dG => exact kc (Kd.bf fK.out HB.out)); (case dI => exact gW.out); rintro e w59 ⟨amY, rfl, ho0, hb⟩; refine ⟨_, rfl, ?_⟩; have uZ := am (Kd.jQ ho0 (bY (bl1 HB.out kT.out))); replace dP := am (ak (kp dP.out) hb); replace HB := am (au (bl1 HB.out kT.out) hb); (try clear hb); (try clear hb2); (try clear hk); (try clear hi); (try clear ho0)))
  go_ret
  exact ⟨rt, bl1 HB.out kT.out⟩
end Go.Proofs.Ytmbmalkpmanaaaa.P

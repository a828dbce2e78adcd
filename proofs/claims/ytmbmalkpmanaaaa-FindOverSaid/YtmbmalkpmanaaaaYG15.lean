/- Lemmas for laws of chapter 7: what the functions that they reach compute. No condition of its own. -/
import Derived.Test.YtmbmalkpmanaaaaYG4
import Derived.Test.YtmbmalkpmanaaaaYG2
import Derived.Test.YtmbmalkpmanaaaaYG5
import Derived.Test.YtmbmalkpmanaaaaYG11
namespace Go.Proofs.Ytmbmalkpmanaaaa.P
open Go.RowKit Go.Proofs.YtmbmalkpmanaaaaW.aK Go.Proofs.YtmbmalkpmanaaaaW.bK Go.Proofs.YtmbmalkpmanaaaaW.bM
attribute [local go_sem] dS dU fG fH dB dD dV dW   -- for this text's walks alone
set_option linter.unusedVariables false
set_option linter.unusedSimpArgs false
mutual
def bJ.j0 : Nat → Bool → Int → Int → List (List (S23)) → List (S70) → Option (Bool)
 | 0, _, _, _, _, _ => none
 | k + 1, x31, x2134000, x2134001, x2134002, x2134003 => if x31 = true then (some false) else (bJ.l0 k x2134002 (x2134002.length : Int) 0 x2134000 x2134001 x2134002 x2134003)
def bJ.l0 : Nat → List (List (S23)) → Int → Int → Int → Int → List (List (S23)) → List (S70) → Option (Bool)
 | 0, _, _, _, _, _, _, _ => none
 | k + 1, x33, x34, x35, x2134000, x2134001, x2134002, x2134003 => if x35 < x34 then (if 0 ≤ x35 then (if x35 < (x33.length : Int) then ((bE.f k (dZ x33 x35)).bind fun aq8 => (if aq8 = true then (bJ.l0 k x33 x34 (wrap64 (x35 + 1)) x2134000 x2134001 x2134002 x2134003) else (some false))) else (none)) else (none)) else (bJ.l1 k x2134003 (x2134003.length : Int) 0 x2134000 x2134001 x2134002 x2134003)
def bJ.l1 : Nat → List (S70) → Int → Int → Int → Int → List (List (S23)) → List (S70) → Option (Bool)
 | 0, _, _, _, _, _, _, _ => none
 | k + 1, x44, x45, x46, x2134000, x2134001, x2134002, x2134003 => if x46 < x45 then (if 0 ≤ x46 then (if x46 < (x44.length : Int) then ((bE.f k ((aU x44 x46).f1)).bind fun aq9 => (if aq9 = true then ((gI.f ((aU x44 x46).f0)).bind fun ak7 => (if ak7 = true then (if x46 > 0 then (if 0 ≤ (wrap64 (x46 - 1)) then (if (wrap64 (x46 - 1)) < (x2134003.length : Int) then (if ((aU x44 x46).f0) ≤ ((aU x2134003 (wrap64 (x46 - 1))).f0) then (some false) else (bJ.l1 k x44 x45 (wrap64 (x46 + 1)) x2134000 x2134001 x2134002 x2134003)) else (none)) else (none)) else (bJ.l1 k x44 x45 (wrap64 (x46 + 1)) x2134000 x2134001 x2134002 x2134003)) else (some false))) else (some false))) else (none)) else (none)) else (some true)
end
def bJ.f (k : Nat) (aQ : Int) (aR : Int) (aH : List (List (S23))) (av : List (S70)) : Option (Bool) := if aR = (aH.length : Int) then (if ((aR == 0) != (aQ == 0)) = true then (bJ.j0 k true aQ aR aH av) else (if aQ < 0 then (bJ.j0 k true aQ aR aH av) else (bJ.j0 k (decide (aQ > 1099511627776)) aQ aR aH av))) else (bJ.j0 k true aQ aR aH av)
def bJ.T12 : Bool × List (List Nat × List Nat) := (true, [([], []), ([0], [0]), ([1], [1]), ([2], [2]), ([3, 2], [3]), ([4], [4]), ([5, 4], [4, 5]), ([6, 4, 4], [4, 6]), ([7, 4], [4, 7]), ([4, 8], [4, 8]), ([9, 7], [9]), ([10], [10]), ([11, 10], [10, 11]), ([12, 10, 10], [10, 12]), ([13], [13]), ([14, 13], [13, 14]), ([13], [13]), ([16, 13], [13, 16]), ([13], [13]), ([18, 13], [13, 18]), ([17, 19, 13], [13, 17, 19]), ([20, 13], [13, 20]), ([21, 13], [13, 21]), ([15, 22, 13], [13, 15, 22]), ([13, 23, 10], [10, 13, 23]), ([10, 24], [10, 24])])
def bJ.B12 : List Nat := [0, 1, 3, 7, 15, 31, 63, 127, 255, 511, 1023, 2047, 4095, 8191, 16383, 32767, 16383, 81919, 16383, 278527, 999423, 2047999, 4145151, 8388607, 16777215, 33554431]
theorem bJ.ak8 : xW .any (opsOf Try.f81 12) = bJ.T12 := by kernel_rfl
theorem bJ.ae9 : pq bJ.T12.2 bJ.B12 = true := by kernel_rfl
set_option maxHeartbeats 8000000 in
set_option maxRecDepth 100000 in
theorem bJ.calls (k : Nat) (aQ : Int) (aR : Int) (cu : Option Addr) (bW : Nat) (aH : List (List (S23))) (dz : Option Addr) (bZ : Nat) (av : List (S70)) (r : Bool) (w : World) (iF : Kd.C (Kd.slice 23 k23) w cu aH.length aH) (iG : aH.length ≤ bW) (iw : Kd.C k70 w dz av.length av) (iy : av.length ≤ bZ) (h : bJ.f k aQ aR aH av = some r) :
 Calls Try.prog 81 #[.agg #[.int .i64 aQ, .int .i64 aR, .slice cu aH.length bW, .slice dz av.length bZ]] w fun e w' => e = .returned (.bool r) ∧ Below w.heap.size w w' := by
 have aaE := Try.underlying28
 have ao0 := Try.underlying70
 have gF := am iF
 have gX := am iG
 clear iF iG
 have fK := am iw
 have gW := am iy
 clear iw iy
 have HB := am (Below.refl w.heap.size w)
 have H : (if aR = (aH.length : Int) then (if ((aR == 0) != (aQ == 0)) = true then (bJ.j0 k true aQ aR aH av) else (if aQ < 0 then (bJ.j0 k true aQ aR aH av) else (bJ.j0 k (decide (aQ > 1099511627776)) aQ aR aH av))) else (bJ.j0 k true aQ aR aH av)) = some r := h
 clear h
 have HC2 := am H
 clear H
 go_enter Try.func81, Try.ntmps81
 go_upto_region 1 with (first | ((with_reducible refine bq (N := 1) rfl ?_); refine bx 1 28 #[.int .i64 aQ, .int .i64 aR, .slice cu aH.length bW, .slice dz av.length bZ] ?_; intro iM hg w3 dL hb; have bQ := am (dL); have aBf := am ((bz hg HB.out : w.heap.size ≤ iM)); have jy := am ((bz hg HB.out : w.heap.size ≤ iM)); replace HB := am (au (bl HB.out) hb); clear hb dL hg))
 (try simp only [Act.put, List.setIfInBounds_toArray, List.set_cons_zero, List.set_cons_succ])
 go_cut [31] (fun v31 wc => ∃ (kq : Nat) (amZ : Bool), v31 = .bool amZ ∧ ay (bJ.j0 kq amZ aQ aR aH av = some r) ∧ ay (kq ≤ k) ∧ ay (wc.heap[iM]? = some (.cells #[.int .i64 aQ, .int .i64 aR, (.slice cu aH.length bW), (.slice dz av.length bZ)] 28 (0, 0))) ∧ ay (Below w.heap.size w wc))
 case first =>
  have H := HC2.out
  clear HC2
  by_cases c4 : aR = (aH.length : Int)
  ·rw [if_pos c4] at H
   have vv : (aR == (aH.length : Int)) = true := beq_iff_eq.mpr c4
   have aeV : (aR != (aH.length : Int)) = false := bne_eq_false_iff_eq.mpr c4
   clear c4
   (first | rw [vv] | (simp only [jR, kH]; rw [vv]) | skip)
   by_cases c5 : ((aR == 0) != (aQ == 0)) = true
   ·rw [if_pos c5] at H
    have acT : ((aR == 0) != (aQ == 0)) = true := c5
    (try (have amt : decide ((aR == 0) = (aQ == 0)) = false := by simpa using c5))
    (try (have avz : ((aR == 0) == (aQ == 0)) = false := by simpa using c5))
    (try (have aDZ : ¬ ((aR == 0) = (aQ == 0)) := by simpa using c5))
    clear c5
    have H' := am H
    clear H
    have aby : w3.cell? ⟨iM, 0, none⟩ = some (.int .i64 aQ) := bc bQ.out 0
    have abz : w3.cell? ⟨iM, 1, none⟩ = some (.int .i64 aR) := bc bQ.out 1
    have ae4 : w3.cell? ⟨iM, 2, none⟩ = some (.slice cu aH.length bW) := bc bQ.out 2
    have ae5 : w3.cell? ⟨iM, 3, none⟩ = some (.slice dz av.length bZ) := bc bQ.out 3
    have abA := aj bQ.out 0
    have abB := aj bQ.out 1
    have ae6 := aj bQ.out 2
    have ae7 := aj bQ.out 3
    go_wp2
    go_meet
    case rel => exact ⟨_, (true), sm, H', ⟨by first | omega | exact Nat.le_refl _⟩, ⟨kp bQ.out⟩, ⟨bl1 HB.out jy.out⟩⟩
   ·rw [if_neg c5] at H
    have acT : ((aR == 0) != (aQ == 0)) = false := by simpa using c5
    (try (have amt : decide ((aR == 0) = (aQ == 0)) = true := by simpa using c5))
    (try (have avz : ((aR == 0) == (aQ == 0)) = true := by simpa using c5))
    clear c5
    by_cases c7 : aQ < 0
    ·rw [if_pos c7] at H
     have afE : decide (aQ < 0) = true := decide_eq_true c7
     clear c7
     have H' := am H
     clear H
     have yx : w3.cell? ⟨iM, 0, none⟩ = some (.int .i64 aQ) := bc bQ.out 0
     have yA : w3.cell? ⟨iM, 1, none⟩ = some (.int .i64 aR) := bc bQ.out 1
     have zn : w3.cell? ⟨iM, 2, none⟩ = some (.slice cu aH.length bW) := bc bQ.out 2
     have zo : w3.cell? ⟨iM, 3, none⟩ = some (.slice dz av.length bZ) := bc bQ.out 3
     have yB := aj bQ.out 0
     have yC := aj bQ.out 1
     have zq := aj bQ.out 2
     have zu := aj bQ.out 3
     go_wp2
     go_meet
     case rel => exact ⟨_, (true), sm, H', ⟨by first | omega | exact Nat.le_refl _⟩, ⟨kp bQ.out⟩, ⟨bl1 HB.out jy.out⟩⟩
    ·rw [if_neg c7] at H
     have afE : decide (aQ < 0) = false := decide_eq_false c7
     clear c7
     have H' := am H
     clear H
     have oq : w3.cell? ⟨iM, 0, none⟩ = some (.int .i64 aQ) := bc bQ.out 0
     have ou : w3.cell? ⟨iM, 1, none⟩ = some (.int .i64 aR) := bc bQ.out 1
     have ow : w3.cell? ⟨iM, 2, none⟩ = some (.slice cu aH.length bW) := bc bQ.out 2
     have oz : w3.cell? ⟨iM, 3, none⟩ = some (.slice dz av.length bZ) := bc bQ.out 3
     have oC := aj bQ.out 0
     have oD := aj bQ.out 1
     have oF := aj bQ.out 2
     have oG := aj bQ.out 3
     go_wp2
     go_meet
     case rel => exact ⟨_, (decide (aQ > 1099511627776)), sm, H', ⟨by first | omega | exact Nat.le_refl _⟩, ⟨kp bQ.out⟩, ⟨bl1 HB.out jy.out⟩⟩
  ·rw [if_neg c4] at H
   have vv : (aR == (aH.length : Int)) = false := beq_eq_false_iff_ne.mpr c4
   have aeV : (aR != (aH.length : Int)) = true := bne_iff_ne.mpr c4
   (first | rw [vv] | (simp only [jR, kH]; rw [vv]) | skip)
   have H' := am H
   clear H
   have qJ : w3.cell? ⟨iM, 0, none⟩ = some (.int .i64 aQ) := bc bQ.out 0
   have qK : w3.cell? ⟨iM, 1, none⟩ = some (.int .i64 aR) := bc bQ.out 1
   have rZ : w3.cell? ⟨iM, 2, none⟩ = some (.slice cu aH.length bW) := bc bQ.out 2
   have r9 : w3.cell? ⟨iM, 3, none⟩ = some (.slice dz av.length bZ) := bc bQ.out 3
   have qL := aj bQ.out 0
   have qM := aj bQ.out 1
   have sj := aj bQ.out 2
   have su := aj bQ.out 3
   go_wp2
   go_meet
   case rel => exact ⟨_, (true), sm, H', ⟨by first | omega | exact Nat.le_refl _⟩, ⟨kp bQ.out⟩, ⟨bl1 HB.out jy.out⟩⟩
 case rest =>
  clear HC2
  obtain ⟨kq, amZ, rfl, HA, HJ1, bQ, HB⟩ := hcut
  cases kq with
  | zero => exact absurd HA.out (by simp [bJ.j0])
  | succ kj1 =>
   have H := HA.out
   clear HA
   simp only [bJ.j0] at H
   by_cases c11 : amZ = true
   ·subst c11
    have H1 : (some false) = some r := by rw [if_pos rfl] at H; exact H
    clear H
    have H := H1
    clear H1
    obtain rfl := Option.some.inj H
    go_wp2
    go_ret
    exact ⟨rt, bl1 HB.out jy.out⟩
   ·replace c11 := Bool.eq_false_iff.mpr c11
    subst c11
    have H1 : (bJ.l0 kj1 aH (aH.length : Int) 0 aQ aR aH av) = some r := by rw [if_neg (show ¬ (false = true) by decide)] at H; exact H
    clear H
    have H := H1
    clear H1
    have H' := am H
    clear H
    have acd : wc.cell? ⟨iM, 0, none⟩ = some (.int .i64 aQ) := bc bQ.out 0
    have ace : wc.cell? ⟨iM, 1, none⟩ = some (.int .i64 aR) := bc bQ.out 1
    have acf : wc.cell? ⟨iM, 2, none⟩ = some (.slice cu aH.length bW) := bc bQ.out 2
    have acg : wc.cell? ⟨iM, 3, none⟩ = some (.slice dz av.length bZ) := bc bQ.out 3
    have ach := aj bQ.out 0
    have aci := aj bQ.out 1
    have acj := aj bQ.out 2
    have acn := aj bQ.out 3
    go_wp2
    go_loopg [35] kj1 (fun kq v35 w' => ∃ (tZ : Int), v35 = .int .i64 tZ ∧ ay (bJ.l0 kq aH (aH.length : Int) tZ aQ aR aH av = some r) ∧ ay (kq ≤ kj1) ∧ ay (w'.heap[iM]? = some (.cells #[.int .i64 aQ, .int .i64 aR, (.slice cu aH.length bW), (.slice dz av.length bZ)] 28 (0, 0))) ∧ ay (Below w.heap.size w w'))
    case atStart => exact ⟨(0), sm, H', ⟨Nat.le_refl _⟩, ⟨kp bQ.out⟩, ⟨bl1 HB.out jy.out⟩⟩
    case round =>
     clear H'
     try clear c11
     try clear acd
     try clear ace
     try clear acf
     try clear acg
     try clear ach
     try clear aci
     try clear acj
     try clear acn
     obtain ⟨tZ, rfl, HA, HK2, bQ, HB⟩ := hrel
     cases gk with
     | zero => exact absurd HA.out (by simp [bJ.l0])
     | succ k2 =>
      have H := HA.out
      clear HA
      simp only [bJ.l0] at H
      by_cases c13 : tZ < (aH.length : Int)
      ·rw [if_pos c13] at H
       have yj : decide (tZ < (aH.length : Int)) = true := decide_eq_true c13
       clear c13
       by_cases c14 : 0 ≤ tZ
       case neg => rw [if_neg c14] at H; exact absurd H (by simp)
       rw [if_pos c14] at H
       have wM : decide (0 ≤ tZ) = true := decide_eq_true c14
       clear c14
       by_cases c15 : tZ < (aH.length : Int)
       case neg => rw [if_neg c15] at H; exact absurd H (by simp)
       rw [if_pos c15] at H
       have abC : decide (tZ < (aH.length : Int)) = true := decide_eq_true c15
       clear c15
       replace H := Option.bind_eq_some_iff.mp H
       obtain ⟨aq8, ahY, H⟩ := H
       try dsimp only at H
       have A16 := am ahY
       clear ahY
       by_cases c17 : aq8 = true
       ·subst c17
        have H1 : (bJ.l0 k2 aH (aH.length : Int) (wrap64 (tZ + 1)) aQ aR aH av) = some r := by rw [if_pos rfl] at H; exact H
        clear H
        have H := H1
        clear H1
        have H' := am H
        clear H
        have afa : 0 ≤ (tZ : Int) := of_decide_eq_true asm
        have afb : tZ < (aH.length : Int) := of_decide_eq_true asm
        obtain ⟨atS, agT, agU, ara, uD, zX, zY⟩ := ru gF.out tZ afa afb
        cases ara
        replace uD := (HB.out.cell (World.block_lt_of_cell? w _ uD)).trans uD
        have ad5 := am zY
        have ad6 := am zX
        clear zY zX
        replace afa := eq_true afa
        replace afb := eq_true afb
        go_wp2_with (first | ((with_reducible refine aC (f := 31) rfl ?_); refine bR (some 40) rfl rfl Try.func31 (by kernel_rfl) rfl #[.slice agT (dZ aH tZ).length agU] rfl ar ?_; (with_reducible refine (bE.calls k2 _ _ (dZ aH tZ) true _ ?bH ?bI A16.out).mono ?_); (case bH => exact kc (Kd.bf ad5.out HB.out)); (case bI => exact ad6.out); rintro e w18 ⟨rfl, hb⟩; refine ⟨_, rfl, ?_⟩; replace bQ := am (ak (kp bQ.out) hb); replace HB := am (au (bl1 HB.out jy.out) hb); (try clear hb); (try clear hb2); (try clear hk); (try clear hi)))
        go_roundg k2
        case measure => have := HJ1.out; have := HK2.out; omega
        case rel => exact ⟨(wrap64 (tZ + 1)), sm, H', ⟨by have := HJ1.out; have := HK2.out; omega⟩, ⟨kp bQ.out⟩, ⟨bl1 HB.out jy.out⟩⟩
       ·replace c17 := Bool.eq_false_iff.mpr c17
        subst c17
        have H1 : (some false) = some r := by rw [if_neg (show ¬ (false = true) by decide)] at H; exact H
        clear H
        have H := H1
        clear H1
        obtain rfl := Option.some.inj H
        have afa : 0 ≤ (tZ : Int) := of_decide_eq_true asm
        have afb : tZ < (aH.length : Int) := of_decide_eq_true asm
        obtain ⟨atS, agT, agU, ara, uD, zX, zY⟩ := ru gF.out tZ afa afb
        cases ara
        replace uD := (HB.out.cell (World.block_lt_of_cell? w _ uD)).trans uD
        have ad5 := am zY
        have ad6 := am zX
        clear zY zX
        replace afa := eq_true afa
        replace afb := eq_true afb
        go_wp2_with (first | ((with_reducible refine aC (f := 31) rfl ?_); refine bR (some 40) rfl rfl Try.func31 (by kernel_rfl) rfl #[.slice agT (dZ aH tZ).length agU] rfl ar ?_; (with_reducible refine (bE.calls k2 _ _ (dZ aH tZ) false _ ?bH ?bI A16.out).mono ?_); (case bH => exact kc (Kd.bf ad5.out HB.out)); (case bI => exact ad6.out); rintro e w19 ⟨rfl, hb⟩; refine ⟨_, rfl, ?_⟩; replace bQ := am (ak (kp bQ.out) hb); replace HB := am (au (bl1 HB.out jy.out) hb); (try clear hb); (try clear hb2); (try clear hk); (try clear hi)))
        go_ret
        exact ⟨rt, bl1 HB.out jy.out⟩
      ·rw [if_neg c13] at H
       have yj : decide (tZ < (aH.length : Int)) = false := decide_eq_false c13
       clear c13
       have H' := am H
       clear H
       have rV : wr.cell? ⟨iM, 0, none⟩ = some (.int .i64 aQ) := bc bQ.out 0
       have rW : wr.cell? ⟨iM, 1, none⟩ = some (.int .i64 aR) := bc bQ.out 1
       have xJ : wr.cell? ⟨iM, 2, none⟩ = some (.slice cu aH.length bW) := bc bQ.out 2
       have xK : wr.cell? ⟨iM, 3, none⟩ = some (.slice dz av.length bZ) := bc bQ.out 3
       have rX := aj bQ.out 0
       have rY := aj bQ.out 1
       have xL := aj bQ.out 2
       have xM := aj bQ.out 3
       go_wp2
       go_loopg [46] k2 (fun kq v46 w' => ∃ (eZ : Int), v46 = .int .i64 eZ ∧ ay (bJ.l1 kq av (av.length : Int) eZ aQ aR aH av = some r) ∧ ay (kq ≤ k2) ∧ ay (w'.heap[iM]? = some (.cells #[.int .i64 aQ, .int .i64 aR, (.slice cu aH.length bW), (.slice dz av.length bZ)] 28 (0, 0))) ∧ ay (Below w.heap.size w w'))
       case atStart => exact ⟨(0), sm, H', ⟨Nat.le_refl _⟩, ⟨kp bQ.out⟩, ⟨bl1 HB.out jy.out⟩⟩
       case round =>
        clear H'
        try clear yj
        try clear rV
        try clear rW
        try clear xJ
        try clear xK
        try clear rX
        try clear rY
        try clear xL
        try clear xM
        obtain ⟨eZ, rfl, HA, HK3, bQ, HB⟩ := hrel
        cases gk with
        | zero => exact absurd HA.out (by simp [bJ.l1])
        | succ k3 =>
         have H := HA.out
         clear HA
         simp only [bJ.l1] at H
         by_cases c21 : eZ < (av.length : Int)
         ·rw [if_pos c21] at H
          have acZ : decide (eZ < (av.length : Int)) = true := decide_eq_true c21
          clear c21
          by_cases c22 : 0 ≤ eZ
          case neg => rw [if_neg c22] at H; exact absurd H (by simp)
          rw [if_pos c22] at H
          have yt : decide (0 ≤ eZ) = true := decide_eq_true c22
          clear c22
          by_cases c23 : eZ < (av.length : Int)
          case neg => rw [if_neg c23] at H; exact absurd H (by simp)
          rw [if_pos c23] at H
          have atT : decide (eZ < (av.length : Int)) = true := decide_eq_true c23
          clear c23
          replace H := Option.bind_eq_some_iff.mp H
          obtain ⟨aq9, aBg, H⟩ := H
          try dsimp only at H
          have A24 := am aBg
          clear aBg
          by_cases c25 : aq9 = true
          ·subst c25
           have H1 : ((gI.f ((aU av eZ).f0)).bind fun ak7 => (if ak7 = true then (if eZ > 0 then (if 0 ≤ (wrap64 (eZ - 1)) then (if (wrap64 (eZ - 1)) < (av.length : Int) then (if ((aU av eZ).f0) ≤ ((aU av (wrap64 (eZ - 1))).f0) then (some false) else (bJ.l1 k3 av (av.length : Int) (wrap64 (eZ + 1)) aQ aR aH av)) else (none)) else (none)) else (bJ.l1 k3 av (av.length : Int) (wrap64 (eZ + 1)) aQ aR aH av)) else (some false))) = some r := by rw [if_pos rfl] at H; exact H
           clear H
           have H := H1
           clear H1
           replace H := Option.bind_eq_some_iff.mp H
           obtain ⟨ak7, atF, H⟩ := H
           try dsimp only at H
           have A26 := am atF
           clear atF
           by_cases c27 : ak7 = true
           ·subst c27
            have H1 : (if eZ > 0 then (if 0 ≤ (wrap64 (eZ - 1)) then (if (wrap64 (eZ - 1)) < (av.length : Int) then (if ((aU av eZ).f0) ≤ ((aU av (wrap64 (eZ - 1))).f0) then (some false) else (bJ.l1 k3 av (av.length : Int) (wrap64 (eZ + 1)) aQ aR aH av)) else (none)) else (none)) else (bJ.l1 k3 av (av.length : Int) (wrap64 (eZ + 1)) aQ aR aH av)) = some r := by rw [if_pos rfl] at H; exact H
            clear H
            have H := H1
            clear H1
            by_cases c28 : eZ > 0
            ·rw [if_pos c28] at H
             have ak9 : decide (0 < eZ) = true := decide_eq_true c28
             clear c28
             obtain ⟨aaL, aiX⟩ : ∃ j_ : Int, (wrap64 (eZ - 1)) = j_ := ⟨_, rfl⟩
             replace H : (if 0 ≤ (aaL) then (if (aaL) < (av.length : Int) then (if ((aU av eZ).f0) ≤ ((aU av (aaL)).f0) then (some false) else (bJ.l1 k3 av (av.length : Int) (wrap64 (eZ + 1)) aQ aR aH av)) else (none)) else (none)) = some r := by first | (rw [aiX] at H; exact H) | (simp only [aiX] at H ⊢; exact H)
             (try rw [aiX] at A24)
             (try rw [aiX] at A26)
             have aBh : (IntKind.i64.wrap (eZ - 1)) = aaL := (jR _).trans aiX
             by_cases c30 : 0 ≤ (aaL)
             case neg => rw [if_neg c30] at H; exact absurd H (by simp)
             rw [if_pos c30] at H
             have ad7 : decide (0 ≤ (aaL)) = true := decide_eq_true c30
             clear c30
             by_cases c31 : (aaL) < (av.length : Int)
             case neg => rw [if_neg c31] at H; exact absurd H (by simp)
             rw [if_pos c31] at H
             have arb : decide ((aaL) < (av.length : Int)) = true := decide_eq_true c31
             clear c31
             by_cases c32 : ((aU av eZ).f0) ≤ ((aU av (aaL)).f0)
             ·rw [if_pos c32] at H
              have am0 : decide (((aU av eZ).f0) ≤ ((aU av (aaL)).f0)) = true := decide_eq_true c32
              clear c32
              obtain rfl := Option.some.inj H
              have vT : 0 ≤ (eZ : Int) := of_decide_eq_true asm
              have vU : eZ < (av.length : Int) := of_decide_eq_true asm
              obtain ⟨pE, iK, iL, ad8, kC, kD, nD, nE⟩ := kZ fK.out eZ vT vU
              cases ad8
              replace kC := (HB.out.cell (World.block_lt_of_cell? w _ kC)).trans kC
              replace kD := (HB.out.cell (World.block_lt_of_cell? w _ kD)).trans kD
              have rE := am nE
              have rF := am nD
              clear nE nD
              replace vT := eq_true vT
              replace vU := eq_true vU
              try go_wp2_with (first | ((with_reducible refine bq (N := 6) rfl ?_); refine bx 6 70 #[.int .i64 0, .slice none 0 0] ?_; intro fq hg w33 dL hb; have eT := am (dL); have aii := am ((bz1 hg HB.out jy.out : w.heap.size ≤ fq)); have pF := am ((bz1 hg HB.out jy.out : w.heap.size ≤ fq)); replace HB := am (au (bl1 HB.out jy.out) hb); have jL := am ((nl hg bQ.out : iM ≠ fq)); have mG := am ((ng hg bQ.out : fq ≠ iM)); replace bQ := am (ak (kp bQ.out) hb); clear hb dL hg; have asU := mG.out; have asV := jL.out; have afQ : w33.cell? ⟨fq, 0, none⟩ = some (.int .i64 0) := bc eT.out 0; have afR : w33.cell? ⟨fq, 1, none⟩ = some (.slice none 0 0) := bc eT.out 1; have afS := aj eT.out 0; have afT := aj eT.out 1))
              have n0_ : ay (((w33.setCell ⟨fq, 0, none⟩ (.int .i64 ((aU av eZ).f0))).setCell ⟨fq, 1, none⟩ (.slice iK ((aU av eZ).f1).length iL)).heap[iM]? = some (.cells #[.int .i64 aQ, .int .i64 aR, .slice cu aH.length bW, .slice (some pE) av.length bZ] 28 (0, 0))) := ⟨kf bQ.out jL.out⟩
              have n1_ : ay (((w33.setCell ⟨fq, 0, none⟩ (.int .i64 ((aU av eZ).f0))).setCell ⟨fq, 1, none⟩ (.slice iK ((aU av eZ).f1).length iL)).heap[fq]? = some (.cells #[.int .i64 ((aU av eZ).f0), .slice iK ((aU av eZ).f1).length iL] 70 (0, 0))) := ⟨by (with_reducible repeat (first | refine aM ?_ _ | refine aI ?_ | refine aA ?_ _)); refine bX (cs := #[.int .i64 ((aU av eZ).f0), .slice none 0 0]) ?_ 1 _ rfl; (with_reducible repeat (first | refine aM ?_ _ | refine aI ?_ | refine aA ?_ _)); refine bX (cs := #[.int .i64 0, .slice none 0 0]) ?_ 0 _ rfl; (with_reducible repeat (first | refine aM ?_ _ | refine aI ?_ | refine aA ?_ _)); exact eT.out⟩
              have n2_ : ay (Below w.heap.size w ((w33.setCell ⟨fq, 0, none⟩ (.int .i64 ((aU av eZ).f0))).setCell ⟨fq, 1, none⟩ (.slice iK ((aU av eZ).f1).length iL))) := ⟨bl2 HB.out jy.out pF.out⟩
              (try clear bQ)
              (try clear eT)
              (try clear HB)
              generalize ((w33.setCell ⟨fq, 0, none⟩ (.int .i64 ((aU av eZ).f0))).setCell ⟨fq, 1, none⟩ (.slice iK ((aU av eZ).f1).length iL)) = w36 at n0_ n1_ n2_ ⊢
              have bQ := n0_
              have eT := n1_
              have HB := n2_
              clear n0_ n1_ n2_
              replace bQ := am (aI bQ.out)
              replace eT := am (aI eT.out)
              replace HB := am (dx HB.out)
              have agV : 0 ≤ ((aaL) : Int) := of_decide_eq_true asm
              have agW : (aaL) < (av.length : Int) := of_decide_eq_true asm
              obtain ⟨ala, agX, agY, ard, pG, pI, zZ, z8⟩ := kZ fK.out (aaL) agV agW
              have nT := pI
              have nU := pG
              obtain rfl : pE = ala := (by injection ard)
              replace pG := (HB.out.cell (World.block_lt_of_cell? w _ pG)).trans pG
              replace pI := (HB.out.cell (World.block_lt_of_cell? w _ pI)).trans pI
              have ad9 := am z8
              have am1 := am zZ
              clear z8 zZ
              replace agV := eq_true agV
              replace agW := eq_true agW
              refine nW (n := 26) (S := fun w' => w'.cell? ⟨fq, 0, none⟩ = some (.int .i64 ((aU av eZ).f0)) ∧ w'.cell? ⟨fq, 1, none⟩ = some (.slice iK ((aU av eZ).f1).length iL) ∧ w'.cell? ⟨iM, 0, none⟩ = some (.int .i64 aQ) ∧ w'.cell? ⟨iM, 1, none⟩ = some (.int .i64 aR) ∧ w'.cell? ⟨iM, 2, none⟩ = some (.slice cu aH.length bW) ∧ w'.cell? ⟨iM, 3, none⟩ = some (.slice (some pE) av.length bZ) ∧ w'.cell? (pE.add (((aaL)).toNat * 2)) = some (.int .i64 ((aU av (aaL)).f0)) ∧ w'.cell? ⟨(pE.add (((aaL)).toNat * 2)).block, (pE.add (((aaL)).toNat * 2)).off + 1, none⟩ = some (.slice agX ((aU av (aaL)).f1).length agY)) (ds := []) (rs false [26]) (by kernel_rfl) rfl rfl ⟨bc eT.out 0, bc eT.out 1, bc bQ.out 0, bc bQ.out 1, bc bQ.out 2, bc bQ.out 3, ((HB.out.cell (World.block_lt_of_cell? w _ nU)).trans nU), ((HB.out.cell (World.block_lt_of_cell? w _ nT)).trans nT)⟩ (fun hHeld => ?_); refine ji bJ.ak8 bJ.ae9 (fun HT_ HW_ => ?_)
              generalize w36.drew = w37 at bQ eT HB ad9 pG pI hHeld ⊢
              refine px 0 51 (rs true [1, 25]) HT_.out ?_
              refine tx 1 52 (rs true [2, 24]) HT_.out HW_.out hHeld ?_
              refine oZ (i := 2) (N := some 53) (rs true [3, 23]) rfl rfl (gM HT_.out (by kernel_rfl)) (by decide) (fun K hK => ?_)
              refine kg Try.func31 (by kernel_rfl) rfl #[.slice iK ((aU av eZ).f1).length iL] (by rfl) rfl rfl ar ?_
              with_reducible refine (bE.calls k3 _ _ ((aU av eZ).f1) true _ ?bH ?bI A24.out).mono ?_
              (case bH => exact kc (Kd.bf rE.out HB.out))
              (case bI => exact rF.out)
              rintro e w38 ⟨rfl, hb⟩
              refine ⟨_, rfl, ?_⟩
              replace bQ := am (ak (kp bQ.out) hb)
              replace eT := am (ak (kp eT.out) hb)
              replace HB := am (au (bl2 HB.out jy.out pF.out) hb)
              (try clear hb)
              refine hK.out _ _ ⟨bc eT.out 0, bc eT.out 1, bc bQ.out 0, bc bQ.out 1, bc bQ.out 2, bc bQ.out 3, ((HB.out.cell (World.block_lt_of_cell? w _ nU)).trans nU), ((HB.out.cell (World.block_lt_of_cell? w _ nT)).trans nT)⟩ (fun hHeld => ?_)
              clear hK K
              refine nx 53 ?_
              refine px 3 54 (rs true [4, 22]) HT_.out ?_
              refine px 4 55 (rs true [5, 21]) HT_.out ?_
              refine px 5 56 (rs true [6, 20]) HT_.out ?_
              refine tx 6 57 (rs true [7, 19]) HT_.out HW_.out hHeld ?_
              refine oZ (i := 7) (N := some 58) (rs true [8, 18]) rfl rfl (gM HT_.out (by kernel_rfl)) (by decide) (fun K hK => ?_)
              refine kg Try.func55 (by kernel_rfl) rfl #[.int .i64 ((aU av eZ).f0)] (by rfl) rfl rfl ar ?_
              with_reducible refine (gI.calls ((aU av eZ).f0) true _ A26.out).mono ?_
              rintro e w' ⟨rfl, ⟨nd, rfl⟩⟩
              refine ⟨_, rfl, ?_⟩
              refine hK.out _ _ ⟨bc eT.out 0, bc eT.out 1, bc bQ.out 0, bc bQ.out 1, bc bQ.out 2, bc bQ.out 3, ((HB.out.cell (World.block_lt_of_cell? w _ nU)).trans nU), ((HB.out.cell (World.block_lt_of_cell? w _ nT)).trans nT)⟩ (fun hHeld => ?_)
              clear hK K
              refine nx 58 ?_
              refine px 8 59 (rs true [9, 17]) HT_.out ?_
              refine px 9 60 (rs true [10, 16]) HT_.out ?_
              refine px 10 61 (rs true [11, 15]) HT_.out ?_
              refine px 11 62 (rs true [12, 14]) HT_.out ?_
              refine px 12 63 (rs true [13, 13]) HT_.out ?_
              refine px 13 64 (rs true [14, 12]) HT_.out ?_
              refine px 14 65 (rs true [15, 11]) HT_.out ?_
              refine px 16 67 (rs true [15, 1, 1, 9]) HT_.out ?_
              refine px 18 69 (rs true [15, 1, 1, 1, 1, 7]) HT_.out ?_
              refine px 19 70 (rs true [15, 1, 1, 1, 2, 6]) HT_.out ?_
              refine tx 15 66 (rs true [17, 1, 2, 6]) HT_.out HW_.out hHeld ?_
              refine tx 17 68 (rs true [20, 6]) HT_.out HW_.out hHeld ?_
              refine px 20 71 (rs true [21, 5]) HT_.out ?_
              refine px 21 72 (rs true [22, 4]) HT_.out ?_
              refine tx 22 73 (rs true [23, 3]) HT_.out HW_.out hHeld ?_
              refine px 23 74 (rs true [24, 2]) HT_.out ?_
              refine px 24 75 (rs true [25, 1]) HT_.out ?_
              refine px 25 76 (rs true [26]) HT_.out ?_
              refine tV (kU HT_.out (by kernel_rfl)) ?_
              try go_wp2
              go_ret
              exact ⟨by first | rfl | (simp [gu, gB] <;> rfl) | (simp only [← aiX]; first | rfl | (simp [gu, gB] <;> rfl)) | (simp [*, gu, gB] <;> rfl), bl2 HB.out jy.out pF.out⟩
             ·rw [if_neg c32] at H
              have am0 : decide (((aU av eZ).f0) ≤ ((aU av (aaL)).f0)) = false := decide_eq_false c32
              clear c32
              have H' := am H
              clear H
              have vT : 0 ≤ (eZ : Int) := of_decide_eq_true asm
              have vU : eZ < (av.length : Int) := of_decide_eq_true asm
              obtain ⟨pE, iK, iL, ad8, kC, kD, nD, nE⟩ := kZ fK.out eZ vT vU
              cases ad8
              replace kC := (HB.out.cell (World.block_lt_of_cell? w _ kC)).trans kC
              replace kD := (HB.out.cell (World.block_lt_of_cell? w _ kD)).trans kD
              have rE := am nE
              have rF := am nD
              clear nE nD
              replace vT := eq_true vT
              replace vU := eq_true vU
              try go_wp2_with (first | ((with_reducible refine bq (N := 6) rfl ?_); refine bx 6 70 #[.int .i64 0, .slice none 0 0] ?_; intro fq hg w39 dL hb; have eT := am (dL); have aii := am ((bz1 hg HB.out jy.out : w.heap.size ≤ fq)); have pF := am ((bz1 hg HB.out jy.out : w.heap.size ≤ fq)); replace HB := am (au (bl1 HB.out jy.out) hb); have jL := am ((nl hg bQ.out : iM ≠ fq)); have mG := am ((ng hg bQ.out : fq ≠ iM)); replace bQ := am (ak (kp bQ.out) hb); clear hb dL hg; have atj := mG.out; have atl := jL.out; have aky : w39.cell? ⟨fq, 0, none⟩ = some (.int .i64 0) := bc eT.out 0; have akz : w39.cell? ⟨fq, 1, none⟩ = some (.slice none 0 0) := bc eT.out 1; have akA := aj eT.out 0; have akB := aj eT.out 1))
              have n0_ : ay (((w39.setCell ⟨fq, 0, none⟩ (.int .i64 ((aU av eZ).f0))).setCell ⟨fq, 1, none⟩ (.slice iK ((aU av eZ).f1).length iL)).heap[iM]? = some (.cells #[.int .i64 aQ, .int .i64 aR, .slice cu aH.length bW, .slice (some pE) av.length bZ] 28 (0, 0))) := ⟨kf bQ.out jL.out⟩
              have n1_ : ay (((w39.setCell ⟨fq, 0, none⟩ (.int .i64 ((aU av eZ).f0))).setCell ⟨fq, 1, none⟩ (.slice iK ((aU av eZ).f1).length iL)).heap[fq]? = some (.cells #[.int .i64 ((aU av eZ).f0), .slice iK ((aU av eZ).f1).length iL] 70 (0, 0))) := ⟨by (with_reducible repeat (first | refine aM ?_ _ | refine aI ?_ | refine aA ?_ _)); refine bX (cs := #[.int .i64 ((aU av eZ).f0), .slice none 0 0]) ?_ 1 _ rfl; (with_reducible repeat (first | refine aM ?_ _ | refine aI ?_ | refine aA ?_ _)); refine bX (cs := #[.int .i64 0, .slice none 0 0]) ?_ 0 _ rfl; (with_reducible repeat (first | refine aM ?_ _ | refine aI ?_ | refine aA ?_ _)); exact eT.out⟩
              have n2_ : ay (Below w.heap.size w ((w39.setCell ⟨fq, 0, none⟩ (.int .i64 ((aU av eZ).f0))).setCell ⟨fq, 1, none⟩ (.slice iK ((aU av eZ).f1).length iL))) := ⟨bl2 HB.out jy.out pF.out⟩
              (try clear bQ)
              (try clear eT)
              (try clear HB)
              generalize ((w39.setCell ⟨fq, 0, none⟩ (.int .i64 ((aU av eZ).f0))).setCell ⟨fq, 1, none⟩ (.slice iK ((aU av eZ).f1).length iL)) = w42 at n0_ n1_ n2_ ⊢
              have bQ := n0_
              have eT := n1_
              have HB := n2_
              clear n0_ n1_ n2_
              replace bQ := am (aI bQ.out)
              replace eT := am (aI eT.out)
              replace HB := am (dx HB.out)
              have agV : 0 ≤ ((aaL) : Int) := of_decide_eq_true asm
              have agW : (aaL) < (av.length : Int) := of_decide_eq_true asm
              obtain ⟨ala, agX, agY, ard, pG, pI, zZ, z8⟩ := kZ fK.out (aaL) agV agW
              have nT := pI
              have nU := pG
              obtain rfl : pE = ala := (by injection ard)
              replace pG := (HB.out.cell (World.block_lt_of_cell? w _ pG)).trans pG
              replace pI := (HB.out.cell (World.block_lt_of_cell? w _ pI)).trans pI
              have ad9 := am z8
              have am1 := am zZ
              clear z8 zZ
              replace agV := eq_true agV
              replace agW := eq_true agW
              refine nW (n := 26) (S := fun w' => w'.cell? ⟨fq, 0, none⟩ = some (.int .i64 ((aU av eZ).f0)) ∧ w'.cell? ⟨fq, 1, none⟩ = some (.slice iK ((aU av eZ).f1).length iL) ∧ w'.cell? ⟨iM, 0, none⟩ = some (.int .i64 aQ) ∧ w'.cell? ⟨iM, 1, none⟩ = some (.int .i64 aR) ∧ w'.cell? ⟨iM, 2, none⟩ = some (.slice cu aH.length bW) ∧ w'.cell? ⟨iM, 3, none⟩ = some (.slice (some pE) av.length bZ) ∧ w'.cell? (pE.add (((aaL)).toNat * 2)) = some (.int .i64 ((aU av (aaL)).f0)) ∧ w'.cell? ⟨(pE.add (((aaL)).toNat * 2)).block, (pE.add (((aaL)).toNat * 2)).off + 1, none⟩ = some (.slice agX ((aU av (aaL)).f1).length agY)) (ds := []) (rs false [26]) (by kernel_rfl) rfl rfl ⟨bc eT.out 0, bc eT.out 1, bc bQ.out 0, bc bQ.out 1, bc bQ.out 2, bc bQ.out 3, ((HB.out.cell (World.block_lt_of_cell? w _ nU)).trans nU), ((HB.out.cell (World.block_lt_of_cell? w _ nT)).trans nT)⟩ (fun hHeld => ?_); refine ji bJ.ak8 bJ.ae9 (fun HT_ HW_ => ?_)
              generalize w42.drew = w43 at bQ eT HB ad9 pG pI hHeld ⊢
              refine px 0 51 (rs true [1, 25]) HT_.out ?_
              refine tx 1 52 (rs true [2, 24]) HT_.out HW_.out hHeld ?_
              refine oZ (i := 2) (N := some 53) (rs true [3, 23]) rfl rfl (gM HT_.out (by kernel_rfl)) (by decide) (fun K hK => ?_)
              refine kg Try.func31 (by kernel_rfl) rfl #[.slice iK ((aU av eZ).f1).length iL] (by rfl) rfl rfl ar ?_
              with_reducible refine (bE.calls k3 _ _ ((aU av eZ).f1) true _ ?bH ?bI A24.out).mono ?_
              (case bH => exact kc (Kd.bf rE.out HB.out))
              (case bI => exact rF.out)
              rintro e w44 ⟨rfl, hb⟩
              refine ⟨_, rfl, ?_⟩
              replace bQ := am (ak (kp bQ.out) hb)
              replace eT := am (ak (kp eT.out) hb)
              replace HB := am (au (bl2 HB.out jy.out pF.out) hb)
              (try clear hb)
              refine hK.out _ _ ⟨bc eT.out 0, bc eT.out 1, bc bQ.out 0, bc bQ.out 1, bc bQ.out 2, bc bQ.out 3, ((HB.out.cell (World.block_lt_of_cell? w _ nU)).trans nU), ((HB.out.cell (World.block_lt_of_cell? w _ nT)).trans nT)⟩ (fun hHeld => ?_)
              clear hK K
              refine nx 53 ?_
              refine px 3 54 (rs true [4, 22]) HT_.out ?_
              refine px 4 55 (rs true [5, 21]) HT_.out ?_
              refine px 5 56 (rs true [6, 20]) HT_.out ?_
              refine tx 6 57 (rs true [7, 19]) HT_.out HW_.out hHeld ?_
              refine oZ (i := 7) (N := some 58) (rs true [8, 18]) rfl rfl (gM HT_.out (by kernel_rfl)) (by decide) (fun K hK => ?_)
              refine kg Try.func55 (by kernel_rfl) rfl #[.int .i64 ((aU av eZ).f0)] (by rfl) rfl rfl ar ?_
              with_reducible refine (gI.calls ((aU av eZ).f0) true _ A26.out).mono ?_
              rintro e w' ⟨rfl, ⟨nd, rfl⟩⟩
              refine ⟨_, rfl, ?_⟩
              refine hK.out _ _ ⟨bc eT.out 0, bc eT.out 1, bc bQ.out 0, bc bQ.out 1, bc bQ.out 2, bc bQ.out 3, ((HB.out.cell (World.block_lt_of_cell? w _ nU)).trans nU), ((HB.out.cell (World.block_lt_of_cell? w _ nT)).trans nT)⟩ (fun hHeld => ?_)
              clear hK K
              refine nx 58 ?_
              refine px 8 59 (rs true [9, 17]) HT_.out ?_
              refine px 9 60 (rs true [10, 16]) HT_.out ?_
              refine px 10 61 (rs true [11, 15]) HT_.out ?_
              refine px 11 62 (rs true [12, 14]) HT_.out ?_
              refine px 12 63 (rs true [13, 13]) HT_.out ?_
              refine px 13 64 (rs true [14, 12]) HT_.out ?_
              refine px 14 65 (rs true [15, 11]) HT_.out ?_
              refine px 16 67 (rs true [15, 1, 1, 9]) HT_.out ?_
              refine px 18 69 (rs true [15, 1, 1, 1, 1, 7]) HT_.out ?_
              refine px 19 70 (rs true [15, 1, 1, 1, 2, 6]) HT_.out ?_
              refine tx 15 66 (rs true [17, 1, 2, 6]) HT_.out HW_.out hHeld ?_
              refine tx 17 68 (rs true [20, 6]) HT_.out HW_.out hHeld ?_
              refine px 20 71 (rs true [21, 5]) HT_.out ?_
              refine px 21 72 (rs true [22, 4]) HT_.out ?_
              refine tx 22 73 (rs true [23, 3]) HT_.out HW_.out hHeld ?_
              refine px 23 74 (rs true [24, 2]) HT_.out ?_
              refine px 24 75 (rs true [25, 1]) HT_.out ?_
              refine px 25 76 (rs true [26]) HT_.out ?_
              refine tV (kU HT_.out (by kernel_rfl)) ?_
              try go_wp2
              go_roundg k3
              case measure => have := HJ1.out; have := HK2.out; have := HK3.out; omega
              case rel => exact ⟨(wrap64 (eZ + 1)), sm, H', ⟨by have := HJ1.out; have := HK2.out; have := HK3.out; omega⟩, ⟨kp bQ.out⟩, ⟨bl2 HB.out jy.out pF.out⟩⟩
            ·rw [if_neg c28] at H
             have ak9 : decide (0 < eZ) = false := decide_eq_false c28
             clear c28
             have H' := am H
             clear H
             have vT : 0 ≤ (eZ : Int) := of_decide_eq_true asm
             have vU : eZ < (av.length : Int) := of_decide_eq_true asm
             obtain ⟨pE, iK, iL, ad8, kC, kD, nD, nE⟩ := kZ fK.out eZ vT vU
             cases ad8
             replace kC := (HB.out.cell (World.block_lt_of_cell? w _ kC)).trans kC
             replace kD := (HB.out.cell (World.block_lt_of_cell? w _ kD)).trans kD
             have rE := am nE
             have rF := am nD
             clear nE nD
             replace vT := eq_true vT
             replace vU := eq_true vU
             try go_wp2_with (first | ((with_reducible refine bq (N := 6) rfl ?_); refine bx 6 70 #[.int .i64 0, .slice none 0 0] ?_; intro fq hg w45 dL hb; have eT := am (dL); have aii := am ((bz1 hg HB.out jy.out : w.heap.size ≤ fq)); have pF := am ((bz1 hg HB.out jy.out : w.heap.size ≤ fq)); replace HB := am (au (bl1 HB.out jy.out) hb); have jL := am ((nl hg bQ.out : iM ≠ fq)); have mG := am ((ng hg bQ.out : fq ≠ iM)); replace bQ := am (ak (kp bQ.out) hb); clear hb dL hg; have amw := mG.out; have amx := jL.out; have agn : w45.cell? ⟨fq, 0, none⟩ = some (.int .i64 0) := bc eT.out 0; have agp : w45.cell? ⟨fq, 1, none⟩ = some (.slice none 0 0) := bc eT.out 1; have agq := aj eT.out 0; have agr := aj eT.out 1))
             have n0_ : ay (((w45.setCell ⟨fq, 0, none⟩ (.int .i64 ((aU av eZ).f0))).setCell ⟨fq, 1, none⟩ (.slice iK ((aU av eZ).f1).length iL)).heap[iM]? = some (.cells #[.int .i64 aQ, .int .i64 aR, .slice cu aH.length bW, .slice (some pE) av.length bZ] 28 (0, 0))) := ⟨kf bQ.out jL.out⟩
             have n1_ : ay (((w45.setCell ⟨fq, 0, none⟩ (.int .i64 ((aU av eZ).f0))).setCell ⟨fq, 1, none⟩ (.slice iK ((aU av eZ).f1).length iL)).heap[fq]? = some (.cells #[.int .i64 ((aU av eZ).f0), .slice iK ((aU av eZ).f1).length iL] 70 (0, 0))) := ⟨by (with_reducible repeat (first | refine aM ?_ _ | refine aI ?_ | refine aA ?_ _)); refine bX (cs := #[.int .i64 ((aU av eZ).f0), .slice none 0 0]) ?_ 1 _ rfl; (with_reducible repeat (first | refine aM ?_ _ | refine aI ?_ | refine aA ?_ _)); refine bX (cs := #[.int .i64 0, .slice none 0 0]) ?_ 0 _ rfl; (with_reducible repeat (first | refine aM ?_ _ | refine aI ?_ | refine aA ?_ _)); exact eT.out⟩
             have n2_ : ay (Below w.heap.size w ((w45.setCell ⟨fq, 0, none⟩ (.int .i64 ((aU av eZ).f0))).setCell ⟨fq, 1, none⟩ (.slice iK ((aU av eZ).f1).length iL))) := ⟨bl2 HB.out jy.out pF.out⟩
             (try clear bQ)
             (try clear eT)
             (try clear HB)
             generalize ((w45.setCell ⟨fq, 0, none⟩ (.int .i64 ((aU av eZ).f0))).setCell ⟨fq, 1, none⟩ (.slice iK ((aU av eZ).f1).length iL)) = w48 at n0_ n1_ n2_ ⊢
             have bQ := n0_
             have eT := n1_
             have HB := n2_
             clear n0_ n1_ n2_
             replace bQ := am (aI bQ.out)
             replace eT := am (aI eT.out)
             replace HB := am (dx HB.out)
             refine nW (n := 26) (S := fun w' => w'.cell? ⟨fq, 0, none⟩ = some (.int .i64 ((aU av eZ).f0)) ∧ w'.cell? ⟨fq, 1, none⟩ = some (.slice iK ((aU av eZ).f1).length iL)) (ds := []) (rs false [26]) (by kernel_rfl) rfl rfl ⟨bc eT.out 0, bc eT.out 1⟩ (fun hHeld => ?_); refine ji bJ.ak8 bJ.ae9 (fun HT_ HW_ => ?_)
             generalize w48.drew = w49 at bQ eT HB hHeld ⊢
             refine px 0 51 (rs true [1, 25]) HT_.out ?_
             refine tx 1 52 (rs true [2, 24]) HT_.out HW_.out hHeld ?_
             refine oZ (i := 2) (N := some 53) (rs true [3, 23]) rfl rfl (gM HT_.out (by kernel_rfl)) (by decide) (fun K hK => ?_)
             refine kg Try.func31 (by kernel_rfl) rfl #[.slice iK ((aU av eZ).f1).length iL] (by rfl) rfl rfl ar ?_
             with_reducible refine (bE.calls k3 _ _ ((aU av eZ).f1) true _ ?bH ?bI A24.out).mono ?_
             (case bH => exact kc (Kd.bf rE.out HB.out))
             (case bI => exact rF.out)
             rintro e w50 ⟨rfl, hb⟩
             refine ⟨_, rfl, ?_⟩
             replace bQ := am (ak (kp bQ.out) hb)
             replace eT := am (ak (kp eT.out) hb)
             replace HB := am (au (bl2 HB.out jy.out pF.out) hb)
             (try clear hb)
             refine hK.out _ _ ⟨bc eT.out 0, bc eT.out 1⟩ (fun hHeld => ?_)
             clear hK K
             refine nx 53 ?_
             refine px 3 54 (rs true [4, 22]) HT_.out ?_
             refine px 4 55 (rs true [5, 21]) HT_.out ?_
             refine px 5 56 (rs true [6, 20]) HT_.out ?_
             refine tx 6 57 (rs true [7, 19]) HT_.out HW_.out hHeld ?_
             refine oZ (i := 7) (N := some 58) (rs true [8, 18]) rfl rfl (gM HT_.out (by kernel_rfl)) (by decide) (fun K hK => ?_)
             refine kg Try.func55 (by kernel_rfl) rfl #[.int .i64 ((aU av eZ).f0)] (by rfl) rfl rfl ar ?_
             with_reducible refine (gI.calls ((aU av eZ).f0) true _ A26.out).mono ?_
             rintro e w' ⟨rfl, ⟨nd, rfl⟩⟩
             refine ⟨_, rfl, ?_⟩
             refine hK.out _ _ ⟨bc eT.out 0, bc eT.out 1⟩ (fun hHeld => ?_)
             clear hK K
             refine nx 58 ?_
             refine px 8 59 (rs true [9, 17]) HT_.out ?_
             refine px 9 60 (rs true [10, 16]) HT_.out ?_
             refine px 10 61 (rs true [11, 15]) HT_.out ?_
             refine px 11 62 (rs true [12, 14]) HT_.out ?_
             refine px 12 63 (rs true [13, 13]) HT_.out ?_
             refine px 13 64 (rs true [14, 12]) HT_.out ?_
             refine pu 14 65 (rs true [15, 11]) HT_.out ?_
             refine pu 15 66 (rs true [16, 10]) HT_.out ?_
             refine pu 16 67 (rs true [17, 9]) HT_.out ?_
             refine pu 17 68 (rs true [18, 8]) HT_.out ?_
             refine pu 18 69 (rs true [19, 7]) HT_.out ?_
             refine pu 19 70 (rs true [20, 6]) HT_.out ?_
             refine pu 20 71 (rs true [21, 5]) HT_.out ?_
             refine pu 21 72 (rs true [22, 4]) HT_.out ?_
             refine pu 22 73 (rs true [23, 3]) HT_.out ?_
             refine pu 23 74 (rs true [24, 2]) HT_.out ?_
             refine px 24 75 (rs true [25, 1]) HT_.out ?_
             refine px 25 76 (rs true [26]) HT_.out ?_
             refine tV (kU HT_.out (by kernel_rfl)) ?_
             try go_wp2
             go_roundg k3
             case measure => have := HJ1.out; have := HK2.out; have := HK3.out; omega
             case rel => exact ⟨(wrap64 (eZ + 1)), sm, H', ⟨by have := HJ1.out; have := HK2.out; have := HK3.out; omega⟩, ⟨kp bQ.out⟩, ⟨bl2 HB.out jy.out pF.out⟩⟩
           ·replace c27 := Bool.eq_false_iff.mpr c27
            subst c27
            have H1 : (some false) = some r := by rw [if_neg (show ¬ (false = true) by decide)] at H; exact H
            clear H
            have H := H1
            clear H1
            obtain rfl := Option.some.inj H
            have vT : 0 ≤ (eZ : Int) := of_decide_eq_true asm
            have vU : eZ < (av.length : Int) := of_decide_eq_true asm
            obtain ⟨pE, iK, iL, ad8, kC, kD, nD, nE⟩ := kZ fK.out eZ vT vU
            cases ad8
            replace kC := (HB.out.cell (World.block_lt_of_cell? w _ kC)).trans kC
            replace kD := (HB.out.cell (World.block_lt_of_cell? w _ kD)).trans kD
            have rE := am nE
            have rF := am nD
            clear nE nD
            replace vT := eq_true vT
            replace vU := eq_true vU
            try go_wp2_with (first | ((with_reducible refine bq (N := 6) rfl ?_); refine bx 6 70 #[.int .i64 0, .slice none 0 0] ?_; intro fq hg w51 dL hb; have eT := am (dL); have aii := am ((bz1 hg HB.out jy.out : w.heap.size ≤ fq)); have pF := am ((bz1 hg HB.out jy.out : w.heap.size ≤ fq)); replace HB := am (au (bl1 HB.out jy.out) hb); have jL := am ((nl hg bQ.out : iM ≠ fq)); have mG := am ((ng hg bQ.out : fq ≠ iM)); replace bQ := am (ak (kp bQ.out) hb); clear hb dL hg; have aCQ := mG.out; have aCR := jL.out; have azo : w51.cell? ⟨fq, 0, none⟩ = some (.int .i64 0) := bc eT.out 0; have azp : w51.cell? ⟨fq, 1, none⟩ = some (.slice none 0 0) := bc eT.out 1; have azq := aj eT.out 0; have azr := aj eT.out 1))
            have n0_ : ay (((w51.setCell ⟨fq, 0, none⟩ (.int .i64 ((aU av eZ).f0))).setCell ⟨fq, 1, none⟩ (.slice iK ((aU av eZ).f1).length iL)).heap[iM]? = some (.cells #[.int .i64 aQ, .int .i64 aR, .slice cu aH.length bW, .slice (some pE) av.length bZ] 28 (0, 0))) := ⟨kf bQ.out jL.out⟩
            have n1_ : ay (((w51.setCell ⟨fq, 0, none⟩ (.int .i64 ((aU av eZ).f0))).setCell ⟨fq, 1, none⟩ (.slice iK ((aU av eZ).f1).length iL)).heap[fq]? = some (.cells #[.int .i64 ((aU av eZ).f0), .slice iK ((aU av eZ).f1).length iL] 70 (0, 0))) := ⟨by (with_reducible repeat (first | refine aM ?_ _ | refine aI ?_ | refine aA ?_ _)); refine bX (cs := #[.int .i64 ((aU av eZ).f0), .slice none 0 0]) ?_ 1 _ rfl; (with_reducible repeat (first | refine aM ?_ _ | refine aI ?_ | refine aA ?_ _)); refine bX (cs := #[.int .i64 0, .slice none 0 0]) ?_ 0 _ rfl; (with_reducible repeat (first | refine aM ?_ _ | refine aI ?_ | refine aA ?_ _)); exact eT.out⟩
            have n2_ : ay (Below w.heap.size w ((w51.setCell ⟨fq, 0, none⟩ (.int .i64 ((aU av eZ).f0))).setCell ⟨fq, 1, none⟩ (.slice iK ((aU av eZ).f1).length iL))) := ⟨bl2 HB.out jy.out pF.out⟩
            (try clear bQ)
            (try clear eT)
            (try clear HB)
            generalize ((w51.setCell ⟨fq, 0, none⟩ (.int .i64 ((aU av eZ).f0))).setCell ⟨fq, 1, none⟩ (.slice iK ((aU av eZ).f1).length iL)) = w54 at n0_ n1_ n2_ ⊢
            have bQ := n0_
            have eT := n1_
            have HB := n2_
            clear n0_ n1_ n2_
            replace bQ := am (aI bQ.out)
            replace eT := am (aI eT.out)
            replace HB := am (dx HB.out)
            refine nW (n := 26) (S := fun w' => w'.cell? ⟨fq, 0, none⟩ = some (.int .i64 ((aU av eZ).f0)) ∧ w'.cell? ⟨fq, 1, none⟩ = some (.slice iK ((aU av eZ).f1).length iL)) (ds := []) (rs false [26]) (by kernel_rfl) rfl rfl ⟨bc eT.out 0, bc eT.out 1⟩ (fun hHeld => ?_); refine ji bJ.ak8 bJ.ae9 (fun HT_ HW_ => ?_)
            generalize w54.drew = w55 at bQ eT HB hHeld ⊢
            refine px 0 51 (rs true [1, 25]) HT_.out ?_
            refine tx 1 52 (rs true [2, 24]) HT_.out HW_.out hHeld ?_
            refine oZ (i := 2) (N := some 53) (rs true [3, 23]) rfl rfl (gM HT_.out (by kernel_rfl)) (by decide) (fun K hK => ?_)
            refine kg Try.func31 (by kernel_rfl) rfl #[.slice iK ((aU av eZ).f1).length iL] (by rfl) rfl rfl ar ?_
            with_reducible refine (bE.calls k3 _ _ ((aU av eZ).f1) true _ ?bH ?bI A24.out).mono ?_
            (case bH => exact kc (Kd.bf rE.out HB.out))
            (case bI => exact rF.out)
            rintro e w56 ⟨rfl, hb⟩
            refine ⟨_, rfl, ?_⟩
            replace bQ := am (ak (kp bQ.out) hb)
            replace eT := am (ak (kp eT.out) hb)
            replace HB := am (au (bl2 HB.out jy.out pF.out) hb)
            (try clear hb)
            refine hK.out _ _ ⟨bc eT.out 0, bc eT.out 1⟩ (fun hHeld => ?_)
            clear hK K
            refine nx 53 ?_
            refine px 3 54 (rs true [4, 22]) HT_.out ?_
            refine px 4 55 (rs true [5, 21]) HT_.out ?_
            refine px 5 56 (rs true [6, 20]) HT_.out ?_
            refine tx 6 57 (rs true [7, 19]) HT_.out HW_.out hHeld ?_
            refine oZ (i := 7) (N := some 58) (rs true [8, 18]) rfl rfl (gM HT_.out (by kernel_rfl)) (by decide) (fun K hK => ?_)
            refine kg Try.func55 (by kernel_rfl) rfl #[.int .i64 ((aU av eZ).f0)] (by rfl) rfl rfl ar ?_
            with_reducible refine (gI.calls ((aU av eZ).f0) false _ A26.out).mono ?_
            rintro e w' ⟨rfl, ⟨nd, rfl⟩⟩
            refine ⟨_, rfl, ?_⟩
            refine hK.out _ _ ⟨bc eT.out 0, bc eT.out 1⟩ (fun hHeld => ?_)
            clear hK K
            refine nx 58 ?_
            refine px 8 59 (rs true [9, 17]) HT_.out ?_
            refine px 9 60 (rs true [10, 16]) HT_.out ?_
            refine px 10 61 (rs true [11, 15]) HT_.out ?_
            refine pu 11 62 (rs true [12, 14]) HT_.out ?_
            refine pu 12 63 (rs true [13, 13]) HT_.out ?_
            refine pu 13 64 (rs true [14, 12]) HT_.out ?_
            refine pu 14 65 (rs true [15, 11]) HT_.out ?_
            refine pu 15 66 (rs true [16, 10]) HT_.out ?_
            refine pu 16 67 (rs true [17, 9]) HT_.out ?_
            refine pu 17 68 (rs true [18, 8]) HT_.out ?_
            refine pu 18 69 (rs true [19, 7]) HT_.out ?_
            refine pu 19 70 (rs true [20, 6]) HT_.out ?_
            refine pu 20 71 (rs true [21, 5]) HT_.out ?_
            refine pu 21 72 (rs true [22, 4]) HT_.out ?_
            refine pu 22 73 (rs true [23, 3]) HT_.out ?_
            refine pu 23 74 (rs true [24, 2]) HT_.out ?_
            refine pu 24 75 (rs true [25, 1]) HT_.out ?_
            refine px 25 76 (rs true [26]) HT_.out ?_
            refine tV (kU HT_.out (by kernel_rfl)) ?_
            try go_wp2
            go_ret
            exact ⟨rt, bl2 HB.out jy.out pF.out⟩
          ·replace c25 := Bool.eq_false_iff.mpr c25
           subst c25
           have H1 : (some false) = some r := by rw [if_neg (show ¬ (false = true) by decide)] at H; exact H
           clear H
           have H := H1
           clear H1
           obtain rfl := Option.some.inj H
           have vT : 0 ≤ (eZ : Int) := of_decide_eq_true asm
           have vU : eZ < (av.length : Int) := of_decide_eq_true asm
           obtain ⟨pE, iK, iL, ad8, kC, kD, nD, nE⟩ := kZ fK.out eZ vT vU
           cases ad8
           replace kC := (HB.out.cell (World.block_lt_of_cell? w _ kC)).trans kC
           replace kD := (HB.out.cell (World.block_lt_of_cell? w _ kD)).trans kD
           have rE := am nE
           have rF := am nD
           clear nE nD
           replace vT := eq_true vT
           replace vU := eq_true vU
           try go_wp2_with (first | ((with_reducible refine bq (N := 6) rfl ?_); refine bx 6 70 #[.int .i64 0, .slice none 0 0] ?_; intro fq hg w57 dL hb; have eT := am (dL); have aii := am ((bz1 hg HB.out jy.out : w.heap.size ≤ fq)); have pF := am ((bz1 hg HB.out jy.out : w.heap.size ≤ fq)); replace HB := am (au (bl1 HB.out jy.out) hb); have jL := am ((nl hg bQ.out : iM ≠ fq)); have mG := am ((ng hg bQ.out : fq ≠ iM)); replace bQ := am (ak (kp bQ.out) hb); clear hb dL hg; have aCS := mG.out; have aCT := jL.out; have azs : w57.cell? ⟨fq, 0, none⟩ = some (.int .i64 0) := bc eT.out 0; have azt : w57.cell? ⟨fq, 1, none⟩ = some (.slice none 0 0) := bc eT.out 1; have azu := aj eT.out 0; have azv := aj eT.out 1))
           have n0_ : ay (((w57.setCell ⟨fq, 0, none⟩ (.int .i64 ((aU av eZ).f0))).setCell ⟨fq, 1, none⟩ (.slice iK ((aU av eZ).f1).length iL)).heap[iM]? = some (.cells #[.int .i64 aQ, .int .i64 aR, .slice cu aH.length bW, .slice (some pE) av.length bZ] 28 (0, 0))) := ⟨kf bQ.out jL.out⟩
           have n1_ : ay (((w57.setCell ⟨fq, 0, none⟩ (.int .i64 ((aU av eZ).f0))).setCell ⟨fq, 1, none⟩ (.slice iK ((aU av eZ).f1).length iL)).heap[fq]? = some (.cells #[.int .i64 ((aU av eZ).f0), .slice iK ((aU av eZ).f1).length iL] 70 (0, 0))) := ⟨by (with_reducible repeat (first | refine aM ?_ _ | refine aI ?_ | refine aA ?_ _)); refine bX (cs := #[.int .i64 ((aU av eZ).f0), .slice none 0 0]) ?_ 1 _ rfl; (with_reducible repeat (first | refine aM ?_ _ | refine aI ?_ | refine aA ?_ _)); refine bX (cs := #[.int .i64 0, .slice none 0 0]) ?_ 0 _ rfl; (with_reducible repeat (first | refine aM ?_ _ | refine aI ?_ | refine aA ?_ _)); exact eT.out⟩
           have n2_ : ay (Below w.heap.size w ((w57.setCell ⟨fq, 0, none⟩ (.int .i64 ((aU av eZ).f0))).setCell ⟨fq, 1, none⟩ (.slice iK ((aU av eZ).f1).length iL))) := ⟨bl2 HB.out jy.out pF.out⟩
           (try clear bQ)
           (try clear eT)
           (try clear HB)
           generalize ((w57.setCell ⟨fq, 0, none⟩ (.int .i64 ((aU av eZ).f0))).setCell ⟨fq, 1, none⟩ (.slice iK ((aU av eZ).f1).length iL)) = w60 at n0_ n1_ n2_ ⊢
           have bQ := n0_
           have eT := n1_
           have HB := n2_
           clear n0_ n1_ n2_
           replace bQ := am (aI bQ.out)
           replace eT := am (aI eT.out)
           replace HB := am (dx HB.out)
           refine nW (n := 26) (S := fun w' => w'.cell? ⟨fq, 0, none⟩ = some (.int .i64 ((aU av eZ).f0)) ∧ w'.cell? ⟨fq, 1, none⟩ = some (.slice iK ((aU av eZ).f1).length iL)) (ds := []) (rs false [26]) (by kernel_rfl) rfl rfl ⟨bc eT.out 0, bc eT.out 1⟩ (fun hHeld => ?_); refine ji bJ.ak8 bJ.ae9 (fun HT_ HW_ => ?_)
           generalize w60.drew = w61 at bQ eT HB hHeld ⊢
           refine px 0 51 (rs true [1, 25]) HT_.out ?_
           refine tx 1 52 (rs true [2, 24]) HT_.out HW_.out hHeld ?_
           refine oZ (i := 2) (N := some 53) (rs true [3, 23]) rfl rfl (gM HT_.out (by kernel_rfl)) (by decide) (fun K hK => ?_)
           refine kg Try.func31 (by kernel_rfl) rfl #[.slice iK ((aU av eZ).f1).length iL] (by rfl) rfl rfl ar ?_
           with_reducible refine (bE.calls k3 _ _ ((aU av eZ).f1) false _ ?bH ?bI A24.out).mono ?_
           (case bH => exact kc (Kd.bf rE.out HB.out))
           (case bI => exact rF.out)
           rintro e w62 ⟨rfl, hb⟩
           refine ⟨_, rfl, ?_⟩
           replace bQ := am (ak (kp bQ.out) hb)
           replace eT := am (ak (kp eT.out) hb)
           replace HB := am (au (bl2 HB.out jy.out pF.out) hb)
           (try clear hb)
           refine hK.out _ _ ⟨bc eT.out 0, bc eT.out 1⟩ (fun hHeld => ?_)
           clear hK K
           refine nx 53 ?_
           refine px 3 54 (rs true [4, 22]) HT_.out ?_
           refine px 4 55 (rs true [5, 21]) HT_.out ?_
           refine pu 5 56 (rs true [6, 20]) HT_.out ?_
           refine pu 6 57 (rs true [7, 19]) HT_.out ?_
           refine pu 7 58 (rs true [8, 18]) HT_.out ?_
           refine pu 8 59 (rs true [9, 17]) HT_.out ?_
           refine px 9 60 (rs true [10, 16]) HT_.out ?_
           refine px 10 61 (rs true [11, 15]) HT_.out ?_
           refine pu 11 62 (rs true [12, 14]) HT_.out ?_
           refine pu 12 63 (rs true [13, 13]) HT_.out ?_
           refine pu 13 64 (rs true [14, 12]) HT_.out ?_
           refine pu 14 65 (rs true [15, 11]) HT_.out ?_
           refine pu 15 66 (rs true [16, 10]) HT_.out ?_
           refine pu 16 67 (rs true [17, 9]) HT_.out ?_
           refine pu 17 68 (rs true [18, 8]) HT_.out ?_
           refine pu 18 69 (rs true [19, 7]) HT_.out ?_
           refine pu 19 70 (rs true [20, 6]) HT_.out ?_
           refine pu 20 71 (rs true [21, 5]) HT_.out ?_
           refine pu 21 72 (rs true [22, 4]) HT_.out ?_
           refine pu 22 73 (rs true [23, 3]) HT_.out ?_
           refine pu 23 74 (rs true [24, 2]) HT_.out ?_
           refine pu 24 75 (rs true [25, 1]) HT_.out ?_
           refine px 25 76 (rs true [26]) HT_.out ?_
           refine tV (kU HT_.out (by kernel_rfl)) ?_
           try go_wp2
           go_ret
           exact ⟨rt, bl2 HB.out jy.out pF.out⟩
         ·rw [if_neg c21] at H
          have acZ : decide (eZ < (av.length : Int)) = false := decide_eq_false c21
          clear c21
          obtain rfl := Option.some.inj H
          go_wp2
          go_ret
          exact ⟨rt, bl1 HB.out jy.out⟩
end Go.Proofs.Ytmbmalkpmanaaaa.P

/- Lemmas for laws of chapter 7: what the functions that they reach compute. No condition of its own. -/
import Derived.Test.YtmbmalkpmanaaaaYG4
import Derived.Test.YtmbmalkpmanaaaaYG2
import Derived.Test.YtmbmalkpmanaaaaYG6
import Derived.Test.YtmbmalkpmanaaaaYG3
import Derived.Maps.OwnSet
namespace Go.Proofs.Ytmbmalkpmanaaaa.P
open Go.RowKit Go.Proofs.YtmbmalkpmanaaaaW.aK Go.Proofs.YtmbmalkpmanaaaaW.bK Go.Proofs.YtmbmalkpmanaaaaW.bM
attribute [local go_sem] dS dU fG fH dB dD dV dW   -- for this text's walks alone
set_option linter.unusedVariables false
set_option linter.unusedSimpArgs false
mutual
def yX.l0 : Nat → List (S23) → List (S23) → Int → Int → Option ((List (S23)) × Int)
 | 0, _, _, _, _ => none
 | k + 1, x0, x13, x14, x15 => if x15 < x14 then (if 0 ≤ x15 then (if x15 < (x13.length : Int) then (if ((aT x13 x15).f0) > ((aT x13 x15).f1) then (some (([] : List (S23)), 2)) else (yX.l0 k x0 x13 x14 (wrap64 (x15 + 1)))) else (none)) else (none)) else (yX.l1 k x0 x0 (x0.length : Int) 0)
def yX.l1 : Nat → List (S23) → List (S23) → Int → Int → Option ((List (S23)) × Int)
 | 0, _, _, _, _ => none
 | k + 1, x0, x25, x26, x27 => if x27 < x26 then (if 0 ≤ x27 then (if x27 < (x25.length : Int) then ((gJ.f ((aT x25 x27).f0)).bind fun t105 => (if t105 = true then ((gJ.f ((aT x25 x27).f1)).bind fun aIp => (if aIp = true then (yX.l1 k x0 x25 x26 (wrap64 (x27 + 1))) else (some (([] : List (S23)), 20)))) else (some (([] : List (S23)), 20)))) else (none)) else (none)) else ((aE4.f x0).bind fun t107 => ((aFo.f t107).bind fun lV => (yX.l2 k ([] : List (S23)) lV (t107.length : Int) 0)))
def yX.l2 : Nat → List (S23) → List (S23) → Int → Int → Option ((List (S23)) × Int)
 | 0, _, _, _, _ => none
 | k + 1, x9, x46, x47, x48 => if x48 < x47 then (if 0 ≤ x48 then (if x48 < (x46.length : Int) then (if (wrap64 ((x9.length : Int) - 1)) ≥ 0 then (if 0 ≤ (wrap64 ((x9.length : Int) - 1)) then (if (wrap64 ((x9.length : Int) - 1)) < (x9.length : Int) then (if ((aT x46 x48).f0) ≤ (wrap64 (((aT x9 (wrap64 ((x9.length : Int) - 1))).f1) + 1)) then (yX.l2 k (x9.set ((wrap64 ((x9.length : Int) - 1)) : Int).toNat (⟨(aT x9 (wrap64 ((x9.length : Int) - 1))).f0, mx ((aT x9 (wrap64 ((x9.length : Int) - 1))).f1) ((aT x46 x48).f1)⟩ : S23)) x46 x47 (wrap64 (x48 + 1))) else (if x9.length < 8796093022208 then (yX.l2 k (x9 ++ [(⟨(aT x46 x48).f0, (aT x46 x48).f1⟩ : S23)]) x46 x47 (wrap64 (x48 + 1))) else (none))) else (none)) else (none)) else (if x9.length < 8796093022208 then (yX.l2 k (x9 ++ [(⟨(aT x46 x48).f0, (aT x46 x48).f1⟩ : S23)]) x46 x47 (wrap64 (x48 + 1))) else (none))) else (none)) else (none)) else (some (x9, 0))
end
def yX.f (k : Nat) (l0 : List (S23)) : Option ((List (S23)) × Int) := yX.l0 k l0 l0 (l0.length : Int) 0
def yX.T20 : Bool × List (List Nat × List Nat) := (true, [([], []), ([0], [0]), ([1], [1]), ([2], [2]), ([3, 2], [2, 3]), ([2], [2]), ([2], [2]), ([5, 6, 2], [2, 5, 6]), ([7, 2], [2, 7]), ([8, 2], [2, 8]), ([9, 2], [2, 9]), ([4, 10, 2], [2, 4, 10]), ([2, 11], [2, 11])])
def yX.B20 : List Nat := [0, 1, 3, 7, 15, 7, 7, 103, 231, 487, 999, 2047, 4095]
theorem yX.aHx : xW .any (opsOf Try.f28 20) = yX.T20 := by kernel_rfl
theorem yX.aGC : pq yX.T20.2 yX.B20 = true := by kernel_rfl
def yX.T21 : Bool × List (List Nat × List Nat) := (true, [([], []), ([], []), ([], []), ([], []), ([2, 3], [2, 3]), ([4], [4]), ([5], [5]), ([], []), ([7], [7]), ([6, 8], [6, 8]), ([0, 1, 0, 1, 2, 3, 4, 5, 6, 7, 8, 9], [0, 1]), ([10, 0, 1, 2, 3, 4, 5, 6, 7, 8, 9], [10]), ([11, 9, 0, 1, 2, 3, 4, 5, 6, 7, 8, 9], [9, 11])])
def yX.B21 : List Nat := [0, 0, 0, 0, 12, 28, 60, 0, 128, 508, 1023, 2047, 4095]
theorem yX.aJ2 : xW .any (opsOf Try.f28 21) = yX.T21 := by kernel_rfl
theorem yX.aIq : pq yX.T21.2 yX.B21 = true := by kernel_rfl
set_option maxHeartbeats 8000000 in
set_option maxRecDepth 100000 in
theorem yX.calls (k : Nat) (A0 : Option Addr) (c0 : Nat) (l0 : List (S23)) (r1 : List (S23)) (r2 : Int) (w : World) (hr0 : Kd.C k23 w A0 l0.length l0) (hc0 : l0.length ≤ c0) (h : yX.f k l0 = some (r1, r2)) :
 Calls Try.prog 28 #[.slice A0 l0.length c0] w fun e w' => ∃ v0_ : Value, e = .returned (.tuple #[v0_, .int .i64 r2]) ∧ Kd.R k23 23 w' w.heap.size (fun _ => True) v0_ r1 ∧ Below w.heap.size w w' := by
 have afs := Try.underlying23
 have HR0 := am hr0
 have HC0 := am hc0
 clear hr0 hc0
 have HB := am (Below.refl w.heap.size w)
 have H : (yX.l0 k l0 l0 (l0.length : Int) 0) = some (r1, r2) := h
 clear h
 have H' := am H
 clear H
 go_enter Try.func28, Try.ntmps28
 go_wp2
 go_loopg [15] k (fun kq v15 w' => ∃ (jT : Int), v15 = .int .i64 jT ∧ ay (yX.l0 kq l0 l0 (l0.length : Int) jT = some (r1, r2)) ∧ ay (kq ≤ k) ∧ ay (Below w.heap.size w w'))
 case atStart => exact ⟨(0), sm, H', ⟨Nat.le_refl _⟩, ⟨bl HB.out⟩⟩
 case round =>
  clear H'
  obtain ⟨jT, rfl, HA, HK1, HB⟩ := hrel
  cases gk with
  | zero => exact absurd HA.out (by simp [yX.l0])
  | succ k1 =>
   have H := HA.out
   clear HA
   simp only [yX.l0] at H
   by_cases c2 : jT < (l0.length : Int)
   ·rw [if_pos c2] at H
    have ajF : decide (jT < (l0.length : Int)) = true := decide_eq_true c2
    clear c2
    by_cases c3 : 0 ≤ jT
    case neg => rw [if_neg c3] at H; exact absurd H (by simp)
    rw [if_pos c3] at H
    have aa8 : decide (0 ≤ jT) = true := decide_eq_true c3
    clear c3
    by_cases c4 : jT < (l0.length : Int)
    case neg => rw [if_neg c4] at H; exact absurd H (by simp)
    rw [if_pos c4] at H
    have vv : decide (jT < (l0.length : Int)) = true := decide_eq_true c4
    clear c4
    by_cases c5 : ((aT l0 jT).f0) > ((aT l0 jT).f1)
    ·rw [if_pos c5] at H
     have acT : decide (((aT l0 jT).f1) < ((aT l0 jT).f0)) = true := decide_eq_true c5
     clear c5
     simp only [Option.some.injEq, Prod.mk.injEq] at H
     obtain ⟨rfl, rfl⟩ := H
     have aoG : 0 ≤ (jT : Int) := of_decide_eq_true asm
     have aoH : jT < (l0.length : Int) := of_decide_eq_true asm
     obtain ⟨avZ, av0, aoI, aE9⟩ := jW HR0.out jT aoG aoH
     cases av0
     replace aoI := (HB.out.cell (World.block_lt_of_cell? w _ aoI)).trans aoI
     replace aE9 := (HB.out.cell (World.block_lt_of_cell? w _ aE9)).trans aE9
     replace aoG := eq_true aoG
     replace aoH := eq_true aoH
     go_wp2_with (first | ((with_reducible refine bq (N := 5) rfl ?_); refine bx 5 23 #[.int .i64 0, .int .i64 0] ?_; intro aFR hg w6 dL hb; have aFS := am (dL); have aJ3 := am ((bz hg HB.out : w.heap.size ≤ aFR)); have aHy := am ((bz hg HB.out : w.heap.size ≤ aFR)); replace HB := am (au (bl HB.out) hb); clear hb dL hg; have zy : w6.cell? ⟨aFR, 0, none⟩ = some (.int .i64 0) := bc aFS.out 0; have zA : w6.cell? ⟨aFR, 1, none⟩ = some (.int .i64 0) := bc aFS.out 1; have zD := aj aFS.out 0; have zF := aj aFS.out 1))
     go_ret2
     exact ⟨_, rt, by first | exact Kd.wP _ _ _ _ _ | exact Kd.zk _ _ _ _ _ | exact Kd.wI _ _ _ _ _ | exact Kd.yZ _ _ _ _ _ | exact Kd.zi _ _ _ _ _, bl1 HB.out aHy.out⟩
    ·rw [if_neg c5] at H
     have acT : decide (((aT l0 jT).f1) < ((aT l0 jT).f0)) = false := decide_eq_false c5
     clear c5
     have H' := am H
     clear H
     have aoG : 0 ≤ (jT : Int) := of_decide_eq_true asm
     have aoH : jT < (l0.length : Int) := of_decide_eq_true asm
     obtain ⟨avZ, av0, aoI, aE9⟩ := jW HR0.out jT aoG aoH
     cases av0
     replace aoI := (HB.out.cell (World.block_lt_of_cell? w _ aoI)).trans aoI
     replace aE9 := (HB.out.cell (World.block_lt_of_cell? w _ aE9)).trans aE9
     replace aoG := eq_true aoG
     replace aoH := eq_true aoH
     go_wp2_with (first | ((with_reducible refine bq (N := 5) rfl ?_); refine bx 5 23 #[.int .i64 0, .int .i64 0] ?_; intro aFR hg w8 dL hb; have aFS := am (dL); have aJ3 := am ((bz hg HB.out : w.heap.size ≤ aFR)); have aHy := am ((bz hg HB.out : w.heap.size ≤ aFR)); replace HB := am (au (bl HB.out) hb); clear hb dL hg; have oq : w8.cell? ⟨aFR, 0, none⟩ = some (.int .i64 0) := bc aFS.out 0; have ou : w8.cell? ⟨aFR, 1, none⟩ = some (.int .i64 0) := bc aFS.out 1; have oC := aj aFS.out 0; have oD := aj aFS.out 1))
     go_roundg k1
     case measure => have := HK1.out; omega
     case rel => exact ⟨(wrap64 (jT + 1)), sm, H', ⟨by have := HK1.out; omega⟩, ⟨bl1 HB.out aHy.out⟩⟩
   ·rw [if_neg c2] at H
    have ajF : decide (jT < (l0.length : Int)) = false := decide_eq_false c2
    clear c2
    have H' := am H
    clear H
    go_wp2
    go_loopg [27] k1 (fun kq v27 w' => ∃ (iR : Int), v27 = .int .i64 iR ∧ ay (yX.l1 kq l0 l0 (l0.length : Int) iR = some (r1, r2)) ∧ ay (kq ≤ k1) ∧ ay (Below w.heap.size w w'))
    case atStart => exact ⟨(0), sm, H', ⟨Nat.le_refl _⟩, ⟨bl HB.out⟩⟩
    case round =>
     clear H'
     try clear ajF
     obtain ⟨iR, rfl, HA, HK2, HB⟩ := hrel
     cases gk with
     | zero => exact absurd HA.out (by simp [yX.l1])
     | succ k2 =>
      have H := HA.out
      clear HA
      simp only [yX.l1] at H
      by_cases c10 : iR < (l0.length : Int)
      ·rw [if_pos c10] at H
       have asT : decide (iR < (l0.length : Int)) = true := decide_eq_true c10
       clear c10
       by_cases c11 : 0 ≤ iR
       case neg => rw [if_neg c11] at H; exact absurd H (by simp)
       rw [if_pos c11] at H
       have ajZ : decide (0 ≤ iR) = true := decide_eq_true c11
       clear c11
       by_cases c12 : iR < (l0.length : Int)
       case neg => rw [if_neg c12] at H; exact absurd H (by simp)
       rw [if_pos c12] at H
       have amy : decide (iR < (l0.length : Int)) = true := decide_eq_true c12
       clear c12
       replace H := Option.bind_eq_some_iff.mp H
       obtain ⟨t105, ajJ, H⟩ := H
       try dsimp only at H
       have A13 := am ajJ
       clear ajJ
       by_cases c14 : t105 = true
       ·subst c14
        have H1 : ((gJ.f ((aT l0 iR).f1)).bind fun aIp => (if aIp = true then (yX.l1 k2 l0 l0 (l0.length : Int) (wrap64 (iR + 1))) else (some (([] : List (S23)), 20)))) = some (r1, r2) := by rw [if_pos rfl] at H; exact H
        clear H
        have H := H1
        clear H1
        replace H := Option.bind_eq_some_iff.mp H
        obtain ⟨aIp, anM, H⟩ := H
        try dsimp only at H
        have A15 := am anM
        clear anM
        by_cases c16 : aIp = true
        ·subst c16
         have H1 : (yX.l1 k2 l0 l0 (l0.length : Int) (wrap64 (iR + 1))) = some (r1, r2) := by rw [if_pos rfl] at H; exact H
         clear H
         have H := H1
         clear H1
         have H' := am H
         clear H
         have aGD : 0 ≤ (iR : Int) := of_decide_eq_true asm
         have aGE : iR < (l0.length : Int) := of_decide_eq_true asm
         obtain ⟨aIr, aIs, aET, aEU⟩ := jW HR0.out iR aGD aGE
         cases aIs
         replace aET := (HB.out.cell (World.block_lt_of_cell? w _ aET)).trans aET
         replace aEU := (HB.out.cell (World.block_lt_of_cell? w _ aEU)).trans aEU
         replace aGD := eq_true aGD
         replace aGE := eq_true aGE
         go_wp2_with (first | ((with_reducible refine bq (N := 7) rfl ?_); refine bx 7 23 #[.int .i64 0, .int .i64 0] ?_; intro aFi hg w17 dL hb; have aFj := am (dL); have aIt := am ((bz hg HB.out : w.heap.size ≤ aFi)); have aGF := am ((bz hg HB.out : w.heap.size ≤ aFi)); replace HB := am (au (bl HB.out) hb); clear hb dL hg; have sN : w17.cell? ⟨aFi, 0, none⟩ = some (.int .i64 0) := bc aFj.out 0; have sO : w17.cell? ⟨aFi, 1, none⟩ = some (.int .i64 0) := bc aFj.out 1; have sS := aj aFj.out 0; have sU := aj aFj.out 1) | ((with_reducible refine aC (f := 66) rfl ?_); refine bR (some 33) rfl rfl Try.func66 (by kernel_rfl) rfl #[.int .i64 ((aT l0 iR).f0)] rfl ar ?_; (with_reducible refine (gJ.calls ((aT l0 iR).f0) true _ A13.out).mono ?_); rintro e w' ⟨rfl, ⟨nd, rfl⟩⟩; refine ⟨_, rfl, ?_⟩) | (go_at_call 66; (with_reducible refine (gJ.calls ((aT l0 iR).f1) true _ A15.out).mono ?_); rintro e w' ⟨rfl, ⟨nd, rfl⟩⟩))
         go_roundg k2
         case measure => have := HK1.out; have := HK2.out; omega
         case rel => exact ⟨(wrap64 (iR + 1)), sm, H', ⟨by have := HK1.out; have := HK2.out; omega⟩, ⟨bl1 HB.out aGF.out⟩⟩
        ·replace c16 := Bool.eq_false_iff.mpr c16
         subst c16
         have H1 : (some (([] : List (S23)), 20)) = some (r1, r2) := by rw [if_neg (show ¬ (false = true) by decide)] at H; exact H
         clear H
         have H := H1
         clear H1
         simp only [Option.some.injEq, Prod.mk.injEq] at H
         obtain ⟨rfl, rfl⟩ := H
         have aGD : 0 ≤ (iR : Int) := of_decide_eq_true asm
         have aGE : iR < (l0.length : Int) := of_decide_eq_true asm
         obtain ⟨aIr, aIs, aET, aEU⟩ := jW HR0.out iR aGD aGE
         cases aIs
         replace aET := (HB.out.cell (World.block_lt_of_cell? w _ aET)).trans aET
         replace aEU := (HB.out.cell (World.block_lt_of_cell? w _ aEU)).trans aEU
         replace aGD := eq_true aGD
         replace aGE := eq_true aGE
         go_wp2_with (first | ((with_reducible refine bq (N := 7) rfl ?_); refine bx 7 23 #[.int .i64 0, .int .i64 0] ?_; intro aFi hg w19 dL hb; have aFj := am (dL); have aIt := am ((bz hg HB.out : w.heap.size ≤ aFi)); have aGF := am ((bz hg HB.out : w.heap.size ≤ aFi)); replace HB := am (au (bl HB.out) hb); clear hb dL hg; have rV : w19.cell? ⟨aFi, 0, none⟩ = some (.int .i64 0) := bc aFj.out 0; have rW : w19.cell? ⟨aFi, 1, none⟩ = some (.int .i64 0) := bc aFj.out 1; have rX := aj aFj.out 0; have rY := aj aFj.out 1) | ((with_reducible refine aC (f := 66) rfl ?_); refine bR (some 33) rfl rfl Try.func66 (by kernel_rfl) rfl #[.int .i64 ((aT l0 iR).f0)] rfl ar ?_; (with_reducible refine (gJ.calls ((aT l0 iR).f0) true _ A13.out).mono ?_); rintro e w' ⟨rfl, ⟨nd, rfl⟩⟩; refine ⟨_, rfl, ?_⟩) | (go_at_call 66; (with_reducible refine (gJ.calls ((aT l0 iR).f1) false _ A15.out).mono ?_); rintro e w' ⟨rfl, ⟨nd, rfl⟩⟩))
         go_ret2
         exact ⟨_, rt, by first | exact Kd.wP _ _ _ _ _ | exact Kd.zk _ _ _ _ _ | exact Kd.wI _ _ _ _ _ | exact Kd.yZ _ _ _ _ _ | exact Kd.zi _ _ _ _ _, bl1 HB.out aGF.out⟩
       ·replace c14 := Bool.eq_false_iff.mpr c14
        subst c14
        have H1 : (some (([] : List (S23)), 20)) = some (r1, r2) := by rw [if_neg (show ¬ (false = true) by decide)] at H; exact H
        clear H
        have H := H1
        clear H1
        simp only [Option.some.injEq, Prod.mk.injEq] at H
        obtain ⟨rfl, rfl⟩ := H
        have aGD : 0 ≤ (iR : Int) := of_decide_eq_true asm
        have aGE : iR < (l0.length : Int) := of_decide_eq_true asm
        obtain ⟨aIr, aIs, aET, aEU⟩ := jW HR0.out iR aGD aGE
        cases aIs
        replace aET := (HB.out.cell (World.block_lt_of_cell? w _ aET)).trans aET
        replace aEU := (HB.out.cell (World.block_lt_of_cell? w _ aEU)).trans aEU
        replace aGD := eq_true aGD
        replace aGE := eq_true aGE
        go_wp2_with (first | ((with_reducible refine bq (N := 7) rfl ?_); refine bx 7 23 #[.int .i64 0, .int .i64 0] ?_; intro aFi hg w21 dL hb; have aFj := am (dL); have aIt := am ((bz hg HB.out : w.heap.size ≤ aFi)); have aGF := am ((bz hg HB.out : w.heap.size ≤ aFi)); replace HB := am (au (bl HB.out) hb); clear hb dL hg; have arY : w21.cell? ⟨aFi, 0, none⟩ = some (.int .i64 0) := bc aFj.out 0; have arZ : w21.cell? ⟨aFi, 1, none⟩ = some (.int .i64 0) := bc aFj.out 1; have ar2 := aj aFj.out 0; have ar3 := aj aFj.out 1) | ((with_reducible refine aC (f := 66) rfl ?_); refine bR (some 33) rfl rfl Try.func66 (by kernel_rfl) rfl #[.int .i64 ((aT l0 iR).f0)] rfl ar ?_; (with_reducible refine (gJ.calls ((aT l0 iR).f0) false _ A13.out).mono ?_); rintro e w' ⟨rfl, ⟨nd, rfl⟩⟩; refine ⟨_, rfl, ?_⟩))
        go_ret2
        exact ⟨_, rt, by first | exact Kd.wP _ _ _ _ _ | exact Kd.zk _ _ _ _ _ | exact Kd.wI _ _ _ _ _ | exact Kd.yZ _ _ _ _ _ | exact Kd.zi _ _ _ _ _, bl1 HB.out aGF.out⟩
      ·rw [if_neg c10] at H
       have asT : decide (iR < (l0.length : Int)) = false := decide_eq_false c10
       clear c10
       replace H := Option.bind_eq_some_iff.mp H
       obtain ⟨t107, aIo, H⟩ := H
       try dsimp only at H
       have A23 := am aIo
       clear aIo
       replace H := Option.bind_eq_some_iff.mp H
       obtain ⟨lV, aBg, H⟩ := H
       try dsimp only at H
       have A24 := am aBg
       clear aBg
       have H' := am H
       clear H
       go_wp2_with (first | ((with_reducible refine aC (f := 67) rfl ?_); refine bR (some 43) rfl rfl Try.func67 (by kernel_rfl) rfl #[.slice A0 l0.length c0] rfl ar ?_; (with_reducible refine (aE4.calls _ _ l0 t107 _ ?bH ?bI A23.out).mono ?_); (case bH => exact kc (Kd.bf HR0.out HB.out)); (case bI => exact HC0.out); rintro e w25 ⟨aDH, rfl, ho0, hb⟩; refine ⟨_, rfl, ?_⟩; have asR := am (Kd.jQ ho0 (bY (bl HB.out))); replace HB := am (au (bl HB.out) hb); (try clear hb); (try clear hb2); (try clear hk); (try clear hi); (try clear ho0); obtain ⟨aBy, aBz, aDx⟩ := Kd.iW asR.out; subst aDx) | ((with_reducible refine aC (f := 68) rfl ?_); refine bR (some 45) rfl rfl Try.func68 (by kernel_rfl) rfl #[.slice aBy t107.length aBz, .func (.func 69) #[] #[]] rfl ar ?_; (with_reducible refine (aFo.calls (fun k_ => some k_ = (.slice aBy t107.length aBz : Value).ownBlock) (.slice aBy t107.length aBz) t107 lV w _ ?bH ?bI A24.out).mono ?_); (case bH => repeat (first | (with_reducible first | exact HB.out | apply eG | apply dN | apply dx) | exact HB.out)); (case bI => exact Kd.aoq rfl asR.out); rintro e w27 ⟨rfl, hy0, hb, hkp⟩; refine ⟨_, rfl, ?_⟩; replace asR := am (Kd.aIk rfl hy0 (fun k_ e_ => asR.out.1 k_ e_)); replace HB := am (hb); (try clear hb); (try clear hkp); (try clear hy0)))
       go_loopg [9, 48] k2 (fun kq v9 v48 w' => ∃ (aEN : List (S23)) (eZ : List (S23)) (aEn : Int), v48 = .int .i64 aEn ∧ ay (yX.l2 kq aEN eZ (t107.length : Int) aEn = some (r1, r2)) ∧ ay (kq ≤ k2) ∧ ay (Kd.R k23 23 w' w.heap.size (fun k_ => some k_ ≠ ((.slice aBy t107.length aBz) : Value).ownBlock) v9 aEN) ∧ ay (Kd.R k23 23 w' w.heap.size (fun k_ => some k_ ≠ (v9 : Value).ownBlock) (.slice aBy t107.length aBz) eZ) ∧ ay (Below w.heap.size w w'))
       case atStart => exact ⟨(([] : List (S23))), (lV), (0), sm, H', ⟨Nat.le_refl _⟩, ⟨by first | exact Kd.wP _ _ _ _ _ | exact Kd.zk _ _ _ _ _ | exact Kd.wI _ _ _ _ _ | exact Kd.yZ _ _ _ _ _ | exact Kd.zi _ _ _ _ _⟩, ⟨by (with_reducible repeat (first | apply Kd.qd | apply Kd.qg | apply Kd.qR)); exact Kd.lY asR.out (fun _ hk => (by simp [Value.ownBlock]))⟩, ⟨bl HB.out⟩⟩
       case round =>
        clear H'
        try clear asT
        obtain ⟨aEN, eZ, aEn, rfl, HA, HK3, aoa, aEG, HB⟩ := hrel
        have aEY := (Kd.bS aEG.out).1
        rw [aEY] at aEG
        (try simp only [aEY])
        (try simp only [aEY] at aoa)
        cases gk with
        | zero => exact absurd HA.out (by simp [yX.l2])
        | succ k3 =>
         have H := HA.out
         clear HA
         simp only [yX.l2] at H
         by_cases c28 : aEn < (t107.length : Int)
         ·rw [if_pos c28] at H
          have ak9 : decide (aEn < (t107.length : Int)) = true := decide_eq_true c28
          have aGG := ak9
          (first | rw [aEY] at aGG | skip)
          clear c28
          by_cases c29 : 0 ≤ aEn
          case neg => rw [if_neg c29] at H; exact absurd H (by simp)
          rw [if_pos c29] at H
          have ahb : decide (0 ≤ aEn) = true := decide_eq_true c29
          clear c29
          by_cases c30 : aEn < (eZ.length : Int)
          case neg => rw [if_neg c30] at H; exact absurd H (by simp)
          rw [if_pos c30] at H
          have ad7 : decide (aEn < (eZ.length : Int)) = true := decide_eq_true c30
          clear c30
          by_cases c31 : (wrap64 ((aEN.length : Int) - 1)) ≥ 0
          ·rw [if_pos c31] at H
           have arb : decide (0 ≤ (wrap64 ((aEN.length : Int) - 1))) = true := decide_eq_true c31
           clear c31
           obtain ⟨aEO, aG8⟩ : ∃ j_ : Int, (wrap64 ((aEN.length : Int) - 1)) = j_ := ⟨_, rfl⟩
           replace H : (if 0 ≤ (aEO) then (if (aEO) < (aEN.length : Int) then (if ((aT eZ aEn).f0) ≤ (wrap64 (((aT aEN (aEO)).f1) + 1)) then (yX.l2 k3 (aEN.set ((aEO) : Int).toNat (⟨(aT aEN (aEO)).f0, mx ((aT aEN (aEO)).f1) ((aT eZ aEn).f1)⟩ : S23)) eZ (t107.length : Int) (wrap64 (aEn + 1))) else (if aEN.length < 8796093022208 then (yX.l2 k3 (aEN ++ [(⟨(aT eZ aEn).f0, (aT eZ aEn).f1⟩ : S23)]) eZ (t107.length : Int) (wrap64 (aEn + 1))) else (none))) else (none)) else (none)) = some (r1, r2) := by first | (rw [aG8] at H; exact H) | (simp only [aG8] at H ⊢; exact H)
           (try rw [aG8] at arb)
           have aLg : (IntKind.i64.wrap ((aEN.length : Int) - 1)) = aEO := (jR _).trans aG8
           by_cases c33 : 0 ≤ (aEO)
           case neg => rw [if_neg c33] at H; exact absurd H (by simp)
           rw [if_pos c33] at H
           have aIu : decide (0 ≤ (aEO)) = true := decide_eq_true c33
           clear c33
           by_cases c34 : (aEO) < (aEN.length : Int)
           case neg => rw [if_neg c34] at H; exact absurd H (by simp)
           rw [if_pos c34] at H
           have aL7 : decide ((aEO) < (aEN.length : Int)) = true := decide_eq_true c34
           clear c34
           by_cases c35 : ((aT eZ aEn).f0) ≤ (wrap64 (((aT aEN (aEO)).f1) + 1))
           ·rw [if_pos c35] at H
            have aJ4 : decide (((aT eZ aEn).f0) ≤ (wrap64 (((aT aEN (aEO)).f1) + 1))) = true := decide_eq_true c35
            clear c35
            obtain ⟨aHz, aHA⟩ : ∃ j_ : Int, (mx ((aT aEN (aEO)).f1) ((aT eZ aEn).f1)) = j_ := ⟨_, rfl⟩
            replace H : (yX.l2 k3 (aEN.set ((aEO) : Int).toNat (⟨(aT aEN (aEO)).f0, aHz⟩ : S23)) eZ (t107.length : Int) (wrap64 (aEn + 1))) = some (r1, r2) := by first | (rw [aHA] at H; exact H) | (simp only [aHA] at H ⊢; exact H)
            have aLh : (if ((aT aEN (aEO)).f1) < ((aT eZ aEn).f1) then ((aT eZ aEn).f1) else ((aT aEN (aEO)).f1)) = aHz := aHA
            obtain ⟨y115, hy115⟩ : ∃ y_ : List (S23), y_ = (aEN.set ((aEO) : Int).toNat (⟨(aT aEN (aEO)).f0, aHz⟩ : S23)) := ⟨_, rfl⟩
            replace H : (yX.l2 k3 y115 eZ (t107.length : Int) (wrap64 (aEn + 1))) = some (r1, r2) := by first | (rw [hy115]; with_reducible exact H) | (have H2_ := (Option.bind_some _ _).symm.trans H; rw [hy115]; with_reducible exact H2_) | (have H2_ := (Option.bind_some _ _).symm.trans H; with_reducible exact H2_) | with_reducible exact H | (rw [hy115]; exact H) | exact H
            have aJ5 := am hy115
            clear hy115
            have H' := am H
            clear H
            have aGH : 0 ≤ (aEn : Int) := of_decide_eq_true asm
            have aGI : aEn < (eZ.length : Int) := of_decide_eq_true asm
            obtain ⟨aFH, aIv, aGJ, aGK⟩ := jW (Kd.bS aEG.out).2.2 aEn aGH aGI
            cases aIv
            replace aGH := eq_true aGH
            replace aGI := eq_true aGI
            try go_wp2_with (first | ((with_reducible refine bq (N := 11) rfl ?_); refine bx 11 23 #[.int .i64 0, .int .i64 0] ?_; intro aEt hg w38 dL hb; replace aoa := am (Kd.dO (Kd.xV (kr aoa.out) aEt (Nat.le_of_eq hg.symm)) hb); replace aEG := am (Kd.dO (Kd.xV (kr aEG.out) aEt (Nat.le_of_eq hg.symm)) hb); have aEA := am (dL); have aIw := am ((bz hg HB.out : w.heap.size ≤ aEt)); have aFv := am ((bz hg HB.out : w.heap.size ≤ aEt)); replace HB := am (au (bl HB.out) hb); clear hb dL hg; have aHB : w38.cell? ⟨aEt, 0, none⟩ = some (.int .i64 0) := bc aEA.out 0; have aHC : w38.cell? ⟨aEt, 1, none⟩ = some (.int .i64 0) := bc aEA.out 1; have aHD := aj aEA.out 0; have aHE := aj aEA.out 1; obtain ⟨aLi, aLj, aL8⟩ := Kd.iW aoa.out; subst aL8))
            have n0_ : ay (Kd.R k23 23 ((w38.setCell ⟨aEt, 0, none⟩ (.int .i64 ((aT eZ aEn).f0))).setCell ⟨aEt, 1, none⟩ (.int .i64 ((aT eZ aEn).f1))) w.heap.size (fun k_ => some k_ ≠ (.slice (some aFH) eZ.length aBz : Value).ownBlock ∧ k_ ≠ aEt) (.slice aLi aEN.length aLj) aEN) := ⟨by (with_reducible repeat (first | apply Kd.qd | apply Kd.qg | apply Kd.qR)); exact Kd.lY (Kd.amf (p := ⟨aEt, 1, none⟩) (Kd.amf (p := ⟨aEt, 0, none⟩) (Kd.lY aoa.out (fun k_ hk => (⟨hk, hk.2⟩ : _ ∧ k_ ≠ aEt))) (fun _ hk => hk.2) (.int .i64 ((aT eZ aEn).f0))) (fun _ hk => hk.2) (.int .i64 ((aT eZ aEn).f1))) (fun _ hk => ⟨hk.1.1, hk.1.2⟩)⟩
            have n1_ : ay (Kd.R k23 23 ((w38.setCell ⟨aEt, 0, none⟩ (.int .i64 ((aT eZ aEn).f0))).setCell ⟨aEt, 1, none⟩ (.int .i64 ((aT eZ aEn).f1))) w.heap.size (fun k_ => some k_ ≠ (.slice aLi aEN.length aLj : Value).ownBlock ∧ k_ ≠ aEt) (.slice (some aFH) eZ.length aBz) eZ) := ⟨by (with_reducible repeat (first | apply Kd.qd | apply Kd.qg | apply Kd.qR)); exact Kd.lY (Kd.amf (p := ⟨aEt, 1, none⟩) (Kd.amf (p := ⟨aEt, 0, none⟩) (Kd.lY aEG.out (fun k_ hk => (⟨hk, hk.2⟩ : _ ∧ k_ ≠ aEt))) (fun _ hk => hk.2) (.int .i64 ((aT eZ aEn).f0))) (fun _ hk => hk.2) (.int .i64 ((aT eZ aEn).f1))) (fun _ hk => ⟨hk.1.1, hk.1.2⟩)⟩
            have n2_ : ay (((w38.setCell ⟨aEt, 0, none⟩ (.int .i64 ((aT eZ aEn).f0))).setCell ⟨aEt, 1, none⟩ (.int .i64 ((aT eZ aEn).f1))).heap[aEt]? = some (.cells #[.int .i64 ((aT eZ aEn).f0), .int .i64 ((aT eZ aEn).f1)] 23 (0, 0))) := ⟨by (with_reducible repeat (first | refine aM ?_ _ | refine aI ?_ | refine aA ?_ _)); refine bX (cs := #[.int .i64 ((aT eZ aEn).f0), .int .i64 0]) ?_ 1 _ rfl; (with_reducible repeat (first | refine aM ?_ _ | refine aI ?_ | refine aA ?_ _)); refine bX (cs := #[.int .i64 0, .int .i64 0]) ?_ 0 _ rfl; (with_reducible repeat (first | refine aM ?_ _ | refine aI ?_ | refine aA ?_ _)); exact aEA.out⟩
            have n3_ : ay (Below w.heap.size w ((w38.setCell ⟨aEt, 0, none⟩ (.int .i64 ((aT eZ aEn).f0))).setCell ⟨aEt, 1, none⟩ (.int .i64 ((aT eZ aEn).f1)))) := ⟨bl1 HB.out aFv.out⟩
            (try clear aoa)
            (try clear aEG)
            (try clear aEA)
            (try clear HB)
            generalize ((w38.setCell ⟨aEt, 0, none⟩ (.int .i64 ((aT eZ aEn).f0))).setCell ⟨aEt, 1, none⟩ (.int .i64 ((aT eZ aEn).f1))) = w41 at n0_ n1_ n2_ n3_ ⊢
            have aoa := n0_
            have aEG := n1_
            have aEA := n2_
            have HB := n3_
            clear n0_ n1_ n2_ n3_
            replace aoa := am (Kd.qR aoa.out)
            replace aEG := am (Kd.qR aEG.out)
            replace aEA := am (aI aEA.out)
            replace HB := am (dx HB.out)
            have aHF : 0 ≤ ((aEO) : Int) := of_decide_eq_true asm
            have aHG : (aEO) < (aEN.length : Int) := of_decide_eq_true asm
            obtain ⟨aFT, aJ6, aFa, aFb⟩ := jW (Kd.bS aoa.out).2.2 (aEO) aHF aHG
            cases aJ6
            replace aHF := eq_true aHF
            replace aHG := eq_true aHG
            refine nW (n := 13) (S := fun w' => w'.cell? ⟨aEt, 0, none⟩ = some (.int .i64 ((aT eZ aEn).f0)) ∧ w'.cell? ⟨aEt, 1, none⟩ = some (.int .i64 ((aT eZ aEn).f1)) ∧ w'.cell? (aFT.add (((aEO)).toNat * 2)) = some (.int .i64 ((aT aEN (aEO)).f0)) ∧ w'.cell? ⟨(aFT.add (((aEO)).toNat * 2)).block, (aFT.add (((aEO)).toNat * 2)).off + 1, none⟩ = some (.int .i64 ((aT aEN (aEO)).f1))) (ds := []) (rs false [13]) (by kernel_rfl) rfl rfl ⟨bc aEA.out 0, bc aEA.out 1, aFa, aFb⟩ (fun hHeld => ?_); refine ji yX.aHx yX.aGC (fun HT_ HW_ => ?_)
            generalize w41.drew = w42 at aoa aEG aEA HB aFa aFb hHeld ⊢
            refine px 0 55 (rs true [1, 12]) HT_.out ?_
            refine px 1 56 (rs true [2, 11]) HT_.out ?_
            refine px 2 57 (rs true [3, 10]) HT_.out ?_
            refine px 3 58 (rs true [4, 9]) HT_.out ?_
            refine px 5 60 (rs true [4, 1, 1, 7]) HT_.out ?_
            refine px 6 61 (rs true [4, 1, 2, 6]) HT_.out ?_
            refine px 7 62 (rs true [4, 1, 3, 5]) HT_.out ?_
            refine px 8 63 (rs true [4, 1, 4, 4]) HT_.out ?_
            refine tx 4 59 (rs true [9, 4]) HT_.out HW_.out hHeld ?_
            refine tx 9 64 (rs true [10, 3]) HT_.out HW_.out hHeld ?_
            refine px 10 65 (rs true [11, 2]) HT_.out ?_
            refine px 11 66 (rs true [12, 1]) HT_.out ?_
            refine px 12 67 (rs true [13]) HT_.out ?_
            refine tV (kU HT_.out (by kernel_rfl)) ?_
            try go_wp2
            replace aoa := am (Kd.qR aoa.out)
            replace aEG := am (Kd.qR aEG.out)
            replace aEA := am (aI aEA.out)
            replace HB := am (dx HB.out)
            have aJ7 : 0 ≤ ((aEO) : Int) := of_decide_eq_true asm
            have aJ8 : (aEO) < (aEN.length : Int) := of_decide_eq_true asm
            obtain ⟨aJ9, aL9, aGd, aGe⟩ := jW (Kd.bS aoa.out).2.2 (aEO) aJ7 aJ8
            obtain rfl : aFT = aJ9 := (by injection aL9)
            replace aJ7 := eq_true aJ7
            replace aJ8 := eq_true aJ8
            have p37 : 0 ≤ ((aEO) : Int) := of_decide_eq_true asm
            have q37 : ((aEO) : Int) < ((aEN.length : Int) : Int) := of_decide_eq_true asm
            obtain ⟨aHk, aCx, aCy, aLk, aMa, aM3, aLl⟩ := Kd.aIj aoa.out (by omega)
            (first | cases aCy | (injection aCy with ea_ en_ ec_; (first | subst ea_ | (injection ea_ with ea_; subst ea_)); subst ec_; clear en_))
            have aMb := am aLk
            have aMc := am aLl
            clear aLk aMa aLl
            (first | simp only [add_plain] at aFa | skip)
            (first | simp only [add_plain] at aFb | skip)
            (first | simp only [add_plain] at aGd | skip)
            (first | simp only [add_plain] at aGe | skip)
            obtain ⟨aM4, aKa, aLm, aHH, aHI⟩ := Kd.asw aoa.out z23 ((aEO) : Int) p37 q37
            obtain rfl := aFB aLm
            have aIx : World.cell? _ ⟨aHk, ((aEO) : Int).toNat * 2, none⟩ = some (.int .i64 ((aT aEN (aEO)).f0)) := aHH 0 _ rfl
            have aIy : World.cell? _ ⟨aHk, ((aEO) : Int).toNat * 2 + 1, none⟩ = some (.int .i64 ((aT aEN (aEO)).f1)) := aHH 1 _ rfl
            have aIz : World.frozen? _ ⟨aHk, ((aEO) : Int).toNat * 2, none⟩ = false := aHI 0
            have aIA : World.frozen? _ ⟨aHk, ((aEO) : Int).toNat * 2 + 1, none⟩ = false := aHI 1
            clear aKa aHH aHI aLm
            replace p37 := eq_true p37
            replace q37 := eq_true q37
            obtain ⟨aM5, aIB, aLn, aIC, aKb⟩ := Kd.asw aoa.out z23 ((aEO) : Int) (of_decide_eq_true asm) (by have h_ : ((aEO) : Int) < ((aEN.length : Int) : Int) := of_decide_eq_true asm; first | exact h_ | (have e_ := (Kd.bS aoa.out).1; omega) | simpa using h_)
            obtain rfl := aFB aLn
            have aKc := (Kd.aJM aoa.out ((aEO) : Int) (of_decide_eq_true asm) (by have h_ : ((aEO) : Int) < ((aEN.length : Int) : Int) := of_decide_eq_true asm; first | exact h_ | (have e_ := (Kd.bS aoa.out).1; omega) | simpa using h_) (seg := [.int .i64 aHz]) (j := 1) aIB aIC (show 2 ≤ 2 from by decide) (x' := (⟨(aT aEN (aEO)).f0, aHz⟩ : S23)) (rP _ _ _ (⟨(aT aEN (aEO)).f0, aHz⟩ : S23) ) (fun _ hk => hk)).1
            rw [← aJ5.out] at aKc
            have aLo := am aKc
            clear aIB aIC aKb aLn aKc
            refine nW (n := 13) (S := fun w' => w'.cell? ⟨aEt, 0, none⟩ = some (.int .i64 ((aT eZ aEn).f0)) ∧ w'.cell? ⟨aEt, 1, none⟩ = some (.int .i64 ((aT eZ aEn).f1)) ∧ w'.cell? ⟨aHk, ((aEO)).toNat * 2, none⟩ = some (.int .i64 ((aT aEN (aEO)).f0)) ∧ w'.cell? ⟨aHk, ((aEO)).toNat * 2 + 1, none⟩ = some (.int .i64 ((aT aEN (aEO)).f1))) (ds := [12]) (rs false [13]) (by kernel_rfl) rfl rfl ⟨bc aEA.out 0, bc aEA.out 1, aGd, aGe⟩ (fun hHeld => ?_); refine ji yX.aJ2 yX.aIq (fun HT_ HW_ => ?_)
            generalize w42.drew = w43 at aoa aEG aEA HB aMc aLo aIz aIA aFa aFb aGd aGe aIx aIy hHeld ⊢
            refine px 0 68 (rs true [1, 12]) HT_.out ?_
            refine px 1 69 (rs true [2, 11]) HT_.out ?_
            refine px 2 70 (rs true [3, 10]) HT_.out ?_
            refine px 3 71 (rs true [4, 9]) HT_.out ?_
            refine px 4 72 (rs true [5, 8]) HT_.out ?_
            refine px 5 73 (rs true [6, 7]) HT_.out ?_
            refine px 7 75 (rs true [6, 1, 1, 5]) HT_.out ?_
            refine tx 6 74 (rs true [8, 5]) HT_.out HW_.out hHeld ?_
            refine tx 8 76 (rs true [9, 4]) HT_.out HW_.out hHeld ?_
            refine px 9 77 (rs true [10, 3]) HT_.out ?_
            refine px 10 78 (rs true [11, 2]) HT_.out ?_
            refine px 11 79 (rs true [12, 1]) HT_.out ?_
            refine aJO (i := 12) (N := none) (rs true [13]) rfl rfl (gM HT_.out (by kernel_rfl)) (by decide) (fun K hK => ?_)
            refine avS (w1 := ?_) (by rfl) rfl ?_ ?_
            rotate_left
            ·go_simp
             rfl
            refine hK.out _ _ ?_
            clear hK K
            refine tV (kU HT_.out (by kernel_rfl)) ?_
            try go_wp2
            (try simp only [← aEY])
            go_roundg k3
            case measure => have := HK1.out; have := HK2.out; have := HK3.out; omega
            case rel => exact ⟨(y115), (eZ), (wrap64 (aEn + 1)), sm, H', ⟨by have := HK1.out; have := HK2.out; have := HK3.out; omega⟩, ⟨by (try simp only [aEY]); (with_reducible repeat (first | apply Kd.qd | apply Kd.qg | apply Kd.qR)); exact Kd.lY aLo.out (fun _ hk => hk.1)⟩, ⟨by (try simp only [aEY]); (with_reducible repeat (first | apply Kd.qd | apply Kd.qg | apply Kd.qR)); exact Kd.lY (Kd.amf (p := ⟨aHk, ((aEO) : Int).toNat * 2 + 1, none⟩) (Kd.lY aEG.out (fun k_ hk => (⟨hk, fun e_ => hk.1 (by rw [e_]; rfl)⟩ : _ ∧ k_ ≠ aHk))) (fun _ hk => hk.2) (.int .i64 aHz)) (fun _ hk => hk.1.1)⟩, ⟨bl2 HB.out aMb.out aFv.out⟩⟩
           ·rw [if_neg c35] at H
            have aJ4 : decide (((aT eZ aEn).f0) ≤ (wrap64 (((aT aEN (aEO)).f1) + 1))) = false := decide_eq_false c35
            clear c35
            by_cases c45 : aEN.length < 8796093022208
            case neg => rw [if_neg c45] at H; exact absurd H (by simp)
            rw [if_pos c45] at H
            have aKd := am c45
            clear c45
            obtain ⟨aLp, aGL⟩ : ∃ y_ : List (S23), y_ = (aEN ++ [(⟨(aT eZ aEn).f0, (aT eZ aEn).f1⟩ : S23)]) := ⟨_, rfl⟩
            replace H : (yX.l2 k3 aLp eZ (t107.length : Int) (wrap64 (aEn + 1))) = some (r1, r2) := by first | (rw [aGL]; with_reducible exact H) | (have H2_ := (Option.bind_some _ _).symm.trans H; rw [aGL]; with_reducible exact H2_) | (have H2_ := (Option.bind_some _ _).symm.trans H; with_reducible exact H2_) | with_reducible exact H | (rw [aGL]; exact H) | exact H
            have aKe := am aGL
            clear aGL
            have H' := am H
            clear H
            have aGH : 0 ≤ (aEn : Int) := of_decide_eq_true asm
            have aGI : aEn < (eZ.length : Int) := of_decide_eq_true asm
            obtain ⟨aFH, aIv, aGJ, aGK⟩ := jW (Kd.bS aEG.out).2.2 aEn aGH aGI
            cases aIv
            replace aGH := eq_true aGH
            replace aGI := eq_true aGI
            try go_wp2_with (first | ((with_reducible refine bq (N := 11) rfl ?_); refine bx 11 23 #[.int .i64 0, .int .i64 0] ?_; intro aEt hg w46 dL hb; replace aoa := am (Kd.dO (Kd.xV (kr aoa.out) aEt (Nat.le_of_eq hg.symm)) hb); replace aEG := am (Kd.dO (Kd.xV (kr aEG.out) aEt (Nat.le_of_eq hg.symm)) hb); have aEA := am (dL); have aIw := am ((bz hg HB.out : w.heap.size ≤ aEt)); have aFv := am ((bz hg HB.out : w.heap.size ≤ aEt)); replace HB := am (au (bl HB.out) hb); clear hb dL hg; have agn : w46.cell? ⟨aEt, 0, none⟩ = some (.int .i64 0) := bc aEA.out 0; have agp : w46.cell? ⟨aEt, 1, none⟩ = some (.int .i64 0) := bc aEA.out 1; have agq := aj aEA.out 0; have agr := aj aEA.out 1; obtain ⟨aLq, aKf, aMd⟩ := Kd.iW aoa.out; subst aMd))
            have n0_ : ay (Kd.R k23 23 ((w46.setCell ⟨aEt, 0, none⟩ (.int .i64 ((aT eZ aEn).f0))).setCell ⟨aEt, 1, none⟩ (.int .i64 ((aT eZ aEn).f1))) w.heap.size (fun k_ => some k_ ≠ (.slice (some aFH) eZ.length aBz : Value).ownBlock ∧ k_ ≠ aEt) (.slice aLq aEN.length aKf) aEN) := ⟨by (with_reducible repeat (first | apply Kd.qd | apply Kd.qg | apply Kd.qR)); exact Kd.lY (Kd.amf (p := ⟨aEt, 1, none⟩) (Kd.amf (p := ⟨aEt, 0, none⟩) (Kd.lY aoa.out (fun k_ hk => (⟨hk, hk.2⟩ : _ ∧ k_ ≠ aEt))) (fun _ hk => hk.2) (.int .i64 ((aT eZ aEn).f0))) (fun _ hk => hk.2) (.int .i64 ((aT eZ aEn).f1))) (fun _ hk => ⟨hk.1.1, hk.1.2⟩)⟩
            have n1_ : ay (Kd.R k23 23 ((w46.setCell ⟨aEt, 0, none⟩ (.int .i64 ((aT eZ aEn).f0))).setCell ⟨aEt, 1, none⟩ (.int .i64 ((aT eZ aEn).f1))) w.heap.size (fun k_ => some k_ ≠ (.slice aLq aEN.length aKf : Value).ownBlock ∧ k_ ≠ aEt) (.slice (some aFH) eZ.length aBz) eZ) := ⟨by (with_reducible repeat (first | apply Kd.qd | apply Kd.qg | apply Kd.qR)); exact Kd.lY (Kd.amf (p := ⟨aEt, 1, none⟩) (Kd.amf (p := ⟨aEt, 0, none⟩) (Kd.lY aEG.out (fun k_ hk => (⟨hk, hk.2⟩ : _ ∧ k_ ≠ aEt))) (fun _ hk => hk.2) (.int .i64 ((aT eZ aEn).f0))) (fun _ hk => hk.2) (.int .i64 ((aT eZ aEn).f1))) (fun _ hk => ⟨hk.1.1, hk.1.2⟩)⟩
            have n2_ : ay (((w46.setCell ⟨aEt, 0, none⟩ (.int .i64 ((aT eZ aEn).f0))).setCell ⟨aEt, 1, none⟩ (.int .i64 ((aT eZ aEn).f1))).heap[aEt]? = some (.cells #[.int .i64 ((aT eZ aEn).f0), .int .i64 ((aT eZ aEn).f1)] 23 (0, 0))) := ⟨by (with_reducible repeat (first | refine aM ?_ _ | refine aI ?_ | refine aA ?_ _)); refine bX (cs := #[.int .i64 ((aT eZ aEn).f0), .int .i64 0]) ?_ 1 _ rfl; (with_reducible repeat (first | refine aM ?_ _ | refine aI ?_ | refine aA ?_ _)); refine bX (cs := #[.int .i64 0, .int .i64 0]) ?_ 0 _ rfl; (with_reducible repeat (first | refine aM ?_ _ | refine aI ?_ | refine aA ?_ _)); exact aEA.out⟩
            have n3_ : ay (Below w.heap.size w ((w46.setCell ⟨aEt, 0, none⟩ (.int .i64 ((aT eZ aEn).f0))).setCell ⟨aEt, 1, none⟩ (.int .i64 ((aT eZ aEn).f1)))) := ⟨bl1 HB.out aFv.out⟩
            (try clear aoa)
            (try clear aEG)
            (try clear aEA)
            (try clear HB)
            generalize ((w46.setCell ⟨aEt, 0, none⟩ (.int .i64 ((aT eZ aEn).f0))).setCell ⟨aEt, 1, none⟩ (.int .i64 ((aT eZ aEn).f1))) = w49 at n0_ n1_ n2_ n3_ ⊢
            have aoa := n0_
            have aEG := n1_
            have aEA := n2_
            have HB := n3_
            clear n0_ n1_ n2_ n3_
            replace aoa := am (Kd.qR aoa.out)
            replace aEG := am (Kd.qR aEG.out)
            replace aEA := am (aI aEA.out)
            replace HB := am (dx HB.out)
            have aHF : 0 ≤ ((aEO) : Int) := of_decide_eq_true asm
            have aHG : (aEO) < (aEN.length : Int) := of_decide_eq_true asm
            obtain ⟨aFT, aJ6, aFa, aFb⟩ := jW (Kd.bS aoa.out).2.2 (aEO) aHF aHG
            cases aJ6
            replace aHF := eq_true aHF
            replace aHG := eq_true aHG
            refine nW (n := 13) (S := fun w' => w'.cell? ⟨aEt, 0, none⟩ = some (.int .i64 ((aT eZ aEn).f0)) ∧ w'.cell? ⟨aEt, 1, none⟩ = some (.int .i64 ((aT eZ aEn).f1)) ∧ w'.cell? (aFT.add (((aEO)).toNat * 2)) = some (.int .i64 ((aT aEN (aEO)).f0)) ∧ w'.cell? ⟨(aFT.add (((aEO)).toNat * 2)).block, (aFT.add (((aEO)).toNat * 2)).off + 1, none⟩ = some (.int .i64 ((aT aEN (aEO)).f1))) (ds := []) (rs false [13]) (by kernel_rfl) rfl rfl ⟨bc aEA.out 0, bc aEA.out 1, aFa, aFb⟩ (fun hHeld => ?_); refine ji yX.aHx yX.aGC (fun HT_ HW_ => ?_)
            generalize w49.drew = w50 at aoa aEG aEA HB aFa aFb hHeld ⊢
            refine px 0 55 (rs true [1, 12]) HT_.out ?_
            refine px 1 56 (rs true [2, 11]) HT_.out ?_
            refine px 2 57 (rs true [3, 10]) HT_.out ?_
            refine px 3 58 (rs true [4, 9]) HT_.out ?_
            refine px 5 60 (rs true [4, 1, 1, 7]) HT_.out ?_
            refine px 6 61 (rs true [4, 1, 2, 6]) HT_.out ?_
            refine px 7 62 (rs true [4, 1, 3, 5]) HT_.out ?_
            refine px 8 63 (rs true [4, 1, 4, 4]) HT_.out ?_
            refine tx 4 59 (rs true [9, 4]) HT_.out HW_.out hHeld ?_
            refine tx 9 64 (rs true [10, 3]) HT_.out HW_.out hHeld ?_
            refine px 10 65 (rs true [11, 2]) HT_.out ?_
            refine px 11 66 (rs true [12, 1]) HT_.out ?_
            refine px 12 67 (rs true [13]) HT_.out ?_
            refine tV (kU HT_.out (by kernel_rfl)) ?_
            have akC : w50.cell? ⟨aEt, 0, none⟩ = some (.int .i64 ((aT eZ aEn).f0)) := bc aEA.out 0
            have akD : w50.cell? ⟨aEt, 1, none⟩ = some (.int .i64 ((aT eZ aEn).f1)) := bc aEA.out 1
            have akE := aj aEA.out 0
            have akF := aj aEA.out 1
            try go_wp2_with (first | ((with_reducible refine ug (b := .append) (xs := #[.tmp 80, .tmp 82]) rfl ?_); at_builtin; refine Kd.ahJ k23 (w0 := w) w.heap.size rfl (.tmp 80) (.tmp 82) 24 23 (.agg #[(.int .i64 0), (.int .i64 0)]) 16 rfl Try.underlying24 asK rfl (by decide) (by omega) (.slice (some aFT) aEN.length aKf) aEN (⟨(aT eZ aEn).f0, (aT eZ aEn).f1⟩ : S23) [.int .i64 ((aT eZ aEn).f0), .int .i64 ((aT eZ aEn).f1)] (fun k_ => some k_ ≠ (.slice (some aFH) eZ.length aBz : Value).ownBlock ∧ k_ ≠ aEt) (fun _ => False) rfl rfl ?aP (fun _ hk => hk.elim) ?aF ?aO ?aB ?aS ?aL ?_; (case aP => exact rP _ _ _ (⟨(aT eZ aEn).f0, (aT eZ aEn).f1⟩ : S23)); (case aB => exact (bl1 HB.out aFv.out)); (case aF => exact (fun k_ hk => ⟨Kd.fresh' (Kd.abm (kr aEG.out)) k_ hk, Kd.qV (g := aEt) (o := .cells #[.int .i64 ((aT eZ aEn).f0), .int .i64 ((aT eZ aEn).f1)] 23 (0, 0)) (kp aEA.out) k_ hk⟩)); (case aO => exact (kr aoa.out)); (case aS => exact (bY (bl1 HB.out aFv.out))); (case aL => have := aKd.out; omega); intro v117 w52 ho hb hg hat; rw [← aKe.out] at ho; replace aEG := am (Kd.aGy (ok := (fun k_ => k_ ≠ aEt)) (by (with_reducible repeat (first | apply Kd.qd | apply Kd.qg | apply Kd.qR)); exact Kd.lY aEG.out (fun _ hk => ⟨hk.2, hk.1⟩)) hg hat); replace aEA := am (oh (g := aEt) (o := .cells #[.int .i64 ((aT eZ aEn).f0), .int .i64 ((aT eZ aEn).f1)] 23 (0, 0)) (kp aEA.out) hg (Kd.asr aoa.out (fun _ hk => hk.2))); replace HB := am (hb); have aKg := am (ho); clear aoa; clear ho hb hg hat))
            (try simp only [← aEY])
            go_roundg k3
            case measure => have := HK1.out; have := HK2.out; have := HK3.out; omega
            case rel => exact ⟨(aLp), (eZ), (wrap64 (aEn + 1)), sm, H', ⟨by have := HK1.out; have := HK2.out; have := HK3.out; omega⟩, ⟨by (try simp only [aEY]); (with_reducible repeat (first | apply Kd.qd | apply Kd.qg | apply Kd.qR)); exact Kd.lY aKg.out (fun _ hk => hk.1)⟩, ⟨by (try simp only [aEY]); (with_reducible repeat (first | apply Kd.qd | apply Kd.qg | apply Kd.qR)); exact Kd.lY aEG.out (fun _ hk => hk.2)⟩, ⟨bl1 HB.out aFv.out⟩⟩
          ·rw [if_neg c31] at H
           have arb : decide (0 ≤ (wrap64 ((aEN.length : Int) - 1))) = false := decide_eq_false c31
           clear c31
           by_cases c53 : aEN.length < 8796093022208
           case neg => rw [if_neg c53] at H; exact absurd H (by simp)
           rw [if_pos c53] at H
           have aKh := am c53
           clear c53
           obtain ⟨aqO, akX⟩ : ∃ y_ : List (S23), y_ = (aEN ++ [(⟨(aT eZ aEn).f0, (aT eZ aEn).f1⟩ : S23)]) := ⟨_, rfl⟩
           replace H : (yX.l2 k3 aqO eZ (t107.length : Int) (wrap64 (aEn + 1))) = some (r1, r2) := by first | (rw [akX]; with_reducible exact H) | (have H2_ := (Option.bind_some _ _).symm.trans H; rw [akX]; with_reducible exact H2_) | (have H2_ := (Option.bind_some _ _).symm.trans H; with_reducible exact H2_) | with_reducible exact H | (rw [akX]; exact H) | exact H
           have atx := am akX
           clear akX
           have H' := am H
           clear H
           have aGH : 0 ≤ (aEn : Int) := of_decide_eq_true asm
           have aGI : aEn < (eZ.length : Int) := of_decide_eq_true asm
           obtain ⟨aFH, aIv, aGJ, aGK⟩ := jW (Kd.bS aEG.out).2.2 aEn aGH aGI
           cases aIv
           replace aGH := eq_true aGH
           replace aGI := eq_true aGI
           try go_wp2_with (first | ((with_reducible refine bq (N := 11) rfl ?_); refine bx 11 23 #[.int .i64 0, .int .i64 0] ?_; intro aEt hg w54 dL hb; replace aoa := am (Kd.dO (Kd.xV (kr aoa.out) aEt (Nat.le_of_eq hg.symm)) hb); replace aEG := am (Kd.dO (Kd.xV (kr aEG.out) aEt (Nat.le_of_eq hg.symm)) hb); have aEA := am (dL); have aIw := am ((bz hg HB.out : w.heap.size ≤ aEt)); have aFv := am ((bz hg HB.out : w.heap.size ≤ aEt)); replace HB := am (au (bl HB.out) hb); clear hb dL hg; have aKi : w54.cell? ⟨aEt, 0, none⟩ = some (.int .i64 0) := bc aEA.out 0; have aKj : w54.cell? ⟨aEt, 1, none⟩ = some (.int .i64 0) := bc aEA.out 1; have aKk := aj aEA.out 0; have aKl := aj aEA.out 1; obtain ⟨aCN, aCO, aCP⟩ := Kd.iW aoa.out; subst aCP))
           have n0_ : ay (Kd.R k23 23 ((w54.setCell ⟨aEt, 0, none⟩ (.int .i64 ((aT eZ aEn).f0))).setCell ⟨aEt, 1, none⟩ (.int .i64 ((aT eZ aEn).f1))) w.heap.size (fun k_ => some k_ ≠ (.slice (some aFH) eZ.length aBz : Value).ownBlock ∧ k_ ≠ aEt) (.slice aCN aEN.length aCO) aEN) := ⟨by (with_reducible repeat (first | apply Kd.qd | apply Kd.qg | apply Kd.qR)); exact Kd.lY (Kd.amf (p := ⟨aEt, 1, none⟩) (Kd.amf (p := ⟨aEt, 0, none⟩) (Kd.lY aoa.out (fun k_ hk => (⟨hk, hk.2⟩ : _ ∧ k_ ≠ aEt))) (fun _ hk => hk.2) (.int .i64 ((aT eZ aEn).f0))) (fun _ hk => hk.2) (.int .i64 ((aT eZ aEn).f1))) (fun _ hk => ⟨hk.1.1, hk.1.2⟩)⟩
           have n1_ : ay (Kd.R k23 23 ((w54.setCell ⟨aEt, 0, none⟩ (.int .i64 ((aT eZ aEn).f0))).setCell ⟨aEt, 1, none⟩ (.int .i64 ((aT eZ aEn).f1))) w.heap.size (fun k_ => some k_ ≠ (.slice aCN aEN.length aCO : Value).ownBlock ∧ k_ ≠ aEt) (.slice (some aFH) eZ.length aBz) eZ) := ⟨by (with_reducible repeat (first | apply Kd.qd | apply Kd.qg | apply Kd.qR)); exact Kd.lY (Kd.amf (p := ⟨aEt, 1, none⟩) (Kd.amf (p := ⟨aEt, 0, none⟩) (Kd.lY aEG.out (fun k_ hk => (⟨hk, hk.2⟩ : _ ∧ k_ ≠ aEt))) (fun _ hk => hk.2) (.int .i64 ((aT eZ aEn).f0))) (fun _ hk => hk.2) (.int .i64 ((aT eZ aEn).f1))) (fun _ hk => ⟨hk.1.1, hk.1.2⟩)⟩
           have n2_ : ay (((w54.setCell ⟨aEt, 0, none⟩ (.int .i64 ((aT eZ aEn).f0))).setCell ⟨aEt, 1, none⟩ (.int .i64 ((aT eZ aEn).f1))).heap[aEt]? = some (.cells #[.int .i64 ((aT eZ aEn).f0), .int .i64 ((aT eZ aEn).f1)] 23 (0, 0))) := ⟨by (with_reducible repeat (first | refine aM ?_ _ | refine aI ?_ | refine aA ?_ _)); refine bX (cs := #[.int .i64 ((aT eZ aEn).f0), .int .i64 0]) ?_ 1 _ rfl; (with_reducible repeat (first | refine aM ?_ _ | refine aI ?_ | refine aA ?_ _)); refine bX (cs := #[.int .i64 0, .int .i64 0]) ?_ 0 _ rfl; (with_reducible repeat (first | refine aM ?_ _ | refine aI ?_ | refine aA ?_ _)); exact aEA.out⟩
           have n3_ : ay (Below w.heap.size w ((w54.setCell ⟨aEt, 0, none⟩ (.int .i64 ((aT eZ aEn).f0))).setCell ⟨aEt, 1, none⟩ (.int .i64 ((aT eZ aEn).f1)))) := ⟨bl1 HB.out aFv.out⟩
           (try clear aoa)
           (try clear aEG)
           (try clear aEA)
           (try clear HB)
           generalize ((w54.setCell ⟨aEt, 0, none⟩ (.int .i64 ((aT eZ aEn).f0))).setCell ⟨aEt, 1, none⟩ (.int .i64 ((aT eZ aEn).f1))) = w57 at n0_ n1_ n2_ n3_ ⊢
           have aoa := n0_
           have aEG := n1_
           have aEA := n2_
           have HB := n3_
           clear n0_ n1_ n2_ n3_
           replace aoa := am (Kd.qR aoa.out)
           replace aEG := am (Kd.qR aEG.out)
           replace aEA := am (aI aEA.out)
           replace HB := am (dx HB.out)
           refine nW (n := 13) (S := fun w' => True) (ds := []) (rs false [13]) (by kernel_rfl) rfl rfl trivial (fun hHeld => ?_); refine ji yX.aHx yX.aGC (fun HT_ HW_ => ?_)
           generalize w57.drew = w58 at aoa aEG aEA HB hHeld ⊢
           refine px 0 55 (rs true [1, 12]) HT_.out ?_
           refine px 1 56 (rs true [2, 11]) HT_.out ?_
           refine px 2 57 (rs true [3, 10]) HT_.out ?_
           refine pu 3 58 (rs true [4, 9]) HT_.out ?_
           refine pu 4 59 (rs true [5, 8]) HT_.out ?_
           refine pu 5 60 (rs true [6, 7]) HT_.out ?_
           refine pu 6 61 (rs true [7, 6]) HT_.out ?_
           refine pu 7 62 (rs true [8, 5]) HT_.out ?_
           refine pu 8 63 (rs true [9, 4]) HT_.out ?_
           refine pu 9 64 (rs true [10, 3]) HT_.out ?_
           refine pu 10 65 (rs true [11, 2]) HT_.out ?_
           refine pu 11 66 (rs true [12, 1]) HT_.out ?_
           refine px 12 67 (rs true [13]) HT_.out ?_
           refine tV (kU HT_.out (by kernel_rfl)) ?_
           have azs : w58.cell? ⟨aEt, 0, none⟩ = some (.int .i64 ((aT eZ aEn).f0)) := bc aEA.out 0
           have azt : w58.cell? ⟨aEt, 1, none⟩ = some (.int .i64 ((aT eZ aEn).f1)) := bc aEA.out 1
           have azu := aj aEA.out 0
           have azv := aj aEA.out 1
           try go_wp2_with (first | ((with_reducible refine ug (b := .append) (xs := #[.tmp 80, .tmp 82]) rfl ?_); at_builtin; refine Kd.ahJ k23 (w0 := w) w.heap.size rfl (.tmp 80) (.tmp 82) 24 23 (.agg #[(.int .i64 0), (.int .i64 0)]) 16 rfl Try.underlying24 asK rfl (by decide) (by omega) (.slice aCN aEN.length aCO) aEN (⟨(aT eZ aEn).f0, (aT eZ aEn).f1⟩ : S23) [.int .i64 ((aT eZ aEn).f0), .int .i64 ((aT eZ aEn).f1)] (fun k_ => some k_ ≠ (.slice (some aFH) eZ.length aBz : Value).ownBlock ∧ k_ ≠ aEt) (fun _ => False) rfl rfl ?aP (fun _ hk => hk.elim) ?aF ?aO ?aB ?aS ?aL ?_; (case aP => exact rP _ _ _ (⟨(aT eZ aEn).f0, (aT eZ aEn).f1⟩ : S23)); (case aB => exact (bl1 HB.out aFv.out)); (case aF => exact (fun k_ hk => ⟨Kd.fresh' (Kd.abm (kr aEG.out)) k_ hk, Kd.qV (g := aEt) (o := .cells #[.int .i64 ((aT eZ aEn).f0), .int .i64 ((aT eZ aEn).f1)] 23 (0, 0)) (kp aEA.out) k_ hk⟩)); (case aO => exact (kr aoa.out)); (case aS => exact (bY (bl1 HB.out aFv.out))); (case aL => have := aKh.out; omega); intro aDQ w60 ho hb hg hat; rw [← atx.out] at ho; replace aEG := am (Kd.aGy (ok := (fun k_ => k_ ≠ aEt)) (by (with_reducible repeat (first | apply Kd.qd | apply Kd.qg | apply Kd.qR)); exact Kd.lY aEG.out (fun _ hk => ⟨hk.2, hk.1⟩)) hg hat); replace aEA := am (oh (g := aEt) (o := .cells #[.int .i64 ((aT eZ aEn).f0), .int .i64 ((aT eZ aEn).f1)] 23 (0, 0)) (kp aEA.out) hg (Kd.asr aoa.out (fun _ hk => hk.2))); replace HB := am (hb); have aiT := am (ho); clear aoa; clear ho hb hg hat))
           (try simp only [← aEY])
           go_roundg k3
           case measure => have := HK1.out; have := HK2.out; have := HK3.out; omega
           case rel => exact ⟨(aqO), (eZ), (wrap64 (aEn + 1)), sm, H', ⟨by have := HK1.out; have := HK2.out; have := HK3.out; omega⟩, ⟨by (try simp only [aEY]); (with_reducible repeat (first | apply Kd.qd | apply Kd.qg | apply Kd.qR)); exact Kd.lY aiT.out (fun _ hk => hk.1)⟩, ⟨by (try simp only [aEY]); (with_reducible repeat (first | apply Kd.qd | apply Kd.qg | apply Kd.qR)); exact Kd.lY aEG.out (fun _ hk => hk.2)⟩, ⟨bl1 HB.out aFv.out⟩⟩
         ·rw [if_neg c28] at H
          have ak9 : decide (aEn < (t107.length : Int)) = false := decide_eq_false c28
          have aGG := ak9
          (first | rw [aEY] at aGG | skip)
          clear c28
          simp only [Option.some.injEq, Prod.mk.injEq] at H
          obtain ⟨rfl, rfl⟩ := H
          go_wp2
          go_ret2
          exact ⟨_, rt, by (with_reducible repeat (first | apply Kd.qd | apply Kd.qg | apply Kd.qR)); exact Kd.lY aoa.out (fun _ hk => trivial), bl HB.out⟩
end Go.Proofs.Ytmbmalkpmanaaaa.P
namespace Go.Proofs.Ytmbmalkpmanaaaa.P
set_option linter.unusedVariables false
set_option linter.unusedSimpArgs false
open Go.RowKit Go.Maps Go.Proofs.YtmbmalkpmanaaaaW.aK Go.Proofs.YtmbmalkpmanaaaaW.bK
def aGM : List Int → Nat
  | [] => 0
  | y :: r => aGM r + if y ∈ r then 0 else 1
def aFk (l : List Int) : Int := (aGM l.reverse : Nat)
theorem aGu (l : List Int) (y : Int) : aFk (l ++ [y]) = aFk l + if y ∈ l then 0 else 1 := by
  unfold aFk
  rw [List.reverse_append]
  show ((aGM l.reverse + if y ∈ l.reverse then 0 else 1 : Nat) : Int) = _
  by_cases h : y ∈ l <;> simp [h]
def CMo (mo : Obj) (l : List Int) : Prop := ∀ (w : World) (b : Nat), w.heap[b]? = some mo →
  ∃ D : DataW Unit, w.ownsMap Try.prog 3 (plainElem Try.prog 3) b l.length D ∧ Tidy D ∧ (∀ x : Int, D.atKey (.int .i64 x) (.lit (.int .i64 0)) = .lit (.int .i64 (yD l x))) ∧ (∀ x : Int, has D (.int .i64 x) = decide (x ∈ l)) ∧ (Maps.size D : Int) = aFk l
theorem CMo.nil : CMo (.map #[] 0) [] := fun w b h => by
  obtain ⟨es, clock, hb, F, hs, hD⟩ := World.ownsMap_made (H := Unit) w Try.prog 3 (plainElem Try.prog 3)
  have hb' := (heap_alloc_new w (.map #[] 0)).symm.trans hb
  exact ⟨.map [], ⟨es, clock, h.trans hb', F, hs, hD⟩, tidy_empty, fun x => rfl, fun x => rfl, rfl⟩
theorem CMo.of {w : World} {b : Nat} {mo : Obj} {l : List Int} (hb : w.heap[b]? = some mo)
    (h : ∃ D : DataW Unit, w.ownsMap Try.prog 3 (plainElem Try.prog 3) b l.length D ∧ Tidy D ∧ (∀ x : Int, D.atKey (.int .i64 x) (.lit (.int .i64 0)) = .lit (.int .i64 (yD l x))) ∧ (∀ x : Int, has D (.int .i64 x) = decide (x ∈ l)) ∧ (Maps.size D : Int) = aFk l) : CMo mo l := fun w' b' h' => by
  obtain ⟨D, ⟨es, clock, hb2, F, hs, hD⟩, h2⟩ := h
  exact ⟨D, ⟨es, clock, h'.trans (hb.symm.trans hb2), F, hs, hD⟩, h2⟩
theorem CMo.aHJ {mo : Obj} {l : List Int} (h : CMo mo l) (cs : Array Value) (t : TypeId) (fz : Nat × Nat) : mo ≠ .cells cs t fz := by
  intro e
  subst e
  obtain ⟨D, ⟨es, clock, hb, _⟩, _⟩ := h ((default : World).alloc (.cells cs t fz)) _ (heap_alloc_new _ _)
  rw [heap_alloc_new] at hb
  injection hb with hb
  injection hb
theorem CMo.far {α : Type} {d : Kd α} {e base g : Nat} {ok : Nat → Prop} {w : World} {v : Value} {xs : List α} {mo : Obj} {l : List Int} (hm : CMo mo l) (hb : w.heap[g]? = some mo) (h : d.R e w base ok v xs) : some g ≠ v.ownBlock := by
  intro hk
  obtain ⟨cs, hc⟩ := Kd.aol h g hk.symm
  exact hm.aHJ cs e (0, 0) (Option.some.inj (hb.symm.trans hc))
section
variable {w : World} {ops : Array Oper} {rest : List Oper} {o : Oper} {a : Act} {Q : Exit → Act → World → Prop} {b : Nat} {l : List Int} {mo : Obj}
theorem CMo.make (hg : o.guard = none) (hop : o.op = Op.makeMap 62 none)
    (h : ∀ g, g = w.heap.size → ∀ w1, w1.heap[g]? = some (.map #[] 0) → Below w.heap.size w w1 → wpList Try.prog ops Q rest (a.put o.dst (.map (some g))) w1) : wpList Try.prog ops Q (o :: rest) a w := by
  refine Kd.aeB hg ?_ (h _ rfl _ (l6 w _) (eG (Below.refl _ _) _))
  have := @run_makeMap Try.prog
  simp [execOp, hop, this, Result.andThen]
theorem CMo.lookup (hb : w.heap[b]? = some mo) (hom : CMo mo l)
    (hg : o.guard = none) (m x : Operand) (hop : o.op = Op.lookup 62 m x false) (hm : a.eval m = .map (some b)) (y : Int) (hy : (Lit.int .i64 y).wf = true) (hx : a.eval x = .int .i64 y)
    (hK : wpList Try.prog ops Q rest (a.put o.dst (.int .i64 (yD l y))) w) : wpList Try.prog ops Q (o :: rest) a w := by
  obtain ⟨D, h1, h2, h3, _⟩ := hom w b hb
  refine wpList_lookup_own_int w hg m x 62 hop 3 3 .i64 aAF Try.underlying62 Try.underlying3 (awd w) b l.length D hm h1 _ _ hx (keyOf_int_mk Try.underlying3 hy) (fun c hc _ => ?_)
  have e : yD l y = c := by have := (h3 y).symm.trans hc; injection this with this; injection this
  rw [← e]; exact hK
theorem CMo.len (hb : w.heap[b]? = some mo) (hom : CMo mo l)
    (hg : o.guard = none) (m : Operand) (hop : o.op = Op.call { callee := Callee.builtin Builtin.len, args := #[m], argTypes := #[62] }) (hm : a.eval m = .map (some b))
    (hK : wpList Try.prog ops Q rest (a.put o.dst (.int .i64 (aFk l))) w) : wpList Try.prog ops Q (o :: rest) a w := by
  obtain ⟨D, h1, _, _, _, h5⟩ := hom w b hb
  refine wpList_len_own w hg m 62 hop 3 3 Try.underlying62 _ b l.length D hm h1 ?_
  rw [h5]; exact hK
theorem CMo.update (hb : w.heap[b]? = some mo) (hom : CMo mo l)
    (hg : o.guard = none) (m x v : Operand) (hop : o.op = Op.mapUpdate 62 m x v) (hm : a.eval m = .map (some b)) (hl : l.length < maxLen) (y : Int) (hy : (Lit.int .i64 y).wf = true) (hx : a.eval x = .int .i64 y) (hv : a.eval v = .int .i64 (wrap64 (yD l y + 1)))
    (hK : ∀ w' mo', w'.heap[b]? = some mo' → CMo mo' (l ++ [y]) → w.grownBy w' (some b) → wpList Try.prog ops Q rest (a.put o.dst undef) w') : wpList Try.prog ops Q (o :: rest) a w := by
  obtain ⟨D, h1, h2, h3, h4, h5⟩ := hom w b hb
  refine wpList_mapUpdate_own w hg m x v 62 hop 3 3 aAF Try.underlying62 _ b l.length D hm h1 hl _ _ _ hx hv (keyOf_int_mk Try.underlying3 hy) _ _ (plainElem_int Try.underlying3 (wrap64_wf _)) (fun w' r1 r2 => ?_)
  have hown : w'.ownsMap Try.prog 3 (plainElem Try.prog 3) b (l ++ [y]).length (D.put (.int .i64 y) (.lit (.int .i64 (wrap64 (yD l y + 1))))) := r1.mono (by simp)
  obtain ⟨es, clock, hb2, hrest⟩ := hown
  refine hK w' _ hb2 (CMo.of hb2 ⟨D.put (.int .i64 y) (.lit (.int .i64 (wrap64 (yD l y + 1)))), ⟨es, clock, hb2, hrest⟩, h2.put (by trivial) _, fun z => ?_, fun z => ?_, ?_⟩) r2
  · have hw : wrap64 (yD l y + 1) = yD l y + 1 := by have := ajG l y; unfold wrap64; unfold maxLen at hl; omega
    rw [ajH]
    by_cases e : y = z
    · subst e; rw [atKey_put_same h2.isMap (by trivial), hw, if_pos rfl]
    · rw [atKey_put_other (by intro h; injection h with _ h; exact e h.symm), h3, if_neg e, Int.add_zero]
  · by_cases e : y = z
    · subst e; rw [has_put_same h2.isMap (by trivial)]; simp
    · rw [has_put_other (by intro h; injection h with _ h; exact e h.symm), h4]
      simp [show z ≠ y from fun q => e q.symm]
  · rw [size_put h2, h4, aGu, ← h5]
    by_cases e : y ∈ l <;> simp [e]
end
end Go.Proofs.Ytmbmalkpmanaaaa.P

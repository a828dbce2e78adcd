/- Lemmas for laws of chapter 7: what the functions that they reach compute. No condition of its own. -/
import Derived.Test.YtmbmalkpmanaaaaYG4
import Derived.Test.YtmbmalkpmanaaaaYG2
import Derived.Test.YtmbmalkpmanaaaaYG14
import Derived.Test.YtmbmalkpmanaaaaYG15
namespace Go.Proofs.Ytmbmalkpmanaaaa.P
open Go.RowKit Go.Proofs.YtmbmalkpmanaaaaW.aK Go.Proofs.YtmbmalkpmanaaaaW.bK Go.Proofs.YtmbmalkpmanaaaaW.bM
attribute [local go_sem] dS dU fG fH dB dD dV dW   -- for this text's walks alone
set_option linter.unusedVariables false
set_option linter.unusedSimpArgs false
mutual
def fD.l0 : Nat → List (List (S23)) → List (List (S23)) → Int → Int → Int → Int → List (List (S23)) → List (S70) → Option (Bool)
 | 0, _, _, _, _, _, _, _, _ => none
 | k + 1, x3, x11, x12, x13, x2142000, x2142001, x2142002, x2142003 => if x13 < x12 then (if 0 ≤ x13 then (if x13 < (x11.length : Int) then (if ((dZ x11 x13).length : Int) > 0 then (if x3.length < 5864062014805 then (fD.l0 k (x3 ++ [dZ x11 x13]) x11 x12 (wrap64 (x13 + 1)) x2142000 x2142001 x2142002 x2142003) else (none)) else (fD.l0 k x3 x11 x12 (wrap64 (x13 + 1)) x2142000 x2142001 x2142002 x2142003)) else (none)) else (none)) else (fD.l1 k x3 x3 (x3.length : Int) 0 x2142000 x2142001 x2142002 x2142003)
def fD.l1 : Nat → List (List (S23)) → List (List (S23)) → Int → Int → Int → Int → List (List (S23)) → List (S70) → Option (Bool)
 | 0, _, _, _, _, _, _, _, _ => none
 | k + 1, x3, x25, x26, x27, x2142000, x2142001, x2142002, x2142003 => if x27 < x26 then (if 0 ≤ x27 then (if x27 < (x25.length : Int) then (if (x3.length : Int) = 0 then (none) else (if 0 ≤ (Int.tmod (wrap64 (x27 + 1)) (x3.length : Int)) then (if (Int.tmod (wrap64 (x27 + 1)) (x3.length : Int)) < (x3.length : Int) then (if (wrap64 (x27 + 1)) = (x3.length : Int) then (if 0 ≤ (wrap64 (((dZ x25 x27).length : Int) - 1)) then (if (wrap64 (((dZ x25 x27).length : Int) - 1)) < ((dZ x25 x27).length : Int) then (if 0 < ((dZ x3 (Int.tmod (wrap64 (x27 + 1)) (x3.length : Int))).length : Int) then (if ((aT (dZ x25 x27) (wrap64 (((dZ x25 x27).length : Int) - 1))).f1) ≥ (wrap64 (((aT (dZ x3 (Int.tmod (wrap64 (x27 + 1)) (x3.length : Int))) 0).f0) + x2142000)) then (some false) else (fD.l1 k x3 x25 x26 (wrap64 (x27 + 1)) x2142000 x2142001 x2142002 x2142003)) else (none)) else (none)) else (none)) else (if 0 ≤ (wrap64 (((dZ x25 x27).length : Int) - 1)) then (if (wrap64 (((dZ x25 x27).length : Int) - 1)) < ((dZ x25 x27).length : Int) then (if 0 < ((dZ x3 (Int.tmod (wrap64 (x27 + 1)) (x3.length : Int))).length : Int) then (if ((aT (dZ x25 x27) (wrap64 (((dZ x25 x27).length : Int) - 1))).f1) ≥ (wrap64 (((aT (dZ x3 (Int.tmod (wrap64 (x27 + 1)) (x3.length : Int))) 0).f0) + 0)) then (some false) else (fD.l1 k x3 x25 x26 (wrap64 (x27 + 1)) x2142000 x2142001 x2142002 x2142003)) else (none)) else (none)) else (none))) else (none)) else (none))) else (none)) else (none)) else (some true)
end
def fD.f (k : Nat) (aQ : Int) (aR : Int) (aH : List (List (S23))) (av : List (S70)) : Option (Bool) := fD.l0 k ([] : List (List (S23))) aH (aH.length : Int) 0 aQ aR aH av
set_option maxHeartbeats 8000000 in
set_option maxRecDepth 100000 in
theorem fD.calls (k : Nat) (aQ : Int) (aR : Int) (nS : Nat → Prop) (cu : Option Addr) (bW : Nat) (aH : List (List (S23))) (dz : Option Addr) (bZ : Nat) (av : List (S70)) (r : Bool) (w : World) (ao7 : Kd.V (Kd.slice 23 k23) 24 w w.heap.size (fun k_ => nS k_) (.slice cu aH.length bW) aH) (iw : Kd.C k70 w dz av.length av) (iy : av.length ≤ bZ) (h : fD.f k aQ aR aH av = some r) :
 Calls Try.prog 82 #[.agg #[.int .i64 aQ, .int .i64 aR, .slice cu aH.length bW, .slice dz av.length bZ]] w fun e w' => e = .returned (.bool r) ∧ Below w.heap.size w w' := by
 have aaE := Try.underlying28
 have oQ := am (show Kd.V (Kd.slice 23 k23) 24 w w.heap.size (fun k_ => (nS k_ ∨ w.heap.size ≤ k_)) (.slice cu aH.length bW) aH from Kd.j4 ao7 (fun k_ hk => .inl hk))
 have fK := am iw
 have gW := am iy
 clear iw iy
 have HB := am (Below.refl w.heap.size w)
 have H : (fD.l0 k ([] : List (List (S23))) aH (aH.length : Int) 0 aQ aR aH av) = some r := h
 clear h
 have H' := am H
 clear H
 go_enter Try.func82, Try.ntmps82
 go_wp2_with (first | ((with_reducible refine bq (N := 1) rfl ?_); refine bx 1 28 #[.int .i64 aQ, .int .i64 aR, .slice cu aH.length bW, .slice dz av.length bZ] ?_; intro fZ hg w2 dL hb; replace oQ := am (Kd.fJ (Kd.q9 (kv oQ.out) fZ (Nat.le_of_eq hg.symm)) hb); have gK := am (dL); have an0 := am ((bz hg HB.out : w.heap.size ≤ fZ)); have oP := am ((bz hg HB.out : w.heap.size ≤ fZ)); replace HB := am (au (bl HB.out) hb); clear hb dL hg; have abX : w2.cell? ⟨fZ, 0, none⟩ = some (.int .i64 aQ) := bc gK.out 0; have abY : w2.cell? ⟨fZ, 1, none⟩ = some (.int .i64 aR) := bc gK.out 1; have abZ : w2.cell? ⟨fZ, 2, none⟩ = some (.slice cu aH.length bW) := bc gK.out 2; have ab0 : w2.cell? ⟨fZ, 3, none⟩ = some (.slice dz av.length bZ) := bc gK.out 3; have ab1 := aj gK.out 0; have ab2 := aj gK.out 1; have ab3 := aj gK.out 2; have ab4 := aj gK.out 3))
 repeat (go_quiet (first | ((with_reducible refine bq (N := 1) rfl ?_); refine bx 1 28 #[.int .i64 aQ, .int .i64 aR, .slice cu aH.length bW, .slice dz av.length bZ] ?_; intro fZ hg w2 dL hb; replace oQ := am (Kd.fJ (Kd.q9 (kv oQ.out) fZ (Nat.le_of_eq hg.symm)) hb); have gK := am (dL); have an0 := am ((bz hg HB.out : w.heap.size ≤ fZ)); have oP := am ((bz hg HB.out : w.heap.size ≤ fZ)); replace HB := am (au (bl HB.out) hb); clear hb dL hg; have abX : w2.cell? ⟨fZ, 0, none⟩ = some (.int .i64 aQ) := bc gK.out 0; have abY : w2.cell? ⟨fZ, 1, none⟩ = some (.int .i64 aR) := bc gK.out 1; have abZ : w2.cell? ⟨fZ, 2, none⟩ = some (.slice cu aH.length bW) := bc gK.out 2; have ab0 : w2.cell? ⟨fZ, 3, none⟩ = some (.slice dz av.length bZ) := bc gK.out 3; have ab1 := aj gK.out 0; have ab2 := aj gK.out 1; have ab3 := aj gK.out 2; have ab4 := aj gK.out 3)); try go_wp2_with (first | ((with_reducible refine bq (N := 1) rfl ?_); refine bx 1 28 #[.int .i64 aQ, .int .i64 aR, .slice cu aH.length bW, .slice dz av.length bZ] ?_; intro fZ hg w2 dL hb; replace oQ := am (Kd.fJ (Kd.q9 (kv oQ.out) fZ (Nat.le_of_eq hg.symm)) hb); have gK := am (dL); have an0 := am ((bz hg HB.out : w.heap.size ≤ fZ)); have oP := am ((bz hg HB.out : w.heap.size ≤ fZ)); replace HB := am (au (bl HB.out) hb); clear hb dL hg; have abX : w2.cell? ⟨fZ, 0, none⟩ = some (.int .i64 aQ) := bc gK.out 0; have abY : w2.cell? ⟨fZ, 1, none⟩ = some (.int .i64 aR) := bc gK.out 1; have abZ : w2.cell? ⟨fZ, 2, none⟩ = some (.slice cu aH.length bW) := bc gK.out 2; have ab0 : w2.cell? ⟨fZ, 3, none⟩ = some (.slice dz av.length bZ) := bc gK.out 3; have ab1 := aj gK.out 0; have ab2 := aj gK.out 1; have ab3 := aj gK.out 2; have ab4 := aj gK.out 3)))
 go_loopg [3, 13] k (fun kq v3 v13 w' => ∃ (jv : List (List (S23))) (iY : Int), v13 = .int .i64 iY ∧ ay (fD.l0 kq jv aH (aH.length : Int) iY aQ aR aH av = some r) ∧ ay (kq ≤ k) ∧ ay (Kd.N (Kd.slice 23 k23) 24 w' w.heap.size (fun k_ => (nS k_ ∨ w.heap.size ≤ k_) ∧ k_ ≠ fZ) v3 jv) ∧ ay (Kd.V (Kd.slice 23 k23) 24 w' w.heap.size (fun k_ => (nS k_ ∨ w.heap.size ≤ k_) ∧ some k_ ≠ (v3 : Value).ownBlock ∧ k_ ≠ fZ) (.slice cu aH.length bW) aH) ∧ ay (Kd.V (Kd.slice 23 k23) 24 w' w.heap.size (fun k_ => (nS k_ ∨ w.heap.size ≤ k_) ∧ some k_ ≠ (v3 : Value).ownBlock ∧ k_ ≠ fZ) (.slice cu aH.length bW) aH) ∧ ay (w'.heap[fZ]? = some (.cells #[.int .i64 aQ, .int .i64 aR, (.slice cu aH.length bW), (.slice dz av.length bZ)] 28 (0, 0))) ∧ ay (Below w.heap.size w w'))
 case atStart => exact ⟨(([] : List (List (S23)))), (0), sm, H', ⟨Nat.le_refl _⟩, ⟨by first | exact Kd.zi _ _ _ _ _ | exact Kd.zk _ _ _ _ _ | exact Kd.wI _ _ _ _ _ | exact Kd.yZ _ _ _ _ _ | exact Kd.wP _ _ _ _ _⟩, ⟨by (with_reducible repeat (first | apply Kd.lD | apply Kd.lF | apply Kd.nL)); exact Kd.j4 oQ.out (fun _ hk => ⟨hk.1, ⟨(by simp [Value.ownBlock]), hk.2⟩⟩)⟩, ⟨by (with_reducible repeat (first | apply Kd.lD | apply Kd.lF | apply Kd.nL)); exact Kd.j4 oQ.out (fun _ hk => ⟨hk.1, ⟨(by simp [Value.ownBlock]), hk.2⟩⟩)⟩, ⟨kp gK.out⟩, ⟨bl1 HB.out oP.out⟩⟩
 case round =>
  clear H'
  try clear abX
  try clear abY
  try clear abZ
  try clear ab0
  try clear ab1
  try clear ab2
  try clear ab3
  try clear ab4
  obtain ⟨jv, iY, rfl, HA, HK1, aat, ku, kX, gK, HB⟩ := hrel
  cases gk with
  | zero => exact absurd HA.out (by simp [fD.l0])
  | succ k1 =>
   have H := HA.out
   clear HA
   simp only [fD.l0] at H
   by_cases c4 : iY < (aH.length : Int)
   ·rw [if_pos c4] at H
    have vv : decide (iY < (aH.length : Int)) = true := decide_eq_true c4
    clear c4
    by_cases c5 : 0 ≤ iY
    case neg => rw [if_neg c5] at H; exact absurd H (by simp)
    rw [if_pos c5] at H
    have acT : decide (0 ≤ iY) = true := decide_eq_true c5
    clear c5
    by_cases c6 : iY < (aH.length : Int)
    case neg => rw [if_neg c6] at H; exact absurd H (by simp)
    rw [if_pos c6] at H
    have adw : decide (iY < (aH.length : Int)) = true := decide_eq_true c6
    clear c6
    by_cases c7 : ((dZ aH iY).length : Int) > 0
    ·rw [if_pos c7] at H
     have afE : decide (0 < ((dZ aH iY).length : Int)) = true := decide_eq_true c7
     have awe : decide (0 < (dZ aH iY).length) = true := decide_eq_true (by omega)
     clear c7
     by_cases c8 : jv.length < 5864062014805
     case neg => rw [if_neg c8] at H; exact absurd H (by simp)
     rw [if_pos c8] at H
     have azw := am c8
     clear c8
     obtain ⟨atU, afc⟩ : ∃ y_ : List (List (S23)), y_ = (jv ++ [dZ aH iY]) := ⟨_, rfl⟩
     replace H : (fD.l0 k1 atU aH (aH.length : Int) (wrap64 (iY + 1)) aQ aR aH av) = some r := by first | (rw [afc]; with_reducible exact H) | (have H2_ := (Option.bind_some _ _).symm.trans H; rw [afc]; with_reducible exact H2_) | (have H2_ := (Option.bind_some _ _).symm.trans H; with_reducible exact H2_) | with_reducible exact H | (rw [afc]; exact H) | exact H
     have alb := am afc
     clear afc
     have H' := am H
     clear H
     have ac1 : 0 ≤ (iY : Int) := of_decide_eq_true asm
     have ac2 : iY < (aH.length : Int) := of_decide_eq_true asm
     obtain ⟨aco, aea, aeb, arf, abg, aac, aad⟩ := ru (Kd.iT ku.out).2.2 iY ac1 ac2
     cases arf
     obtain ⟨atV, agZ, ag0, acp⟩ := Kd.amn ku.out [] iY ac1 (by first | exact ac2 | exact of_decide_eq_true asm | (have e_ := (Kd.iT ku.out).1; omega))
     obtain ⟨am2, am3, rfl, vV, vW⟩ := Kd.jD ag0
     have rG := acp 0 _ rfl
     rw [Nat.add_zero, show ((Kd.slice 23 k23)).sz = 1 from rfl, Nat.mul_one] at rG
     replace rG := Option.some.inj (rG.symm.trans abg)
     injection rG with wZ abH xg
     rw [wZ] at vW
     rw [xg] at vV
     have nV := am (show Kd.V k23 23 _ w.heap.size _ _ (dZ aH iY) from Kd.acM vV vW)
     clear wZ abH xg vW vV
     clear acp agZ
     have am4 := am aad
     have am5 := am aac
     clear aad aac
     replace ac1 := eq_true ac1
     replace ac2 := eq_true ac2
     go_wp2_with (first | ((with_reducible refine ug (b := .append) (xs := #[.tmp 20, .tmp 22]) rfl ?_); at_builtin; refine Kd.adr (Kd.slice 23 k23) (w0 := w) w.heap.size rfl (.tmp 20) (.tmp 22) 25 24 (.slice none 0 0) 24 rfl Try.underlying25 ajr rfl (by decide) (by omega) u3 jv (dZ aH iY) [.slice aea (dZ aH iY).length aeb] (fun k_ => (nS k_ ∨ w.heap.size ≤ k_) ∧ k_ ≠ fZ) (fun k_ => ((fun k_ => (nS k_ ∨ w.heap.size ≤ k_) ∧ k_ ≠ fZ)) k_ ∧ some k_ ≠ (u3 : Value).ownBlock) rfl rfl ?aP (fun _ hk => hk) ?aF ?aO ?aB ?aS ?aL ?_; (case aP => exact (Kd.rO (Kd.iT (Kd.j4 (ok' := (fun k_ => ((fun k_ => (nS k_ ∨ w.heap.size ≤ k_) ∧ k_ ≠ fZ)) k_ ∧ some k_ ≠ (u3 : Value).ownBlock)) (nV.out) (fun k_ hk => ⟨⟨hk.1, hk.2.2⟩, hk.2.1⟩))).2.1 (Kd.V_F (Kd.j4 (ok' := (fun k_ => ((fun k_ => (nS k_ ∨ w.heap.size ≤ k_) ∧ k_ ≠ fZ)) k_ ∧ some k_ ≠ (u3 : Value).ownBlock)) (nV.out) (fun k_ hk => ⟨⟨hk.1, hk.2.2⟩, hk.2.1⟩))))); (case aB => exact (bl1 HB.out oP.out)); (case aF => exact (fun k_ hk => ⟨(.inr (Nat.le_trans (bY (bl1 HB.out oP.out)) hk)), Kd.qV (g := fZ) (o := .cells #[.int .i64 aQ, .int .i64 aR, .slice (some aco) aH.length bW, .slice dz av.length bZ] 28 (0, 0)) (kp gK.out) k_ hk⟩)); (case aO => exact (kn aat.out)); (case aS => exact (bY (bl1 HB.out oP.out))); (case aL => have := azw.out; omega); intro atW w9 ho hb hg hat; rw [← alb.out] at ho; replace ku := am (Kd.qZ (ok := (fun k_ => (nS k_ ∨ w.heap.size ≤ k_) ∧ k_ ≠ fZ)) (by (with_reducible repeat (first | apply Kd.lD | apply Kd.lF | apply Kd.nL)); exact Kd.j4 ku.out (fun _ hk => ⟨⟨hk.1, hk.2.2⟩, hk.2.1⟩)) hg hat); replace kX := am (Kd.qZ (ok := (fun k_ => (nS k_ ∨ w.heap.size ≤ k_) ∧ k_ ≠ fZ)) (by (with_reducible repeat (first | apply Kd.lD | apply Kd.lF | apply Kd.nL)); exact Kd.j4 kX.out (fun _ hk => ⟨⟨hk.1, hk.2.2⟩, hk.2.1⟩)) hg hat); replace gK := am (oh (g := fZ) (o := .cells #[.int .i64 aQ, .int .i64 aR, .slice (some aco) aH.length bW, .slice dz av.length bZ] 28 (0, 0)) (kp gK.out) hg (Kd.avW aat.out gK.out (by decide))); replace nV := am (Kd.qZ (ok := (fun k_ => (nS k_ ∨ w.heap.size ≤ k_) ∧ k_ ≠ fZ)) (by (with_reducible repeat (first | apply Kd.lD | apply Kd.lF | apply Kd.nL)); exact Kd.j4 nV.out (fun _ hk => ⟨⟨hk.1, hk.2.2⟩, hk.2.1⟩)) hg hat); replace HB := am (hb); have alc := am (ho); clear aat; clear ho hb hg hat))
     repeat (go_quiet (first | ((with_reducible refine ug (b := .append) (xs := #[.tmp 20, .tmp 22]) rfl ?_); at_builtin; refine Kd.adr (Kd.slice 23 k23) (w0 := w) w.heap.size rfl (.tmp 20) (.tmp 22) 25 24 (.slice none 0 0) 24 rfl Try.underlying25 ajr rfl (by decide) (by omega) u3 jv (dZ aH iY) [.slice aea (dZ aH iY).length aeb] (fun k_ => (nS k_ ∨ w.heap.size ≤ k_) ∧ k_ ≠ fZ) (fun k_ => ((fun k_ => (nS k_ ∨ w.heap.size ≤ k_) ∧ k_ ≠ fZ)) k_ ∧ some k_ ≠ (u3 : Value).ownBlock) rfl rfl ?aP (fun _ hk => hk) ?aF ?aO ?aB ?aS ?aL ?_; (case aP => exact (Kd.rO (Kd.iT (Kd.j4 (ok' := (fun k_ => ((fun k_ => (nS k_ ∨ w.heap.size ≤ k_) ∧ k_ ≠ fZ)) k_ ∧ some k_ ≠ (u3 : Value).ownBlock)) (nV.out) (fun k_ hk => ⟨⟨hk.1, hk.2.2⟩, hk.2.1⟩))).2.1 (Kd.V_F (Kd.j4 (ok' := (fun k_ => ((fun k_ => (nS k_ ∨ w.heap.size ≤ k_) ∧ k_ ≠ fZ)) k_ ∧ some k_ ≠ (u3 : Value).ownBlock)) (nV.out) (fun k_ hk => ⟨⟨hk.1, hk.2.2⟩, hk.2.1⟩))))); (case aB => exact (bl1 HB.out oP.out)); (case aF => exact (fun k_ hk => ⟨(.inr (Nat.le_trans (bY (bl1 HB.out oP.out)) hk)), Kd.qV (g := fZ) (o := .cells #[.int .i64 aQ, .int .i64 aR, .slice (some aco) aH.length bW, .slice dz av.length bZ] 28 (0, 0)) (kp gK.out) k_ hk⟩)); (case aO => exact (kn aat.out)); (case aS => exact (bY (bl1 HB.out oP.out))); (case aL => have := azw.out; omega); intro atW w9 ho hb hg hat; rw [← alb.out] at ho; replace ku := am (Kd.qZ (ok := (fun k_ => (nS k_ ∨ w.heap.size ≤ k_) ∧ k_ ≠ fZ)) (by (with_reducible repeat (first | apply Kd.lD | apply Kd.lF | apply Kd.nL)); exact Kd.j4 ku.out (fun _ hk => ⟨⟨hk.1, hk.2.2⟩, hk.2.1⟩)) hg hat); replace kX := am (Kd.qZ (ok := (fun k_ => (nS k_ ∨ w.heap.size ≤ k_) ∧ k_ ≠ fZ)) (by (with_reducible repeat (first | apply Kd.lD | apply Kd.lF | apply Kd.nL)); exact Kd.j4 kX.out (fun _ hk => ⟨⟨hk.1, hk.2.2⟩, hk.2.1⟩)) hg hat); replace gK := am (oh (g := fZ) (o := .cells #[.int .i64 aQ, .int .i64 aR, .slice (some aco) aH.length bW, .slice dz av.length bZ] 28 (0, 0)) (kp gK.out) hg (Kd.avW aat.out gK.out (by decide))); replace nV := am (Kd.qZ (ok := (fun k_ => (nS k_ ∨ w.heap.size ≤ k_) ∧ k_ ≠ fZ)) (by (with_reducible repeat (first | apply Kd.lD | apply Kd.lF | apply Kd.nL)); exact Kd.j4 nV.out (fun _ hk => ⟨⟨hk.1, hk.2.2⟩, hk.2.1⟩)) hg hat); replace HB := am (hb); have alc := am (ho); clear aat; clear ho hb hg hat)); try go_wp2_with (first | ((with_reducible refine ug (b := .append) (xs := #[.tmp 20, .tmp 22]) rfl ?_); at_builtin; refine Kd.adr (Kd.slice 23 k23) (w0 := w) w.heap.size rfl (.tmp 20) (.tmp 22) 25 24 (.slice none 0 0) 24 rfl Try.underlying25 ajr rfl (by decide) (by omega) u3 jv (dZ aH iY) [.slice aea (dZ aH iY).length aeb] (fun k_ => (nS k_ ∨ w.heap.size ≤ k_) ∧ k_ ≠ fZ) (fun k_ => ((fun k_ => (nS k_ ∨ w.heap.size ≤ k_) ∧ k_ ≠ fZ)) k_ ∧ some k_ ≠ (u3 : Value).ownBlock) rfl rfl ?aP (fun _ hk => hk) ?aF ?aO ?aB ?aS ?aL ?_; (case aP => exact (Kd.rO (Kd.iT (Kd.j4 (ok' := (fun k_ => ((fun k_ => (nS k_ ∨ w.heap.size ≤ k_) ∧ k_ ≠ fZ)) k_ ∧ some k_ ≠ (u3 : Value).ownBlock)) (nV.out) (fun k_ hk => ⟨⟨hk.1, hk.2.2⟩, hk.2.1⟩))).2.1 (Kd.V_F (Kd.j4 (ok' := (fun k_ => ((fun k_ => (nS k_ ∨ w.heap.size ≤ k_) ∧ k_ ≠ fZ)) k_ ∧ some k_ ≠ (u3 : Value).ownBlock)) (nV.out) (fun k_ hk => ⟨⟨hk.1, hk.2.2⟩, hk.2.1⟩))))); (case aB => exact (bl1 HB.out oP.out)); (case aF => exact (fun k_ hk => ⟨(.inr (Nat.le_trans (bY (bl1 HB.out oP.out)) hk)), Kd.qV (g := fZ) (o := .cells #[.int .i64 aQ, .int .i64 aR, .slice (some aco) aH.length bW, .slice dz av.length bZ] 28 (0, 0)) (kp gK.out) k_ hk⟩)); (case aO => exact (kn aat.out)); (case aS => exact (bY (bl1 HB.out oP.out))); (case aL => have := azw.out; omega); intro atW w9 ho hb hg hat; rw [← alb.out] at ho; replace ku := am (Kd.qZ (ok := (fun k_ => (nS k_ ∨ w.heap.size ≤ k_) ∧ k_ ≠ fZ)) (by (with_reducible repeat (first | apply Kd.lD | apply Kd.lF | apply Kd.nL)); exact Kd.j4 ku.out (fun _ hk => ⟨⟨hk.1, hk.2.2⟩, hk.2.1⟩)) hg hat); replace kX := am (Kd.qZ (ok := (fun k_ => (nS k_ ∨ w.heap.size ≤ k_) ∧ k_ ≠ fZ)) (by (with_reducible repeat (first | apply Kd.lD | apply Kd.lF | apply Kd.nL)); exact Kd.j4 kX.out (fun _ hk => ⟨⟨hk.1, hk.2.2⟩, hk.2.1⟩)) hg hat); replace gK := am (oh (g := fZ) (o := .cells #[.int .i64 aQ, .int .i64 aR, .slice (some aco) aH.length bW, .slice dz av.length bZ] 28 (0, 0)) (kp gK.out) hg (Kd.avW aat.out gK.out (by decide))); replace nV := am (Kd.qZ (ok := (fun k_ => (nS k_ ∨ w.heap.size ≤ k_) ∧ k_ ≠ fZ)) (by (with_reducible repeat (first | apply Kd.lD | apply Kd.lF | apply Kd.nL)); exact Kd.j4 nV.out (fun _ hk => ⟨⟨hk.1, hk.2.2⟩, hk.2.1⟩)) hg hat); replace HB := am (hb); have alc := am (ho); clear aat; clear ho hb hg hat)))
     go_roundg k1
     case measure => have := HK1.out; omega
     case rel => exact ⟨(atU), (wrap64 (iY + 1)), sm, H', ⟨by have := HK1.out; omega⟩, ⟨by (with_reducible repeat (first | apply Kd.nX | apply Kd.nY | apply Kd.pz)); exact alc.out⟩, ⟨by (with_reducible repeat (first | apply Kd.lD | apply Kd.lF | apply Kd.nL)); exact Kd.j4 ku.out (fun _ hk => ⟨hk.1.1, ⟨hk.2, hk.1.2⟩⟩)⟩, ⟨by (with_reducible repeat (first | apply Kd.lD | apply Kd.lF | apply Kd.nL)); exact Kd.j4 kX.out (fun _ hk => ⟨hk.1.1, ⟨hk.2, hk.1.2⟩⟩)⟩, ⟨kp gK.out⟩, ⟨bl1 HB.out oP.out⟩⟩
    ·rw [if_neg c7] at H
     have afE : decide (0 < ((dZ aH iY).length : Int)) = false := decide_eq_false c7
     have awe : decide (0 < (dZ aH iY).length) = false := decide_eq_false (by omega)
     clear c7
     have H' := am H
     clear H
     have ac1 : 0 ≤ (iY : Int) := of_decide_eq_true asm
     have ac2 : iY < (aH.length : Int) := of_decide_eq_true asm
     obtain ⟨aco, aea, aeb, arf, abg, aac, aad⟩ := ru (Kd.iT ku.out).2.2 iY ac1 ac2
     cases arf
     obtain ⟨atV, agZ, ag0, acp⟩ := Kd.amn ku.out [] iY ac1 (by first | exact ac2 | exact of_decide_eq_true asm | (have e_ := (Kd.iT ku.out).1; omega))
     obtain ⟨am2, am3, rfl, vV, vW⟩ := Kd.jD ag0
     have rG := acp 0 _ rfl
     rw [Nat.add_zero, show ((Kd.slice 23 k23)).sz = 1 from rfl, Nat.mul_one] at rG
     replace rG := Option.some.inj (rG.symm.trans abg)
     injection rG with wZ abH xg
     rw [wZ] at vW
     rw [xg] at vV
     have nV := am (show Kd.V k23 23 _ w.heap.size _ _ (dZ aH iY) from Kd.acM vV vW)
     clear wZ abH xg vW vV
     clear acp agZ
     have am4 := am aad
     have am5 := am aac
     clear aad aac
     replace ac1 := eq_true ac1
     replace ac2 := eq_true ac2
     go_wp2
     repeat (go_quiet (fail); try go_wp2)
     go_roundg k1
     case measure => have := HK1.out; omega
     case rel => exact ⟨(jv), (wrap64 (iY + 1)), sm, H', ⟨by have := HK1.out; omega⟩, ⟨by (with_reducible repeat (first | apply Kd.nX | apply Kd.nY | apply Kd.pz)); exact aat.out⟩, ⟨by (with_reducible repeat (first | apply Kd.lD | apply Kd.lF | apply Kd.nL)); exact ku.out⟩, ⟨by (with_reducible repeat (first | apply Kd.lD | apply Kd.lF | apply Kd.nL)); exact kX.out⟩, ⟨kp gK.out⟩, ⟨bl1 HB.out oP.out⟩⟩
   ·rw [if_neg c4] at H
    have vv : decide (iY < (aH.length : Int)) = false := decide_eq_false c4
    clear c4
    have H' := am H
    clear H
    obtain ⟨as2, as3, aw5⟩ := Kd.aaz aat.out
    subst aw5
    go_wp2
    repeat (go_quiet (fail); try go_wp2)
    go_loopg [27] k1 (fun kq v27 w' => ∃ (iR : Int), v27 = .int .i64 iR ∧ ay (fD.l1 kq jv jv (jv.length : Int) iR aQ aR aH av = some r) ∧ ay (kq ≤ k1) ∧ ay (Kd.N (Kd.slice 23 k23) 24 w' w.heap.size (fun k_ => (nS k_ ∨ w.heap.size ≤ k_) ∧ k_ ≠ fZ) (.slice as2 jv.length as3) jv) ∧ ay (Kd.N (Kd.slice 23 k23) 24 w' w.heap.size (fun k_ => (nS k_ ∨ w.heap.size ≤ k_) ∧ k_ ≠ fZ) (.slice as2 jv.length as3) jv) ∧ ay (Kd.V (Kd.slice 23 k23) 24 w' w.heap.size (fun k_ => (nS k_ ∨ w.heap.size ≤ k_) ∧ some k_ ≠ ((.slice as2 jv.length as3) : Value).ownBlock ∧ some k_ ≠ ((.slice as2 jv.length as3) : Value).ownBlock ∧ k_ ≠ fZ) (.slice cu aH.length bW) aH) ∧ ay (w'.heap[fZ]? = some (.cells #[.int .i64 aQ, .int .i64 aR, (.slice cu aH.length bW), (.slice dz av.length bZ)] 28 (0, 0))) ∧ ay (Below w.heap.size w w'))
    case atStart => exact ⟨(0), sm, H', ⟨Nat.le_refl _⟩, ⟨by (with_reducible repeat (first | apply Kd.nX | apply Kd.nY | apply Kd.pz)); exact aat.out⟩, ⟨by (with_reducible repeat (first | apply Kd.nX | apply Kd.nY | apply Kd.pz)); exact aat.out⟩, ⟨by (with_reducible repeat (first | apply Kd.lD | apply Kd.lF | apply Kd.nL)); exact Kd.j4 kX.out (fun _ hk => ⟨hk.1, ⟨hk.2.1, ⟨hk.2.1, hk.2.2⟩⟩⟩)⟩, ⟨kp gK.out⟩, ⟨bl1 HB.out oP.out⟩⟩
    case round =>
     clear H'
     try clear vv
     obtain ⟨iR, rfl, HA, HK2, aat, aae, kX, gK, HB⟩ := hrel
     cases gk with
     | zero => exact absurd HA.out (by simp [fD.l1])
     | succ k2 =>
      have H := HA.out
      clear HA
      simp only [fD.l1] at H
      by_cases c11 : iR < (jv.length : Int)
      ·rw [if_pos c11] at H
       have ajZ : decide (iR < (jv.length : Int)) = true := decide_eq_true c11
       clear c11
       by_cases c12 : 0 ≤ iR
       case neg => rw [if_neg c12] at H; exact absurd H (by simp)
       rw [if_pos c12] at H
       have amy : decide (0 ≤ iR) = true := decide_eq_true c12
       clear c12
       by_cases c13 : iR < (jv.length : Int)
       case neg => rw [if_neg c13] at H; exact absurd H (by simp)
       rw [if_pos c13] at H
       have yj : decide (iR < (jv.length : Int)) = true := decide_eq_true c13
       clear c13
       by_cases c14 : (jv.length : Int) = 0
       ·rw [if_pos c14] at H
        exact absurd H (by simp)
       ·rw [if_neg c14] at H
        have wM : ((jv.length : Int) == 0) = false := beq_eq_false_iff_ne.mpr c14
        have am6 : ((jv.length : Int) != 0) = true := bne_iff_ne.mpr c14
        have aCU : ¬ (jv = []) := fun h_ => c14 (by rw [h_]; rfl)
        obtain ⟨lU, abW⟩ : ∃ j_ : Int, (Int.tmod (wrap64 (iR + 1)) (jv.length : Int)) = j_ := ⟨_, rfl⟩
        replace H : (if 0 ≤ (lU) then (if (lU) < (jv.length : Int) then (if (wrap64 (iR + 1)) = (jv.length : Int) then (if 0 ≤ (wrap64 (((dZ jv iR).length : Int) - 1)) then (if (wrap64 (((dZ jv iR).length : Int) - 1)) < ((dZ jv iR).length : Int) then (if 0 < ((dZ jv (lU)).length : Int) then (if ((aT (dZ jv iR) (wrap64 (((dZ jv iR).length : Int) - 1))).f1) ≥ (wrap64 (((aT (dZ jv (lU)) 0).f0) + aQ)) then (some false) else (fD.l1 k2 jv jv (jv.length : Int) (wrap64 (iR + 1)) aQ aR aH av)) else (none)) else (none)) else (none)) else (if 0 ≤ (wrap64 (((dZ jv iR).length : Int) - 1)) then (if (wrap64 (((dZ jv iR).length : Int) - 1)) < ((dZ jv iR).length : Int) then (if 0 < ((dZ jv (lU)).length : Int) then (if ((aT (dZ jv iR) (wrap64 (((dZ jv iR).length : Int) - 1))).f1) ≥ (wrap64 (((aT (dZ jv (lU)) 0).f0) + 0)) then (some false) else (fD.l1 k2 jv jv (jv.length : Int) (wrap64 (iR + 1)) aQ aR aH av)) else (none)) else (none)) else (none))) else (none)) else (none)) = some r := by first | (rw [abW] at H; exact H) | (simp only [abW] at H ⊢; exact H)
        by_cases c16 : 0 ≤ (lU)
        case neg => rw [if_neg c16] at H; exact absurd H (by simp)
        rw [if_pos c16] at H
        have apJ : decide (0 ≤ (lU)) = true := decide_eq_true c16
        clear c16
        by_cases c17 : (lU) < (jv.length : Int)
        case neg => rw [if_neg c17] at H; exact absurd H (by simp)
        rw [if_pos c17] at H
        have tY : decide ((lU) < (jv.length : Int)) = true := decide_eq_true c17
        clear c17
        by_cases c18 : (wrap64 (iR + 1)) = (jv.length : Int)
        ·rw [if_pos c18] at H
         have aeU : ((wrap64 (iR + 1)) == (jv.length : Int)) = true := beq_iff_eq.mpr c18
         have ald : ((wrap64 (iR + 1)) != (jv.length : Int)) = false := bne_eq_false_iff_eq.mpr c18
         clear c18
         obtain ⟨yP, aec⟩ : ∃ j_ : Int, (wrap64 (((dZ jv iR).length : Int) - 1)) = j_ := ⟨_, rfl⟩
         replace H : (if 0 ≤ (yP) then (if (yP) < ((dZ jv iR).length : Int) then (if 0 < ((dZ jv (lU)).length : Int) then (if ((aT (dZ jv iR) (yP)).f1) ≥ (wrap64 (((aT (dZ jv (lU)) 0).f0) + aQ)) then (some false) else (fD.l1 k2 jv jv (jv.length : Int) (wrap64 (iR + 1)) aQ aR aH av)) else (none)) else (none)) else (none)) = some r := by first | (rw [aec] at H; exact H) | (simp only [aec] at H ⊢; exact H)
         have atX : (IntKind.i64.wrap (((dZ jv iR).length : Int) - 1)) = yP := (jR _).trans aec
         by_cases c20 : 0 ≤ (yP)
         case neg => rw [if_neg c20] at H; exact absurd H (by simp)
         rw [if_pos c20] at H
         have acY : decide (0 ≤ (yP)) = true := decide_eq_true c20
         clear c20
         by_cases c21 : (yP) < ((dZ jv iR).length : Int)
         case neg => rw [if_neg c21] at H; exact absurd H (by simp)
         rw [if_pos c21] at H
         have acZ : decide ((yP) < ((dZ jv iR).length : Int)) = true := decide_eq_true c21
         clear c21
         by_cases c22 : 0 < ((dZ jv (lU)).length : Int)
         case neg => rw [if_neg c22] at H; exact absurd H (by simp)
         rw [if_pos c22] at H
         have yt : decide (0 < ((dZ jv (lU)).length : Int)) = true := decide_eq_true c22
         have apw : decide (0 < (dZ jv (lU)).length) = true := decide_eq_true (by omega)
         clear c22
         by_cases c23 : ((aT (dZ jv iR) (yP)).f1) ≥ (wrap64 (((aT (dZ jv (lU)) 0).f0) + aQ))
         ·rw [if_pos c23] at H
          have atT : decide ((wrap64 (((aT (dZ jv (lU)) 0).f0) + aQ)) ≤ ((aT (dZ jv iR) (yP)).f1)) = true := decide_eq_true c23
          clear c23
          obtain rfl := Option.some.inj H
          have vX : 0 ≤ (iR : Int) := of_decide_eq_true asm
          have vY : iR < (jv.length : Int) := of_decide_eq_true asm
          obtain ⟨acr, ag1, ag2, ag3, vZ, pJ, pK⟩ := ru (Kd.fE aae.out).2.2 iR vX vY
          cases ag3
          obtain ⟨ale, yQ, yR, tH⟩ := Kd.aeH aae.out [] iR vX (by first | exact vY | exact of_decide_eq_true asm | (have e_ := (Kd.fE aae.out).1; omega))
          obtain ⟨aed, aee, rfl, mH, mI⟩ := Kd.jD yR
          have kE := tH 0 _ rfl
          rw [Nat.add_zero, show ((Kd.slice 23 k23)).sz = 1 from rfl, Nat.mul_one] at kE
          replace kE := Option.some.inj (kE.symm.trans vZ)
          injection kE with wZ abH xg
          rw [wZ] at mI
          rw [xg] at mH
          have aef := am (show Kd.V k23 23 _ w.heap.size _ _ (dZ jv iR) from Kd.acM mH mI)
          clear wZ abH xg mI mH
          clear tH yQ
          have pO := am pK
          have aeg := am pJ
          clear pK pJ
          replace vX := eq_true vX
          replace vY := eq_true vY
          have wm : 0 ≤ ((lU) : Int) := of_decide_eq_true asm
          have wo : (lU) < (jv.length : Int) := of_decide_eq_true asm
          obtain ⟨acs, ag4, ag5, ag6, wu, pQ, pR⟩ := ru (Kd.fE aat.out).2.2 (lU) wm wo
          obtain rfl : acr = acs := (by injection ag6)
          obtain ⟨alf, yS, yT, tJ⟩ := Kd.aeH aat.out [] (lU) wm (by first | exact wo | exact of_decide_eq_true asm | (have e_ := (Kd.fE aat.out).1; omega))
          obtain ⟨aeh, aei, rfl, mJ, mK⟩ := Kd.jD yT
          have kF := tJ 0 _ rfl
          rw [Nat.add_zero, show ((Kd.slice 23 k23)).sz = 1 from rfl, Nat.mul_one] at kF
          replace kF := Option.some.inj (kF.symm.trans wu)
          injection kF with wZ abH xg
          rw [wZ] at mK
          rw [xg] at mJ
          have aej := am (show Kd.V k23 23 _ w.heap.size _ _ (dZ jv (lU)) from Kd.acM mJ mK)
          clear wZ abH xg mK mJ
          clear tJ yS
          have pU := am pR
          have aek := am pQ
          clear pR pQ
          replace wm := eq_true wm
          replace wo := eq_true wo
          have abJ : wr.cell? ⟨fZ, 0, none⟩ = some (.int .i64 aQ) := bc gK.out 0
          have abK : wr.cell? ⟨fZ, 1, none⟩ = some (.int .i64 aR) := bc gK.out 1
          have akk : wr.cell? ⟨fZ, 2, none⟩ = some (.slice cu aH.length bW) := bc gK.out 2
          have akl : wr.cell? ⟨fZ, 3, none⟩ = some (.slice dz av.length bZ) := bc gK.out 3
          have abL := aj gK.out 0
          have abM := aj gK.out 1
          have akm := aj gK.out 2
          have akn := aj gK.out 3
          have ag7 : 0 ≤ ((yP) : Int) := of_decide_eq_true asm
          have ag8 : (yP) < ((dZ jv iR).length : Int) := of_decide_eq_true asm
          obtain ⟨atY, arh, am7, am8⟩ := jW (by repeat (first | (with_reducible exact pO.out) | (with_reducible refine Kd.vD ?_ _) | (with_reducible refine Kd.vE ?_ _) | (with_reducible refine Kd.yw ?_) | exact pO.out)) (yP) ag7 ag8
          cases arh
          replace ag7 := eq_true ag7
          replace ag8 := eq_true ag8
          have ag9 : 0 ≤ (0 : Int) := (by omega)
          have aha : 0 < ((dZ jv (lU)).length : Int) := of_decide_eq_true asm
          obtain ⟨atZ, ari, wz, wB⟩ := jW (by repeat (first | (with_reducible exact pU.out) | (with_reducible refine Kd.vD ?_ _) | (with_reducible refine Kd.vE ?_ _) | (with_reducible refine Kd.yw ?_) | exact pU.out)) 0 ag9 aha
          cases ari
          have at0 : (0 < (dZ jv (lU)).length) = True := eq_true (by omega)
          (try rw [show ((0 : Int)).toNat = 0 from rfl] at wz)
          (try rw [show 0 * 2 = 0 from rfl] at wz)
          (try rw [Addr.add_zero'] at wz)
          (try rw [show ((0 : Int)).toNat = 0 from rfl] at wB)
          (try rw [show 0 * 2 = 0 from rfl] at wB)
          (try rw [Addr.add_zero'] at wB)
          replace ag9 := eq_true ag9
          replace aha := eq_true aha
          go_wp2
          repeat (go_quiet (fail); try go_wp2)
          go_ret
          exact ⟨by first | rfl | (simp [gu, gB] <;> rfl) | (simp only [← abW, ← aec]; first | rfl | (simp [gu, gB] <;> rfl)) | (simp [*, gu, gB] <;> rfl), bl1 HB.out oP.out⟩
         ·rw [if_neg c23] at H
          have atT : decide ((wrap64 (((aT (dZ jv (lU)) 0).f0) + aQ)) ≤ ((aT (dZ jv iR) (yP)).f1)) = false := decide_eq_false c23
          clear c23
          have H' := am H
          clear H
          have vX : 0 ≤ (iR : Int) := of_decide_eq_true asm
          have vY : iR < (jv.length : Int) := of_decide_eq_true asm
          obtain ⟨acr, ag1, ag2, ag3, vZ, pJ, pK⟩ := ru (Kd.fE aae.out).2.2 iR vX vY
          cases ag3
          obtain ⟨ale, yQ, yR, tH⟩ := Kd.aeH aae.out [] iR vX (by first | exact vY | exact of_decide_eq_true asm | (have e_ := (Kd.fE aae.out).1; omega))
          obtain ⟨aed, aee, rfl, mH, mI⟩ := Kd.jD yR
          have kE := tH 0 _ rfl
          rw [Nat.add_zero, show ((Kd.slice 23 k23)).sz = 1 from rfl, Nat.mul_one] at kE
          replace kE := Option.some.inj (kE.symm.trans vZ)
          injection kE with wZ abH xg
          rw [wZ] at mI
          rw [xg] at mH
          have aef := am (show Kd.V k23 23 _ w.heap.size _ _ (dZ jv iR) from Kd.acM mH mI)
          clear wZ abH xg mI mH
          clear tH yQ
          have pO := am pK
          have aeg := am pJ
          clear pK pJ
          replace vX := eq_true vX
          replace vY := eq_true vY
          have wm : 0 ≤ ((lU) : Int) := of_decide_eq_true asm
          have wo : (lU) < (jv.length : Int) := of_decide_eq_true asm
          obtain ⟨acs, ag4, ag5, ag6, wu, pQ, pR⟩ := ru (Kd.fE aat.out).2.2 (lU) wm wo
          obtain rfl : acr = acs := (by injection ag6)
          obtain ⟨alf, yS, yT, tJ⟩ := Kd.aeH aat.out [] (lU) wm (by first | exact wo | exact of_decide_eq_true asm | (have e_ := (Kd.fE aat.out).1; omega))
          obtain ⟨aeh, aei, rfl, mJ, mK⟩ := Kd.jD yT
          have kF := tJ 0 _ rfl
          rw [Nat.add_zero, show ((Kd.slice 23 k23)).sz = 1 from rfl, Nat.mul_one] at kF
          replace kF := Option.some.inj (kF.symm.trans wu)
          injection kF with wZ abH xg
          rw [wZ] at mK
          rw [xg] at mJ
          have aej := am (show Kd.V k23 23 _ w.heap.size _ _ (dZ jv (lU)) from Kd.acM mJ mK)
          clear wZ abH xg mK mJ
          clear tJ yS
          have pU := am pR
          have aek := am pQ
          clear pR pQ
          replace wm := eq_true wm
          replace wo := eq_true wo
          have afM : wr.cell? ⟨fZ, 0, none⟩ = some (.int .i64 aQ) := bc gK.out 0
          have afN : wr.cell? ⟨fZ, 1, none⟩ = some (.int .i64 aR) := bc gK.out 1
          have ajK : wr.cell? ⟨fZ, 2, none⟩ = some (.slice cu aH.length bW) := bc gK.out 2
          have ajL : wr.cell? ⟨fZ, 3, none⟩ = some (.slice dz av.length bZ) := bc gK.out 3
          have afO := aj gK.out 0
          have afP := aj gK.out 1
          have ajM := aj gK.out 2
          have ajN := aj gK.out 3
          have ag7 : 0 ≤ ((yP) : Int) := of_decide_eq_true asm
          have ag8 : (yP) < ((dZ jv iR).length : Int) := of_decide_eq_true asm
          obtain ⟨atY, arh, am7, am8⟩ := jW (by repeat (first | (with_reducible exact pO.out) | (with_reducible refine Kd.vD ?_ _) | (with_reducible refine Kd.vE ?_ _) | (with_reducible refine Kd.yw ?_) | exact pO.out)) (yP) ag7 ag8
          cases arh
          replace ag7 := eq_true ag7
          replace ag8 := eq_true ag8
          have ag9 : 0 ≤ (0 : Int) := (by omega)
          have aha : 0 < ((dZ jv (lU)).length : Int) := of_decide_eq_true asm
          obtain ⟨atZ, ari, wz, wB⟩ := jW (by repeat (first | (with_reducible exact pU.out) | (with_reducible refine Kd.vD ?_ _) | (with_reducible refine Kd.vE ?_ _) | (with_reducible refine Kd.yw ?_) | exact pU.out)) 0 ag9 aha
          cases ari
          have at0 : (0 < (dZ jv (lU)).length) = True := eq_true (by omega)
          (try rw [show ((0 : Int)).toNat = 0 from rfl] at wz)
          (try rw [show 0 * 2 = 0 from rfl] at wz)
          (try rw [Addr.add_zero'] at wz)
          (try rw [show ((0 : Int)).toNat = 0 from rfl] at wB)
          (try rw [show 0 * 2 = 0 from rfl] at wB)
          (try rw [Addr.add_zero'] at wB)
          replace ag9 := eq_true ag9
          replace aha := eq_true aha
          go_wp2
          repeat (go_quiet (fail); try go_wp2)
          go_roundg k2
          case measure => have := HK1.out; have := HK2.out; omega
          case rel => exact ⟨(wrap64 (iR + 1)), sm, H', ⟨by have := HK1.out; have := HK2.out; omega⟩, ⟨by (with_reducible repeat (first | apply Kd.nX | apply Kd.nY | apply Kd.pz)); exact aat.out⟩, ⟨by (with_reducible repeat (first | apply Kd.nX | apply Kd.nY | apply Kd.pz)); exact aae.out⟩, ⟨by (with_reducible repeat (first | apply Kd.lD | apply Kd.lF | apply Kd.nL)); exact kX.out⟩, ⟨kp gK.out⟩, ⟨bl1 HB.out oP.out⟩⟩
        ·rw [if_neg c18] at H
         have aeU : ((wrap64 (iR + 1)) == (jv.length : Int)) = false := beq_eq_false_iff_ne.mpr c18
         have ald : ((wrap64 (iR + 1)) != (jv.length : Int)) = true := bne_iff_ne.mpr c18
         obtain ⟨afd, am9⟩ : ∃ j_ : Int, (wrap64 (((dZ jv iR).length : Int) - 1)) = j_ := ⟨_, rfl⟩
         replace H : (if 0 ≤ (afd) then (if (afd) < ((dZ jv iR).length : Int) then (if 0 < ((dZ jv (lU)).length : Int) then (if ((aT (dZ jv iR) (afd)).f1) ≥ (wrap64 (((aT (dZ jv (lU)) 0).f0) + 0)) then (some false) else (fD.l1 k2 jv jv (jv.length : Int) (wrap64 (iR + 1)) aQ aR aH av)) else (none)) else (none)) else (none)) = some r := by first | (rw [am9] at H; exact H) | (simp only [am9] at H ⊢; exact H)
         have aBi : (IntKind.i64.wrap (((dZ jv iR).length : Int) - 1)) = afd := (jR _).trans am9
         by_cases c27 : 0 ≤ (afd)
         case neg => rw [if_neg c27] at H; exact absurd H (by simp)
         rw [if_pos c27] at H
         have aCV : decide (0 ≤ (afd)) = true := decide_eq_true c27
         clear c27
         by_cases c28 : (afd) < ((dZ jv iR).length : Int)
         case neg => rw [if_neg c28] at H; exact absurd H (by simp)
         rw [if_pos c28] at H
         have ak9 : decide ((afd) < ((dZ jv iR).length : Int)) = true := decide_eq_true c28
         clear c28
         by_cases c29 : 0 < ((dZ jv (lU)).length : Int)
         case neg => rw [if_neg c29] at H; exact absurd H (by simp)
         rw [if_pos c29] at H
         have ahb : decide (0 < ((dZ jv (lU)).length : Int)) = true := decide_eq_true c29
         have arj : decide (0 < (dZ jv (lU)).length) = true := decide_eq_true (by omega)
         clear c29
         by_cases c30 : ((aT (dZ jv iR) (afd)).f1) ≥ (wrap64 (((aT (dZ jv (lU)) 0).f0) + 0))
         ·rw [if_pos c30] at H
          have ad7 : decide ((wrap64 (((aT (dZ jv (lU)) 0).f0) + 0)) ≤ ((aT (dZ jv iR) (afd)).f1)) = true := decide_eq_true c30
          (try simp only [Int.add_zero] at ad7)
          clear c30
          obtain rfl := Option.some.inj H
          have vX : 0 ≤ (iR : Int) := of_decide_eq_true asm
          have vY : iR < (jv.length : Int) := of_decide_eq_true asm
          obtain ⟨acr, ag1, ag2, ag3, vZ, pJ, pK⟩ := ru (Kd.fE aae.out).2.2 iR vX vY
          cases ag3
          obtain ⟨ale, yQ, yR, tH⟩ := Kd.aeH aae.out [] iR vX (by first | exact vY | exact of_decide_eq_true asm | (have e_ := (Kd.fE aae.out).1; omega))
          obtain ⟨aed, aee, rfl, mH, mI⟩ := Kd.jD yR
          have kE := tH 0 _ rfl
          rw [Nat.add_zero, show ((Kd.slice 23 k23)).sz = 1 from rfl, Nat.mul_one] at kE
          replace kE := Option.some.inj (kE.symm.trans vZ)
          injection kE with wZ abH xg
          rw [wZ] at mI
          rw [xg] at mH
          have aef := am (show Kd.V k23 23 _ w.heap.size _ _ (dZ jv iR) from Kd.acM mH mI)
          clear wZ abH xg mI mH
          clear tH yQ
          have pO := am pK
          have aeg := am pJ
          clear pK pJ
          replace vX := eq_true vX
          replace vY := eq_true vY
          have wm : 0 ≤ ((lU) : Int) := of_decide_eq_true asm
          have wo : (lU) < (jv.length : Int) := of_decide_eq_true asm
          obtain ⟨acs, ag4, ag5, ag6, wu, pQ, pR⟩ := ru (Kd.fE aat.out).2.2 (lU) wm wo
          obtain rfl : acr = acs := (by injection ag6)
          obtain ⟨alf, yS, yT, tJ⟩ := Kd.aeH aat.out [] (lU) wm (by first | exact wo | exact of_decide_eq_true asm | (have e_ := (Kd.fE aat.out).1; omega))
          obtain ⟨aeh, aei, rfl, mJ, mK⟩ := Kd.jD yT
          have kF := tJ 0 _ rfl
          rw [Nat.add_zero, show ((Kd.slice 23 k23)).sz = 1 from rfl, Nat.mul_one] at kF
          replace kF := Option.some.inj (kF.symm.trans wu)
          injection kF with wZ abH xg
          rw [wZ] at mK
          rw [xg] at mJ
          have aej := am (show Kd.V k23 23 _ w.heap.size _ _ (dZ jv (lU)) from Kd.acM mJ mK)
          clear wZ abH xg mK mJ
          clear tJ yS
          have pU := am pR
          have aek := am pQ
          clear pR pQ
          replace wm := eq_true wm
          replace wo := eq_true wo
          have ahc : 0 ≤ ((afd) : Int) := of_decide_eq_true asm
          have ahd : (afd) < ((dZ jv iR).length : Int) := of_decide_eq_true asm
          obtain ⟨at1, ark, ana, anb⟩ := jW (by repeat (first | (with_reducible exact pO.out) | (with_reducible refine Kd.vD ?_ _) | (with_reducible refine Kd.vE ?_ _) | (with_reducible refine Kd.yw ?_) | exact pO.out)) (afd) ahc ahd
          cases ark
          replace ahc := eq_true ahc
          replace ahd := eq_true ahd
          have ahe : 0 ≤ (0 : Int) := (by omega)
          have ahf : 0 < ((dZ jv (lU)).length : Int) := of_decide_eq_true asm
          obtain ⟨at5, arl, wC, wD⟩ := jW (by repeat (first | (with_reducible exact pU.out) | (with_reducible refine Kd.vD ?_ _) | (with_reducible refine Kd.vE ?_ _) | (with_reducible refine Kd.yw ?_) | exact pU.out)) 0 ahe ahf
          cases arl
          have at6 : (0 < (dZ jv (lU)).length) = True := eq_true (by omega)
          (try rw [show ((0 : Int)).toNat = 0 from rfl] at wC)
          (try rw [show 0 * 2 = 0 from rfl] at wC)
          (try rw [Addr.add_zero'] at wC)
          (try rw [show ((0 : Int)).toNat = 0 from rfl] at wD)
          (try rw [show 0 * 2 = 0 from rfl] at wD)
          (try rw [Addr.add_zero'] at wD)
          replace ahe := eq_true ahe
          replace ahf := eq_true ahf
          go_wp2
          repeat (go_quiet (fail); try go_wp2)
          go_ret
          exact ⟨by first | rfl | (simp [gu, gB] <;> rfl) | (simp only [← abW, ← am9]; first | rfl | (simp [gu, gB] <;> rfl)) | (simp [*, gu, gB] <;> rfl), bl1 HB.out oP.out⟩
         ·rw [if_neg c30] at H
          have ad7 : decide ((wrap64 (((aT (dZ jv (lU)) 0).f0) + 0)) ≤ ((aT (dZ jv iR) (afd)).f1)) = false := decide_eq_false c30
          (try simp only [Int.add_zero] at ad7)
          clear c30
          have H' := am H
          clear H
          have vX : 0 ≤ (iR : Int) := of_decide_eq_true asm
          have vY : iR < (jv.length : Int) := of_decide_eq_true asm
          obtain ⟨acr, ag1, ag2, ag3, vZ, pJ, pK⟩ := ru (Kd.fE aae.out).2.2 iR vX vY
          cases ag3
          obtain ⟨ale, yQ, yR, tH⟩ := Kd.aeH aae.out [] iR vX (by first | exact vY | exact of_decide_eq_true asm | (have e_ := (Kd.fE aae.out).1; omega))
          obtain ⟨aed, aee, rfl, mH, mI⟩ := Kd.jD yR
          have kE := tH 0 _ rfl
          rw [Nat.add_zero, show ((Kd.slice 23 k23)).sz = 1 from rfl, Nat.mul_one] at kE
          replace kE := Option.some.inj (kE.symm.trans vZ)
          injection kE with wZ abH xg
          rw [wZ] at mI
          rw [xg] at mH
          have aef := am (show Kd.V k23 23 _ w.heap.size _ _ (dZ jv iR) from Kd.acM mH mI)
          clear wZ abH xg mI mH
          clear tH yQ
          have pO := am pK
          have aeg := am pJ
          clear pK pJ
          replace vX := eq_true vX
          replace vY := eq_true vY
          have wm : 0 ≤ ((lU) : Int) := of_decide_eq_true asm
          have wo : (lU) < (jv.length : Int) := of_decide_eq_true asm
          obtain ⟨acs, ag4, ag5, ag6, wu, pQ, pR⟩ := ru (Kd.fE aat.out).2.2 (lU) wm wo
          obtain rfl : acr = acs := (by injection ag6)
          obtain ⟨alf, yS, yT, tJ⟩ := Kd.aeH aat.out [] (lU) wm (by first | exact wo | exact of_decide_eq_true asm | (have e_ := (Kd.fE aat.out).1; omega))
          obtain ⟨aeh, aei, rfl, mJ, mK⟩ := Kd.jD yT
          have kF := tJ 0 _ rfl
          rw [Nat.add_zero, show ((Kd.slice 23 k23)).sz = 1 from rfl, Nat.mul_one] at kF
          replace kF := Option.some.inj (kF.symm.trans wu)
          injection kF with wZ abH xg
          rw [wZ] at mK
          rw [xg] at mJ
          have aej := am (show Kd.V k23 23 _ w.heap.size _ _ (dZ jv (lU)) from Kd.acM mJ mK)
          clear wZ abH xg mK mJ
          clear tJ yS
          have pU := am pR
          have aek := am pQ
          clear pR pQ
          replace wm := eq_true wm
          replace wo := eq_true wo
          have ahc : 0 ≤ ((afd) : Int) := of_decide_eq_true asm
          have ahd : (afd) < ((dZ jv iR).length : Int) := of_decide_eq_true asm
          obtain ⟨at1, ark, ana, anb⟩ := jW (by repeat (first | (with_reducible exact pO.out) | (with_reducible refine Kd.vD ?_ _) | (with_reducible refine Kd.vE ?_ _) | (with_reducible refine Kd.yw ?_) | exact pO.out)) (afd) ahc ahd
          cases ark
          replace ahc := eq_true ahc
          replace ahd := eq_true ahd
          have ahe : 0 ≤ (0 : Int) := (by omega)
          have ahf : 0 < ((dZ jv (lU)).length : Int) := of_decide_eq_true asm
          obtain ⟨at5, arl, wC, wD⟩ := jW (by repeat (first | (with_reducible exact pU.out) | (with_reducible refine Kd.vD ?_ _) | (with_reducible refine Kd.vE ?_ _) | (with_reducible refine Kd.yw ?_) | exact pU.out)) 0 ahe ahf
          cases arl
          have at6 : (0 < (dZ jv (lU)).length) = True := eq_true (by omega)
          (try rw [show ((0 : Int)).toNat = 0 from rfl] at wC)
          (try rw [show 0 * 2 = 0 from rfl] at wC)
          (try rw [Addr.add_zero'] at wC)
          (try rw [show ((0 : Int)).toNat = 0 from rfl] at wD)
          (try rw [show 0 * 2 = 0 from rfl] at wD)
          (try rw [Addr.add_zero'] at wD)
          replace ahe := eq_true ahe
          replace ahf := eq_true ahf
          go_wp2
          repeat (go_quiet (fail); try go_wp2)
          go_roundg k2
          case measure => have := HK1.out; have := HK2.out; omega
          case rel => exact ⟨(wrap64 (iR + 1)), sm, H', ⟨by have := HK1.out; have := HK2.out; omega⟩, ⟨by (with_reducible repeat (first | apply Kd.nX | apply Kd.nY | apply Kd.pz)); exact aat.out⟩, ⟨by (with_reducible repeat (first | apply Kd.nX | apply Kd.nY | apply Kd.pz)); exact aae.out⟩, ⟨by (with_reducible repeat (first | apply Kd.lD | apply Kd.lF | apply Kd.nL)); exact kX.out⟩, ⟨kp gK.out⟩, ⟨bl1 HB.out oP.out⟩⟩
      ·rw [if_neg c11] at H
       have ajZ : decide (iR < (jv.length : Int)) = false := decide_eq_false c11
       clear c11
       obtain rfl := Option.some.inj H
       go_wp2
       repeat (go_quiet (fail); try go_wp2)
       go_ret
       exact ⟨rt, bl1 HB.out oP.out⟩
mutual
def dw.j0 : Nat → Bool → Int → Int → List (List (S23)) → List (S70) → Option (Int)
 | 0, _, _, _, _, _ => none
 | k + 1, x19, x2176000, x2176001, x2176002, x2176003 => if x19 = true then (some 3) else ((bJ.f k x2176000 x2176001 x2176002 x2176003).bind fun alg => (if alg = true then ((fD.f k x2176000 x2176001 x2176002 x2176003).bind fun afe => (dw.j1 k (!afe) x2176000 x2176001 x2176002 x2176003)) else (dw.j1 k true x2176000 x2176001 x2176002 x2176003)))
def dw.j1 : Nat → Bool → Int → Int → List (List (S23)) → List (S70) → Option (Int)
 | 0, _, _, _, _, _ => none
 | k + 1, x27, x2176000, x2176001, x2176002, x2176003 => if x27 = true then (some 50) else (dw.l0 k x2176003 (x2176003.length : Int) 0 x2176000 x2176001 x2176002 x2176003)
def dw.l0 : Nat → List (S70) → Int → Int → Int → Int → List (List (S23)) → List (S70) → Option (Int)
 | 0, _, _, _, _, _, _, _ => none
 | k + 1, x29, x30, x31, x2176000, x2176001, x2176002, x2176003 => if x31 < x30 then (if 0 ≤ x31 then (if x31 < (x29.length : Int) then ((fu.f k x2176000 x2176001 x2176002 x2176003 ((aU x29 x31).f0)).bind fun arn => (if arn = true then (dw.l0 k x29 x30 (wrap64 (x31 + 1)) x2176000 x2176001 x2176002 x2176003) else (some 50))) else (none)) else (none)) else (some 0)
end
def dw.f (k : Nat) (aQ : Int) (aR : Int) (aH : List (List (S23))) (av : List (S70)) : Option (Int) := if (aH.length : Int) > 6000 then (dw.j0 k true aQ aR aH av) else (if (av.length : Int) > 6000 then (dw.j0 k true aQ aR aH av) else ((iq.f k aQ aR aH av).bind fun aiY => (dw.j0 k (decide (aiY > 60000)) aQ aR aH av)))
set_option maxHeartbeats 8000000 in
set_option maxRecDepth 100000 in
theorem dw.calls (k : Nat) (aQ : Int) (aR : Int) (cu : Option Addr) (bW : Nat) (aH : List (List (S23))) (dz : Option Addr) (bZ : Nat) (av : List (S70)) (r : Int) (w : World) (iF : Kd.C (Kd.slice 23 k23) w cu aH.length aH) (iG : aH.length ≤ bW) (iw : Kd.C k70 w dz av.length av) (iy : av.length ≤ bZ) (h : dw.f k aQ aR aH av = some r) :
 Calls Try.prog 54 #[.agg #[.int .i64 aQ, .int .i64 aR, .slice cu aH.length bW, .slice dz av.length bZ]] w fun e w' => e = .returned (.int .i64 r) ∧ Below w.heap.size w w' := by
 have aaE := Try.underlying28
 have ao0 := Try.underlying70
 have gF := am iF
 have gX := am iG
 clear iF iG
 have fK := am iw
 have gW := am iy
 clear iw iy
 have HB := am (Below.refl w.heap.size w)
 have H : (if (aH.length : Int) > 6000 then (dw.j0 k true aQ aR aH av) else (if (av.length : Int) > 6000 then (dw.j0 k true aQ aR aH av) else ((iq.f k aQ aR aH av).bind fun aiY => (dw.j0 k (decide (aiY > 60000)) aQ aR aH av)))) = some r := h
 clear h
 have HC2 := am H
 clear H
 go_enter Try.func54, Try.ntmps54
 go_upto_region 1 with (first | ((with_reducible refine bq (N := 1) rfl ?_); (try (refine gH (by rfl) ?_; dsimp only)); refine bx 1 28 #[.int .i64 aQ, .int .i64 aR, .slice cu aH.length bW, .slice dz av.length bZ] ?_; intro je hg w3 dL hb; have dQ := am (dL); have aBj := am ((bz hg HB.out : w.heap.size ≤ je)); have lJ := am ((bz hg HB.out : w.heap.size ≤ je)); replace HB := am (au (bl HB.out) hb); clear hb dL hg))
 (try simp only [Act.put, List.setIfInBounds_toArray, List.set_cons_zero, List.set_cons_succ])
 go_cut [19] (fun v19 wc => ∃ (kq : Nat) (anc : Bool), v19 = .bool anc ∧ ay (dw.j0 kq anc aQ aR aH av = some r) ∧ ay (kq ≤ k) ∧ ay (wc.heap[je]? = some (.cells #[.int .i64 aQ, .int .i64 aR, (.slice cu aH.length bW), (.slice dz av.length bZ)] 28 (0, 0))) ∧ ay (Below w.heap.size w wc))
 case first =>
  have H := HC2.out
  clear HC2
  by_cases c4 : (aH.length : Int) > 6000
  ·rw [if_pos c4] at H
   have vv : decide (6000 < (aH.length : Int)) = true := decide_eq_true c4
   have aeV : decide (6000 < aH.length) = true := decide_eq_true (by omega)
   clear c4
   (first | rw [vv] | (simp only [jR, kH]; rw [vv]) | skip)
   have H' := am H
   clear H
   have abD : w3.cell? ⟨je, 0, none⟩ = some (.int .i64 aQ) := bc dQ.out 0
   have abE : w3.cell? ⟨je, 1, none⟩ = some (.int .i64 aR) := bc dQ.out 1
   have aeO : w3.cell? ⟨je, 2, none⟩ = some (.slice cu aH.length bW) := bc dQ.out 2
   have aeP : w3.cell? ⟨je, 3, none⟩ = some (.slice dz av.length bZ) := bc dQ.out 3
   have abF := aj dQ.out 0
   have abG := aj dQ.out 1
   have aeQ := aj dQ.out 2
   have aeR := aj dQ.out 3
   go_wp2
   go_meet
   case rel => exact ⟨_, (true), sm, H', ⟨by first | omega | exact Nat.le_refl _⟩, ⟨kp dQ.out⟩, ⟨bl1 HB.out lJ.out⟩⟩
  ·rw [if_neg c4] at H
   have vv : decide (6000 < (aH.length : Int)) = false := decide_eq_false c4
   have aeV : decide (6000 < aH.length) = false := decide_eq_false (by omega)
   clear c4
   (first | rw [vv] | (simp only [jR, kH]; rw [vv]) | skip)
   by_cases c6 : (av.length : Int) > 6000
   ·rw [if_pos c6] at H
    have adw : decide (6000 < (av.length : Int)) = true := decide_eq_true c6
    have anO : decide (6000 < av.length) = true := decide_eq_true (by omega)
    clear c6
    have H' := am H
    clear H
    have zy : w3.cell? ⟨je, 0, none⟩ = some (.int .i64 aQ) := bc dQ.out 0
    have zA : w3.cell? ⟨je, 1, none⟩ = some (.int .i64 aR) := bc dQ.out 1
    have zB : w3.cell? ⟨je, 2, none⟩ = some (.slice cu aH.length bW) := bc dQ.out 2
    have zC : w3.cell? ⟨je, 3, none⟩ = some (.slice dz av.length bZ) := bc dQ.out 3
    have zD := aj dQ.out 0
    have zF := aj dQ.out 1
    have zG := aj dQ.out 2
    have zH := aj dQ.out 3
    go_wp2
    go_meet
    case rel => exact ⟨_, (true), sm, H', ⟨by first | omega | exact Nat.le_refl _⟩, ⟨kp dQ.out⟩, ⟨bl1 HB.out lJ.out⟩⟩
   ·rw [if_neg c6] at H
    have adw : decide (6000 < (av.length : Int)) = false := decide_eq_false c6
    have anO : decide (6000 < av.length) = false := decide_eq_false (by omega)
    clear c6
    replace H := Option.bind_eq_some_iff.mp H
    obtain ⟨aiY, A80, H⟩ := H
    try dsimp only at H
    have A8 := am A80
    clear A80
    have H' := am H
    clear H
    have oq : w3.cell? ⟨je, 0, none⟩ = some (.int .i64 aQ) := bc dQ.out 0
    have ou : w3.cell? ⟨je, 1, none⟩ = some (.int .i64 aR) := bc dQ.out 1
    have ow : w3.cell? ⟨je, 2, none⟩ = some (.slice cu aH.length bW) := bc dQ.out 2
    have oz : w3.cell? ⟨je, 3, none⟩ = some (.slice dz av.length bZ) := bc dQ.out 3
    have oC := aj dQ.out 0
    have oD := aj dQ.out 1
    have oF := aj dQ.out 2
    have oG := aj dQ.out 3
    go_wp2_with (first | (go_at_call 80; (with_reducible refine (iq.calls k aQ aR _ _ aH _ _ av aiY _ ?bH ?bI ?dG ?dI A8.out).mono ?_); (case bH => exact kc (Kd.bf gF.out HB.out)); (case bI => exact gX.out); (case dG => exact kc (Kd.bf fK.out HB.out)); (case dI => exact gW.out); rintro e w10 ⟨rfl, hb⟩; replace dQ := am (ak (kp dQ.out) hb); replace HB := am (au (bl1 HB.out lJ.out) hb); (try clear hb); (try clear hb2); (try clear hk); (try clear hi)))
    go_meet
    case rel => exact ⟨_, (decide (aiY > 60000)), sm, H', ⟨by first | omega | exact Nat.le_refl _⟩, ⟨kp dQ.out⟩, ⟨bl1 HB.out lJ.out⟩⟩
 case rest =>
  clear HC2
  obtain ⟨kq, anc, rfl, HA, HJ1, dQ, HB⟩ := hcut
  cases kq with
  | zero => exact absurd HA.out (by simp [dw.j0])
  | succ kj1 =>
   have H := HA.out
   clear HA
   simp only [dw.j0] at H
   by_cases c11 : anc = true
   ·subst c11
    have H1 : (some 3) = some r := by rw [if_pos rfl] at H; exact H
    clear H
    have H := H1
    clear H1
    obtain rfl := Option.some.inj H
    go_wp2
    go_ret
    exact ⟨rt, bl1 HB.out lJ.out⟩
   ·replace c11 := Bool.eq_false_iff.mpr c11
    subst c11
    have H1 : ((bJ.f kj1 aQ aR aH av).bind fun alg => (if alg = true then ((fD.f kj1 aQ aR aH av).bind fun afe => (dw.j1 kj1 (!afe) aQ aR aH av)) else (dw.j1 kj1 true aQ aR aH av))) = some r := by rw [if_neg (show ¬ (false = true) by decide)] at H; exact H
    clear H
    have H := H1
    clear H1
    have aro := am H
    clear H
    go_upto_region 3 with (fail)
    go_cut [27] (fun v27 wc => ∃ (kq : Nat) (aij : Bool), v27 = .bool aij ∧ ay (dw.j1 kq aij aQ aR aH av = some r) ∧ ay (kq ≤ kj1) ∧ ay (wc.heap[je]? = some (.cells #[.int .i64 aQ, .int .i64 aR, (.slice cu aH.length bW), (.slice dz av.length bZ)] 28 (0, 0))) ∧ ay (Below w.heap.size w wc))
    case first =>
     have H := aro.out
     clear aro
     replace H := Option.bind_eq_some_iff.mp H
     obtain ⟨alg, ajJ, H⟩ := H
     try dsimp only at H
     have A13 := am ajJ
     clear ajJ
     by_cases c14 : alg = true
     ·subst c14
      have H1 : ((fD.f kj1 aQ aR aH av).bind fun afe => (dw.j1 kj1 (!afe) aQ aR aH av)) = some r := by rw [if_pos rfl] at H; exact H
      clear H
      have H := H1
      clear H1
      replace H := Option.bind_eq_some_iff.mp H
      obtain ⟨afe, anM, H⟩ := H
      try dsimp only at H
      have A15 := am anM
      clear anM
      have H' := am H
      clear H
      have aaF : wc.cell? ⟨je, 0, none⟩ = some (.int .i64 aQ) := bc dQ.out 0
      have aaG : wc.cell? ⟨je, 1, none⟩ = some (.int .i64 aR) := bc dQ.out 1
      have abQ : wc.cell? ⟨je, 2, none⟩ = some (.slice cu aH.length bW) := bc dQ.out 2
      have abR : wc.cell? ⟨je, 3, none⟩ = some (.slice dz av.length bZ) := bc dQ.out 3
      have aaH := aj dQ.out 0
      have aaI := aj dQ.out 1
      have abS := aj dQ.out 2
      have abT := aj dQ.out 3
      go_wp2_with (first | ((with_reducible refine aC (f := 81) rfl ?_); refine bR (some 21) rfl rfl Try.func81 (by kernel_rfl) rfl #[.agg #[.int .i64 aQ, .int .i64 aR, .slice cu aH.length bW, .slice dz av.length bZ]] rfl ar ?_; (with_reducible refine (bJ.calls kj1 aQ aR _ _ aH _ _ av true _ ?bH ?bI ?dG ?dI A13.out).mono ?_); (case bH => exact kc (Kd.bf gF.out HB.out)); (case bI => exact gX.out); (case dG => exact kc (Kd.bf fK.out HB.out)); (case dI => exact gW.out); rintro e w17 ⟨rfl, hb⟩; refine ⟨_, rfl, ?_⟩; replace dQ := am (ak (kp dQ.out) hb); replace HB := am (au (bl1 HB.out lJ.out) hb); (try clear hb); (try clear hb2); (try clear hk); (try clear hi); have sN : w17.cell? ⟨je, 0, none⟩ = some (.int .i64 aQ) := bc dQ.out 0; have sO : w17.cell? ⟨je, 1, none⟩ = some (.int .i64 aR) := bc dQ.out 1; have sP : w17.cell? ⟨je, 2, none⟩ = some (.slice cu aH.length bW) := bc dQ.out 2; have sQ : w17.cell? ⟨je, 3, none⟩ = some (.slice dz av.length bZ) := bc dQ.out 3; have sS := aj dQ.out 0; have sU := aj dQ.out 1; have sV := aj dQ.out 2; have sW := aj dQ.out 3) | (go_at_call 82; (with_reducible refine (fD.calls kj1 aQ aR (fun k_ => k_ < w.heap.size) _ _ aH _ _ av afe _ ?bH ?bI ?dG A15.out).mono ?_); (case bH => exact Kd.acM gX.out (Kd.qj (Kd.C_F (Kd.rM 23 xY) gF.out) (bl1 HB.out lJ.out))); (case bI => exact kc (Kd.bf fK.out HB.out)); (case dG => exact gW.out); rintro e w19 ⟨rfl, hb⟩; replace dQ := am (ak (kp dQ.out) hb); replace HB := am (au (bl1 HB.out lJ.out) hb); (try clear hb); (try clear hb2); (try clear hk); (try clear hi)))
      go_meet
      case rel => exact ⟨_, (!afe), sm, H', ⟨by have := HJ1.out; first | omega | exact Nat.le_refl _⟩, ⟨kp dQ.out⟩, ⟨bl1 HB.out lJ.out⟩⟩
     ·replace c14 := Bool.eq_false_iff.mpr c14
      subst c14
      have H1 : (dw.j1 kj1 true aQ aR aH av) = some r := by rw [if_neg (show ¬ (false = true) by decide)] at H; exact H
      clear H
      have H := H1
      clear H1
      have H' := am H
      clear H
      have rV : wc.cell? ⟨je, 0, none⟩ = some (.int .i64 aQ) := bc dQ.out 0
      have rW : wc.cell? ⟨je, 1, none⟩ = some (.int .i64 aR) := bc dQ.out 1
      have xJ : wc.cell? ⟨je, 2, none⟩ = some (.slice cu aH.length bW) := bc dQ.out 2
      have xK : wc.cell? ⟨je, 3, none⟩ = some (.slice dz av.length bZ) := bc dQ.out 3
      have rX := aj dQ.out 0
      have rY := aj dQ.out 1
      have xL := aj dQ.out 2
      have xM := aj dQ.out 3
      go_wp2_with (first | ((with_reducible refine aC (f := 81) rfl ?_); refine bR (some 21) rfl rfl Try.func81 (by kernel_rfl) rfl #[.agg #[.int .i64 aQ, .int .i64 aR, .slice cu aH.length bW, .slice dz av.length bZ]] rfl ar ?_; (with_reducible refine (bJ.calls kj1 aQ aR _ _ aH _ _ av false _ ?bH ?bI ?dG ?dI A13.out).mono ?_); (case bH => exact kc (Kd.bf gF.out HB.out)); (case bI => exact gX.out); (case dG => exact kc (Kd.bf fK.out HB.out)); (case dI => exact gW.out); rintro e w21 ⟨rfl, hb⟩; refine ⟨_, rfl, ?_⟩; replace dQ := am (ak (kp dQ.out) hb); replace HB := am (au (bl1 HB.out lJ.out) hb); (try clear hb); (try clear hb2); (try clear hk); (try clear hi)))
      go_meet
      case rel => exact ⟨_, (true), sm, H', ⟨by have := HJ1.out; first | omega | exact Nat.le_refl _⟩, ⟨kp dQ.out⟩, ⟨bl1 HB.out lJ.out⟩⟩
    case rest =>
     clear aro
     try clear c11
     obtain ⟨kq, aij, rfl, HA, azx, dQ, HB⟩ := hcut
     cases kq with
     | zero => exact absurd HA.out (by simp [dw.j1])
     | succ kj11 =>
      have H := HA.out
      clear HA
      simp only [dw.j1] at H
      by_cases c22 : aij = true
      ·subst c22
       have H1 : (some 50) = some r := by rw [if_pos rfl] at H; exact H
       clear H
       have H := H1
       clear H1
       obtain rfl := Option.some.inj H
       go_wp2
       go_ret
       exact ⟨rt, bl1 HB.out lJ.out⟩
      ·replace c22 := Bool.eq_false_iff.mpr c22
       subst c22
       have H1 : (dw.l0 kj11 av (av.length : Int) 0 aQ aR aH av) = some r := by rw [if_neg (show ¬ (false = true) by decide)] at H; exact H
       clear H
       have H := H1
       clear H1
       have H' := am H
       clear H
       have sH : wc.cell? ⟨je, 0, none⟩ = some (.int .i64 aQ) := bc dQ.out 0
       have sI : wc.cell? ⟨je, 1, none⟩ = some (.int .i64 aR) := bc dQ.out 1
       have uP : wc.cell? ⟨je, 2, none⟩ = some (.slice cu aH.length bW) := bc dQ.out 2
       have uQ : wc.cell? ⟨je, 3, none⟩ = some (.slice dz av.length bZ) := bc dQ.out 3
       have sJ := aj dQ.out 0
       have sK := aj dQ.out 1
       have uR := aj dQ.out 2
       have uS := aj dQ.out 3
       go_wp2
       go_loopg [31] kj11 (fun kq v31 w' => ∃ (p9 : Int), v31 = .int .i64 p9 ∧ ay (dw.l0 kq av (av.length : Int) p9 aQ aR aH av = some r) ∧ ay (kq ≤ kj11) ∧ ay (w'.heap[je]? = some (.cells #[.int .i64 aQ, .int .i64 aR, (.slice cu aH.length bW), (.slice dz av.length bZ)] 28 (0, 0))) ∧ ay (Below w.heap.size w w'))
       case atStart => exact ⟨(0), sm, H', ⟨Nat.le_refl _⟩, ⟨kp dQ.out⟩, ⟨bl1 HB.out lJ.out⟩⟩
       case round =>
        clear H'
        try clear c22
        try clear sH
        try clear sI
        try clear uP
        try clear uQ
        try clear sJ
        try clear sK
        try clear uR
        try clear uS
        obtain ⟨p9, rfl, HA, HK3, dQ, HB⟩ := hrel
        cases gk with
        | zero => exact absurd HA.out (by simp [dw.l0])
        | succ k3 =>
         have H := HA.out
         clear HA
         simp only [dw.l0] at H
         by_cases c24 : p9 < (av.length : Int)
         ·rw [if_pos c24] at H
          have ak3 : decide (p9 < (av.length : Int)) = true := decide_eq_true c24
          clear c24
          by_cases c25 : 0 ≤ p9
          case neg => rw [if_neg c25] at H; exact absurd H (by simp)
          rw [if_pos c25] at H
          have aCW : decide (0 ≤ p9) = true := decide_eq_true c25
          clear c25
          by_cases c26 : p9 < (av.length : Int)
          case neg => rw [if_neg c26] at H; exact absurd H (by simp)
          rw [if_pos c26] at H
          have ane : decide (p9 < (av.length : Int)) = true := decide_eq_true c26
          clear c26
          replace H := Option.bind_eq_some_iff.mp H
          obtain ⟨arn, anX, H⟩ := H
          try dsimp only at H
          have A27 := am anX
          clear anX
          by_cases c28 : arn = true
          ·subst c28
           have H1 : (dw.l0 k3 av (av.length : Int) (wrap64 (p9 + 1)) aQ aR aH av) = some r := by rw [if_pos rfl] at H; exact H
           clear H
           have H := H1
           clear H1
           have H' := am H
           clear H
           have ahg : 0 ≤ (p9 : Int) := of_decide_eq_true asm
           have ahh : p9 < (av.length : Int) := of_decide_eq_true asm
           obtain ⟨acu, ahi, ahj, arp, wE, wF, aaf, aag⟩ := kZ fK.out p9 ahg ahh
           cases arp
           replace wE := (HB.out.cell (World.block_lt_of_cell? w _ wE)).trans wE
           replace wF := (HB.out.cell (World.block_lt_of_cell? w _ wF)).trans wF
           have anf := am aag
           have ang := am aaf
           clear aag aaf
           replace ahg := eq_true ahg
           replace ahh := eq_true ahh
           go_wp2_with (first | ((with_reducible refine bq (N := 4) rfl ?_); (try (refine gH (by rfl) ?_; dsimp only)); refine bx 4 70 #[.int .i64 0, .slice none 0 0] ?_; intro tK hg w29 dL hb; have u7 := am (dL); have at7 := am ((bz1 hg HB.out lJ.out : w.heap.size ≤ tK)); have aah := am ((bz1 hg HB.out lJ.out : w.heap.size ≤ tK)); replace HB := am (au (bl1 HB.out lJ.out) hb); have tL := am ((nl hg dQ.out : je ≠ tK)); have yU := am ((ng hg dQ.out : tK ≠ je)); replace dQ := am (ak (kp dQ.out) hb); clear hb dL hg; have ath := yU.out; have ati := tL.out; have azy : w29.cell? ⟨tK, 0, none⟩ = some (.int .i64 0) := bc u7.out 0; have azz : w29.cell? ⟨tK, 1, none⟩ = some (.slice none 0 0) := bc u7.out 1; have azA := aj u7.out 0; have azB := aj u7.out 1; have adO : w29.cell? ⟨je, 0, none⟩ = some (.int .i64 aQ) := bc dQ.out 0; have adP : w29.cell? ⟨je, 1, none⟩ = some (.int .i64 aR) := bc dQ.out 1; have apE : w29.cell? ⟨je, 2, none⟩ = some (.slice cu aH.length bW) := bc dQ.out 2; have apF : w29.cell? ⟨je, 3, none⟩ = some (.slice (some acu) av.length bZ) := bc dQ.out 3; have adQ := aj dQ.out 0; have adR := aj dQ.out 1; have apG := aj dQ.out 2; have apH := aj dQ.out 3) | ((with_reducible refine aC (f := 83) rfl ?_); refine bR (some 38) rfl rfl Try.func83 (by kernel_rfl) rfl #[.agg #[.int .i64 aQ, .int .i64 aR, .slice cu aH.length bW, .slice (some acu) av.length bZ], .int .i64 ((aU av p9).f0)] rfl ar ?_; (with_reducible refine (fu.calls k3 aQ aR _ _ aH _ _ av ((aU av p9).f0) true _ ?bH ?bI ?dG ?dI A27.out).mono ?_); (case bH => exact Kd.bf gF.out (bl2 HB.out lJ.out aah.out)); (case bI => exact gX.out); (case dG => exact Kd.bf fK.out (bl2 HB.out lJ.out aah.out)); (case dI => exact gW.out); rintro e w33 ⟨rfl, hb⟩; refine ⟨_, rfl, ?_⟩; replace dQ := am (ak (g := je) (o := .cells #[.int .i64 aQ, .int .i64 aR, .slice cu aH.length bW, .slice (some acu) av.length bZ] 28 (0, 0)) (kf dQ.out tL.out) hb); replace u7 := am (ak (g := tK) (o := .cells #[.int .i64 ((aU av p9).f0), .slice ahi ((aU av p9).f1).length ahj] 70 (0, 0)) (by (with_reducible repeat (first | refine aM ?_ _ | refine aI ?_ | refine aA ?_ _)); refine bX (cs := #[.int .i64 ((aU av p9).f0), .slice none 0 0]) ?_ 1 _ rfl; (with_reducible repeat (first | refine aM ?_ _ | refine aI ?_ | refine aA ?_ _)); refine bX (cs := #[.int .i64 0, .slice none 0 0]) ?_ 0 _ rfl; (with_reducible repeat (first | refine aM ?_ _ | refine aI ?_ | refine aA ?_ _)); exact u7.out) hb); replace HB := am (au (bl2 HB.out lJ.out aah.out) hb); (try clear hb); (try clear hb2); (try clear hk); (try clear hi)))
           go_roundg k3
           case measure => have := HJ1.out; have := azx.out; have := HK3.out; omega
           case rel => exact ⟨(wrap64 (p9 + 1)), sm, H', ⟨by have := HJ1.out; have := azx.out; have := HK3.out; omega⟩, ⟨kp dQ.out⟩, ⟨bl2 HB.out lJ.out aah.out⟩⟩
          ·replace c28 := Bool.eq_false_iff.mpr c28
           subst c28
           have H1 : (some 50) = some r := by rw [if_neg (show ¬ (false = true) by decide)] at H; exact H
           clear H
           have H := H1
           clear H1
           obtain rfl := Option.some.inj H
           have ahg : 0 ≤ (p9 : Int) := of_decide_eq_true asm
           have ahh : p9 < (av.length : Int) := of_decide_eq_true asm
           obtain ⟨acu, ahi, ahj, arp, wE, wF, aaf, aag⟩ := kZ fK.out p9 ahg ahh
           cases arp
           replace wE := (HB.out.cell (World.block_lt_of_cell? w _ wE)).trans wE
           replace wF := (HB.out.cell (World.block_lt_of_cell? w _ wF)).trans wF
           have anf := am aag
           have ang := am aaf
           clear aag aaf
           replace ahg := eq_true ahg
           replace ahh := eq_true ahh
           go_wp2_with (first | ((with_reducible refine bq (N := 4) rfl ?_); (try (refine gH (by rfl) ?_; dsimp only)); refine bx 4 70 #[.int .i64 0, .slice none 0 0] ?_; intro tK hg w34 dL hb; have u7 := am (dL); have at7 := am ((bz1 hg HB.out lJ.out : w.heap.size ≤ tK)); have aah := am ((bz1 hg HB.out lJ.out : w.heap.size ≤ tK)); replace HB := am (au (bl1 HB.out lJ.out) hb); have tL := am ((nl hg dQ.out : je ≠ tK)); have yU := am ((ng hg dQ.out : tK ≠ je)); replace dQ := am (ak (kp dQ.out) hb); clear hb dL hg; have aCX := yU.out; have aCY := tL.out; have agj : w34.cell? ⟨tK, 0, none⟩ = some (.int .i64 0) := bc u7.out 0; have agk : w34.cell? ⟨tK, 1, none⟩ = some (.slice none 0 0) := bc u7.out 1; have agl := aj u7.out 0; have agm := aj u7.out 1; have akq : w34.cell? ⟨je, 0, none⟩ = some (.int .i64 aQ) := bc dQ.out 0; have akr : w34.cell? ⟨je, 1, none⟩ = some (.int .i64 aR) := bc dQ.out 1; have aks : w34.cell? ⟨je, 2, none⟩ = some (.slice cu aH.length bW) := bc dQ.out 2; have akt : w34.cell? ⟨je, 3, none⟩ = some (.slice (some acu) av.length bZ) := bc dQ.out 3; have aku := aj dQ.out 0; have akv := aj dQ.out 1; have akw := aj dQ.out 2; have akx := aj dQ.out 3) | ((with_reducible refine aC (f := 83) rfl ?_); refine bR (some 38) rfl rfl Try.func83 (by kernel_rfl) rfl #[.agg #[.int .i64 aQ, .int .i64 aR, .slice cu aH.length bW, .slice (some acu) av.length bZ], .int .i64 ((aU av p9).f0)] rfl ar ?_; (with_reducible refine (fu.calls k3 aQ aR _ _ aH _ _ av ((aU av p9).f0) false _ ?bH ?bI ?dG ?dI A27.out).mono ?_); (case bH => exact Kd.bf gF.out (bl2 HB.out lJ.out aah.out)); (case bI => exact gX.out); (case dG => exact Kd.bf fK.out (bl2 HB.out lJ.out aah.out)); (case dI => exact gW.out); rintro e w38 ⟨rfl, hb⟩; refine ⟨_, rfl, ?_⟩; replace dQ := am (ak (g := je) (o := .cells #[.int .i64 aQ, .int .i64 aR, .slice cu aH.length bW, .slice (some acu) av.length bZ] 28 (0, 0)) (kf dQ.out tL.out) hb); replace u7 := am (ak (g := tK) (o := .cells #[.int .i64 ((aU av p9).f0), .slice ahi ((aU av p9).f1).length ahj] 70 (0, 0)) (by (with_reducible repeat (first | refine aM ?_ _ | refine aI ?_ | refine aA ?_ _)); refine bX (cs := #[.int .i64 ((aU av p9).f0), .slice none 0 0]) ?_ 1 _ rfl; (with_reducible repeat (first | refine aM ?_ _ | refine aI ?_ | refine aA ?_ _)); refine bX (cs := #[.int .i64 0, .slice none 0 0]) ?_ 0 _ rfl; (with_reducible repeat (first | refine aM ?_ _ | refine aI ?_ | refine aA ?_ _)); exact u7.out) hb); replace HB := am (au (bl2 HB.out lJ.out aah.out) hb); (try clear hb); (try clear hb2); (try clear hk); (try clear hi)))
           go_ret
           exact ⟨rt, bl2 HB.out lJ.out aah.out⟩
         ·rw [if_neg c24] at H
          have ak3 : decide (p9 < (av.length : Int)) = false := decide_eq_false c24
          clear c24
          obtain rfl := Option.some.inj H
          go_wp2
          go_ret
          exact ⟨rt, bl1 HB.out lJ.out⟩
def fP.f (k : Nat) (aQ : Int) (aR : Int) (aH : List (List (S23))) (av : List (S70)) : Option (Bool) := (jf.f k aQ aR aH av).bind fun aua => (if aua = true then ((dw.f k aQ aR aH av).bind fun alh => (some (alh == 0))) else (some false))
set_option maxHeartbeats 8000000 in
set_option maxRecDepth 100000 in
theorem fP.calls (k : Nat) (aQ : Int) (aR : Int) (cu : Option Addr) (bW : Nat) (aH : List (List (S23))) (dz : Option Addr) (bZ : Nat) (av : List (S70)) (r : Bool) (w : World) (iF : Kd.C (Kd.slice 23 k23) w cu aH.length aH) (iG : aH.length ≤ bW) (iw : Kd.C k70 w dz av.length av) (iy : av.length ≤ bZ) (h : fP.f k aQ aR aH av = some r) :
 Calls Try.prog 17 #[.agg #[.int .i64 aQ, .int .i64 aR, .slice cu aH.length bW, .slice dz av.length bZ]] w fun e w' => e = .returned (.bool r) ∧ Below w.heap.size w w' := by
 have aaE := Try.underlying28
 have gF := am iF
 have gX := am iG
 clear iF iG
 have fK := am iw
 have gW := am iy
 clear iw iy
 have HB := am (Below.refl w.heap.size w)
 have H : ((jf.f k aQ aR aH av).bind fun aua => (if aua = true then ((dw.f k aQ aR aH av).bind fun alh => (some (alh == 0))) else (some false))) = some r := h
 clear h
 replace H := Option.bind_eq_some_iff.mp H
 obtain ⟨aua, A20, H⟩ := H
 try dsimp only at H
 have A2 := am A20
 clear A20
 by_cases c3 : aua = true
 ·subst c3
  have H1 : ((dw.f k aQ aR aH av).bind fun alh => (some (alh == 0))) = some r := by rw [if_pos rfl] at H; exact H
  clear H
  have H := H1
  clear H1
  replace H := Option.bind_eq_some_iff.mp H
  obtain ⟨alh, A40, H⟩ := H
  try dsimp only at H
  have A4 := am A40
  clear A40
  obtain rfl := Option.some.inj H
  go_enter Try.func17, Try.ntmps17
  go_wp2_with (first | ((with_reducible refine bq (N := 1) rfl ?_); refine bx 1 28 #[.int .i64 aQ, .int .i64 aR, .slice cu aH.length bW, .slice dz av.length bZ] ?_; intro xP hg w5 dL hb; have oL := am (dL); have azC := am ((bz hg HB.out : w.heap.size ≤ xP)); have aiZ := am ((bz hg HB.out : w.heap.size ≤ xP)); replace HB := am (au (bl HB.out) hb); clear hb dL hg; have aby : w5.cell? ⟨xP, 0, none⟩ = some (.int .i64 aQ) := bc oL.out 0; have abz : w5.cell? ⟨xP, 1, none⟩ = some (.int .i64 aR) := bc oL.out 1; have ae4 : w5.cell? ⟨xP, 2, none⟩ = some (.slice cu aH.length bW) := bc oL.out 2; have ae5 : w5.cell? ⟨xP, 3, none⟩ = some (.slice dz av.length bZ) := bc oL.out 3; have abA := aj oL.out 0; have abB := aj oL.out 1; have ae6 := aj oL.out 2; have ae7 := aj oL.out 3) | ((with_reducible refine aC (f := 53) rfl ?_); refine bR (some 4) rfl rfl Try.func53 (by kernel_rfl) rfl #[.agg #[.int .i64 aQ, .int .i64 aR, .slice cu aH.length bW, .slice dz av.length bZ]] rfl ar ?_; (with_reducible refine (jf.calls k aQ aR _ _ aH _ _ av true _ ?bH ?bI ?dG ?dI A2.out).mono ?_); (case bH => exact kc (Kd.bf gF.out HB.out)); (case bI => exact gX.out); (case dG => exact kc (Kd.bf fK.out HB.out)); (case dI => exact gW.out); rintro e w7 ⟨rfl, hb⟩; refine ⟨_, rfl, ?_⟩; replace oL := am (ak (kp oL.out) hb); replace HB := am (au (bl1 HB.out aiZ.out) hb); (try clear hb); (try clear hb2); (try clear hk); (try clear hi); have yx : w7.cell? ⟨xP, 0, none⟩ = some (.int .i64 aQ) := bc oL.out 0; have yA : w7.cell? ⟨xP, 1, none⟩ = some (.int .i64 aR) := bc oL.out 1; have zn : w7.cell? ⟨xP, 2, none⟩ = some (.slice cu aH.length bW) := bc oL.out 2; have zo : w7.cell? ⟨xP, 3, none⟩ = some (.slice dz av.length bZ) := bc oL.out 3; have yB := aj oL.out 0; have yC := aj oL.out 1; have zq := aj oL.out 2; have zu := aj oL.out 3) | (go_at_call 54; (with_reducible refine (dw.calls k aQ aR _ _ aH _ _ av alh _ ?bH ?bI ?dG ?dI A4.out).mono ?_); (case bH => exact kc (Kd.bf gF.out HB.out)); (case bI => exact gX.out); (case dG => exact kc (Kd.bf fK.out HB.out)); (case dI => exact gW.out); rintro e w9 ⟨rfl, hb⟩; replace oL := am (ak (kp oL.out) hb); replace HB := am (au (bl1 HB.out aiZ.out) hb); (try clear hb); (try clear hb2); (try clear hk); (try clear hi)))
  go_ret
  exact ⟨rt, bl1 HB.out aiZ.out⟩
 ·replace c3 := Bool.eq_false_iff.mpr c3
  subst c3
  have H1 : (some false) = some r := by rw [if_neg (show ¬ (false = true) by decide)] at H; exact H
  clear H
  have H := H1
  clear H1
  obtain rfl := Option.some.inj H
  go_enter Try.func17, Try.ntmps17
  go_wp2_with (first | ((with_reducible refine bq (N := 1) rfl ?_); refine bx 1 28 #[.int .i64 aQ, .int .i64 aR, .slice cu aH.length bW, .slice dz av.length bZ] ?_; intro xP hg w10 dL hb; have oL := am (dL); have azC := am ((bz hg HB.out : w.heap.size ≤ xP)); have aiZ := am ((bz hg HB.out : w.heap.size ≤ xP)); replace HB := am (au (bl HB.out) hb); clear hb dL hg; have mg : w10.cell? ⟨xP, 0, none⟩ = some (.int .i64 aQ) := bc oL.out 0; have mh : w10.cell? ⟨xP, 1, none⟩ = some (.int .i64 aR) := bc oL.out 1; have mX : w10.cell? ⟨xP, 2, none⟩ = some (.slice cu aH.length bW) := bc oL.out 2; have mY : w10.cell? ⟨xP, 3, none⟩ = some (.slice dz av.length bZ) := bc oL.out 3; have mq := aj oL.out 0; have mD := aj oL.out 1; have mZ := aj oL.out 2; have ni := aj oL.out 3) | ((with_reducible refine aC (f := 53) rfl ?_); refine bR (some 4) rfl rfl Try.func53 (by kernel_rfl) rfl #[.agg #[.int .i64 aQ, .int .i64 aR, .slice cu aH.length bW, .slice dz av.length bZ]] rfl ar ?_; (with_reducible refine (jf.calls k aQ aR _ _ aH _ _ av false _ ?bH ?bI ?dG ?dI A2.out).mono ?_); (case bH => exact kc (Kd.bf gF.out HB.out)); (case bI => exact gX.out); (case dG => exact kc (Kd.bf fK.out HB.out)); (case dI => exact gW.out); rintro e w12 ⟨rfl, hb⟩; refine ⟨_, rfl, ?_⟩; replace oL := am (ak (kp oL.out) hb); replace HB := am (au (bl1 HB.out aiZ.out) hb); (try clear hb); (try clear hb2); (try clear hk); (try clear hi)))
  go_ret
  exact ⟨rt, bl1 HB.out aiZ.out⟩
end Go.Proofs.Ytmbmalkpmanaaaa.P

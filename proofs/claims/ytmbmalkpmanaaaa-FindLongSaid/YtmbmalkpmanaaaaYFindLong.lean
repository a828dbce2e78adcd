/- The law FindLong: it holds at every input that its row reads. No condition of its own. -/
import Derived.Test.YtmbmalkpmanaaaaYF3
import Derived.Test.YtmbmalkpmanaaaaYF2
import Derived.Test.YtmbmalkpmanaaaaYF11
import Derived.Test.YtmbmalkpmanaaaaYF10
import Derived.Test.YtmbmalkpmanaaaaYF17
import Derived.Test.YtmbmalkpmanaaaaYF15
import Derived.OpenShut
import Derived.Test.YtmbmalkpmanaaaaRows
import Derived.WalkKit
import Derived.ProofKit
import Derived.ShutString
import Derived.ChangeOld
import Derived.Below
import Derived.SizedLaws
namespace Go.Proofs.Ytmbmalkpmanaaaa.P
open Go.RowKit Go.Proofs.YtmbmalkpmanaaaaW.aK Go.Proofs.YtmbmalkpmanaaaaW.bK Go.Proofs.YtmbmalkpmanaaaaW.bM
attribute [local go_sem] dS dU fG fH dB dD dV dW   -- for this text's walks alone
set_option linter.unusedVariables false
set_option linter.unusedSimpArgs false
def kR.f (k : Nat) (a0 : Int) (a1 : Int) : Option (Bool) := (some (([(([(⟨0, 0⟩ : S23)] : List (S23)))] : List (List (S23))) : List (List (S23)))).bind fun aa1 => ((dM.f k 1 1 aa1 ([] : List (S70)) (([(⟨wrap64 (a0), wrap64 (a0)⟩ : S23), (⟨wrap64 ((wrap64 ((wrap64 (a0)) + 60000)) - 1), wrap64 ((wrap64 ((wrap64 (a0)) + 60000)) - 1)⟩ : S23)] : List (S23)))).bind fun aaq => ((dM.f k 1 1 aa1 ([] : List (S70)) (([(⟨wrap64 (a0), wrap64 (a0)⟩ : S23), (⟨wrap64 ((wrap64 ((wrap64 (a0)) + 60000)) + (wrap64 (a1))), wrap64 ((wrap64 ((wrap64 (a0)) + 60000)) + (wrap64 (a1)))⟩ : S23)] : List (S23)))).bind fun xS => (if aaq.2 = 0 then ((bF.f k aaq.1 (([wrap64 (a0), wrap64 ((wrap64 ((wrap64 (a0)) + 60000)) - 1)] : List Int))).bind fun ahE => (if ahE = true then (if xS.2 = 3 then (if (xS.1.length : Int) = 0 then ((aY.f k).bind fun afo => (some afo)) else (none)) else (none)) else (none))) else (none))))
set_option maxHeartbeats 8000000 in
set_option maxRecDepth 100000 in
theorem kR.calls (k : Nat) (a0 : Int) (a1 : Int) (r : Bool) (w : World) (h : kR.f k a0 a1 = some r) :
 Calls Try.prog 3 #[.int .i32 a0, .int .u8 a1] w fun e w' => e = .returned (.bool r) ∧ Below w.heap.size w w' := by
 have afs := Try.underlying23
 have aaE := Try.underlying28
 have HB := am (Below.refl w.heap.size w)
 have H : ((some (([(([(⟨0, 0⟩ : S23)] : List (S23)))] : List (List (S23))) : List (List (S23)))).bind fun aa1 => ((dM.f k 1 1 aa1 ([] : List (S70)) (([(⟨wrap64 (a0), wrap64 (a0)⟩ : S23), (⟨wrap64 ((wrap64 ((wrap64 (a0)) + 60000)) - 1), wrap64 ((wrap64 ((wrap64 (a0)) + 60000)) - 1)⟩ : S23)] : List (S23)))).bind fun aaq => ((dM.f k 1 1 aa1 ([] : List (S70)) (([(⟨wrap64 (a0), wrap64 (a0)⟩ : S23), (⟨wrap64 ((wrap64 ((wrap64 (a0)) + 60000)) + (wrap64 (a1))), wrap64 ((wrap64 ((wrap64 (a0)) + 60000)) + (wrap64 (a1)))⟩ : S23)] : List (S23)))).bind fun xS => (if aaq.2 = 0 then ((bF.f k aaq.1 (([wrap64 (a0), wrap64 ((wrap64 ((wrap64 (a0)) + 60000)) - 1)] : List Int))).bind fun ahE => (if ahE = true then (if xS.2 = 3 then (if (xS.1.length : Int) = 0 then ((aY.f k).bind fun afo => (some afo)) else (none)) else (none)) else (none))) else (none))))) = some r := h
 clear h
 obtain ⟨asg, alW⟩ : ∃ y_ : List (S23), y_ = (([(⟨0, 0⟩ : S23)] : List (S23))) := ⟨_, rfl⟩
 replace H : ((some (([asg] : List (List (S23))) : List (List (S23)))).bind fun aa1 => ((dM.f k 1 1 aa1 ([] : List (S70)) (([(⟨wrap64 (a0), wrap64 (a0)⟩ : S23), (⟨wrap64 ((wrap64 ((wrap64 (a0)) + 60000)) - 1), wrap64 ((wrap64 ((wrap64 (a0)) + 60000)) - 1)⟩ : S23)] : List (S23)))).bind fun aaq => ((dM.f k 1 1 aa1 ([] : List (S70)) (([(⟨wrap64 (a0), wrap64 (a0)⟩ : S23), (⟨wrap64 ((wrap64 ((wrap64 (a0)) + 60000)) + (wrap64 (a1))), wrap64 ((wrap64 ((wrap64 (a0)) + 60000)) + (wrap64 (a1)))⟩ : S23)] : List (S23)))).bind fun xS => (if aaq.2 = 0 then ((bF.f k aaq.1 (([wrap64 (a0), wrap64 ((wrap64 ((wrap64 (a0)) + 60000)) - 1)] : List Int))).bind fun ahE => (if ahE = true then (if xS.2 = 3 then (if (xS.1.length : Int) = 0 then ((aY.f k).bind fun afo => (some afo)) else (none)) else (none)) else (none))) else (none))))) = some r := by first | (rw [alW]; with_reducible exact H) | (have H2_ := (Option.bind_some _ _).symm.trans H; rw [alW]; with_reducible exact H2_) | (have H2_ := (Option.bind_some _ _).symm.trans H; with_reducible exact H2_) | with_reducible exact H | (rw [alW]; exact H) | exact H
 have auH := am alW
 clear alW
 obtain ⟨aa1, alX⟩ : ∃ y_ : List (List (S23)), y_ = (([asg] : List (List (S23)))) := ⟨_, rfl⟩
 replace H : ((dM.f k 1 1 aa1 ([] : List (S70)) (([(⟨wrap64 (a0), wrap64 (a0)⟩ : S23), (⟨wrap64 ((wrap64 ((wrap64 (a0)) + 60000)) - 1), wrap64 ((wrap64 ((wrap64 (a0)) + 60000)) - 1)⟩ : S23)] : List (S23)))).bind fun aaq => ((dM.f k 1 1 aa1 ([] : List (S70)) (([(⟨wrap64 (a0), wrap64 (a0)⟩ : S23), (⟨wrap64 ((wrap64 ((wrap64 (a0)) + 60000)) + (wrap64 (a1))), wrap64 ((wrap64 ((wrap64 (a0)) + 60000)) + (wrap64 (a1)))⟩ : S23)] : List (S23)))).bind fun xS => (if aaq.2 = 0 then ((bF.f k aaq.1 (([wrap64 (a0), wrap64 ((wrap64 ((wrap64 (a0)) + 60000)) - 1)] : List Int))).bind fun ahE => (if ahE = true then (if xS.2 = 3 then (if (xS.1.length : Int) = 0 then ((aY.f k).bind fun afo => (some afo)) else (none)) else (none)) else (none))) else (none)))) = some r := by first | (rw [alX]; with_reducible exact H) | (have H2_ := (Option.bind_some _ _).symm.trans H; rw [alX]; with_reducible exact H2_) | (have H2_ := (Option.bind_some _ _).symm.trans H; with_reducible exact H2_) | with_reducible exact H | (rw [alX]; exact H) | exact H
 have auI := am alX
 clear alX
 obtain ⟨auJ, alY⟩ : ∃ y_ : List (S23), y_ = (([(⟨wrap64 (a0), wrap64 (a0)⟩ : S23), (⟨wrap64 ((wrap64 ((wrap64 (a0)) + 60000)) - 1), wrap64 ((wrap64 ((wrap64 (a0)) + 60000)) - 1)⟩ : S23)] : List (S23))) := ⟨_, rfl⟩
 replace H : ((dM.f k 1 1 aa1 ([] : List (S70)) auJ).bind fun aaq => ((dM.f k 1 1 aa1 ([] : List (S70)) (([(⟨wrap64 (a0), wrap64 (a0)⟩ : S23), (⟨wrap64 ((wrap64 ((wrap64 (a0)) + 60000)) + (wrap64 (a1))), wrap64 ((wrap64 ((wrap64 (a0)) + 60000)) + (wrap64 (a1)))⟩ : S23)] : List (S23)))).bind fun xS => (if aaq.2 = 0 then ((bF.f k aaq.1 (([wrap64 (a0), wrap64 ((wrap64 ((wrap64 (a0)) + 60000)) - 1)] : List Int))).bind fun ahE => (if ahE = true then (if xS.2 = 3 then (if (xS.1.length : Int) = 0 then ((aY.f k).bind fun afo => (some afo)) else (none)) else (none)) else (none))) else (none)))) = some r := by first | (rw [alY]; with_reducible exact H) | (have H2_ := (Option.bind_some _ _).symm.trans H; rw [alY]; with_reducible exact H2_) | (have H2_ := (Option.bind_some _ _).symm.trans H; with_reducible exact H2_) | with_reducible exact H | (rw [alY]; exact H) | exact H
 have auK := am alY
 clear alY
 replace H := Option.bind_eq_some_iff.mp H
 obtain ⟨⟨avP, auL⟩, A30, H⟩ := H
 try dsimp only at H
 have A3 := am A30
 clear A30
 obtain ⟨avQ, alZ⟩ : ∃ y_ : List (S23), y_ = (([(⟨wrap64 (a0), wrap64 (a0)⟩ : S23), (⟨wrap64 ((wrap64 ((wrap64 (a0)) + 60000)) + (wrap64 (a1))), wrap64 ((wrap64 ((wrap64 (a0)) + 60000)) + (wrap64 (a1)))⟩ : S23)] : List (S23))) := ⟨_, rfl⟩
 replace H : ((dM.f k 1 1 aa1 ([] : List (S70)) avQ).bind fun xS => (if auL = 0 then ((bF.f k avP (([wrap64 (a0), wrap64 ((wrap64 ((wrap64 (a0)) + 60000)) - 1)] : List Int))).bind fun ahE => (if ahE = true then (if xS.2 = 3 then (if (xS.1.length : Int) = 0 then ((aY.f k).bind fun afo => (some afo)) else (none)) else (none)) else (none))) else (none))) = some r := by first | (rw [alZ]; with_reducible exact H) | (have H2_ := (Option.bind_some _ _).symm.trans H; rw [alZ]; with_reducible exact H2_) | (have H2_ := (Option.bind_some _ _).symm.trans H; with_reducible exact H2_) | with_reducible exact H | (rw [alZ]; exact H) | exact H
 have auM := am alZ
 clear alZ
 replace H := Option.bind_eq_some_iff.mp H
 obtain ⟨⟨ash, asi⟩, A40, H⟩ := H
 try dsimp only at H
 have A4 := am A40
 clear A40
 by_cases c5 : auL = 0
 ·rw [if_pos c5] at H
  have acT : (auL == 0) = true := beq_iff_eq.mpr c5
  have amt : (auL != 0) = false := bne_eq_false_iff_eq.mpr c5
  clear c5
  obtain ⟨aBx, al0⟩ : ∃ y_ : List Int, y_ = (([wrap64 (a0), wrap64 ((wrap64 ((wrap64 (a0)) + 60000)) - 1)] : List Int)) := ⟨_, rfl⟩
  replace H : ((bF.f k avP aBx).bind fun ahE => (if ahE = true then (if asi = 3 then (if (ash.length : Int) = 0 then ((aY.f k).bind fun afo => (some afo)) else (none)) else (none)) else (none))) = some r := by first | (rw [al0]; with_reducible exact H) | (have H2_ := (Option.bind_some _ _).symm.trans H; rw [al0]; with_reducible exact H2_) | (have H2_ := (Option.bind_some _ _).symm.trans H; with_reducible exact H2_) | with_reducible exact H | (rw [al0]; exact H) | exact H
  have auN := am al0
  clear al0
  replace H := Option.bind_eq_some_iff.mp H
  obtain ⟨ahE, A60, H⟩ := H
  try dsimp only at H
  have A6 := am A60
  clear A60
  by_cases c7 : ahE = true
  ·subst c7
   have H1 : (if asi = 3 then (if (ash.length : Int) = 0 then ((aY.f k).bind fun afo => (some afo)) else (none)) else (none)) = some r := by rw [if_pos rfl] at H; exact H
   clear H
   have H := H1
   clear H1
   by_cases c8 : asi = 3
   ·rw [if_pos c8] at H
    have aft : (asi == 3) = true := beq_iff_eq.mpr c8
    have aoF : (asi != 3) = false := bne_eq_false_iff_eq.mpr c8
    clear c8
    by_cases c9 : (ash.length : Int) = 0
    ·rw [if_pos c9] at H
     have afG : ((ash.length : Int) == 0) = true := beq_iff_eq.mpr c9
     have au1 : ((ash.length : Int) != 0) = false := bne_eq_false_iff_eq.mpr c9
     clear c9
     replace H := Option.bind_eq_some_iff.mp H
     obtain ⟨afo, aj1, H⟩ := H
     try dsimp only at H
     have A10 := am aj1
     clear aj1
     obtain rfl := Option.some.inj H
     go_enter Try.func3, Try.ntmps3
     go_wp2_with (first | ((with_reducible refine bq (N := 12) rfl ?_); (try (refine gH (by rfl) ?_; dsimp only)); refine Kd.acO k23 _ 23 ?hg (N := 12) ?hd (xs := ([(⟨0, 0⟩ : S23)] : List (S23))) (inner := [.int .i64 0, .int .i64 0]) (ok := fun _ => True) (okp := fun _ => True) ?hr ?hp (fun _ hk => hk) trivial (Below.refl _ _) (Nat.le_refl _) (by simp) ?_; (case hd => rfl); (case hg => rfl); (case hr => first | (go_simp; done) | (go_simp; rfl)); (case hp => exact (kG.c2 (show Kd.M k23 _ _ _ (⟨0, 0⟩ : S23) [.int .i64 0, .int .i64 0] from (rP _ _ _ (⟨0, 0⟩ : S23) )) (kG.none _ _))); intro aEb w11 auO hb hg_ qI; clear hg_ qI; (first | rw [← auH.out] at auO | (simp only [Int.reduceToNat] at auO; rw [← auH.out] at auO)); have ai4 := am (Kd.jQ auO (bY (bl HB.out))); replace HB := am (au (bl HB.out) hb); clear hb auO; obtain ⟨avh, avi, ayh⟩ := Kd.iW ai4.out; subst ayh) | ((with_reducible refine bq (N := 13) rfl ?_); (try (refine gH (by rfl) ?_; dsimp only)); refine Kd.aox (Kd.slice 23 k23) _ 24 ?hg (N' := 13) ?hd (xs := ([asg] : List (List (S23)))) (inner := [.slice avh asg.length avi]) (ok := (fun _ => True)) (okp := (fun _ => True)) ?hr ?hp (fun _ hk => hk) ((show ∀ k_, w11.heap.size ≤ k_ → (fun _ => True) k_ from fun k_ hk => trivial) _ (Nat.le_refl _)) (Below.refl _ _) (Nat.le_refl _) (by simp) ?_; (case hd => rfl); (case hg => rfl); (case hr => first | (go_simp; done) | (go_simp; rfl)); (case hp => exact (kG.one (show Kd.FK (Kd.slice 23 k23) _ _ asg [.slice avh asg.length avi] from (Kd.rO (Kd.bS (Kd.lY (ok' := (fun _ => True)) (ai4.out) (fun k_ hk => trivial))).2.1 (Kd.R_F (Kd.lY (ok' := (fun _ => True)) (ai4.out) (fun k_ hk => trivial))))) (kG.none _ _))); intro aEc w14 auP hb hg_ qI; have al1 := am (Kd.lY (ok' := fun _ => True) (Kd.dO (kr ai4.out) hb) (fun _ _ => trivial)); clear hg_ qI; (first | rw [← auI.out] at auP | (simp only [Int.reduceToNat] at auP; rw [← auI.out] at auP)); have n0_ := am (Kd.abv auP (bY (bl HB.out))); have n1_ := am (au (bl HB.out) hb); clear HB; clear ai4; have ai4 := al1; clear al1; have uT := n0_; have HB := n1_; clear n0_ n1_; clear hb auP; obtain ⟨ai7, ai8, aw8⟩ := Kd.aaz uT.out; subst aw8) | ((with_reducible refine bq (N := 5) rfl ?_); (try (refine gH (by rfl) ?_; dsimp only)); refine bx 5 28 #[.int .i64 0, .int .i64 0, .slice none 0 0, .slice none 0 0] ?_; intro uU hg w17 dL hb; replace uT := am (Kd.d9 (Kd.xX (kn uT.out) uU (Nat.le_of_eq hg.symm)) hb); have oW := am (dL); have aDw := am ((bz hg HB.out : w.heap.size ≤ uU)); have aa5 := am ((bz hg HB.out : w.heap.size ≤ uU)); replace HB := am (au (bl HB.out) hb); clear hb dL hg; have sN : w17.cell? ⟨uU, 0, none⟩ = some (.int .i64 0) := bc oW.out 0; have sO : w17.cell? ⟨uU, 1, none⟩ = some (.int .i64 0) := bc oW.out 1; have sP : w17.cell? ⟨uU, 2, none⟩ = some (.slice none 0 0) := bc oW.out 2; have sQ : w17.cell? ⟨uU, 3, none⟩ = some (.slice none 0 0) := bc oW.out 3; have sS := aj oW.out 0; have sU := aj oW.out 1; have sV := aj oW.out 2; have sW := aj oW.out 3) | ((with_reducible refine bq (N := 29) rfl ?_); (try (refine gH (by rfl) ?_; dsimp only)); refine Kd.acO k23 _ 23 ?hg (N := 29) ?hd (xs := ([(⟨wrap64 (a0), wrap64 (a0)⟩ : S23), (⟨wrap64 ((wrap64 ((wrap64 (a0)) + 60000)) - 1), wrap64 ((wrap64 ((wrap64 (a0)) + 60000)) - 1)⟩ : S23)] : List (S23))) (inner := [.int .i64 (wrap64 (a0)), .int .i64 (wrap64 (a0)), .int .i64 (wrap64 ((wrap64 ((wrap64 (a0)) + 60000)) - 1)), .int .i64 (wrap64 ((wrap64 ((wrap64 (a0)) + 60000)) - 1))]) (ok := fun _ => True) (okp := fun _ => True) ?hr ?hp (fun _ hk => hk) trivial (Below.refl _ _) (Nat.le_refl _) (by simp) ?_; (case hd => rfl); (case hg => rfl); (case hr => first | (go_simp; done) | (go_simp; rfl)); (case hp => exact (kG.c2 (show Kd.M k23 _ _ _ (⟨wrap64 (a0), wrap64 (a0)⟩ : S23) [.int .i64 (wrap64 (a0)), .int .i64 (wrap64 (a0))] from (rP _ _ _ (⟨wrap64 (a0), wrap64 (a0)⟩ : S23) )) (kG.c2 (show Kd.M k23 _ _ _ (⟨wrap64 ((wrap64 ((wrap64 (a0)) + 60000)) - 1), wrap64 ((wrap64 ((wrap64 (a0)) + 60000)) - 1)⟩ : S23) [.int .i64 (wrap64 ((wrap64 ((wrap64 (a0)) + 60000)) - 1)), .int .i64 (wrap64 ((wrap64 ((wrap64 (a0)) + 60000)) - 1))] from (rP _ _ _ (⟨wrap64 ((wrap64 ((wrap64 (a0)) + 60000)) - 1), wrap64 ((wrap64 ((wrap64 (a0)) + 60000)) - 1)⟩ : S23) )) (kG.none _ _)))); intro aEd w19 asj hb hg_ qI; clear hg_ qI; (first | rw [← auK.out] at asj | (simp only [Int.reduceToNat] at asj; rw [← auK.out] at asj)); replace uT := am (Kd.lQ (by (with_reducible repeat (first | apply Kd.nX | apply Kd.nY | apply Kd.pz)); exact (Kd.qb (Kd.pX (p := ⟨uU, 3, none⟩) (Kd.pX (p := ⟨uU, 2, none⟩) (Kd.pX (p := ⟨uU, 1, none⟩) (Kd.pX (p := ⟨uU, 0, none⟩) (Kd.qb uT.out (fun k_ hk => (⟨hk, hk.2⟩ : _ ∧ k_ ≠ uU))) (fun _ hk => hk.2) (.int .i64 1)) (fun _ hk => hk.2) (.int .i64 1)) (fun _ hk => hk.2) (.slice ai7 aa1.length ai8)) (fun _ hk => hk.2) (.slice none 0 0)) (fun _ h_ => h_.1))) (Kd.jN asj) hb); have aaQ := am (Kd.jQ asj (bY (bl1 HB.out aa5.out))); replace oW := am (ak (g := uU) (o := .cells #[.int .i64 1, .int .i64 1, .slice ai7 aa1.length ai8, .slice none 0 0] 28 (0, 0)) (by (with_reducible repeat (first | refine aM ?_ _ | refine aI ?_ | refine aA ?_ _)); refine bX (cs := #[.int .i64 1, .int .i64 1, .slice ai7 aa1.length ai8, .slice none 0 0]) ?_ 3 _ rfl; (with_reducible repeat (first | refine aM ?_ _ | refine aI ?_ | refine aA ?_ _)); refine bX (cs := #[.int .i64 1, .int .i64 1, .slice none 0 0, .slice none 0 0]) ?_ 2 _ rfl; (with_reducible repeat (first | refine aM ?_ _ | refine aI ?_ | refine aA ?_ _)); refine bX (cs := #[.int .i64 1, .int .i64 0, .slice none 0 0, .slice none 0 0]) ?_ 1 _ rfl; (with_reducible repeat (first | refine aM ?_ _ | refine aI ?_ | refine aA ?_ _)); refine bX (cs := #[.int .i64 0, .int .i64 0, .slice none 0 0, .slice none 0 0]) ?_ 0 _ rfl; (with_reducible repeat (first | refine aM ?_ _ | refine aI ?_ | refine aA ?_ _)); exact oW.out) hb); replace HB := am (au (bl1 HB.out aa5.out) hb); clear hb asj; obtain ⟨ar8, ar9, as5⟩ := Kd.iW aaQ.out; subst as5) | ((with_reducible refine aC (f := 14) rfl ?_); refine bR (some 30) rfl rfl Try.func14 (by kernel_rfl) rfl #[.agg #[.int .i64 1, .int .i64 1, .slice ai7 aa1.length ai8, .slice none 0 0], .slice ar8 auJ.length ar9] rfl ar ?_; (refine (dM.calls k 1 1 _ _ aa1 _ _ ([] : List (S70)) _ _ auJ avP auL _ ?bH ?bI ?dG ?dI ?agy ?agz A3.out).mono ?_); (case bH => exact kc (Kd.fE uT.out).2.2); (case bI => exact (Kd.fE uT.out).2.1); (case dG => exact Kd.aav _ _); (case dI => exact Nat.le_refl _); (case agy => exact kc (Kd.bS aaQ.out).2.2); (case agz => exact (Kd.bS aaQ.out).2.1); clear A3; rintro e w22 ⟨aEe, rfl, ho0, hb⟩; refine ⟨_, rfl, ?_⟩; have acL := am (Kd.wT (Kd.j4 (ok' := fun k_ => some k_ ≠ (.slice ai7 aa1.length ai8 : Value).ownBlock ∧ some k_ ≠ (.slice ar8 auJ.length ar9 : Value).ownBlock ∧ k_ ≠ uU) ho0 (fun k_ hk_ => ⟨(Kd.fresh' (Kd.ajo (kn uT.out)) k_ hk_), (Kd.fresh' (Kd.abm (kr aaQ.out)) k_ hk_), (Kd.qV (g := uU) (o := .cells #[.int .i64 1, .int .i64 1, .slice ai7 aa1.length ai8, .slice none 0 0] 28 (0, 0)) (kp oW.out) k_ hk_)⟩)) (bY (bl1 HB.out aa5.out))); replace uT := am (Kd.d9 (kn uT.out) hb); replace aaQ := am (Kd.dO (kr aaQ.out) hb); replace oW := am (ak (kp oW.out) hb); replace HB := am (au (bl1 HB.out aa5.out) hb); (try clear hb); (try clear hb2); (try clear hk); (try clear hi); (try clear ho0); have sH : w22.cell? ⟨uU, 0, none⟩ = some (.int .i64 1) := bc oW.out 0; have sI : w22.cell? ⟨uU, 1, none⟩ = some (.int .i64 1) := bc oW.out 1; have uP : w22.cell? ⟨uU, 2, none⟩ = some (.slice ai7 aa1.length ai8) := bc oW.out 2; have uQ : w22.cell? ⟨uU, 3, none⟩ = some (.slice none 0 0) := bc oW.out 3; have sJ := aj oW.out 0; have sK := aj oW.out 1; have uR := aj oW.out 2; have uS := aj oW.out 3) | ((with_reducible refine bq (N := 49) rfl ?_); (try (refine gH (by rfl) ?_; dsimp only)); refine Kd.acO k23 _ 23 ?hg (N := 49) ?hd (xs := ([(⟨wrap64 (a0), wrap64 (a0)⟩ : S23), (⟨wrap64 ((wrap64 ((wrap64 (a0)) + 60000)) + (wrap64 (a1))), wrap64 ((wrap64 ((wrap64 (a0)) + 60000)) + (wrap64 (a1)))⟩ : S23)] : List (S23))) (inner := [.int .i64 (wrap64 (a0)), .int .i64 (wrap64 (a0)), .int .i64 (wrap64 ((wrap64 ((wrap64 (a0)) + 60000)) + (wrap64 (a1)))), .int .i64 (wrap64 ((wrap64 ((wrap64 (a0)) + 60000)) + (wrap64 (a1))))]) (ok := fun _ => True) (okp := fun _ => True) ?hr ?hp (fun _ hk => hk) trivial (Below.refl _ _) (Nat.le_refl _) (by simp) ?_; (case hd => rfl); (case hg => rfl); (case hr => first | (go_simp; done) | (go_simp; rfl)); (case hp => exact (kG.c2 (show Kd.M k23 _ _ _ (⟨wrap64 (a0), wrap64 (a0)⟩ : S23) [.int .i64 (wrap64 (a0)), .int .i64 (wrap64 (a0))] from (rP _ _ _ (⟨wrap64 (a0), wrap64 (a0)⟩ : S23) )) (kG.c2 (show Kd.M k23 _ _ _ (⟨wrap64 ((wrap64 ((wrap64 (a0)) + 60000)) + (wrap64 (a1))), wrap64 ((wrap64 ((wrap64 (a0)) + 60000)) + (wrap64 (a1)))⟩ : S23) [.int .i64 (wrap64 ((wrap64 ((wrap64 (a0)) + 60000)) + (wrap64 (a1)))), .int .i64 (wrap64 ((wrap64 ((wrap64 (a0)) + 60000)) + (wrap64 (a1))))] from (rP _ _ _ (⟨wrap64 ((wrap64 ((wrap64 (a0)) + 60000)) + (wrap64 (a1))), wrap64 ((wrap64 ((wrap64 (a0)) + 60000)) + (wrap64 (a1)))⟩ : S23) )) (kG.none _ _)))); intro aEf w24 aob hb hg_ qI; clear hg_ qI; (first | rw [← auM.out] at aob | (simp only [Int.reduceToNat] at aob; rw [← auM.out] at aob)); replace uT := am (Kd.lQ (kn uT.out) (Kd.jN aob) hb); replace acL := am (Kd.vI (kv acL.out) (Kd.jN aob) hb); have ahF := am (Kd.jQ (Kd.qU aob (Kd.abm (kr aaQ.out))) (bY (bl1 HB.out aa5.out))); replace aaQ := am (Kd.lN (kr aaQ.out) (Kd.jN aob) hb); replace oW := am (ak (kp oW.out) hb); replace HB := am (au (bl1 HB.out aa5.out) hb); clear hb aob; obtain ⟨aBy, aBz, aDx⟩ := Kd.iW ahF.out; subst aDx) | ((with_reducible refine aC (f := 14) rfl ?_); refine bR (some 50) rfl rfl Try.func14 (by kernel_rfl) rfl #[.agg #[.int .i64 1, .int .i64 1, .slice ai7 aa1.length ai8, .slice none 0 0], .slice aBy avQ.length aBz] rfl ar ?_; (refine (dM.calls k 1 1 _ _ aa1 _ _ ([] : List (S70)) _ _ avQ ash asi _ ?bH ?bI ?dG ?dI ?agy ?agz A4.out).mono ?_); (case bH => exact kc (Kd.fE uT.out).2.2); (case bI => exact (Kd.fE uT.out).2.1); (case dG => exact Kd.aav _ _); (case dI => exact Nat.le_refl _); (case agy => exact kc (Kd.bS ahF.out).2.2); (case agz => exact (Kd.bS ahF.out).2.1); clear A4; rintro e w27 ⟨aEg, rfl, ho0, hb⟩; refine ⟨_, rfl, ?_⟩; replace acL := am (Kd.fJ (kv acL.out) hb); have al2 := am (Kd.wT (Kd.j4 (ok' := fun k_ => some k_ ≠ (.slice ai7 aa1.length ai8 : Value).ownBlock ∧ some k_ ≠ (.slice ar8 auJ.length ar9 : Value).ownBlock ∧ some k_ ≠ (.slice aBy avQ.length aBz : Value).ownBlock ∧ k_ ≠ uU) ho0 (fun k_ hk_ => ⟨(Kd.fresh' (Kd.ajo (kn uT.out)) k_ hk_), (Kd.fresh' (Kd.abm (kr aaQ.out)) k_ hk_), (Kd.fresh' (Kd.abm (kr ahF.out)) k_ hk_), (Kd.qV (g := uU) (o := .cells #[.int .i64 1, .int .i64 1, .slice ai7 aa1.length ai8, .slice none 0 0] 28 (0, 0)) (kp oW.out) k_ hk_)⟩)) (bY (bl1 HB.out aa5.out))); replace uT := am (Kd.d9 (kn uT.out) hb); replace aaQ := am (Kd.dO (kr aaQ.out) hb); replace ahF := am (Kd.dO (kr ahF.out) hb); replace oW := am (ak (kp oW.out) hb); replace HB := am (au (bl1 HB.out aa5.out) hb); (try clear hb); (try clear hb2); (try clear hk); (try clear hi); (try clear ho0)) | ((with_reducible refine bq (N := 61) rfl ?_); (try (refine gH (by rfl) ?_; dsimp only)); refine Kd.acO (Kd.int .i64) _ 3 ?hg (N := 61) ?hd (xs := ([wrap64 (a0), wrap64 ((wrap64 ((wrap64 (a0)) + 60000)) - 1)] : List Int)) (inner := [.int .i64 (wrap64 (a0)), .int .i64 (wrap64 ((wrap64 ((wrap64 (a0)) + 60000)) - 1))]) (ok := fun _ => True) (okp := fun _ => True) ?hr ?hp (fun _ hk => hk) trivial (Below.refl _ _) (Nat.le_refl _) (by simp) ?_; (case hd => rfl); (case hg => rfl); (case hr => first | (go_simp; done) | (go_simp; rfl)); (case hp => exact (kG.one (show Kd.M (Kd.int .i64) _ _ _ (wrap64 (a0)) [.int .i64 (wrap64 (a0))] from rfl) (kG.one (show Kd.M (Kd.int .i64) _ _ _ (wrap64 ((wrap64 ((wrap64 (a0)) + 60000)) - 1)) [.int .i64 (wrap64 ((wrap64 ((wrap64 (a0)) + 60000)) - 1))] from rfl) (kG.none _ _)))); intro aEh w28 aoc hb hg_ qI; clear hg_ qI; (first | rw [← auN.out] at aoc | (simp only [Int.reduceToNat] at aoc; rw [← auN.out] at aoc)); replace uT := am (Kd.lQ (kn uT.out) (Kd.jN aoc) hb); replace acL := am (Kd.vI (kv acL.out) (Kd.jN aoc) hb); replace al2 := am (Kd.vI (kv al2.out) (Kd.jN aoc) hb); have anA := am (Kd.jQ aoc (bY (bl1 HB.out aa5.out))); replace oW := am (ak (kp oW.out) hb); replace HB := am (au (bl1 HB.out aa5.out) hb); clear aaQ ahF; clear hb aoc; obtain ⟨aEi, aEj, aDy⟩ := Kd.wS acL.out; subst aDy; obtain ⟨aEk, aEl, aDz⟩ := Kd.iW anA.out; subst aDz) | (go_at_call 15; (with_reducible refine (bF.calls k _ _ avP _ _ aBx true _ ?bH ?bI ?dG ?dI A6.out).mono ?_); (case bH => exact kc (Kd.iT acL.out).2.2); (case bI => exact (Kd.iT acL.out).2.1); (case dG => exact kc (Kd.bS anA.out).2.2); (case dI => exact (Kd.bS anA.out).2.1); clear A6; rintro e w' ⟨rfl, ⟨nd, rfl⟩⟩; obtain ⟨aA7, aA8, ay7⟩ := Kd.wS al2.out; subst ay7) | (go_at_call 16; (with_reducible refine (aY.calls k  afo _ A10.out).mono ?_); clear A10; rintro e w33 ⟨rfl, hb⟩; replace uT := am (Kd.d9 (kn uT.out) hb); replace acL := am (Kd.fJ (kv acL.out) hb); replace al2 := am (Kd.fJ (kv al2.out) hb); replace oW := am (ak (kp oW.out) hb); replace HB := am (au (bl1 HB.out aa5.out) hb); clear anA; (try clear hb); (try clear hb2); (try clear hk); (try clear hi)))
     go_ret
     exact ⟨rt, bl1 HB.out aa5.out⟩
    ·rw [if_neg c9] at H
     exact absurd H (by simp)
   ·rw [if_neg c8] at H
    exact absurd H (by simp)
  ·replace c7 := Bool.eq_false_iff.mpr c7
   subst c7
   have H1 : (none) = some r := by rw [if_neg (show ¬ (false = true) by decide)] at H; exact H
   clear H
   have H := H1
   clear H1
   exact absurd H (by simp)
 ·rw [if_neg c5] at H
  exact absurd H (by simp)
end Go.Proofs.Ytmbmalkpmanaaaa.P
namespace Go.Proofs.Ytmbmalkpmanaaaa.P
set_option linter.unusedVariables false
set_option linter.unusedSimpArgs false
open Go.RowKit Go.Proofs.YtmbmalkpmanaaaaW.aK Go.Proofs.YtmbmalkpmanaaaaW.bM
variable {p c : Int} {core : List (List Sp)} {odd : List Gn}
theorem SL1 {lo hi a b : Int} (h : lo ≤ a) (h1 : a ≤ b) (h2 : b ≤ hi) : SL lo hi [⟨a, b⟩] := ⟨h, h1, h2, trivial⟩
theorem SL2 {lo hi a b c d : Int} (h : lo ≤ a) (h1 : a ≤ b) (h2 : b ≤ hi) (h3 : b + 2 ≤ c) (h4 : c ≤ d) (h5 : d ≤ hi) : SL lo hi [⟨a, b⟩, ⟨c, d⟩] := ⟨h, h1, h2, h3, h4, h5, trivial⟩
theorem Ev.map' {α β : Type} {g : Nat → Option α} {r : α} (h : Ev g r) (f : α → β) : Ev (fun n => (g n).map f) (f r) := by
  obtain ⟨K, hK⟩ := h
  exact ⟨K, fun k hk => by show (g k).map f = _; rw [hK k hk]; rfl⟩
theorem ahG : ∀ {a b : List Int}, a.Pairwise (· < ·) → b.Pairwise (· < ·) → (∀ x, x ∈ a ↔ x ∈ b) → a = b
  | [], [], _, _, _ => rfl
  | [], y :: b, _, _, h => by have := (h y).2 (by simp); simp at this
  | x :: a, [], _, _, h => by have := (h x).1 (by simp); simp at this
  | x :: a, y :: b, ha, hb, h => by
    obtain ⟨a1, a2⟩ := List.pairwise_cons.1 ha
    obtain ⟨b1, b2⟩ := List.pairwise_cons.1 hb
    have hxy : x = y := by
      rcases List.mem_cons.1 ((h x).1 (by simp)) with g | g
      · exact g
      · rcases List.mem_cons.1 ((h y).2 (by simp)) with g2 | g2
        · exact g2.symm
        · have := b1 x g; have := a1 y g2; omega
    subst hxy
    rw [ahG a2 b2 (fun z => ?_)]
    have hz := h z
    simp only [List.mem_cons] at hz
    constructor
    · intro g
      have : x < z := a1 z g
      rcases hz.1 (.inr g) with e | e
      · omega
      · exact e
    · intro g
      have : x < z := b1 z g
      rcases hz.2 (.inr g) with e | e
      · omega
      · exact e
theorem afp (h : FOK p c core odd) (h1 : Int) : ∀ (d : Nat) (i : Int) (ok : Bool), (ok = true → (1099511627777 - i).toNat ≤ d) → (ok = true → inR i ∧ fs c core odd i ≠ [] ∧ ∃ j, Ex p c core odd j ∧ j ≤ i) →
    ∃ xs, Ev (fun k => fF.l k i ok h1 p c core odd) xs ∧ xs.Pairwise (fun x y => x.1 < y.1) ∧ (∀ x ∈ xs, ok = true ∧ i ≤ x.1 ∧ Ex p c core odd x.1 ∧ x.2 = gT p c core odd x.1 ∧ gLo p c core odd x.1 ≤ h1) ∧
      (∀ j, ok = true → i ≤ j → Ex p c core odd j → gLo p c core odd j ≤ h1 → (j, gT p c core odd j) ∈ xs) := by
  intro d
  induction d with
  | zero =>
    intro i ok hd hA
    cases ok with
    | false => exact ⟨[], Ev.step (f := fun _ => some []) (fun k => by rw [fF.l, if_neg (by simp)]) (Ev.now _), List.Pairwise.nil, by simp, (fun j e => by cases e)⟩
    | true => have := (hA rfl).1; unfold inR at this; have := hd rfl; omega
  | succ d ih =>
    intro i ok hd hA
    cases ok with
    | false => exact ⟨[], Ev.step (f := fun _ => some []) (fun k => by rw [fF.l, if_neg (by simp)]) (Ev.now _), List.Pairwise.nil, by simp, (fun j e => by cases e)⟩
    | true =>
      obtain ⟨a1, a2, j0, a3, a4⟩ := hA rfl
      have hd := hd rfl
      have gev := uF h.s i
      by_cases hx : Ex p c core odd i
      · rw [h.s.qP hx] at gev
        obtain ⟨t1, t2, t3⟩ := aal (p := p) (c := c) (core := core) (odd := odd) a2
        obtain ⟨y1, y2⟩ := alu _ t1
        have llh := h.s.pV a2
        by_cases hlo : gLo p c core odd i > h1
        · have e1 : Ev (fun k => fF.l k i true h1 p c core odd) [] := by
            refine Ev.step (fun k => by rw [fF.l, if_pos rfl]) ?_
            refine Ev.bind gev (Ev.yes rfl (Ev.yes y1 (Ev.yes ?_ (Ev.now _))))
            rw [y2, t2]; exact hlo
          refine ⟨[], e1, List.Pairwise.nil, by simp, fun j _ hj e hjl => ?_⟩
          exfalso
          rcases Int.lt_trichotomy i j with g | g | g
          · have := h.ord i j g a1 e.r a2 e.n; omega
          · rw [← g] at hjl; omega
          · omega
        · obtain ⟨n, n1, n2⟩ := xQ h.s i (by unfold inR at a1; omega)
          unfold inR at a1
          obtain ⟨xs, x1, x2, x3, x4⟩ := ih n.1 n.2 (fun e => by have := (n2.1 e).1; omega) (fun e => ⟨(n2.1 e).2.1, (n2.1 e).2.2.1, i, hx, by have := (n2.1 e).1; omega⟩)
          have e1 : Ev (fun k => fF.l k i true h1 p c core odd) ((i, gT p c core odd i) :: xs) := by
            refine Ev.step (fun k => by rw [fF.l, if_pos rfl]) ?_
            refine Ev.bind gev (Ev.yes rfl (Ev.yes y1 (Ev.no ?_ (Ev.bind n1 (Ev.map' x1 _)))))
            rw [y2, t2]; exact hlo
          refine ⟨(i, gT p c core odd i) :: xs, e1, List.pairwise_cons.2 ⟨fun x hxm => ?_, x2⟩, fun x hxm => ?_, fun j _ hj e hjl => ?_⟩
          · obtain ⟨b1, b2, _⟩ := x3 x hxm
            have := (n2.1 b1).1
            show i < x.1; omega
          · rcases List.mem_cons.1 hxm with rfl | hxm
            · exact ⟨rfl, Int.le_refl _, hx, rfl, by show gLo p c core odd i ≤ h1; omega⟩
            · obtain ⟨b1, b2, b3, b4, b5⟩ := x3 x hxm
              have := (n2.1 b1).1
              exact ⟨rfl, by omega, b3, b4, b5⟩
          · rcases Int.lt_or_le i j with g | g
            · have g5 := e.r
              unfold inR at g5
              cases hn : n.2 with
              | false => exact absurd ((n2.2 hn).2 j (by omega) e.r) e.n
              | true =>
                refine List.mem_cons_of_mem _ (x4 j hn ?_ e hjl)
                refine Classical.byContradiction fun hq => ?_
                exact e.n ((n2.1 hn).2.2.2 j (by omega) (by omega))
            · have : j = i := by omega
              subst this; simp
      · rw [h.s.aes a2 hx] at gev
        have e1 : Ev (fun k => fF.l k i true h1 p c core odd) [] := by
          refine Ev.step (fun k => by rw [fF.l, if_pos rfl]) ?_
          exact Ev.bind gev (Ev.no (by simp) (Ev.now _))
        refine ⟨[], e1, List.Pairwise.nil, by simp, fun j _ hj e hjl => ?_⟩
        exfalso
        have hne : i ≠ j := fun q => hx (by rw [q]; exact e)
        have hne2 : j0 ≠ i := fun q => hx (by rw [← q]; exact a3)
        have o1 := h.ord j0 i (by omega) a3.r a1 a3.n a2
        have o2 := h.ord i j (by omega) a1 e.r a2 e.n
        have l1 := h.s.pV a3.n
        have l2 := h.s.pV e.n
        refine hx ⟨a1, a2, ?_, ?_⟩
        · have := a3.lo; omega
        · have := e.hi; omega
structure BtS (p c : Int) (core : List (List Sp)) (odd : List Gn) (h0 h1 : Int) (xs : List (Int × List Sp)) : Prop where
  up : xs.Pairwise (fun x y => x.1 < y.1)
  mem : ∀ x ∈ xs, Ex p c core odd x.1 ∧ x.2 = gT p c core odd x.1 ∧ h0 ≤ gHi p c core odd x.1 ∧ gLo p c core odd x.1 ≤ h1
  all : ∀ j, Ex p c core odd j → h0 ≤ gHi p c core odd j → gLo p c core odd j ≤ h1 → (j, gT p c core odd j) ∈ xs
theorem ai5 (h : FOK p c core odd) (h0 h1 : Int) : ∃ xs, Ev (fun k => fF.f k p c core odd h0 h1) xs ∧ BtS p c core odd h0 h1 xs := by
  obtain ⟨a, a1, a2⟩ := yV h h0
  obtain ⟨xs, x1, x2, x3, x4⟩ := afp h h1 (1099511627777 - a.1).toNat a.1 a.2 (fun _ => Nat.le_refl _) (fun e => by
    obtain ⟨q1, q2, q3⟩ := a2.y e
    exact ⟨q1.r, q1.n, a.1, q1, Int.le_refl _⟩)
  refine ⟨xs, ?_, ⟨x2, fun x hx => ?_, fun j e g1 g2 => ?_⟩⟩
  · unfold fF.f
    exact Ev.bind a1 x1
  · obtain ⟨b1, b2, b3, b4, b5⟩ := x3 x hx
    obtain ⟨q1, q2, q3⟩ := a2.y b1
    refine ⟨b3, b4, ?_, b5⟩
    rcases Int.lt_or_le a.1 x.1 with g | g
    · have := h.ord a.1 x.1 g q1.r b3.r q1.n b3.n
      have := h.s.pV b3.n
      omega
    · have : x.1 = a.1 := by omega
      rw [this]; exact q2
  · cases ha : a.2 with
    | false => exact absurd g1 ((a2.n ha).2 j e)
    | true => exact x4 j ha ((a2.y ha).2.2 j e g1) e g2
def afq (l m : List Sp) : Bool := decide ((yh (fun a b => a && b) l m) ≠ [])
theorem aod (l : List Sp) (hl : l.length ≤ 500000) : ∀ (xs : List (Int × List Sp)) (n : Int) (out : List Int), (∀ x ∈ xs, x.2.length ≤ 500000) → n ≤ 60000 →
    dM.l l xs n out = some (if n + xs.length ≤ 60000 then (out ++ (xs.filter (fun x => afq x.2 l)).map (·.1), 0) else ([], 3))
  | [], n, out, _, hn => by simp [dM.l, hn]
  | x :: r, n, out, hx, hn => by
    have hm : oO.f x.2 l = some (afq x.2 l) := ars _ _ (by have := hx x (by simp); omega)
    rw [dM.l]
    by_cases h : n + 1 > 60000
    · rw [if_pos h, if_neg (by simp only [List.length_cons]; omega)]
    · rw [if_neg h, hm, Option.bind_some, aod l hl r (n + 1) _ (fun y hy => hx y (by simp [hy])) (by omega)]
      have e : (n + 1 + (r.length : Int) ≤ 60000) ↔ (n + ((x :: r).length : Int) ≤ 60000) := by simp only [List.length_cons]; omega
      by_cases g : n + ((x :: r).length : Int) ≤ 60000
      · rw [if_pos g, if_pos (e.2 g)]
        by_cases hb : afq x.2 l = true
        · rw [if_pos hb]; simp [List.filter_cons, hb]
        · rw [if_neg hb]; simp [List.filter_cons, hb]
      · rw [if_neg g, if_neg (fun q => g (e.1 q))]
theorem al3 (h : FOK p c core odd) {l : List Sp} (hs : SL (-1099511627776) 1099511627776 l) (hl : l.length ≤ 500000) (hne : l ≠ []) (hf : ∀ i, (fs c core odd i).length ≤ 500000) :
    ∃ xs, BtS p c core odd (qF l) (qH l) xs ∧ Ev (fun k => dM.f k p c core odd l) (if (xs.length : Int) ≤ 60000 then ((xs.filter (fun x => afq x.2 l)).map (·.1), 0) else ([], 3)) := by
  obtain ⟨xs, x1, x2⟩ := ai5 h (qF l) (qH l)
  refine ⟨xs, x2, ?_⟩
  have hr := ael l (by omega)
  rw [acw.2 hs] at hr
  have hh : eD.f l = some (qF l, qH l, true) := by rw [tN l (by omega), mO, if_neg hne]
  unfold dM.f
  refine Ev.bind hr (Ev.yes rfl (Ev.bind (Ev.val hh) (Ev.yes rfl (Ev.bind x1 ?_))))
  rw [aod l hl xs 0 [] (fun x hx => by rw [(x2.mem x hx).2.1]; unfold gT; rw [List.length_map]; exact hf _) (by omega)]
  simp only [Int.zero_add, List.nil_append]
  exact Ev.now _
theorem anB {a b : List Sp} (ha : SL (-1099511627776) 1099511627776 a) (hb : SL (-1099511627776) 1099511627776 b) : afq a b = true ↔ ∃ x, qE a x = true ∧ qE b x = true := by
  obtain ⟨k1, k2⟩ := arq (fun a b => a && b) rfl ha hb
  unfold afq
  rw [decide_eq_true_iff]
  constructor
  · intro hn
    cases hk : yh (fun a b => a && b) a b with
    | nil => exact absurd hk hn
    | cons s r =>
      rw [hk] at k1
      have := SL.ticks k1 (s := s) (by simp)
      have e := k2 s.f0
      rw [hk, lC] at e
      have : (decide (s.f0 ≤ s.f0) && decide (s.f0 ≤ s.f1) || qE r s.f0) = true := by simp; omega
      rw [this] at e
      have := Bool.and_eq_true_iff.1 e.symm
      exact ⟨s.f0, this.1, this.2⟩
  · rintro ⟨x, h1, h2⟩ he
    have e := k2 x
    rw [he, aai, h1, h2] at e
    cases e
end Go.Proofs.Ytmbmalkpmanaaaa.P
namespace Go.Proofs.Ytmbmalkpmanaaaa.Pure
set_option linter.unusedVariables false
set_option linter.unusedSimpArgs false
open Go.Proofs.Ytmbmalkpmanaaaa.P Go.RowKit Go.Proofs.YtmbmalkpmanaaaaW.aK
def ahH : List (List Sp) := [[⟨0, 0⟩]]
theorem auQ (i : Int) : gG 1 ahH i = [⟨0, 0⟩] := by
  unfold gG
  rw [if_neg (by omega), Int.emod_one]; rfl
theorem aiu (i : Int) : fs 1 ahH [] i = [⟨0, 0⟩] := auQ i
theorem aoe (i : Int) : fb 1 1 [] i = i := by
  have : fb 1 1 [] i = i / 1 * 1 := rfl
  rw [this, Int.ediv_one, Int.mul_one]
theorem afr (i : Int) : gLo 1 1 ahH [] i = i ∧ gHi 1 1 ahH [] i = i := by
  unfold gLo gHi
  rw [aiu, aoe]
  exact ⟨Int.zero_add i, Int.zero_add i⟩
theorem auR (i : Int) : gT 1 1 ahH [] i = [⟨i, i⟩] := by
  unfold gT
  rw [aiu, aoe]
  simp [qX]
theorem aof (i : Int) : Ex 1 1 ahH [] i ↔ inR i := by
  obtain ⟨e1, e2⟩ := afr i
  constructor
  · intro e; exact e.r
  · intro e
    have e' := e
    unfold inR at e'
    exact ⟨e, by rw [aiu]; simp, by omega, by omega⟩
theorem aog : FOK 1 1 ahH [] := by
  refine FOK.of ⟨rfl, by omega, by omega, by omega, ?_, by simp, by simp, List.Pairwise.nil, by simp [ahH], by simp⟩ ⟨?_, ?_⟩ ⟨by simp, by simp⟩
  · intro l hl
    have : l = [⟨0, 0⟩] := by simpa [ahH] using hl
    rw [this]; simp [SL]
  · simp [ahH]
  · intro a ha b hb _ _
    have : a = [⟨0, 0⟩] := by simpa [ahH] using ha
    have h2 : b = [⟨0, 0⟩] := by simpa [ahH] using hb
    rw [this, h2]
    show (0 : Int) < 0 + 1
    omega
theorem auS (a : Int) (n : Nat) : ((List.range n).map (fun m : Nat => a + m)).Pairwise (· < ·) := by
  rw [List.pairwise_map]
  exact List.pairwise_lt_range.imp (fun h => by omega)
theorem arV {a b : Int} {xs : List (Int × List Sp)} (h : BtS 1 1 ahH [] a b xs) (ha : inR a) (hb : inR b) (hab : a ≤ b) : xs.map (·.1) = (List.range (b - a + 1).toNat).map (fun m : Nat => a + m) := by
  unfold inR at ha hb
  refine ahG (by rw [List.pairwise_map]; exact h.up) (auS a _) (fun x => ?_)
  simp only [List.mem_map, List.mem_range]
  constructor
  · rintro ⟨y, hy, rfl⟩
    obtain ⟨q1, q2, q3, q4⟩ := h.mem y hy
    rw [(afr y.1).1] at q4
    rw [(afr y.1).2] at q3
    exact ⟨(y.1 - a).toNat, by omega, by omega⟩
  · rintro ⟨m, hm, rfl⟩
    obtain ⟨e1, e2⟩ := afr (a + m)
    exact ⟨_, h.all (a + m) ((aof _).2 ⟨by omega, by omega⟩) (by omega) (by omega), rfl⟩
theorem al4 {a b : Int} {xs : List (Int × List Sp)} (h : BtS 1 1 ahH [] a b xs) (ha : inR a) (hb : inR b) (hab : a ≤ b) : (xs.length : Int) = b - a + 1 := by
  have := congrArg List.length (arV h ha hb hab)
  rw [List.length_map, List.length_map, List.length_range] at this
  omega
theorem al5 (l : List Int) (hl : l.length ≤ 4611686018427387903) : Ev (fun k => bF.f k l l) true := by
  have key : ∀ (d n : Nat), l.length - n = d → n ≤ l.length → Ev (fun k => bF.l0 k l l (l.length : Int) (n : Int)) true := by
    intro d
    induction d with
    | zero =>
      intro n hd hn
      exact Ev.step (f := fun _ => some true) (fun k => by rw [bF.l0, if_neg (by omega)]) (Ev.now _)
    | succ d ih =>
      intro n hd hn
      have hw : wrap64 ((n : Int) + 1) = ((n + 1 : Nat) : Int) := by rw [eH (by omega) (by omega)]; simp
      exact Ev.step (fun k => by rw [bF.l0, if_pos (by omega), if_pos (by omega), if_pos (by omega), if_pos (by omega), if_pos rfl, hw]) (ih (n + 1) (by omega) (by omega))
  unfold bF.f
  exact Ev.yes rfl (key _ 0 rfl (by omega))
theorem FindLong (a0 : Int) (w0 : (Lit.int .i32 a0).wf = true) (a1 : Int) (w1 : (Lit.int .u8 a1).wf = true) : ∃ k, kR.f k a0 a1 = some true := by
  refine Ev.rounds ?_
  have b0 := bounds_i32 w0
  have b1 := bounds_u8 w1
  have e1 : wrap64 a0 = a0 := eH (by omega) (by omega)
  have e2 : wrap64 (a0 + 60000) = a0 + 60000 := eH (by omega) (by omega)
  have e3 : wrap64 (a0 + 60000 - 1) = a0 + 59999 := by rw [eH (by omega) (by omega)]; omega
  have e4 : wrap64 a1 = a1 := eH (by omega) (by omega)
  have e5 : wrap64 (a0 + 60000 + a1) = a0 + 60000 + a1 := eH (by omega) (by omega)
  unfold kR.f
  rw [e1, e2, e3, e4, e5]
  clear e1 e2 e3 e4 e5
  have hf : ∀ i, (fs 1 ahH [] i).length ≤ 500000 := fun i => by rw [aiu]; simp
  have s1 : SL (-1099511627776) 1099511627776 ([⟨a0, a0⟩, ⟨a0 + 59999, a0 + 59999⟩] : List Sp) := SL2 (by omega) (by omega) (by omega) (by omega) (by omega) (by omega)
  have s2 : SL (-1099511627776) 1099511627776 ([⟨a0, a0⟩, ⟨a0 + 60000 + a1, a0 + 60000 + a1⟩] : List Sp) := SL2 (by omega) (by omega) (by omega) (by omega) (by omega) (by omega)
  obtain ⟨xs, x1, x2⟩ := al3 aog s1 (by simp) (by simp) hf
  obtain ⟨ys, y1, y2⟩ := al3 aog s2 (by simp) (by simp) hf
  have lx : (xs.length : Int) = 60000 := by
    have := al4 x1 ⟨by show _ ≤ a0; omega, by show a0 ≤ _; omega⟩ ⟨by show _ ≤ a0 + 59999; omega, by show a0 + 59999 ≤ _; omega⟩ (by show a0 ≤ a0 + 59999; omega)
    rw [this]
    show a0 + 59999 - a0 + 1 = 60000
    omega
  have ly : (ys.length : Int) = 60001 + a1 := by
    have := al4 y1 ⟨by show _ ≤ a0; omega, by show a0 ≤ _; omega⟩ ⟨by show _ ≤ a0 + 60000 + a1; omega, by show a0 + 60000 + a1 ≤ _; omega⟩ (by show a0 ≤ a0 + 60000 + a1; omega)
    rw [this]
    show a0 + 60000 + a1 - a0 + 1 = 60001 + a1
    omega
  rw [if_pos (by omega)] at x2
  rw [if_neg (by omega)] at y2
  have out : (xs.filter (fun x => afq x.2 [⟨a0, a0⟩, ⟨a0 + 59999, a0 + 59999⟩])).map (·.1) = [a0, a0 + 59999] := by
    refine ahG (by rw [List.pairwise_map]; exact x1.up.filter _) (by simp only [List.pairwise_cons, List.mem_singleton, List.not_mem_nil, forall_eq, false_imp_iff, implies_true, List.Pairwise.nil, and_true]; omega) (fun z => ?_)
    have mt : ∀ i : Int, inR i → (afq [⟨i, i⟩] [⟨a0, a0⟩, ⟨a0 + 59999, a0 + 59999⟩] = true ↔ i = a0 ∨ i = a0 + 59999) := fun i hi => by
      unfold inR at hi
      rw [anB (SL1 (by omega) (by omega) (by omega)) s1]
      constructor
      · rintro ⟨x, g1, g2⟩
        simp [qE] at g1 g2
        omega
      · intro g
        exact ⟨i, by simp [qE], by simp [qE]; omega⟩
    simp only [List.mem_map, List.mem_filter, List.mem_cons, List.not_mem_nil, or_false]
    constructor
    · rintro ⟨y, ⟨hy, hm⟩, rfl⟩
      obtain ⟨q1, q2, _⟩ := x1.mem y hy
      rw [q2, auR] at hm
      exact (mt y.1 q1.r).1 hm
    · intro hz
      have hr : inR z := by unfold inR; omega
      obtain ⟨l1, l2⟩ := afr z
      refine ⟨_, ⟨x1.all z ((aof z).2 hr) ?_ ?_, ?_⟩, rfl⟩
      · show a0 ≤ _; rw [l2]; omega
      · show _ ≤ a0 + 59999; rw [l1]; omega
      · rw [auR]; exact (mt z hr).2 hz
  rw [out] at x2
  refine Ev.bind (Ev.now _) ?_
  refine Ev.bind x2 (Ev.bind y2 (Ev.yes rfl ?_))
  exact Ev.bind (al5 _ (by simp)) (Ev.yes rfl (Ev.yes rfl (Ev.yes rfl (Ev.bind pW (Ev.now _)))))
end Go.Proofs.Ytmbmalkpmanaaaa.Pure
namespace Go.Proofs.Ytmbmalkpmanaaaa.findLong
open Go.ChangeShapes Go.WideShapes Go.ChangeAt Go.RowKit
open Go.ChangeMaps (open_string shut_string)
set_option linter.unusedVariables false
theorem own : ownKnob Try.prog.godebug = none := by kernel_rfl
theorem laidOut : laidOutB Try.prog = true := by kernel_rfl
set_option maxRecDepth 100000 in
theorem lifted (os : Os) (started : os.Started) (H : Type) (enc : TypeId × Value → H) :
    ReturnsInHanded {} Try.checked os 3 .any (Rows.findLongSpec.pre6 enc Try.prog Try.f3 Rows.findLongRow.domain false) (Rows.findLongSpec.post enc Try.prog Try.f3 false true false false) := by
  refine returnsInHanded_of_change_sized (C := Try.checked) own started (by kernel_rfl) Try.func3
    (ChangeSpec.witness6 (enc := enc) (C := Try.checked) false ⟨#[], #[.int .i32 0, .int .u8 0], []⟩ 8 (by kernel_rfl) (by kernel_rfl) (by kernel_rfl) (by kernel_rfl)) ?_
  intro W base args ds gs before hval0 hW hcnd hsz0 _
  have hval : ∀ (j : Nat) t v, Try.f3.params[j]? = some t → args[j]? = some v → Value.okWide Try.prog W .any base t v := hval0
  have hW' := hW
  obtain ⟨p, q, hA0, hV, rfl, hfz, hnd⟩ := hW
  have hA : DataW.TrodAll enc Try.prog W 0 (fun _ => true) true Try.f3.params.toList args.toList ds p := hA0
  rw [Try.params3] at hA hval
  obtain ⟨v0, vs0, d0, ds0, p0, q0, hargs, rfl, rfl, h0, r0⟩ := trodAll_cons hA
  obtain ⟨v1, vs1, d1, ds1, p1, q1, rfl, rfl, rfl, h1, r1⟩ := trodAll_cons r0
  obtain ⟨rfl, rfl, rfl⟩ := trodAll_nil r1
  obtain rfl : args = #[v0, v1] := by cases args; simp_all
  obtain ⟨rfl, rfl⟩ := trodVars_none hV
  obtain ⟨a0, rfl, rfl, rfl, w0⟩ := open_int Try.underlying21 (hval 0 21 v0 rfl rfl) h0
  obtain ⟨a1, rfl, rfl, rfl, w1⟩ := open_int Try.underlying5 (hval 1 5 v1 rfl rfl) h1
  clear hA0 hval0 hsz0
  obtain ⟨kk, hP⟩ := Pure.FindLong a0 w0 a1 w1
  refine (P.kR.calls kk a0 a1 true W  hP).mono fun e W' ⟨he, arQ⟩ => ?_
  have bel := arQ
  subst he
  exact ⟨_, rfl, _, _, _, [], _, [], hW', trodAll_mk1 (shut_bool Try.underlying4 _), (trodAll_cons_mk (shut_int Try.underlying21 w0) (trodAll_cons_mk (shut_int Try.underlying5 w1) trodAll_mk0)), rfl, bel.frame _, fun h => by cases h⟩
theorem over : Rows.findLongRow.holds Try.pinned (OpenSpec.ofChange Rows.findLongSpec) :=
  OpenClaim.holds_of_wide 3 Try.f3 rfl rfl rfl rfl rfl rfl rfl ⟨rfl, rfl, rfl, rfl, rfl⟩ rfl rfl rfl rfl rfl (by kernel_rfl) Try.func3 (by kernel_rfl)
    (of_decide_eq_true (by kernel_rfl)) (by unfold Func.isWrapper; first | (rw [if_pos (by decide +kernel)]; kernel_rfl) | (rw [if_neg (by decide +kernel)]; exact ⟨rfl, rfl⟩))
    (fun os started H enc _ => lifted os started H enc)
theorem proved : Rows.FindLongSaid := over
#print axioms proved
end Go.Proofs.Ytmbmalkpmanaaaa.findLong
namespace Go.Proofs.Ytmbmalkpmanaaaa
theorem findLong_holds : Rows.FindLongSaid := findLong.proved
end Go.Proofs.Ytmbmalkpmanaaaa

/- The law FindAt: it holds at every input that its row reads. No condition of its own. -/
import Derived.Test.YtmbmalkpmanaaaaYF3
import Derived.Test.YtmbmalkpmanaaaaYF2
import Derived.Test.YtmbmalkpmanaaaaYF11
import Derived.Test.YtmbmalkpmanaaaaYF14
import Derived.Test.YtmbmalkpmanaaaaYF7
import Derived.Test.YtmbmalkpmanaaaaYF9
import Derived.Test.YtmbmalkpmanaaaaYF5
import Derived.Test.YtmbmalkpmanaaaaYF17
import Derived.Test.YtmbmalkpmanaaaaRows
import Derived.WalkKit
import Derived.ProofKit
import Derived.OpenShut
import Derived.ShutString
import Derived.ChangeOld
import Derived.Below
import Derived.SizedLaws
namespace Go.Proofs.Ytmbmalkpmanaaaa.P
open Go.RowKit Go.Proofs.YtmbmalkpmanaaaaW.aK Go.Proofs.YtmbmalkpmanaaaaW.bK Go.Proofs.YtmbmalkpmanaaaaW.bM
attribute [local go_sem] dS dU fG fH dB dD dV dW   -- for this text's walks alone
set_option linter.unusedVariables false
set_option linter.unusedSimpArgs false
mutual
def aZ.j0 : Nat → Int → Int → Int → List (S23) → Bool → Int → Int → List (List (S23)) → List (S70) → Option (Bool)
 | 0, _, _, _, _, _, _, _, _, _ => none
 | k + 1, x1, x2, x3, x9, x34, x315000, x315001, x315002, x315003 => if x34 = true then ((mM.f x2 (x9.length : Int)).bind fun qc => (if 0 ≤ qc then (if qc < (x9.length : Int) then ((some (([(aT x9 qc).f0, (aT x9 qc).f1, wrap64 (((aT x9 qc).f0) + (wrap64 (Int.tdiv (wrap64 (((aT x9 qc).f1) - ((aT x9 qc).f0))) 2)))] : List Int) : List Int)).bind fun yu => (aZ.l0 k x1 x3 yu (yu.length : Int) 0 x315000 x315001 x315002 x315003)) else (none)) else (none))) else (aZ.j2 k x3 x315000 x315001 x315002 x315003)
def aZ.j2 : Nat → Int → Int → Int → List (List (S23)) → List (S70) → Option (Bool)
 | 0, _, _, _, _, _ => none
 | k + 1, x3, x315000, x315001, x315002, x315003 => (jr.f k x315000 x315001 x315002 x315003 x3).bind fun arI => (if arI.2 = true then ((eO.f k x315000 x315001 x315002 x315003 arI.1).bind fun alJ => (if alJ.2 = 0 then ((jY.f k alJ.1 x3).bind fun aul => (if aul = true then ((aY.f k).bind fun arJ => (some arJ)) else (none))) else (none))) else (if arI.1 = 0 then ((aY.f k).bind fun aum => (some aum)) else (none)))
def aZ.l0 : Nat → Int → Int → List Int → Int → Int → Int → Int → List (List (S23)) → List (S70) → Option (Bool)
 | 0, _, _, _, _, _, _, _, _, _ => none
 | k + 1, x1, x3, x55, x56, x57, x315000, x315001, x315002, x315003 => if x57 < x56 then (if 0 ≤ x57 then (if x57 < (x55.length : Int) then ((aX.f x1 true).bind fun aBo => ((jr.f k x315000 x315001 x315002 x315003 (rd x55 x57)).bind fun aun => ((aJ.f x1 true aun.1 aun.2).bind fun azN => (if azN = true then ((aX.f x1 true).bind fun azO => ((bP.f k x315000 x315001 x315002 x315003 (rd x55 x57)).bind fun alK => ((aJ.f x1 true alK.1 alK.2).bind fun auo => (if auo = true then ((aX.f x1 true).bind fun avB => ((bV.f k x315000 x315001 x315002 x315003 (rd x55 x57)).bind fun afm => ((aJ.f x1 true afm.1 afm.2).bind fun arK => (if arK = true then (aZ.l0 k x1 x3 x55 x56 (wrap64 (x57 + 1)) x315000 x315001 x315002 x315003) else (none))))) else (none))))) else (none))))) else (none)) else (none)) else (aZ.j2 k x3 x315000 x315001 x315002 x315003)
end
def aZ.f (k : Nat) (aQ : Int) (aR : Int) (aH : List (List (S23))) (av : List (S70)) (a1 : Int) (a2 : Int) (a3 : Int) : Option (Bool) := (fP.f k aQ aR aH av).bind fun aup => (if aup = true then ((eO.f k aQ aR aH av a1).bind fun aan => (if aan.2 = 0 then (aZ.j0 k a1 a2 a3 aan.1 (decide ((aan.1.length : Int) > 0)) aQ aR aH av) else (aZ.j0 k a1 a2 a3 aan.1 false aQ aR aH av))) else ((aY.f k).bind fun arL => (some arL)))
def aZ.T9 : Bool × List (List Nat × List Nat) := (true, [([], []), ([0], [0]), ([], []), ([], []), ([2, 3, 1], [2, 3]), ([4], [4]), ([4], [4]), ([1, 5, 6, 4], [1, 5, 6]), ([7], [7]), ([8, 7], [8]), ([9], [9]), ([10, 9, 9], [9, 10]), ([9], [9]), ([9], [9]), ([12, 13, 11, 9], [9, 12, 13]), ([14, 9], [9, 14]), ([14, 9], [9, 14]), ([11, 15, 16, 14, 9], [9, 11, 15, 16]), ([17, 9], [9, 17]), ([9, 18], [9, 18]), ([19, 17], [19]), ([20], [20]), ([21, 20, 20], [20, 21]), ([20], [20]), ([20], [20]), ([23, 24, 22, 20], [20, 23, 24]), ([25, 20], [20, 25]), ([25, 20], [20, 25]), ([22, 26, 27, 25, 20], [20, 22, 26, 27]), ([28, 20], [20, 28]), ([20, 29], [20, 29])])
def aZ.B9 : List Nat := [0, 1, 0, 0, 15, 31, 31, 127, 255, 511, 1023, 2047, 1023, 1023, 16383, 32767, 32767, 131071, 262143, 524287, 1048575, 2097151, 4194303, 2097151, 2097151, 33554431, 67108863, 67108863, 268435455, 536870911, 1073741823]
theorem aZ.aC3 : xW .any (opsOf Try.f4 9) = aZ.T9 := by kernel_rfl
theorem aZ.azP : pq aZ.T9.2 aZ.B9 = true := by kernel_rfl
set_option maxHeartbeats 8000000 in
set_option maxRecDepth 100000 in
theorem aZ.calls (k : Nat) (aQ : Int) (aR : Int) (cu : Option Addr) (bW : Nat) (aH : List (List (S23))) (dz : Option Addr) (bZ : Nat) (av : List (S70)) (a1 : Int) (a2 : Int) (a3 : Int) (r : Bool) (w : World) (iF : Kd.C (Kd.slice 23 k23) w cu aH.length aH) (iG : aH.length ≤ bW) (iw : Kd.C k70 w dz av.length av) (iy : av.length ≤ bZ) (h : aZ.f k aQ aR aH av a1 a2 a3 = some r) :
 Calls Try.prog 4 #[.agg #[.int .i64 aQ, .int .i64 aR, .slice cu aH.length bW, .slice dz av.length bZ], .int .i64 a1, .int .i64 a2, .int .i64 a3] w fun e w' => e = .returned (.bool r) ∧ Below w.heap.size w w' := by
 have aaE := Try.underlying28
 have afs := Try.underlying23
 have gF := am iF
 have gX := am iG
 clear iF iG
 have fK := am iw
 have gW := am iy
 clear iw iy
 have HB := am (Below.refl w.heap.size w)
 have H : ((fP.f k aQ aR aH av).bind fun aup => (if aup = true then ((eO.f k aQ aR aH av a1).bind fun aan => (if aan.2 = 0 then (aZ.j0 k a1 a2 a3 aan.1 (decide ((aan.1.length : Int) > 0)) aQ aR aH av) else (aZ.j0 k a1 a2 a3 aan.1 false aQ aR aH av))) else ((aY.f k).bind fun arL => (some arL)))) = some r := h
 clear h
 replace H := Option.bind_eq_some_iff.mp H
 obtain ⟨aup, A50, H⟩ := H
 try dsimp only at H
 have A5 := am A50
 clear A50
 by_cases c6 : aup = true
 ·subst c6
  have H1 : ((eO.f k aQ aR aH av a1).bind fun aan => (if aan.2 = 0 then (aZ.j0 k a1 a2 a3 aan.1 (decide ((aan.1.length : Int) > 0)) aQ aR aH av) else (aZ.j0 k a1 a2 a3 aan.1 false aQ aR aH av))) = some r := by rw [if_pos rfl] at H; exact H
  clear H
  have H := H1
  clear H1
  replace H := Option.bind_eq_some_iff.mp H
  obtain ⟨⟨qY, asc⟩, A70, H⟩ := H
  try dsimp only at H
  have A7 := am A70
  clear A70
  have HC8 := am H
  clear H
  go_enter Try.func4, Try.ntmps4
  go_upto_region 4 with (first | ((with_reducible refine bq (N := 4) rfl ?_); (try (refine gH (by rfl) ?_; dsimp only)); refine bx 4 28 #[.int .i64 aQ, .int .i64 aR, .slice cu aH.length bW, .slice dz av.length bZ] ?_; intro lX hg w9 dL hb; have eB := am (dL); have azQ := am ((bz hg HB.out : w.heap.size ≤ lX)); have ny := am ((bz hg HB.out : w.heap.size ≤ lX)); replace HB := am (au (bl HB.out) hb); clear hb dL hg; have qJ : w9.cell? ⟨lX, 0, none⟩ = some (.int .i64 aQ) := bc eB.out 0; have qK : w9.cell? ⟨lX, 1, none⟩ = some (.int .i64 aR) := bc eB.out 1; have rZ : w9.cell? ⟨lX, 2, none⟩ = some (.slice cu aH.length bW) := bc eB.out 2; have r9 : w9.cell? ⟨lX, 3, none⟩ = some (.slice dz av.length bZ) := bc eB.out 3; have qL := aj eB.out 0; have qM := aj eB.out 1; have sj := aj eB.out 2; have su := aj eB.out 3) | ((with_reducible refine aC (f := 17) rfl ?_); refine bR (some 19) rfl rfl Try.func17 (by kernel_rfl) rfl #[.agg #[.int .i64 aQ, .int .i64 aR, .slice cu aH.length bW, .slice dz av.length bZ]] rfl ar ?_; (with_reducible refine (fP.calls k aQ aR _ _ aH _ _ av true _ ?bH ?bI ?dG ?dI A5.out).mono ?_); (case bH => exact kc (Kd.bf gF.out HB.out)); (case bI => exact gX.out); (case dG => exact kc (Kd.bf fK.out HB.out)); (case dI => exact gW.out); clear A5; rintro e w11 ⟨rfl, hb⟩; refine ⟨_, rfl, ?_⟩; replace eB := am (ak (kp eB.out) hb); replace HB := am (au (bl1 HB.out ny.out) hb); (try clear hb); (try clear hb2); (try clear hk); (try clear hi); have acd : w11.cell? ⟨lX, 0, none⟩ = some (.int .i64 aQ) := bc eB.out 0; have ace : w11.cell? ⟨lX, 1, none⟩ = some (.int .i64 aR) := bc eB.out 1; have acf : w11.cell? ⟨lX, 2, none⟩ = some (.slice cu aH.length bW) := bc eB.out 2; have acg : w11.cell? ⟨lX, 3, none⟩ = some (.slice dz av.length bZ) := bc eB.out 3; have ach := aj eB.out 0; have aci := aj eB.out 1; have acj := aj eB.out 2; have acn := aj eB.out 3) | ((with_reducible refine aC (f := 18) rfl ?_); refine bR (some 25) rfl rfl Try.func18 (by kernel_rfl) rfl #[.agg #[.int .i64 aQ, .int .i64 aR, .slice cu aH.length bW, .slice dz av.length bZ], .int .i64 a1] rfl ar ?_; (with_reducible refine (eO.calls k aQ aR _ _ aH _ _ av a1 qY asc _ ?bH ?bI ?dG ?dI A7.out).mono ?_); (case bH => exact kc (Kd.bf gF.out HB.out)); (case bI => exact gX.out); (case dG => exact kc (Kd.bf fK.out HB.out)); (case dI => exact gW.out); clear A7; rintro e w13 ⟨aC4, rfl, ho0, hb⟩; refine ⟨_, rfl, ?_⟩; have arM := am (Kd.jQ ho0 (bY (bl1 HB.out ny.out))); replace eB := am (ak (kp eB.out) hb); replace HB := am (au (bl1 HB.out ny.out) hb); (try clear hb); (try clear hb2); (try clear hk); (try clear hi); (try clear ho0)))
  (try simp only [Act.put, List.setIfInBounds_toArray, List.set_cons_zero, List.set_cons_succ])
  go_cut [34] (fun v34 wc => ∃ (kq : Nat) (anw : Bool), v34 = .bool anw ∧ ay (aZ.j0 kq a1 a2 a3 qY anw aQ aR aH av = some r) ∧ ay (kq ≤ k) ∧ ay (Kd.R k23 23 wc w.heap.size (fun _ => True) aC4 qY) ∧ ay (wc.heap[lX]? = some (.cells #[.int .i64 aQ, .int .i64 aR, (.slice cu aH.length bW), (.slice dz av.length bZ)] 28 (0, 0))) ∧ ay (Below w.heap.size w wc))
  case first =>
   have H := HC8.out
   clear HC8
   by_cases c14 : asc = 0
   ·rw [if_pos c14] at H
    have wM : (asc == 0) = true := beq_iff_eq.mpr c14
    have am6 : (asc != 0) = false := bne_eq_false_iff_eq.mpr c14
    clear c14
    (first | rw [wM] | (simp only [jR, kH]; rw [wM]) | skip)
    have H' := am H
    clear H
    obtain ⟨aD0, aD1, aC5⟩ := Kd.iW arM.out
    subst aC5
    go_wp2
    go_meet
    case rel => exact ⟨_, (decide ((qY.length : Int) > 0)), sm, H', ⟨by first | omega | exact Nat.le_refl _⟩, ⟨by (with_reducible repeat (first | apply Kd.qd | apply Kd.qg | apply Kd.qR)); exact arM.out⟩, ⟨kp eB.out⟩, ⟨bl1 HB.out ny.out⟩⟩
   ·rw [if_neg c14] at H
    have wM : (asc == 0) = false := beq_eq_false_iff_ne.mpr c14
    have am6 : (asc != 0) = true := bne_iff_ne.mpr c14
    (first | rw [wM] | (simp only [jR, kH]; rw [wM]) | skip)
    have H' := am H
    clear H
    go_wp2
    go_meet
    case rel => exact ⟨_, (false), sm, H', ⟨by first | omega | exact Nat.le_refl _⟩, ⟨by (with_reducible repeat (first | apply Kd.qd | apply Kd.qg | apply Kd.qR)); exact arM.out⟩, ⟨kp eB.out⟩, ⟨bl1 HB.out ny.out⟩⟩
  case rest =>
   clear HC8
   try clear c1
   try clear p2
   try clear c4
   try clear c6
   try clear c14
   try clear wM
   try clear am6
   try clear qJ
   try clear qK
   try clear rZ
   try clear r9
   try clear acd
   try clear ace
   try clear acf
   try clear acg
   try clear qL
   try clear qM
   try clear sj
   try clear su
   try clear ach
   try clear aci
   try clear acj
   try clear acn
   obtain ⟨kq, anw, rfl, HA, HJ7, aoa, eB, HB⟩ := hcut
   cases kq with
   | zero => exact absurd HA.out (by simp [aZ.j0])
   | succ kj7 =>
    have H := HA.out
    clear HA
    simp only [aZ.j0] at H
    have apv := am H
    clear H
    go_upto_if 34 with (fail)
    go_cut [] (fun wc => ∃ (kq : Nat), ay (aZ.j2 kq a3 aQ aR aH av = some r) ∧ ay (kq ≤ kj7) ∧ ay (wc.heap[lX]? = some (.cells #[.int .i64 aQ, .int .i64 aR, (.slice cu aH.length bW), (.slice dz av.length bZ)] 28 (0, 0))) ∧ ay (Below w.heap.size w wc))
    case first =>
     have H := apv.out
     clear apv
     by_cases c17 : anw = true
     ·subst c17
      have H1 : ((mM.f a2 (qY.length : Int)).bind fun qc => (if 0 ≤ qc then (if qc < (qY.length : Int) then ((some (([(aT qY qc).f0, (aT qY qc).f1, wrap64 (((aT qY qc).f0) + (wrap64 (Int.tdiv (wrap64 (((aT qY qc).f1) - ((aT qY qc).f0))) 2)))] : List Int) : List Int)).bind fun yu => (aZ.l0 kj7 a1 a3 yu (yu.length : Int) 0 aQ aR aH av)) else (none)) else (none))) = some r := by rw [if_pos rfl] at H; exact H
      clear H
      have H := H1
      clear H1
      replace H := Option.bind_eq_some_iff.mp H
      obtain ⟨qc, atC, H⟩ := H
      try dsimp only at H
      have A18 := am atC
      clear atC
      by_cases c19 : 0 ≤ qc
      ·rw [if_pos c19] at H
       have amH : decide (0 ≤ qc) = true := decide_eq_true c19
       clear c19
       (first | rw [amH] | (simp only [jR, kH]; rw [amH]) | skip)
       by_cases c20 : qc < (qY.length : Int)
       ·rw [if_pos c20] at H
        have acY : decide (qc < (qY.length : Int)) = true := decide_eq_true c20
        clear c20
        obtain ⟨yu, alL⟩ : ∃ y_ : List Int, y_ = (([(aT qY qc).f0, (aT qY qc).f1, wrap64 (((aT qY qc).f0) + (wrap64 (Int.tdiv (wrap64 (((aT qY qc).f1) - ((aT qY qc).f0))) 2)))] : List Int)) := ⟨_, rfl⟩
        replace H : (aZ.l0 kj7 a1 a3 yu (yu.length : Int) 0 aQ aR aH av) = some r := by first | (rw [alL]; with_reducible exact H) | (have H2_ := (Option.bind_some _ _).symm.trans H; rw [alL]; with_reducible exact H2_) | (have H2_ := (Option.bind_some _ _).symm.trans H; with_reducible exact H2_) | with_reducible exact H | (rw [alL]; exact H) | exact H
        have auq := am alL
        clear alL
        have H' := am H
        clear H
        obtain ⟨ar8, ar9, as5⟩ := Kd.iW aoa.out
        subst as5
        go_wp2_with (first | ((with_reducible refine aC (f := 19) rfl ?_); refine bR (some 39) rfl rfl Try.func19 (by kernel_rfl) rfl #[.int .i64 a2, .int .i64 (qY.length : Int)] rfl ar ?_; (with_reducible refine (mM.calls a2 (qY.length : Int) qc _ A18.out).mono ?_); clear A18; rintro e w' ⟨rfl, ⟨nd, rfl⟩⟩; refine ⟨_, rfl, ?_⟩; (try (rw [aiF wc]; generalize hq_ : World.drewN wc _ = wc; replace aoa : ay (Kd.R k23 23 wc w.heap.size (fun _ => True) (.slice ar8 qY.length ar9) qY) := ⟨by rw [← hq_]; exact (kr aoa.out)⟩; replace eB : ay (wc.heap[lX]? = some (.cells #[.int .i64 aQ, .int .i64 aR, .slice cu aH.length bW, .slice dz av.length bZ] 28 (0, 0))) := ⟨by rw [← hq_]; exact (kp eB.out)⟩; replace HB : ay (Below w.heap.size w wc) := ⟨by rw [← hq_]; exact (bl1 HB.out ny.out)⟩; clear hq_)); have avC : 0 ≤ (qc : Int) := of_decide_eq_true asm; have avD : qc < (qY.length : Int) := of_decide_eq_true asm; obtain ⟨aC6, aC7, arN, arO⟩ := jW (Kd.bS aoa.out).2.2 qc avC avD; cases aC7; replace avC := eq_true avC; replace avD := eq_true avD) | ((with_reducible refine bq (N := 11) rfl ?_); (try (refine gH (by rfl) ?_; dsimp only)); refine bx 11 23 #[.int .i64 0, .int .i64 0] ?_; intro aa4 hg w22 dL hb; replace aoa := am (Kd.dO (Kd.xV (kr aoa.out) aa4 (Nat.le_of_eq hg.symm)) hb); have oV := am (dL); have aC8 := am ((bz1 hg HB.out ny.out : w.heap.size ≤ aa4)); have aao := am ((bz1 hg HB.out ny.out : w.heap.size ≤ aa4)); replace HB := am (au (bl1 HB.out ny.out) hb); have afn := am ((nl hg eB.out : lX ≠ aa4)); have alM := am ((ng hg eB.out : aa4 ≠ lX)); replace eB := am (ak (kp eB.out) hb); clear hb dL hg; have aC9 := alM.out; have aDa := afn.out; have abJ : w22.cell? ⟨aa4, 0, none⟩ = some (.int .i64 0) := bc oV.out 0; have abK : w22.cell? ⟨aa4, 1, none⟩ = some (.int .i64 0) := bc oV.out 1; have abL := aj oV.out 0; have abM := aj oV.out 1) | ((with_reducible refine bq (N := 55) rfl ?_); (try (refine gH (by rfl) ?_; dsimp only)); refine Kd.acO (Kd.int .i64) _ 3 ?hg (N := 55) ?hd (xs := ([(aT qY qc).f0, (aT qY qc).f1, wrap64 (((aT qY qc).f0) + (wrap64 (Int.tdiv (wrap64 (((aT qY qc).f1) - ((aT qY qc).f0))) 2)))] : List Int)) (inner := [.int .i64 ((aT qY qc).f0), .int .i64 ((aT qY qc).f1), .int .i64 (wrap64 (((aT qY qc).f0) + (wrap64 (Int.tdiv (wrap64 (((aT qY qc).f1) - ((aT qY qc).f0))) 2))))]) (ok := fun _ => True) (okp := fun _ => True) ?hr ?hp (fun _ hk => hk) trivial (Below.refl _ _) (Nat.le_refl _) (by simp) ?_; (case hd => rfl); (case hg => rfl); (case hr => first | (go_simp; done) | (go_simp; rfl)); (case hp => exact (kG.one (show Kd.M (Kd.int .i64) _ _ _ ((aT qY qc).f0) [.int .i64 ((aT qY qc).f0)] from rfl) (kG.one (show Kd.M (Kd.int .i64) _ _ _ ((aT qY qc).f1) [.int .i64 ((aT qY qc).f1)] from rfl) (kG.one (show Kd.M (Kd.int .i64) _ _ _ (wrap64 (((aT qY qc).f0) + (wrap64 (Int.tdiv (wrap64 (((aT qY qc).f1) - ((aT qY qc).f0))) 2)))) [.int .i64 (wrap64 (((aT qY qc).f0) + (wrap64 (Int.tdiv (wrap64 (((aT qY qc).f1) - ((aT qY qc).f0))) 2))))] from rfl) (kG.none _ _))))); intro aD2 w25 aur hb hg_ qI; clear hg_ qI; (first | rw [← auq.out] at aur | (simp only [Int.reduceToNat] at aur; rw [← auq.out] at aur)); replace aoa := am (Kd.dO (by (with_reducible repeat (first | apply Kd.qd | apply Kd.qg | apply Kd.qR)); exact (Kd.lY (Kd.amf (p := ⟨aa4, 1, none⟩) (Kd.amf (p := ⟨aa4, 0, none⟩) (Kd.lY aoa.out (fun k_ hk => (⟨hk, hk.2⟩ : _ ∧ k_ ≠ aa4))) (fun _ hk => hk.2) (.int .i64 ((aT qY qc).f0))) (fun _ hk => hk.2) (.int .i64 ((aT qY qc).f1))) (fun _ h_ => h_.1))) hb); have aus := am (Kd.jQ aur (bY (bl2 HB.out ny.out aao.out))); replace eB := am (ak (g := lX) (o := .cells #[.int .i64 aQ, .int .i64 aR, .slice cu aH.length bW, .slice dz av.length bZ] 28 (0, 0)) (kf eB.out afn.out) hb); replace oV := am (ak (g := aa4) (o := .cells #[.int .i64 ((aT qY qc).f0), .int .i64 ((aT qY qc).f1)] 23 (0, 0)) (by (with_reducible repeat (first | refine aM ?_ _ | refine aI ?_ | refine aA ?_ _)); refine bX (cs := #[.int .i64 ((aT qY qc).f0), .int .i64 0]) ?_ 1 _ rfl; (with_reducible repeat (first | refine aM ?_ _ | refine aI ?_ | refine aA ?_ _)); refine bX (cs := #[.int .i64 0, .int .i64 0]) ?_ 0 _ rfl; (with_reducible repeat (first | refine aM ?_ _ | refine aI ?_ | refine aA ?_ _)); exact oV.out) hb); replace HB := am (au (bl2 HB.out ny.out aao.out) hb); clear hb aur; obtain ⟨aDb, aDc, aDd⟩ := Kd.iW aus.out; subst aDd))
        go_loopg [57] kj7 (fun kq v57 w' => ∃ (qG : Int), v57 = .int .i64 qG ∧ ay (aZ.l0 kq a1 a3 yu (yu.length : Int) qG aQ aR aH av = some r) ∧ ay (kq ≤ kj7) ∧ ay (Kd.R (Kd.int .i64) 3 w' w.heap.size (fun _ => True) (.slice aDb yu.length aDc) yu) ∧ ay (w'.heap[lX]? = some (.cells #[.int .i64 aQ, .int .i64 aR, (.slice cu aH.length bW), (.slice dz av.length bZ)] 28 (0, 0))) ∧ ay (w'.heap[aa4]? = some (.cells #[.int .i64 ((aT qY qc).f0), .int .i64 ((aT qY qc).f1)] 23 (0, 0))) ∧ ay (Below w.heap.size w w'))
        case atStart => exact ⟨(0), sm, H', ⟨Nat.le_refl _⟩, ⟨by (with_reducible repeat (first | apply Kd.qd | apply Kd.qg | apply Kd.qR)); exact aus.out⟩, ⟨kp eB.out⟩, ⟨kp oV.out⟩, ⟨bl2 HB.out ny.out aao.out⟩⟩
        case round =>
         clear H'
         try clear c1
         try clear c2
         try clear p2
         try clear p3
         try clear q3
         try clear hx3
         try clear c4
         try clear c6
         try clear p6
         try clear c14
         try clear wM
         try clear am6
         try clear c17
         try clear c18
         try clear c19
         try clear amH
         try clear c20
         try clear acY
         try clear c23
         try clear qJ
         try clear qK
         try clear rZ
         try clear r9
         try clear acd
         try clear ace
         try clear acf
         try clear acg
         try clear abJ
         try clear abK
         try clear qL
         try clear qM
         try clear sj
         try clear su
         try clear ach
         try clear aci
         try clear acj
         try clear acn
         try clear abL
         try clear abM
         try clear arN
         try clear arO
         try clear p2
         try clear avC
         try clear avD
         obtain ⟨qG, rfl, HA, HK2, tQ, eB, oV, HB⟩ := hrel
         cases gk with
         | zero => exact absurd HA.out (by simp [aZ.l0])
         | succ k2 =>
          have H := HA.out
          clear HA
          simp only [aZ.l0] at H
          by_cases c28 : qG < (yu.length : Int)
          ·rw [if_pos c28] at H
           have ak9 : decide (qG < (yu.length : Int)) = true := decide_eq_true c28
           clear c28
           by_cases c29 : 0 ≤ qG
           ·rw [if_pos c29] at H
            have ahb : decide (0 ≤ qG) = true := decide_eq_true c29
            clear c29
            by_cases c30 : qG < (yu.length : Int)
            ·rw [if_pos c30] at H
             have ad7 : decide (qG < (yu.length : Int)) = true := decide_eq_true c30
             clear c30
             replace H := Option.bind_eq_some_iff.mp H
             obtain ⟨aBo, atH, H⟩ := H
             try dsimp only at H
             have A31 := am atH
             clear atH
             replace H := Option.bind_eq_some_iff.mp H
             obtain ⟨⟨avE, avF⟩, A320, H⟩ := H
             try dsimp only at H
             have A32 := am A320
             clear A320
             replace H := Option.bind_eq_some_iff.mp H
             obtain ⟨azN, aut, H⟩ := H
             try dsimp only at H
             have A33 := am aut
             clear aut
             by_cases c34 : azN = true
             ·subst c34
              have H1 : ((aX.f a1 true).bind fun azO => ((bP.f k2 aQ aR aH av (rd yu qG)).bind fun alK => ((aJ.f a1 true alK.1 alK.2).bind fun auo => (if auo = true then ((aX.f a1 true).bind fun avB => ((bV.f k2 aQ aR aH av (rd yu qG)).bind fun afm => ((aJ.f a1 true afm.1 afm.2).bind fun arK => (if arK = true then (aZ.l0 k2 a1 a3 yu (yu.length : Int) (wrap64 (qG + 1)) aQ aR aH av) else (none))))) else (none))))) = some r := by rw [if_pos rfl] at H; exact H
              clear H
              have H := H1
              clear H1
              replace H := Option.bind_eq_some_iff.mp H
              obtain ⟨azO, aBp, H⟩ := H
              try dsimp only at H
              have A35 := am aBp
              clear aBp
              replace H := Option.bind_eq_some_iff.mp H
              obtain ⟨⟨avG, avH⟩, A360, H⟩ := H
              try dsimp only at H
              have A36 := am A360
              clear A360
              replace H := Option.bind_eq_some_iff.mp H
              obtain ⟨auo, auu, H⟩ := H
              try dsimp only at H
              have A37 := am auu
              clear auu
              by_cases c38 : auo = true
              ·subst c38
               have H1 : ((aX.f a1 true).bind fun avB => ((bV.f k2 aQ aR aH av (rd yu qG)).bind fun afm => ((aJ.f a1 true afm.1 afm.2).bind fun arK => (if arK = true then (aZ.l0 k2 a1 a3 yu (yu.length : Int) (wrap64 (qG + 1)) aQ aR aH av) else (none))))) = some r := by rw [if_pos rfl] at H; exact H
               clear H
               have H := H1
               clear H1
               replace H := Option.bind_eq_some_iff.mp H
               obtain ⟨avB, aBq, H⟩ := H
               try dsimp only at H
               have A39 := am aBq
               clear aBq
               replace H := Option.bind_eq_some_iff.mp H
               obtain ⟨⟨avI, avJ⟩, auv, H⟩ := H
               try dsimp only at H
               have A40 := am auv
               clear auv
               replace H := Option.bind_eq_some_iff.mp H
               obtain ⟨arK, aBr, H⟩ := H
               try dsimp only at H
               have A41 := am aBr
               clear aBr
               by_cases c42 : arK = true
               ·subst c42
                have H1 : (aZ.l0 k2 a1 a3 yu (yu.length : Int) (wrap64 (qG + 1)) aQ aR aH av) = some r := by rw [if_pos rfl] at H; exact H
                clear H
                have H := H1
                clear H1
                have H' := am H
                clear H
                have avK : 0 ≤ (qG : Int) := of_decide_eq_true asm
                have avL : qG < (yu.length : Int) := of_decide_eq_true asm
                obtain ⟨aDe, aDf, arP⟩ := Kd.aeA (Kd.bS tQ.out).2.2 qG avK avL
                cases aDf
                replace avK := eq_true avK
                replace avL := eq_true avL
                try go_wp2
                replace tQ := am (Kd.qR tQ.out)
                replace eB := am (aI eB.out)
                replace oV := am (aI oV.out)
                replace HB := am (dx HB.out)
                refine nW (n := 31) (S := fun w' => w'.cell? ⟨lX, 0, none⟩ = some (.int .i64 aQ) ∧ w'.cell? ⟨lX, 1, none⟩ = some (.int .i64 aR) ∧ w'.cell? ⟨lX, 2, none⟩ = some (.slice cu aH.length bW) ∧ w'.cell? ⟨lX, 3, none⟩ = some (.slice dz av.length bZ)) (ds := []) (rs false [31]) (by kernel_rfl) rfl rfl ⟨bc eB.out 0, bc eB.out 1, bc eB.out 2, bc eB.out 3⟩ (fun hHeld => ?_); refine ji aZ.aC3 aZ.azP (fun HT_ HW_ => ?_)
                generalize wr.drew = w43 at tQ eB oV HB hHeld ⊢
                refine px 0 61 (rs true [1, 30]) HT_.out ?_
                refine px 3 64 (rs true [1, 2, 1, 27]) HT_.out ?_
                refine tx 2 63 (rs true [1, 1, 2, 27]) HT_.out HW_.out hHeld ?_
                refine oZ (i := 1) (N := some 62) (rs true [4, 27]) rfl rfl (gM HT_.out (by kernel_rfl)) (by decide) (fun K hK => ?_)
                refine kg Try.func20 (by kernel_rfl) rfl #[.int .i64 a1, .bool true] (by rfl) rfl rfl ar ?_
                with_reducible refine (aX.calls a1 true aBo _ A31.out).mono ?_
                rintro e w44 ⟨ahv, ahw, rfl, hI, hb⟩
                have HI := am hI
                clear hI
                refine ⟨_, rfl, ?_⟩
                replace tQ := am (Kd.dO (kr tQ.out) hb)
                replace eB := am (ak (kp eB.out) hb)
                replace oV := am (ak (kp oV.out) hb)
                replace HB := am (au (bl2 HB.out ny.out aao.out) hb)
                (try clear hb)
                (try clear hb2)
                (try clear hk)
                (try clear hi)
                refine hK.out _ _ ⟨bc eB.out 0, bc eB.out 1, bc eB.out 2, bc eB.out 3⟩ (fun hHeld => ?_)
                clear hK K
                refine nx 62 ?_
                refine oZ (i := 4) (N := some 65) (rs true [5, 26]) rfl rfl (gM HT_.out (by kernel_rfl)) (by decide) (fun K hK => ?_)
                refine kg Try.func21 (by kernel_rfl) rfl #[.agg #[.int .i64 aQ, .int .i64 aR, .slice cu aH.length bW, .slice dz av.length bZ], .int .i64 (rd yu qG)] (by rfl) rfl rfl ar ?_
                with_reducible refine (jr.calls k2 aQ aR _ _ aH _ _ av (rd yu qG) avE avF _ ?bH ?bI ?dG ?dI A32.out).mono ?_
                (case bH => exact kc (Kd.bf gF.out HB.out))
                (case bI => exact gX.out)
                (case dG => exact kc (Kd.bf fK.out HB.out))
                (case dI => exact gW.out)
                rintro e w45 ⟨rfl, hb⟩
                have nI_ := am (HI.out.below hb)
                clear HI
                have HI := nI_
                clear nI_
                refine ⟨_, rfl, ?_⟩
                replace tQ := am (Kd.dO (kr tQ.out) hb)
                replace eB := am (ak (kp eB.out) hb)
                replace oV := am (ak (kp oV.out) hb)
                replace HB := am (au (bl2 HB.out ny.out aao.out) hb)
                (try clear hb)
                (try clear hb2)
                (try clear hk)
                (try clear hi)
                refine hK.out _ _ ⟨bc eB.out 0, bc eB.out 1, bc eB.out 2, bc eB.out 3⟩ (fun hHeld => ?_)
                clear hK K
                refine nx 65 ?_
                refine px 5 66 (rs true [6, 25]) HT_.out ?_
                refine px 6 67 (rs true [7, 24]) HT_.out ?_
                refine oZ (i := 7) (N := some 68) (rs true [8, 23]) rfl rfl (gM HT_.out (by kernel_rfl)) (by decide) (fun K hK => ?_)
                refine zx Try.func57 (by kernel_rfl) rfl #[.int .i64 avE, .bool avF] #[.pointer (some ⟨ahv, 0, none⟩), .pointer (some ⟨ahw, 0, none⟩)] #[.int .i64 avE, .bool avF, .pointer (some ⟨ahv, 0, none⟩), .pointer (some ⟨ahw, 0, none⟩)] rfl (by rfl) rfl rfl rfl ar ?_
                with_reducible refine (aJ.calls a1 true avE avF true _ A33.out ahv ahw HI.out).mono ?_
                rintro e w46 ⟨rfl, hb⟩
                clear HI
                refine ⟨_, rfl, ?_⟩
                replace tQ := am (Kd.dO (kr tQ.out) hb)
                replace eB := am (ak (kp eB.out) hb)
                replace oV := am (ak (kp oV.out) hb)
                replace HB := am (au (bl2 HB.out ny.out aao.out) hb)
                (try clear hb)
                (try clear hb2)
                (try clear hk)
                (try clear hi)
                refine hK.out _ _ ⟨bc eB.out 0, bc eB.out 1, bc eB.out 2, bc eB.out 3⟩ (fun hHeld => ?_)
                clear hK K
                refine nx 68 ?_
                refine px 8 69 (rs true [9, 22]) HT_.out ?_
                refine px 9 70 (rs true [10, 21]) HT_.out ?_
                refine px 10 71 (rs true [11, 20]) HT_.out ?_
                refine px 13 74 (rs true [11, 2, 1, 17]) HT_.out ?_
                refine tx 12 73 (rs true [11, 1, 2, 17]) HT_.out HW_.out hHeld ?_
                refine oZ (i := 11) (N := some 72) (rs true [14, 17]) rfl rfl (gM HT_.out (by kernel_rfl)) (by decide) (fun K hK => ?_)
                refine kg Try.func20 (by kernel_rfl) rfl #[.int .i64 a1, .bool true] (by rfl) rfl rfl ar ?_
                with_reducible refine (aX.calls a1 true azO _ A35.out).mono ?_
                rintro e w47 ⟨ahx, ahy, rfl, hI, hb⟩
                have HI := am hI
                clear hI
                refine ⟨_, rfl, ?_⟩
                replace tQ := am (Kd.dO (kr tQ.out) hb)
                replace eB := am (ak (kp eB.out) hb)
                replace oV := am (ak (kp oV.out) hb)
                replace HB := am (au (bl2 HB.out ny.out aao.out) hb)
                (try clear hb)
                (try clear hb2)
                (try clear hk)
                (try clear hi)
                refine hK.out _ _ ⟨bc eB.out 0, bc eB.out 1, bc eB.out 2, bc eB.out 3⟩ (fun hHeld => ?_)
                clear hK K
                refine nx 72 ?_
                refine oZ (i := 14) (N := some 75) (rs true [15, 16]) rfl rfl (gM HT_.out (by kernel_rfl)) (by decide) (fun K hK => ?_)
                refine kg Try.func22 (by kernel_rfl) rfl #[.agg #[.int .i64 aQ, .int .i64 aR, .slice cu aH.length bW, .slice dz av.length bZ], .int .i64 (rd yu qG)] (by rfl) rfl rfl ar ?_
                with_reducible refine (bP.calls k2 aQ aR _ _ aH _ _ av (rd yu qG) avG avH _ ?bH ?bI ?dG ?dI A36.out).mono ?_
                (case bH => exact kc (Kd.bf gF.out HB.out))
                (case bI => exact gX.out)
                (case dG => exact kc (Kd.bf fK.out HB.out))
                (case dI => exact gW.out)
                rintro e w48 ⟨rfl, hb⟩
                have nI_ := am (HI.out.below hb)
                clear HI
                have HI := nI_
                clear nI_
                refine ⟨_, rfl, ?_⟩
                replace tQ := am (Kd.dO (kr tQ.out) hb)
                replace eB := am (ak (kp eB.out) hb)
                replace oV := am (ak (kp oV.out) hb)
                replace HB := am (au (bl2 HB.out ny.out aao.out) hb)
                (try clear hb)
                (try clear hb2)
                (try clear hk)
                (try clear hi)
                refine hK.out _ _ ⟨bc eB.out 0, bc eB.out 1, bc eB.out 2, bc eB.out 3⟩ (fun hHeld => ?_)
                clear hK K
                refine nx 75 ?_
                refine px 15 76 (rs true [16, 15]) HT_.out ?_
                refine px 16 77 (rs true [17, 14]) HT_.out ?_
                refine oZ (i := 17) (N := some 78) (rs true [18, 13]) rfl rfl (gM HT_.out (by kernel_rfl)) (by decide) (fun K hK => ?_)
                refine zx Try.func57 (by kernel_rfl) rfl #[.int .i64 avG, .bool avH] #[.pointer (some ⟨ahx, 0, none⟩), .pointer (some ⟨ahy, 0, none⟩)] #[.int .i64 avG, .bool avH, .pointer (some ⟨ahx, 0, none⟩), .pointer (some ⟨ahy, 0, none⟩)] rfl (by rfl) rfl rfl rfl ar ?_
                with_reducible refine (aJ.calls a1 true avG avH true _ A37.out ahx ahy HI.out).mono ?_
                rintro e w49 ⟨rfl, hb⟩
                clear HI
                refine ⟨_, rfl, ?_⟩
                replace tQ := am (Kd.dO (kr tQ.out) hb)
                replace eB := am (ak (kp eB.out) hb)
                replace oV := am (ak (kp oV.out) hb)
                replace HB := am (au (bl2 HB.out ny.out aao.out) hb)
                (try clear hb)
                (try clear hb2)
                (try clear hk)
                (try clear hi)
                refine hK.out _ _ ⟨bc eB.out 0, bc eB.out 1, bc eB.out 2, bc eB.out 3⟩ (fun hHeld => ?_)
                clear hK K
                refine nx 78 ?_
                refine px 18 79 (rs true [19, 12]) HT_.out ?_
                refine px 19 80 (rs true [20, 11]) HT_.out ?_
                refine px 20 81 (rs true [21, 10]) HT_.out ?_
                refine px 21 82 (rs true [22, 9]) HT_.out ?_
                refine px 24 85 (rs true [22, 2, 1, 6]) HT_.out ?_
                refine tx 23 84 (rs true [22, 1, 2, 6]) HT_.out HW_.out hHeld ?_
                refine oZ (i := 22) (N := some 83) (rs true [25, 6]) rfl rfl (gM HT_.out (by kernel_rfl)) (by decide) (fun K hK => ?_)
                refine kg Try.func20 (by kernel_rfl) rfl #[.int .i64 a1, .bool true] (by rfl) rfl rfl ar ?_
                with_reducible refine (aX.calls a1 true avB _ A39.out).mono ?_
                rintro e w50 ⟨ahz, ahA, rfl, hI, hb⟩
                have HI := am hI
                clear hI
                refine ⟨_, rfl, ?_⟩
                replace tQ := am (Kd.dO (kr tQ.out) hb)
                replace eB := am (ak (kp eB.out) hb)
                replace oV := am (ak (kp oV.out) hb)
                replace HB := am (au (bl2 HB.out ny.out aao.out) hb)
                (try clear hb)
                (try clear hb2)
                (try clear hk)
                (try clear hi)
                refine hK.out _ _ ⟨bc eB.out 0, bc eB.out 1, bc eB.out 2, bc eB.out 3⟩ (fun hHeld => ?_)
                clear hK K
                refine nx 83 ?_
                refine oZ (i := 25) (N := some 86) (rs true [26, 5]) rfl rfl (gM HT_.out (by kernel_rfl)) (by decide) (fun K hK => ?_)
                refine kg Try.func23 (by kernel_rfl) rfl #[.agg #[.int .i64 aQ, .int .i64 aR, .slice cu aH.length bW, .slice dz av.length bZ], .int .i64 (rd yu qG)] (by rfl) rfl rfl ar ?_
                with_reducible refine (bV.calls k2 aQ aR _ _ aH _ _ av (rd yu qG) avI avJ _ ?bH ?bI ?dG ?dI A40.out).mono ?_
                (case bH => exact kc (Kd.bf gF.out HB.out))
                (case bI => exact gX.out)
                (case dG => exact kc (Kd.bf fK.out HB.out))
                (case dI => exact gW.out)
                rintro e w51 ⟨rfl, hb⟩
                have nI_ := am (HI.out.below hb)
                clear HI
                have HI := nI_
                clear nI_
                refine ⟨_, rfl, ?_⟩
                replace tQ := am (Kd.dO (kr tQ.out) hb)
                replace eB := am (ak (kp eB.out) hb)
                replace oV := am (ak (kp oV.out) hb)
                replace HB := am (au (bl2 HB.out ny.out aao.out) hb)
                (try clear hb)
                (try clear hb2)
                (try clear hk)
                (try clear hi)
                refine hK.out _ _ ⟨bc eB.out 0, bc eB.out 1, bc eB.out 2, bc eB.out 3⟩ (fun hHeld => ?_)
                clear hK K
                refine nx 86 ?_
                refine px 26 87 (rs true [27, 4]) HT_.out ?_
                refine px 27 88 (rs true [28, 3]) HT_.out ?_
                refine oZ (i := 28) (N := some 89) (rs true [29, 2]) rfl rfl (gM HT_.out (by kernel_rfl)) (by decide) (fun K hK => ?_)
                refine zx Try.func57 (by kernel_rfl) rfl #[.int .i64 avI, .bool avJ] #[.pointer (some ⟨ahz, 0, none⟩), .pointer (some ⟨ahA, 0, none⟩)] #[.int .i64 avI, .bool avJ, .pointer (some ⟨ahz, 0, none⟩), .pointer (some ⟨ahA, 0, none⟩)] rfl (by rfl) rfl rfl rfl ar ?_
                with_reducible refine (aJ.calls a1 true avI avJ true _ A41.out ahz ahA HI.out).mono ?_
                rintro e w52 ⟨rfl, hb⟩
                clear HI
                refine ⟨_, rfl, ?_⟩
                replace tQ := am (Kd.dO (kr tQ.out) hb)
                replace eB := am (ak (kp eB.out) hb)
                replace oV := am (ak (kp oV.out) hb)
                replace HB := am (au (bl2 HB.out ny.out aao.out) hb)
                (try clear hb)
                (try clear hb2)
                (try clear hk)
                (try clear hi)
                refine hK.out _ _ ⟨bc eB.out 0, bc eB.out 1, bc eB.out 2, bc eB.out 3⟩ (fun hHeld => ?_)
                clear hK K
                refine nx 89 ?_
                refine px 29 90 (rs true [30, 1]) HT_.out ?_
                refine px 30 91 (rs true [31]) HT_.out ?_
                refine tV (kU HT_.out (by kernel_rfl)) ?_
                try go_wp2
                go_roundg k2
                case measure => have := HJ7.out; have := HK2.out; omega
                case rel => exact ⟨(wrap64 (qG + 1)), sm, H', ⟨by have := HJ7.out; have := HK2.out; omega⟩, ⟨by (with_reducible repeat (first | apply Kd.qd | apply Kd.qg | apply Kd.qR)); exact tQ.out⟩, ⟨kp eB.out⟩, ⟨kp oV.out⟩, ⟨bl2 HB.out ny.out aao.out⟩⟩
               ·replace c42 := Bool.eq_false_iff.mpr c42
                subst c42
                have H1 : (none) = some r := by rw [if_neg (show ¬ (false = true) by decide)] at H; exact H
                clear H
                have H := H1
                clear H1
                exact absurd H (by simp)
              ·replace c38 := Bool.eq_false_iff.mpr c38
               subst c38
               have H1 : (none) = some r := by rw [if_neg (show ¬ (false = true) by decide)] at H; exact H
               clear H
               have H := H1
               clear H1
               exact absurd H (by simp)
             ·replace c34 := Bool.eq_false_iff.mpr c34
              subst c34
              have H1 : (none) = some r := by rw [if_neg (show ¬ (false = true) by decide)] at H; exact H
              clear H
              have H := H1
              clear H1
              exact absurd H (by simp)
            ·rw [if_neg c30] at H
             exact absurd H (by simp)
           ·rw [if_neg c29] at H
            exact absurd H (by simp)
          ·rw [if_neg c28] at H
           have ak9 : decide (qG < (yu.length : Int)) = false := decide_eq_false c28
           clear c28
           have H' := am H
           clear H
           go_wp2
           go_meet
           case rel => exact ⟨_, H', ⟨by have := HJ7.out; have := HK2.out; first | omega | exact Nat.le_refl _⟩, ⟨kp eB.out⟩, ⟨bl2 HB.out ny.out aao.out⟩⟩
       ·rw [if_neg c20] at H
        exact absurd H (by simp)
      ·rw [if_neg c19] at H
       exact absurd H (by simp)
     ·replace c17 := Bool.eq_false_iff.mpr c17
      subst c17
      have H1 : (aZ.j2 kj7 a3 aQ aR aH av) = some r := by rw [if_neg (show ¬ (false = true) by decide)] at H; exact H
      clear H
      have H := H1
      clear H1
      have H' := am H
      clear H
      go_wp2
      go_meet
      case rel => exact ⟨_, H', ⟨by have := HJ7.out; first | omega | exact Nat.le_refl _⟩, ⟨kp eB.out⟩, ⟨bl1 HB.out ny.out⟩⟩
    case rest =>
     clear apv
     try clear c1
     try clear c2
     try clear p2
     try clear c3
     try clear p3
     try clear q3
     try clear hx3
     try clear c4
     try clear c5
     try clear p6
     try clear c17
     try clear c19
     try clear c20
     try clear c21
     try clear c22
     try clear c23
     try clear c28
     try clear ak9
     try clear c29
     try clear ahb
     try clear c30
     try clear ad7
     try clear c34
     try clear c38
     try clear p39
     try clear q39
     try clear hx39
     try clear c42
     try clear arP
     try clear avK
     try clear avL
     obtain ⟨kq, HA, axh, eB, HB⟩ := hcut
     cases kq with
     | zero => exact absurd HA.out (by simp [aZ.j2])
     | succ kj15 =>
      have H := HA.out
      clear HA
      simp only [aZ.j2] at H
      replace H := Option.bind_eq_some_iff.mp H
      obtain ⟨⟨anx, aDg⟩, A530, H⟩ := H
      try dsimp only at H
      have A53 := am A530
      clear A530
      by_cases c54 : aDg = true
      ·subst c54
       have H1 : ((eO.f kj15 aQ aR aH av anx).bind fun alJ => (if alJ.2 = 0 then ((jY.f kj15 alJ.1 a3).bind fun aul => (if aul = true then ((aY.f kj15).bind fun arJ => (some arJ)) else (none))) else (none))) = some r := by rw [if_pos rfl] at H; exact H
       clear H
       have H := H1
       clear H1
       replace H := Option.bind_eq_some_iff.mp H
       obtain ⟨⟨aBs, avM⟩, A550, H⟩ := H
       try dsimp only at H
       have A55 := am A550
       clear A550
       by_cases c56 : avM = 0
       ·rw [if_pos c56] at H
        have aDh : (avM == 0) = true := beq_iff_eq.mpr c56
        have aDi : (avM != 0) = false := bne_eq_false_iff_eq.mpr c56
        clear c56
        replace H := Option.bind_eq_some_iff.mp H
        obtain ⟨aul, aBt, H⟩ := H
        try dsimp only at H
        have A57 := am aBt
        clear aBt
        by_cases c58 : aul = true
        ·subst c58
         have H1 : ((aY.f kj15).bind fun arJ => (some arJ)) = some r := by rw [if_pos rfl] at H; exact H
         clear H
         have H := H1
         clear H1
         replace H := Option.bind_eq_some_iff.mp H
         obtain ⟨arJ, aBu, H⟩ := H
         try dsimp only at H
         have A59 := am aBu
         clear aBu
         obtain rfl := Option.some.inj H
         have azR : wc.cell? ⟨lX, 0, none⟩ = some (.int .i64 aQ) := bc eB.out 0
         have azS : wc.cell? ⟨lX, 1, none⟩ = some (.int .i64 aR) := bc eB.out 1
         have azT : wc.cell? ⟨lX, 2, none⟩ = some (.slice cu aH.length bW) := bc eB.out 2
         have azU : wc.cell? ⟨lX, 3, none⟩ = some (.slice dz av.length bZ) := bc eB.out 3
         have azV := aj eB.out 0
         have azW := aj eB.out 1
         have azX := aj eB.out 2
         have azY := aj eB.out 3
         go_wp2_with (first | ((with_reducible refine aC (f := 21) rfl ?_); refine bR (some 96) rfl rfl Try.func21 (by kernel_rfl) rfl #[.agg #[.int .i64 aQ, .int .i64 aR, .slice cu aH.length bW, .slice dz av.length bZ], .int .i64 a3] rfl ar ?_; (with_reducible refine (jr.calls kj15 aQ aR _ _ aH _ _ av a3 anx true _ ?bH ?bI ?dG ?dI A53.out).mono ?_); (case bH => exact kc (Kd.bf gF.out HB.out)); (case bI => exact gX.out); (case dG => exact kc (Kd.bf fK.out HB.out)); (case dI => exact gW.out); clear A53; rintro e w61 ⟨rfl, hb⟩; refine ⟨_, rfl, ?_⟩; replace eB := am (ak (kp eB.out) hb); replace HB := am (au (bl1 HB.out ny.out) hb); (try clear hb); (try clear hb2); (try clear hk); (try clear hi); have akO : w61.cell? ⟨lX, 0, none⟩ = some (.int .i64 aQ) := bc eB.out 0; have akP : w61.cell? ⟨lX, 1, none⟩ = some (.int .i64 aR) := bc eB.out 1; have azZ : w61.cell? ⟨lX, 2, none⟩ = some (.slice cu aH.length bW) := bc eB.out 2; have az0 : w61.cell? ⟨lX, 3, none⟩ = some (.slice dz av.length bZ) := bc eB.out 3; have akQ := aj eB.out 0; have akR := aj eB.out 1; have az1 := aj eB.out 2; have az2 := aj eB.out 3) | ((with_reducible refine aC (f := 18) rfl ?_); refine bR (some 109) rfl rfl Try.func18 (by kernel_rfl) rfl #[.agg #[.int .i64 aQ, .int .i64 aR, .slice cu aH.length bW, .slice dz av.length bZ], .int .i64 anx] rfl ar ?_; (with_reducible refine (eO.calls kj15 aQ aR _ _ aH _ _ av anx aBs avM _ ?bH ?bI ?dG ?dI A55.out).mono ?_); (case bH => exact kc (Kd.bf gF.out HB.out)); (case bI => exact gX.out); (case dG => exact kc (Kd.bf fK.out HB.out)); (case dI => exact gW.out); clear A55; rintro e w63 ⟨aD3, rfl, ho0, hb⟩; refine ⟨_, rfl, ?_⟩; have ahB := am (Kd.jQ ho0 (bY (bl1 HB.out ny.out))); replace eB := am (ak (kp eB.out) hb); replace HB := am (au (bl1 HB.out ny.out) hb); (try clear hb); (try clear hb2); (try clear hk); (try clear hi); (try clear ho0); obtain ⟨aD4, aD5, aDj⟩ := Kd.iW ahB.out; subst aDj) | (go_at_call 24; (with_reducible refine (jY.calls kj15 _ _ aBs a3 true _ ?bH ?bI A57.out).mono ?_); (case bH => exact kc (Kd.bS ahB.out).2.2); (case bI => exact (Kd.bS ahB.out).2.1); clear A57; rintro e w65 ⟨rfl, hb⟩; replace ahB := am (Kd.dO (kr ahB.out) hb); replace eB := am (ak (kp eB.out) hb); replace HB := am (au (bl1 HB.out ny.out) hb); (try clear hb); (try clear hb2); (try clear hk); (try clear hi)) | (go_at_call 16; (with_reducible refine (aY.calls kj15  arJ _ A59.out).mono ?_); clear A59; rintro e w66 ⟨rfl, hb⟩; replace ahB := am (Kd.dO (kr ahB.out) hb); replace eB := am (ak (kp eB.out) hb); replace HB := am (au (bl1 HB.out ny.out) hb); (try clear hb); (try clear hb2); (try clear hk); (try clear hi)))
         go_ret
         exact ⟨rt, bl1 HB.out ny.out⟩
        ·replace c58 := Bool.eq_false_iff.mpr c58
         subst c58
         have H1 : (none) = some r := by rw [if_neg (show ¬ (false = true) by decide)] at H; exact H
         clear H
         have H := H1
         clear H1
         exact absurd H (by simp)
       ·rw [if_neg c56] at H
        exact absurd H (by simp)
      ·replace c54 := Bool.eq_false_iff.mpr c54
       subst c54
       have H1 : (if anx = 0 then ((aY.f kj15).bind fun aum => (some aum)) else (none)) = some r := by rw [if_neg (show ¬ (false = true) by decide)] at H; exact H
       clear H
       have H := H1
       clear H1
       by_cases c67 : anx = 0
       ·rw [if_pos c67] at H
        have aDk : (anx == 0) = true := beq_iff_eq.mpr c67
        have aDl : (anx != 0) = false := bne_eq_false_iff_eq.mpr c67
        clear c67
        replace H := Option.bind_eq_some_iff.mp H
        obtain ⟨aum, aBv, H⟩ := H
        try dsimp only at H
        have A68 := am aBv
        clear aBv
        obtain rfl := Option.some.inj H
        have az3 : wc.cell? ⟨lX, 0, none⟩ = some (.int .i64 aQ) := bc eB.out 0
        have az4 : wc.cell? ⟨lX, 1, none⟩ = some (.int .i64 aR) := bc eB.out 1
        have az5 : wc.cell? ⟨lX, 2, none⟩ = some (.slice cu aH.length bW) := bc eB.out 2
        have az6 : wc.cell? ⟨lX, 3, none⟩ = some (.slice dz av.length bZ) := bc eB.out 3
        have az7 := aj eB.out 0
        have az8 := aj eB.out 1
        have az9 := aj eB.out 2
        have aAa := aj eB.out 3
        go_wp2_with (first | ((with_reducible refine aC (f := 21) rfl ?_); refine bR (some 96) rfl rfl Try.func21 (by kernel_rfl) rfl #[.agg #[.int .i64 aQ, .int .i64 aR, .slice cu aH.length bW, .slice dz av.length bZ], .int .i64 a3] rfl ar ?_; (with_reducible refine (jr.calls kj15 aQ aR _ _ aH _ _ av a3 anx false _ ?bH ?bI ?dG ?dI A53.out).mono ?_); (case bH => exact kc (Kd.bf gF.out HB.out)); (case bI => exact gX.out); (case dG => exact kc (Kd.bf fK.out HB.out)); (case dI => exact gW.out); clear A53; rintro e w70 ⟨rfl, hb⟩; refine ⟨_, rfl, ?_⟩; replace eB := am (ak (kp eB.out) hb); replace HB := am (au (bl1 HB.out ny.out) hb); (try clear hb); (try clear hb2); (try clear hk); (try clear hi)) | (go_at_call 16; (with_reducible refine (aY.calls kj15  aum _ A68.out).mono ?_); clear A68; rintro e w71 ⟨rfl, hb⟩; replace eB := am (ak (kp eB.out) hb); replace HB := am (au (bl1 HB.out ny.out) hb); (try clear hb); (try clear hb2); (try clear hk); (try clear hi)))
        go_ret
        exact ⟨rt, bl1 HB.out ny.out⟩
       ·rw [if_neg c67] at H
        exact absurd H (by simp)
 ·replace c6 := Bool.eq_false_iff.mpr c6
  subst c6
  have H1 : ((aY.f k).bind fun arL => (some arL)) = some r := by rw [if_neg (show ¬ (false = true) by decide)] at H; exact H
  clear H
  have H := H1
  clear H1
  replace H := Option.bind_eq_some_iff.mp H
  obtain ⟨arL, aBw, H⟩ := H
  try dsimp only at H
  have A72 := am aBw
  clear aBw
  obtain rfl := Option.some.inj H
  go_enter Try.func4, Try.ntmps4
  go_wp2_with (first | ((with_reducible refine bq (N := 4) rfl ?_); (try (refine gH (by rfl) ?_; dsimp only)); refine bx 4 28 #[.int .i64 aQ, .int .i64 aR, .slice cu aH.length bW, .slice dz av.length bZ] ?_; intro lX hg w73 dL hb; have eB := am (dL); have azQ := am ((bz hg HB.out : w.heap.size ≤ lX)); have ny := am ((bz hg HB.out : w.heap.size ≤ lX)); replace HB := am (au (bl HB.out) hb); clear hb dL hg; have aAb : w73.cell? ⟨lX, 0, none⟩ = some (.int .i64 aQ) := bc eB.out 0; have aAc : w73.cell? ⟨lX, 1, none⟩ = some (.int .i64 aR) := bc eB.out 1; have aAd : w73.cell? ⟨lX, 2, none⟩ = some (.slice cu aH.length bW) := bc eB.out 2; have aAe : w73.cell? ⟨lX, 3, none⟩ = some (.slice dz av.length bZ) := bc eB.out 3; have aAf := aj eB.out 0; have aAg := aj eB.out 1; have aAh := aj eB.out 2; have aAi := aj eB.out 3) | ((with_reducible refine aC (f := 17) rfl ?_); refine bR (some 19) rfl rfl Try.func17 (by kernel_rfl) rfl #[.agg #[.int .i64 aQ, .int .i64 aR, .slice cu aH.length bW, .slice dz av.length bZ]] rfl ar ?_; (with_reducible refine (fP.calls k aQ aR _ _ aH _ _ av false _ ?bH ?bI ?dG ?dI A5.out).mono ?_); (case bH => exact kc (Kd.bf gF.out HB.out)); (case bI => exact gX.out); (case dG => exact kc (Kd.bf fK.out HB.out)); (case dI => exact gW.out); clear A5; rintro e w75 ⟨rfl, hb⟩; refine ⟨_, rfl, ?_⟩; replace eB := am (ak (kp eB.out) hb); replace HB := am (au (bl1 HB.out ny.out) hb); (try clear hb); (try clear hb2); (try clear hk); (try clear hi)) | ((with_reducible refine aC (f := 16) rfl ?_); refine bR (some 21) rfl rfl Try.func16 (by kernel_rfl) rfl #[] rfl ar ?_; (with_reducible refine (aY.calls k  arL _ A72.out).mono ?_); clear A72; rintro e w76 ⟨rfl, hb⟩; refine ⟨_, rfl, ?_⟩; replace eB := am (ak (kp eB.out) hb); replace HB := am (au (bl1 HB.out ny.out) hb); (try clear hb); (try clear hb2); (try clear hk); (try clear hi)))
  go_ret
  exact ⟨rt, bl1 HB.out ny.out⟩
end Go.Proofs.Ytmbmalkpmanaaaa.P
namespace Go.Proofs.Ytmbmalkpmanaaaa.Pure
set_option linter.unusedVariables false
set_option linter.unusedSimpArgs false
open Go.Proofs.Ytmbmalkpmanaaaa.P Go.RowKit Go.Proofs.YtmbmalkpmanaaaaW.aK
theorem FindAt (p c : Int) (core : List (List Sp)) (odd : List Gn) (ff : ai3 p c core odd) (a1 : Int) (hf1 : fits a1) (a2 : Int) (hf2 : fits a2) (a3 : Int) (_ : fits a3) : ∃ k, aZ.f k p c core odd a1 a2 a3 = some true := by
  refine Ev.rounds ?_
  unfold aZ.f
  obtain ⟨b, b1, b2⟩ := acC (p := p) (c := c) ff.mf
  refine Ev.bind b1 ?_
  cases b with
  | false => exact Ev.no (by simp) (Ev.bind pW (Ev.now _))
  | true =>
    refine Ev.yes rfl ?_
    obtain ⟨h, _, _⟩ := b2 rfl
    have j2 : Ev (fun k => aZ.j2 k a3 p c core odd) true := by
      obtain ⟨a, e1, s1⟩ := auj h a3
      refine Ev.step (fun k => by rw [aZ.j2]) (Ev.bind e1 ?_)
      cases ha : a.2 with
      | false => exact Ev.no (by simp) (Ev.yes (s1.n ha).1 (Ev.bind pW (Ev.now _)))
      | true =>
        obtain ⟨q1, q2⟩ := s1.y ha
        have g := uF h.s a.1
        rw [h.s.qP q1] at g
        have hs := h.s.alx q1
        have hv := an3 (gT p c core odd a.1) a3 hs (by have := hs.ac3; omega)
        rw [q2] at hv
        exact Ev.yes rfl (Ev.bind g (Ev.yes rfl (Ev.bind hv (Ev.yes rfl (Ev.bind pW (Ev.now _))))))
    have g := uF h.s a1
    refine Ev.bind g ?_
    have no : ∀ l, Ev (fun k => aZ.j0 k a1 a2 a3 l false p c core odd) true := fun l => Ev.step (fun k => by rw [aZ.j0, if_neg (by simp)]) j2
    by_cases he : (nu p c core odd a1).2 = 0
    · refine Ev.yes he ?_
      by_cases hl : ((nu p c core odd a1).1.length : Int) > 0
      · rw [decide_eq_true hl]
        have hx : Ex p c core odd a1 := by
          by_cases hr : inR a1
          · by_cases hn : fs c core odd a1 = []
            · unfold nu at hl; rw [if_pos hr, if_pos hn] at hl; simp at hl
            · exact h.s.acB hr hn he
          · unfold nu at he; rw [if_neg hr] at he; simp at he
        rw [h.s.qP hx] at hl ⊢
        have hs := h.s.alx hx
        have h40 := hs.ac3
        simp only at hl ⊢
        generalize hT : gT p c core odd a1 = T at *
        obtain ⟨r, e1, r1, r2⟩ := auk a2 (T.length : Int) (arG hf2) (by omega) (by omega)
        have hrl : r.toNat < T.length := by omega
        have hrd : aT T r = T[r.toNat] := by simp [aT, hrl]
        have hm := List.getElem_mem hrl
        have tk := SL.ticks hs hm
        rw [← hrd] at hm tk
        clear hrd
        obtain ⟨s, hse⟩ : ∃ s, aT T r = s := ⟨_, rfl⟩
        rw [hse] at hm tk
        have d1 : wrap64 (s.f1 - s.f0) = s.f1 - s.f0 := eH (by omega) (by omega)
        have d2 : Int.tdiv (s.f1 - s.f0) 2 = (s.f1 - s.f0) / 2 := Int.tdiv_eq_ediv_of_nonneg (by omega)
        have hmid : wrap64 (s.f0 + wrap64 (Int.tdiv (wrap64 (s.f1 - s.f0)) 2)) = s.f0 + (s.f1 - s.f0) / 2 := by
          rw [d1, d2, eH (n := (s.f1 - s.f0) / 2) (by omega) (by omega), eH (by omega) (by omega)]
        refine Ev.step (fun k => by rw [aZ.j0, if_pos rfl, e1, Option.bind_some, if_pos r1, if_pos r2, Option.bind_some]) ?_
        rw [hse, hmid]
        clear hmid d1 d2 r1 r2 hrl hl h40
        have loop : ∀ (d n : Nat) (y : List Int), y.length - n = d → n ≤ y.length → y.length ≤ 1000 → (∀ x ∈ y, s.f0 ≤ x ∧ x ≤ s.f1) → Ev (fun k => aZ.l0 k a1 a3 y (y.length : Int) (n : Int) p c core odd) true := by
          intro d
          induction d with
          | zero =>
            intro n y hd hn hy hall
            exact Ev.step (fun k => by rw [aZ.l0, if_neg (by omega)]) j2
          | succ d ih =>
            intro n y hd hn hy hall
            have hlt : n < y.length := by omega
            have hw : wrap64 ((n : Int) + 1) = ((n + 1 : Nat) : Int) := by rw [eH (by omega) (by omega)]; simp
            have hry : rd y (n : Int) = y[n] := by simp [rd, hlt]
            obtain ⟨z1, z2⟩ := hall _ (List.getElem_mem hlt)
            have hhas : qE (gT p c core odd a1) y[n] = true := by rw [hT]; exact aaj.2 ⟨s, hm, z1, z2⟩
            obtain ⟨l1, l2⟩ := aam h.s hx hhas
            obtain ⟨ra, ea, sa⟩ := auj h y[n]
            obtain ⟨rf, ef, sf⟩ := yV h y[n]
            obtain ⟨rt, et, st⟩ := acH h y[n]
            rw [at_at h sa hx hhas] at ea
            rw [alI h sf hx l1 l2] at ef
            rw [arH h st hx l1 l2] at et
            have his : aX.f a1 true = some 0 := rfl
            have aAj : aJ.f a1 true a1 true = some true := by unfold aJ.f; simp
            refine Ev.step (fun k => by rw [aZ.l0, if_pos (by omega), if_pos (by omega), if_pos (by omega), hry, hw]) ?_
            refine Ev.bind (Ev.val his) (Ev.bind ea ?_)
            refine Ev.bind (Ev.val aAj) (Ev.yes rfl ?_)
            refine Ev.bind (Ev.val his) (Ev.bind ef ?_)
            refine Ev.bind (Ev.val aAj) (Ev.yes rfl ?_)
            refine Ev.bind (Ev.val his) (Ev.bind et ?_)
            refine Ev.bind (Ev.val aAj) (Ev.yes rfl ?_)
            exact ih (n + 1) y (by omega) (by omega) hy hall
        refine loop _ 0 [s.f0, s.f1, s.f0 + (s.f1 - s.f0) / 2] rfl (by simp) (by simp) (fun x hx => ?_)
        simp only [List.mem_cons, List.not_mem_nil, or_false] at hx
        omega
      · rw [decide_eq_false hl]; exact no _
    · exact Ev.no he (no _)
end Go.Proofs.Ytmbmalkpmanaaaa.Pure
namespace Go.Proofs.Ytmbmalkpmanaaaa.findAt
open Go.ChangeShapes Go.WideShapes Go.ChangeAt Go.RowKit
open Go.ChangeMaps (open_string shut_string)
set_option linter.unusedVariables false
theorem own : ownKnob Try.prog.godebug = none := by kernel_rfl
theorem laidOut : laidOutB Try.prog = true := by kernel_rfl
set_option maxRecDepth 100000 in
theorem lifted (os : Os) (started : os.Started) (H : Type) (enc : TypeId × Value → H) :
    ReturnsInHanded {} Try.checked os 4 .any (Rows.findAtSpec.pre6 enc Try.prog Try.f4 Rows.findAtRow.domain false) (Rows.findAtSpec.post enc Try.prog Try.f4 false true false false) := by
  refine returnsInHanded_of_change_sized (C := Try.checked) own started (by kernel_rfl) Try.func4
    (ChangeSpec.witness6 (enc := enc) (C := Try.checked) false ⟨#[], #[.agg #[.int .i64 0, .int .i64 0, .slice none 0 0, .slice none 0 0], .int .i64 0, .int .i64 0, .int .i64 0], []⟩ 8 (by kernel_rfl) (by kernel_rfl) (by kernel_rfl) (by kernel_rfl)) ?_
  intro W base args ds gs before hval0 hW hcnd hsz0 _
  have hval : ∀ (j : Nat) t v, Try.f4.params[j]? = some t → args[j]? = some v → Value.okWide Try.prog W .any base t v := hval0
  have hW' := hW
  obtain ⟨p, q, hA0, hV, rfl, hfz, hnd⟩ := hW
  have hA : DataW.TrodAll enc Try.prog W 0 (fun _ => true) true Try.f4.params.toList args.toList ds p := hA0
  rw [Try.params4] at hA hval
  obtain ⟨v0, vs0, d0, ds0, p0, q0, hargs, rfl, rfl, h0, r0⟩ := trodAll_cons hA
  obtain ⟨v1, vs1, d1, ds1, p1, q1, rfl, rfl, rfl, h1, r1⟩ := trodAll_cons r0
  obtain ⟨v2, vs2, d2, ds2, p2, q2, rfl, rfl, rfl, h2, r2⟩ := trodAll_cons r1
  obtain ⟨v3, vs3, d3, ds3, p3, q3, rfl, rfl, rfl, h3, r3⟩ := trodAll_cons r2
  obtain ⟨rfl, rfl, rfl⟩ := trodAll_nil r3
  obtain rfl : args = #[v0, v1, v2, v3] := by cases args; simp_all
  obtain ⟨rfl, rfl⟩ := trodVars_none hV
  have k0 := h0
  have lt0 : ∀ x ∈ p0, x.block < W.heap.size := by obtain ⟨m, hm⟩ := k0; exact DataW.trod_lt m _ _ _ hm
  obtain ⟨fp0, fc0, fA0, fB0, fz0, fC0, fD0, fo0, rfl, fw0, fx0, fy0, fu0, ff0⟩ := P.acI (hval 0 28 v0 rfl rfl) h0
  obtain ⟨a1, rfl, rfl, rfl, w1⟩ := open_int Try.underlying3 (hval 1 3 v1 rfl rfl) h1
  obtain ⟨a2, rfl, rfl, rfl, w2⟩ := open_int Try.underlying3 (hval 2 3 v2 rfl rfl) h2
  obtain ⟨a3, rfl, rfl, rfl, w3⟩ := open_int Try.underlying3 (hval 3 3 v3 rfl rfl) h3
  clear hA0 hval0 hsz0
  obtain ⟨kk, hP⟩ := Pure.FindAt fp0 fc0 fz0 fo0 ff0 a1 w1 a2 w2 a3 w3
  refine (P.aZ.calls kk fp0 fc0 _ _ fz0 _ _ fo0 a1 a2 a3 true W fw0 fx0 fy0 fu0 hP).mono fun e W' ⟨he, arQ⟩ => ?_
  have bel := arQ
  subst he
  exact ⟨_, rfl, _, _, _, [], _, [], hW', trodAll_mk1 (shut_bool Try.underlying4 _), (trodAll_cons_mk (Below.trod laidOut (by kernel_rfl) (of_decide_eq_true (by kernel_rfl)) k0 bel lt0) (trodAll_cons_mk (shut_int Try.underlying3 w1) (trodAll_cons_mk (shut_int Try.underlying3 w2) (trodAll_cons_mk (shut_int Try.underlying3 w3) trodAll_mk0)))), rfl, bel.frame _, fun h => by cases h⟩
theorem over : Rows.findAtRow.holds Try.pinned (OpenSpec.ofChange Rows.findAtSpec) :=
  OpenClaim.holds_of_wide 4 Try.f4 rfl rfl rfl rfl rfl rfl rfl ⟨rfl, rfl, rfl, rfl, rfl⟩ rfl rfl rfl rfl rfl (by kernel_rfl) Try.func4 (by kernel_rfl)
    (of_decide_eq_true (by kernel_rfl)) (by unfold Func.isWrapper; first | (rw [if_pos (by decide +kernel)]; kernel_rfl) | (rw [if_neg (by decide +kernel)]; exact ⟨rfl, rfl⟩))
    (fun os started H enc _ => lifted os started H enc)
theorem proved : Rows.FindAtSaid := over
#print axioms proved
end Go.Proofs.Ytmbmalkpmanaaaa.findAt
namespace Go.Proofs.Ytmbmalkpmanaaaa
theorem findAt_holds : Rows.FindAtSaid := findAt.proved
end Go.Proofs.Ytmbmalkpmanaaaa

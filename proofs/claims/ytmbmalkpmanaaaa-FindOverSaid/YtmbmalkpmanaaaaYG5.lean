/- Lemmas for laws of chapter 7: what the functions that they reach compute. No condition of its own. -/
import Derived.Test.YtmbmalkpmanaaaaYG4
import Derived.Test.YtmbmalkpmanaaaaYG2
namespace Go.Proofs.Ytmbmalkpmanaaaa.P
open Go.RowKit Go.Proofs.YtmbmalkpmanaaaaW.aK Go.Proofs.YtmbmalkpmanaaaaW.bK Go.Proofs.YtmbmalkpmanaaaaW.bM
attribute [local go_sem] dS dU fG fH dB dD dV dW   -- for this text's walks alone
set_option linter.unusedVariables false
set_option linter.unusedSimpArgs false
def bC.l0 : Nat → Int → Int → Bool → List (List (S23)) → Int → Int → Int → Int → List (List (S23)) → List (S70) → Int → Option (Int × Bool)
 | 0, _, _, _, _, _, _, _, _, _, _, _ => none
 | k + 1, x1, x8, x9, x16, x17, x18, x192000, x192001, x192002, x192003, x193000 => if x18 < x17 then (if 0 ≤ x18 then (if x18 < (x16.length : Int) then ((eD.f (dZ x16 x18)).bind fun afI => (if afI.2.2 = true then ((jX.f k afI.1 afI.2.1 x1 x192000).bind fun t198 => (if x9 = true then (if (wrap64 ((wrap64 ((wrap64 ((wrap64 (t198 * x192001)) + x18)) - x8)) * x193000)) < 0 then (bC.l0 k x1 (wrap64 ((wrap64 (t198 * x192001)) + x18)) true x16 x17 (wrap64 (x18 + 1)) x192000 x192001 x192002 x192003 x193000) else (bC.l0 k x1 x8 x9 x16 x17 (wrap64 (x18 + 1)) x192000 x192001 x192002 x192003 x193000)) else (bC.l0 k x1 (wrap64 ((wrap64 (t198 * x192001)) + x18)) true x16 x17 (wrap64 (x18 + 1)) x192000 x192001 x192002 x192003 x193000))) else (bC.l0 k x1 x8 x9 x16 x17 (wrap64 (x18 + 1)) x192000 x192001 x192002 x192003 x193000))) else (none)) else (none)) else (some (x8, x9))
def bC.f (k : Nat) (aQ : Int) (aR : Int) (aH : List (List (S23))) (av : List (S70)) (a1 : Int)  : Option (Int × Bool) := bC.l0 k a1 0 false aH (aH.length : Int) 0 aQ aR aH av 1
theorem bC.iX : ∀ k, (∀ y0 y1 y2 y3 y4 y5 y6 y7 y8 y9 y10, LeO (bC.l0 k y0 y1 y2 y3 y4 y5 y6 y7 y8 y9 y10) (bC.l0 (k + 1) y0 y1 y2 y3 y4 y5 y6 y7 y8 y9 y10))
 | 0 => fun _ _ _ _ _ _ _ _ _ _ _ r h => by simp [bC.l0] at h
 | k + 1 => by
  have ih0 := bC.iX k
  ·intro y0 y1 y2 y3 y4 y5 y6 y7 y8 y9 y10
   unfold bC.l0
   repeat' first
   | (with_reducible exact ih0 _ _ _ _ _ _ _ _ _ _ _)
   | (with_reducible exact jX.mono _ _ _ _ _)
   | (with_reducible exact LeO.refl _)
   | (with_reducible exact LeO.none _)
   | (with_reducible refine LeO.ite ?_ ?_)
   | (with_reducible refine LeO.bind ?_ (fun _ => ?_))
   | exact ih0 _ _ _ _ _ _ _ _ _ _ _
   | exact jX.mono _ _ _ _ _
   | exact LeO.none _
   | refine LeO.ite ?_ ?_
   | refine LeO.bind ?_ (fun _ => ?_)
theorem bC.mono : ∀ a0 a1 a2 a3 a4 k, LeO (bC.f k a0 a1 a2 a3 a4) (bC.f (k + 1) a0 a1 a2 a3 a4) := by
 intro a0 a1 a2 a3 a4 k
 have ih0 := bC.iX k
 unfold bC.f
 repeat' first
  | (with_reducible exact ih0 _ _ _ _ _ _ _ _ _ _ _)
  | (with_reducible exact jX.mono _ _ _ _ _)
  | (with_reducible exact LeO.refl _)
  | (with_reducible exact LeO.none _)
  | (with_reducible refine LeO.ite ?_ ?_)
  | (with_reducible refine LeO.bind ?_ (fun _ => ?_))
  | exact ih0 _ _ _ _ _ _ _ _ _ _ _
  | exact jX.mono _ _ _ _ _
  | exact LeO.none _
  | refine LeO.ite ?_ ?_
  | refine LeO.bind ?_ (fun _ => ?_)
def bC.T7 : Bool × List (List Nat × List Nat) := (true, [([], []), ([0], [0]), ([], []), ([], []), ([], []), ([4], [4]), ([1, 2, 3, 5], [1, 2, 3, 5]), ([], []), ([7], [7]), ([6, 8], [6, 8]), ([], []), ([9, 10], [9, 10]), ([11, 6, 0, 1, 2, 3, 4, 5, 6, 7, 8, 9, 10, 11], [11])])
def bC.B7 : List Nat := [0, 1, 0, 0, 0, 16, 63, 0, 128, 511, 0, 2047, 4095]
theorem bC.aoP : xW .any (opsOf Try.f105 7) = bC.T7 := by kernel_rfl
theorem bC.afJ : pq bC.T7.2 bC.B7 = true := by kernel_rfl
set_option maxHeartbeats 8000000 in
set_option maxRecDepth 100000 in
theorem bC.calls (k : Nat) (aQ : Int) (aR : Int) (cu : Option Addr) (bW : Nat) (aH : List (List (S23))) (dz : Option Addr) (bZ : Nat) (av : List (S70)) (a1 : Int)  (r1 : Int) (r2 : Bool) (w : World) (iF : Kd.C (Kd.slice 23 k23) w cu aH.length aH) (iG : aH.length ≤ bW) (iw : Kd.C k70 w dz av.length av) (iy : av.length ≤ bZ) (h : bC.f k aQ aR aH av a1 = some (r1, r2)) :
 Calls Try.prog 105 #[.agg #[.int .i64 aQ, .int .i64 aR, .slice cu aH.length bW, .slice dz av.length bZ], .int .i64 a1, .agg #[.int .i64 1, .func (.func 25) #[] #[], .func (.func 88) #[] #[], .func (.func 89) #[] #[]]] w fun e w' => e = .returned (.tuple #[.int .i64 r1, .bool r2]) ∧ Below w.heap.size w w' := by
 have aaE := Try.underlying28
 have awj := Try.underlying79
 have afs := Try.underlying23
 have gF := am iF
 have gX := am iG
 clear iF iG
 have fK := am iw
 have gW := am iy
 clear iw iy
 have HB := am (Below.refl w.heap.size w)
 have H : (bC.l0 k a1 0 false aH (aH.length : Int) 0 aQ aR aH av 1) = some (r1, r2) := h
 clear h
 have H' := am H
 clear H
 go_enter Try.func105, Try.ntmps105
 go_wp2_with (first | ((with_reducible refine bq (N := 3) rfl ?_); refine bx 3 28 #[.int .i64 aQ, .int .i64 aR, .slice cu aH.length bW, .slice dz av.length bZ] ?_; intro jk hg w4 dL hb; have dA := am (dL); have awk := am ((bz hg HB.out : w.heap.size ≤ jk)); have jB := am ((bz hg HB.out : w.heap.size ≤ jk)); replace HB := am (au (bl HB.out) hb); clear hb dL hg) | ((with_reducible refine bq (N := 5) rfl ?_); refine bx 5 79 #[.int .i64 1, .func (.func 25) #[] #[], .func (.func 88) #[] #[], .func (.func 89) #[] #[]] ?_; intro iV hg w5 dL hb; have cZ := am (dL); have awl := am ((bz1 hg HB.out jB.out : w.heap.size ≤ iV)); have jS := am ((bz1 hg HB.out jB.out : w.heap.size ≤ iV)); replace HB := am (au (bl1 HB.out jB.out) hb); have rQ := am ((nl hg dA.out : jk ≠ iV)); have rR := am ((ng hg dA.out : iV ≠ jk)); replace dA := am (ak (kp dA.out) hb); clear hb dL hg; have aBS := rQ.out; have aBT := rR.out; have zy : w5.cell? ⟨jk, 0, none⟩ = some (.int .i64 aQ) := bc dA.out 0; have zA : w5.cell? ⟨jk, 1, none⟩ = some (.int .i64 aR) := bc dA.out 1; have zB : w5.cell? ⟨jk, 2, none⟩ = some (.slice cu aH.length bW) := bc dA.out 2; have zC : w5.cell? ⟨jk, 3, none⟩ = some (.slice dz av.length bZ) := bc dA.out 3; have zD := aj dA.out 0; have zF := aj dA.out 1; have zG := aj dA.out 2; have zH := aj dA.out 3))
 go_loopg [8, 9, 18] k (fun kq v8 v9 v18 w' => ∃ (lG : Int) (kV : Bool) (fU : Int), v8 = .int .i64 lG ∧ v9 = .bool kV ∧ v18 = .int .i64 fU ∧ ay (bC.l0 kq a1 lG kV aH (aH.length : Int) fU aQ aR aH av 1 = some (r1, r2)) ∧ ay (kq ≤ k) ∧ ay (w'.heap[jk]? = some (.cells #[.int .i64 aQ, .int .i64 aR, (.slice cu aH.length bW), (.slice dz av.length bZ)] 28 (0, 0))) ∧ ay (w'.heap[iV]? = some (.cells #[.int .i64 1, (.func (.func 25) #[] #[]), (.func (.func 88) #[] #[]), (.func (.func 89) #[] #[])] 79 (0, 0))) ∧ ay (Below w.heap.size w w'))
 case atStart => exact ⟨(0), (false), (0), sm, sm, sm, H', ⟨Nat.le_refl _⟩, ⟨kp dA.out⟩, ⟨kp cZ.out⟩, ⟨bl2 HB.out jB.out jS.out⟩⟩
 case round =>
  clear H'
  try clear zy
  try clear zA
  try clear zB
  try clear zC
  try clear zD
  try clear zF
  try clear zG
  try clear zH
  obtain ⟨lG, kV, fU, rfl, rfl, rfl, HA, HK1, dA, cZ, HB⟩ := hrel
  cases gk with
  | zero => exact absurd HA.out (by simp [bC.l0])
  | succ k1 =>
   have H := HA.out
   clear HA
   simp only [bC.l0] at H
   by_cases c8 : fU < (aH.length : Int)
   ·rw [if_pos c8] at H
    have aft : decide (fU < (aH.length : Int)) = true := decide_eq_true c8
    clear c8
    by_cases c9 : 0 ≤ fU
    case neg => rw [if_neg c9] at H; exact absurd H (by simp)
    rw [if_pos c9] at H
    have afG : decide (0 ≤ fU) = true := decide_eq_true c9
    clear c9
    by_cases c10 : fU < (aH.length : Int)
    case neg => rw [if_neg c10] at H; exact absurd H (by simp)
    rw [if_pos c10] at H
    have asT : decide (fU < (aH.length : Int)) = true := decide_eq_true c10
    clear c10
    replace H := Option.bind_eq_some_iff.mp H
    obtain ⟨⟨t194, nM, t196⟩, A110, H⟩ := H
    try dsimp only at H
    have A11 := am A110
    clear A110
    by_cases c12 : t196 = true
    ·subst c12
     have H1 : ((jX.f k1 t194 nM a1 aQ).bind fun t198 => (if kV = true then (if (wrap64 ((wrap64 ((wrap64 ((wrap64 (t198 * aR)) + fU)) - lG)) * 1)) < 0 then (bC.l0 k1 a1 (wrap64 ((wrap64 (t198 * aR)) + fU)) true aH (aH.length : Int) (wrap64 (fU + 1)) aQ aR aH av 1) else (bC.l0 k1 a1 lG kV aH (aH.length : Int) (wrap64 (fU + 1)) aQ aR aH av 1)) else (bC.l0 k1 a1 (wrap64 ((wrap64 (t198 * aR)) + fU)) true aH (aH.length : Int) (wrap64 (fU + 1)) aQ aR aH av 1))) = some (r1, r2) := by rw [if_pos rfl] at H; exact H
     clear H
     have H := H1
     clear H1
     replace H := Option.bind_eq_some_iff.mp H
     obtain ⟨t198, ajJ, H⟩ := H
     try dsimp only at H
     have A13 := am ajJ
     clear ajJ
     by_cases c14 : kV = true
     ·subst c14
      have H1 : (if (wrap64 ((wrap64 ((wrap64 ((wrap64 (t198 * aR)) + fU)) - lG)) * 1)) < 0 then (bC.l0 k1 a1 (wrap64 ((wrap64 (t198 * aR)) + fU)) true aH (aH.length : Int) (wrap64 (fU + 1)) aQ aR aH av 1) else (bC.l0 k1 a1 lG true aH (aH.length : Int) (wrap64 (fU + 1)) aQ aR aH av 1)) = some (r1, r2) := by rw [if_pos rfl] at H; exact H
      clear H
      have H := H1
      clear H1
      by_cases c15 : (wrap64 ((wrap64 ((wrap64 ((wrap64 (t198 * aR)) + fU)) - lG)) * 1)) < 0
      ·rw [if_pos c15] at H
       have abC : decide ((wrap64 ((wrap64 ((wrap64 ((wrap64 (t198 * aR)) + fU)) - lG)) * 1)) < 0) = true := decide_eq_true c15
       (try simp only [Int.mul_one, Int.mul_neg, Int.add_zero] at abC)
       clear c15
       have H' := am H
       clear H
       have yH : 0 ≤ (fU : Int) := of_decide_eq_true asm
       have yI : fU < (aH.length : Int) := of_decide_eq_true asm
       obtain ⟨vK, rT, rU, afK, jC, kJ, kK⟩ := ru gF.out fU yH yI
       cases afK
       replace jC := (HB.out.cell (World.block_lt_of_cell? w _ jC)).trans jC
       have oI := am kK
       have oJ := am kJ
       clear kK kJ
       replace yH := eq_true yH
       replace yI := eq_true yI
       try go_wp2_with (first | ((with_reducible refine aC (f := 43) rfl ?_); refine bR (some 25) rfl rfl Try.func43 (by kernel_rfl) rfl #[.slice rT (dZ aH fU).length rU] rfl ar ?_; (with_reducible refine (eD.calls _ _ (dZ aH fU) t194 nM true _ ?bH ?bI A11.out).mono ?_); (case bH => exact kc (Kd.bf oI.out HB.out)); (case bI => exact oJ.out); rintro e w16 ⟨rfl, hb⟩; refine ⟨_, rfl, ?_⟩; replace dA := am (ak (kp dA.out) hb); replace cZ := am (ak (kp cZ.out) hb); replace HB := am (au (bl2 HB.out jB.out jS.out) hb); (try clear hb); (try clear hb2); (try clear hk); (try clear hi)) | ((with_reducible refine bq (N := 12) rfl ?_); refine bx 12 23 #[.int .i64 0, .int .i64 0] ?_; intro dX hg w17 dL hb; have fM := am (dL); have afL := am ((bz2 hg HB.out jB.out jS.out : w.heap.size ≤ dX)); have qo := am ((bz2 hg HB.out jB.out jS.out : w.heap.size ≤ dX)); replace HB := am (au (bl2 HB.out jB.out jS.out) hb); have iZ := am ((nl hg dA.out : jk ≠ dX)); have kL := am ((ng hg dA.out : dX ≠ jk)); replace dA := am (ak (kp dA.out) hb); have jc := am ((nl hg cZ.out : iV ≠ dX)); have kM := am ((ng hg cZ.out : dX ≠ iV)); replace cZ := am (ak (kp cZ.out) hb); clear hb dL hg; have awm := kL.out; have awn := iZ.out; have awo := kM.out; have awp := jc.out; have rV : w17.cell? ⟨dX, 0, none⟩ = some (.int .i64 0) := bc fM.out 0; have rW : w17.cell? ⟨dX, 1, none⟩ = some (.int .i64 0) := bc fM.out 1; have rX := aj fM.out 0; have rY := aj fM.out 1))
       have n0_ : ay (((w17.setCell ⟨dX, 0, none⟩ (.int .i64 t194)).setCell ⟨dX, 1, none⟩ (.int .i64 nM)).heap[jk]? = some (.cells #[.int .i64 aQ, .int .i64 aR, .slice (some vK) aH.length bW, .slice dz av.length bZ] 28 (0, 0))) := ⟨kf dA.out iZ.out⟩
       have n1_ : ay (((w17.setCell ⟨dX, 0, none⟩ (.int .i64 t194)).setCell ⟨dX, 1, none⟩ (.int .i64 nM)).heap[iV]? = some (.cells #[.int .i64 1, .func (.func 25) #[] #[], .func (.func 88) #[] #[], .func (.func 89) #[] #[]] 79 (0, 0))) := ⟨kf cZ.out jc.out⟩
       have n2_ : ay (((w17.setCell ⟨dX, 0, none⟩ (.int .i64 t194)).setCell ⟨dX, 1, none⟩ (.int .i64 nM)).heap[dX]? = some (.cells #[.int .i64 t194, .int .i64 nM] 23 (0, 0))) := ⟨by (with_reducible repeat (first | refine aM ?_ _ | refine aI ?_ | refine aA ?_ _)); refine bX (cs := #[.int .i64 t194, .int .i64 0]) ?_ 1 _ rfl; (with_reducible repeat (first | refine aM ?_ _ | refine aI ?_ | refine aA ?_ _)); refine bX (cs := #[.int .i64 0, .int .i64 0]) ?_ 0 _ rfl; (with_reducible repeat (first | refine aM ?_ _ | refine aI ?_ | refine aA ?_ _)); exact fM.out⟩
       have n3_ : ay (Below w.heap.size w ((w17.setCell ⟨dX, 0, none⟩ (.int .i64 t194)).setCell ⟨dX, 1, none⟩ (.int .i64 nM))) := ⟨bl3 HB.out jB.out jS.out qo.out⟩
       (try clear dA)
       (try clear cZ)
       (try clear fM)
       (try clear HB)
       generalize ((w17.setCell ⟨dX, 0, none⟩ (.int .i64 t194)).setCell ⟨dX, 1, none⟩ (.int .i64 nM)) = w21 at n0_ n1_ n2_ n3_ ⊢
       have dA := n0_
       have cZ := n1_
       have fM := n2_
       have HB := n3_
       clear n0_ n1_ n2_ n3_
       replace dA := am (aI dA.out)
       replace cZ := am (aI cZ.out)
       replace fM := am (aI fM.out)
       replace HB := am (dx HB.out)
       refine nW (n := 13) (S := fun w' => w'.cell? ⟨iV, 0, none⟩ = some (.int .i64 1) ∧ w'.cell? ⟨iV, 1, none⟩ = some (.func (.func 25) #[] #[]) ∧ w'.cell? ⟨iV, 2, none⟩ = some (.func (.func 88) #[] #[]) ∧ w'.cell? ⟨iV, 3, none⟩ = some (.func (.func 89) #[] #[]) ∧ w'.cell? ⟨dX, 0, none⟩ = some (.int .i64 t194) ∧ w'.cell? ⟨dX, 1, none⟩ = some (.int .i64 nM) ∧ w'.cell? ⟨jk, 0, none⟩ = some (.int .i64 aQ) ∧ w'.cell? ⟨jk, 1, none⟩ = some (.int .i64 aR) ∧ w'.cell? ⟨jk, 2, none⟩ = some (.slice (some vK) aH.length bW) ∧ w'.cell? ⟨jk, 3, none⟩ = some (.slice dz av.length bZ)) (ds := []) (rs false [13]) (by kernel_rfl) rfl rfl ⟨bc cZ.out 0, bc cZ.out 1, bc cZ.out 2, bc cZ.out 3, bc fM.out 0, bc fM.out 1, bc dA.out 0, bc dA.out 1, bc dA.out 2, bc dA.out 3⟩ (fun hHeld => ?_); refine ji bC.aoP bC.afJ (fun HT_ HW_ => ?_)
       generalize w21.drew = w22 at dA cZ fM HB hHeld ⊢
       refine px 0 30 (rs true [1, 12]) HT_.out ?_
       refine px 3 33 (rs true [1, 2, 1, 9]) HT_.out ?_
       refine px 4 34 (rs true [1, 2, 2, 8]) HT_.out ?_
       refine px 7 37 (rs true [1, 2, 2, 2, 1, 5]) HT_.out ?_
       refine px 10 40 (rs true [1, 2, 2, 2, 1, 2, 1, 2]) HT_.out ?_
       refine tx 1 31 (rs true [2, 1, 2, 2, 1, 2, 1, 2]) HT_.out HW_.out hHeld ?_
       refine tx 2 32 (rs true [5, 2, 1, 2, 1, 2]) HT_.out HW_.out hHeld ?_
       refine tx 5 35 (rs true [6, 1, 1, 2, 1, 2]) HT_.out HW_.out hHeld ?_
       refine tx 8 38 (rs true [6, 1, 2, 1, 1, 2]) HT_.out HW_.out hHeld ?_
       refine oZ (i := 6) (N := some 36) (rs true [9, 1, 1, 2]) rfl rfl (gM HT_.out (by kernel_rfl)) (by decide) (fun K hK => ?_)
       first | refine kg Try.func88 (by kernel_rfl) rfl #[.agg #[.int .i64 t194, .int .i64 nM], .int .i64 a1, .int .i64 aQ] (by rfl) rfl rfl ar ?_ | refine ac7 Try.func88 (by kernel_rfl) rfl #[.agg #[.int .i64 t194, .int .i64 nM], .int .i64 a1, .int .i64 aQ] (by rfl) rfl rfl rfl ar ?_
       with_reducible refine (jX.calls k1 t194 nM a1 aQ t198 _ A13.out).mono ?_
       rintro e w23 ⟨rfl, hb⟩
       refine ⟨_, rfl, ?_⟩
       replace dA := am (ak (kp dA.out) hb)
       replace cZ := am (ak (kp cZ.out) hb)
       replace fM := am (ak (kp fM.out) hb)
       replace HB := am (au (bl3 HB.out jB.out jS.out qo.out) hb)
       (try clear hb)
       refine hK.out _ _ ⟨bc cZ.out 0, bc cZ.out 1, bc cZ.out 2, bc cZ.out 3, bc fM.out 0, bc fM.out 1, bc dA.out 0, bc dA.out 1, bc dA.out 2, bc dA.out 3⟩ (fun hHeld => ?_)
       clear hK K
       refine nx 36 ?_
       refine px 9 39 (rs true [11, 2]) HT_.out ?_
       refine px 11 41 (rs true [12, 1]) HT_.out ?_
       refine px 12 14 (rs true [13]) HT_.out ?_
       refine tV (kU HT_.out (by kernel_rfl)) ?_
       have aoQ := rR.out
       have aoR := rQ.out
       have afM : w23.cell? ⟨iV, 0, none⟩ = some (.int .i64 1) := bc cZ.out 0
       have afN : w23.cell? ⟨iV, 1, none⟩ = some (.func (.func 25) #[] #[]) := bc cZ.out 1
       have ajK : w23.cell? ⟨iV, 2, none⟩ = some (.func (.func 88) #[] #[]) := bc cZ.out 2
       have ajL : w23.cell? ⟨iV, 3, none⟩ = some (.func (.func 89) #[] #[]) := bc cZ.out 3
       have afO := aj cZ.out 0
       have afP := aj cZ.out 1
       have ajM := aj cZ.out 2
       have ajN := aj cZ.out 3
       try go_wp2
       go_roundg k1
       case measure => have := HK1.out; omega
       case rel => exact ⟨(wrap64 ((wrap64 (t198 * aR)) + fU)), (true), (wrap64 (fU + 1)), sm, sm, sm, H', ⟨by have := HK1.out; omega⟩, ⟨kp dA.out⟩, ⟨kp cZ.out⟩, ⟨bl3 HB.out jB.out jS.out qo.out⟩⟩
      ·rw [if_neg c15] at H
       have abC : decide ((wrap64 ((wrap64 ((wrap64 ((wrap64 (t198 * aR)) + fU)) - lG)) * 1)) < 0) = false := decide_eq_false c15
       (try simp only [Int.mul_one, Int.mul_neg, Int.add_zero] at abC)
       clear c15
       have H' := am H
       clear H
       have yH : 0 ≤ (fU : Int) := of_decide_eq_true asm
       have yI : fU < (aH.length : Int) := of_decide_eq_true asm
       obtain ⟨vK, rT, rU, afK, jC, kJ, kK⟩ := ru gF.out fU yH yI
       cases afK
       replace jC := (HB.out.cell (World.block_lt_of_cell? w _ jC)).trans jC
       have oI := am kK
       have oJ := am kJ
       clear kK kJ
       replace yH := eq_true yH
       replace yI := eq_true yI
       try go_wp2_with (first | ((with_reducible refine aC (f := 43) rfl ?_); refine bR (some 25) rfl rfl Try.func43 (by kernel_rfl) rfl #[.slice rT (dZ aH fU).length rU] rfl ar ?_; (with_reducible refine (eD.calls _ _ (dZ aH fU) t194 nM true _ ?bH ?bI A11.out).mono ?_); (case bH => exact kc (Kd.bf oI.out HB.out)); (case bI => exact oJ.out); rintro e w26 ⟨rfl, hb⟩; refine ⟨_, rfl, ?_⟩; replace dA := am (ak (kp dA.out) hb); replace cZ := am (ak (kp cZ.out) hb); replace HB := am (au (bl2 HB.out jB.out jS.out) hb); (try clear hb); (try clear hb2); (try clear hk); (try clear hi)) | ((with_reducible refine bq (N := 12) rfl ?_); refine bx 12 23 #[.int .i64 0, .int .i64 0] ?_; intro dX hg w27 dL hb; have fM := am (dL); have afL := am ((bz2 hg HB.out jB.out jS.out : w.heap.size ≤ dX)); have qo := am ((bz2 hg HB.out jB.out jS.out : w.heap.size ≤ dX)); replace HB := am (au (bl2 HB.out jB.out jS.out) hb); have iZ := am ((nl hg dA.out : jk ≠ dX)); have kL := am ((ng hg dA.out : dX ≠ jk)); replace dA := am (ak (kp dA.out) hb); have jc := am ((nl hg cZ.out : iV ≠ dX)); have kM := am ((ng hg cZ.out : dX ≠ iV)); replace cZ := am (ak (kp cZ.out) hb); clear hb dL hg; have awq := kL.out; have awr := iZ.out; have aoS := kM.out; have aoT := jc.out; have ajO : w27.cell? ⟨dX, 0, none⟩ = some (.int .i64 0) := bc fM.out 0; have ajP : w27.cell? ⟨dX, 1, none⟩ = some (.int .i64 0) := bc fM.out 1; have ajQ := aj fM.out 0; have ajR := aj fM.out 1))
       have n0_ : ay (((w27.setCell ⟨dX, 0, none⟩ (.int .i64 t194)).setCell ⟨dX, 1, none⟩ (.int .i64 nM)).heap[jk]? = some (.cells #[.int .i64 aQ, .int .i64 aR, .slice (some vK) aH.length bW, .slice dz av.length bZ] 28 (0, 0))) := ⟨kf dA.out iZ.out⟩
       have n1_ : ay (((w27.setCell ⟨dX, 0, none⟩ (.int .i64 t194)).setCell ⟨dX, 1, none⟩ (.int .i64 nM)).heap[iV]? = some (.cells #[.int .i64 1, .func (.func 25) #[] #[], .func (.func 88) #[] #[], .func (.func 89) #[] #[]] 79 (0, 0))) := ⟨kf cZ.out jc.out⟩
       have n2_ : ay (((w27.setCell ⟨dX, 0, none⟩ (.int .i64 t194)).setCell ⟨dX, 1, none⟩ (.int .i64 nM)).heap[dX]? = some (.cells #[.int .i64 t194, .int .i64 nM] 23 (0, 0))) := ⟨by (with_reducible repeat (first | refine aM ?_ _ | refine aI ?_ | refine aA ?_ _)); refine bX (cs := #[.int .i64 t194, .int .i64 0]) ?_ 1 _ rfl; (with_reducible repeat (first | refine aM ?_ _ | refine aI ?_ | refine aA ?_ _)); refine bX (cs := #[.int .i64 0, .int .i64 0]) ?_ 0 _ rfl; (with_reducible repeat (first | refine aM ?_ _ | refine aI ?_ | refine aA ?_ _)); exact fM.out⟩
       have n3_ : ay (Below w.heap.size w ((w27.setCell ⟨dX, 0, none⟩ (.int .i64 t194)).setCell ⟨dX, 1, none⟩ (.int .i64 nM))) := ⟨bl3 HB.out jB.out jS.out qo.out⟩
       (try clear dA)
       (try clear cZ)
       (try clear fM)
       (try clear HB)
       generalize ((w27.setCell ⟨dX, 0, none⟩ (.int .i64 t194)).setCell ⟨dX, 1, none⟩ (.int .i64 nM)) = w31 at n0_ n1_ n2_ n3_ ⊢
       have dA := n0_
       have cZ := n1_
       have fM := n2_
       have HB := n3_
       clear n0_ n1_ n2_ n3_
       replace dA := am (aI dA.out)
       replace cZ := am (aI cZ.out)
       replace fM := am (aI fM.out)
       replace HB := am (dx HB.out)
       refine nW (n := 13) (S := fun w' => w'.cell? ⟨iV, 0, none⟩ = some (.int .i64 1) ∧ w'.cell? ⟨iV, 1, none⟩ = some (.func (.func 25) #[] #[]) ∧ w'.cell? ⟨iV, 2, none⟩ = some (.func (.func 88) #[] #[]) ∧ w'.cell? ⟨iV, 3, none⟩ = some (.func (.func 89) #[] #[]) ∧ w'.cell? ⟨dX, 0, none⟩ = some (.int .i64 t194) ∧ w'.cell? ⟨dX, 1, none⟩ = some (.int .i64 nM) ∧ w'.cell? ⟨jk, 0, none⟩ = some (.int .i64 aQ) ∧ w'.cell? ⟨jk, 1, none⟩ = some (.int .i64 aR) ∧ w'.cell? ⟨jk, 2, none⟩ = some (.slice (some vK) aH.length bW) ∧ w'.cell? ⟨jk, 3, none⟩ = some (.slice dz av.length bZ)) (ds := []) (rs false [13]) (by kernel_rfl) rfl rfl ⟨bc cZ.out 0, bc cZ.out 1, bc cZ.out 2, bc cZ.out 3, bc fM.out 0, bc fM.out 1, bc dA.out 0, bc dA.out 1, bc dA.out 2, bc dA.out 3⟩ (fun hHeld => ?_); refine ji bC.aoP bC.afJ (fun HT_ HW_ => ?_)
       generalize w31.drew = w32 at dA cZ fM HB hHeld ⊢
       refine px 0 30 (rs true [1, 12]) HT_.out ?_
       refine px 3 33 (rs true [1, 2, 1, 9]) HT_.out ?_
       refine px 4 34 (rs true [1, 2, 2, 8]) HT_.out ?_
       refine px 7 37 (rs true [1, 2, 2, 2, 1, 5]) HT_.out ?_
       refine px 10 40 (rs true [1, 2, 2, 2, 1, 2, 1, 2]) HT_.out ?_
       refine tx 1 31 (rs true [2, 1, 2, 2, 1, 2, 1, 2]) HT_.out HW_.out hHeld ?_
       refine tx 2 32 (rs true [5, 2, 1, 2, 1, 2]) HT_.out HW_.out hHeld ?_
       refine tx 5 35 (rs true [6, 1, 1, 2, 1, 2]) HT_.out HW_.out hHeld ?_
       refine tx 8 38 (rs true [6, 1, 2, 1, 1, 2]) HT_.out HW_.out hHeld ?_
       refine oZ (i := 6) (N := some 36) (rs true [9, 1, 1, 2]) rfl rfl (gM HT_.out (by kernel_rfl)) (by decide) (fun K hK => ?_)
       first | refine kg Try.func88 (by kernel_rfl) rfl #[.agg #[.int .i64 t194, .int .i64 nM], .int .i64 a1, .int .i64 aQ] (by rfl) rfl rfl ar ?_ | refine ac7 Try.func88 (by kernel_rfl) rfl #[.agg #[.int .i64 t194, .int .i64 nM], .int .i64 a1, .int .i64 aQ] (by rfl) rfl rfl rfl ar ?_
       with_reducible refine (jX.calls k1 t194 nM a1 aQ t198 _ A13.out).mono ?_
       rintro e w33 ⟨rfl, hb⟩
       refine ⟨_, rfl, ?_⟩
       replace dA := am (ak (kp dA.out) hb)
       replace cZ := am (ak (kp cZ.out) hb)
       replace fM := am (ak (kp fM.out) hb)
       replace HB := am (au (bl3 HB.out jB.out jS.out qo.out) hb)
       (try clear hb)
       refine hK.out _ _ ⟨bc cZ.out 0, bc cZ.out 1, bc cZ.out 2, bc cZ.out 3, bc fM.out 0, bc fM.out 1, bc dA.out 0, bc dA.out 1, bc dA.out 2, bc dA.out 3⟩ (fun hHeld => ?_)
       clear hK K
       refine nx 36 ?_
       refine px 9 39 (rs true [11, 2]) HT_.out ?_
       refine px 11 41 (rs true [12, 1]) HT_.out ?_
       refine px 12 14 (rs true [13]) HT_.out ?_
       refine tV (kU HT_.out (by kernel_rfl)) ?_
       have asU := rR.out
       have asV := rQ.out
       have afQ : w33.cell? ⟨iV, 0, none⟩ = some (.int .i64 1) := bc cZ.out 0
       have afR : w33.cell? ⟨iV, 1, none⟩ = some (.func (.func 25) #[] #[]) := bc cZ.out 1
       have ajS : w33.cell? ⟨iV, 2, none⟩ = some (.func (.func 88) #[] #[]) := bc cZ.out 2
       have ajT : w33.cell? ⟨iV, 3, none⟩ = some (.func (.func 89) #[] #[]) := bc cZ.out 3
       have afS := aj cZ.out 0
       have afT := aj cZ.out 1
       have ajU := aj cZ.out 2
       have ajV := aj cZ.out 3
       try go_wp2
       go_roundg k1
       case measure => have := HK1.out; omega
       case rel => exact ⟨(lG), (true), (wrap64 (fU + 1)), sm, sm, sm, H', ⟨by have := HK1.out; omega⟩, ⟨kp dA.out⟩, ⟨kp cZ.out⟩, ⟨bl3 HB.out jB.out jS.out qo.out⟩⟩
     ·replace c14 := Bool.eq_false_iff.mpr c14
      subst c14
      have H1 : (bC.l0 k1 a1 (wrap64 ((wrap64 (t198 * aR)) + fU)) true aH (aH.length : Int) (wrap64 (fU + 1)) aQ aR aH av 1) = some (r1, r2) := by rw [if_neg (show ¬ (false = true) by decide)] at H; exact H
      clear H
      have H := H1
      clear H1
      have H' := am H
      clear H
      have yH : 0 ≤ (fU : Int) := of_decide_eq_true asm
      have yI : fU < (aH.length : Int) := of_decide_eq_true asm
      obtain ⟨vK, rT, rU, afK, jC, kJ, kK⟩ := ru gF.out fU yH yI
      cases afK
      replace jC := (HB.out.cell (World.block_lt_of_cell? w _ jC)).trans jC
      have oI := am kK
      have oJ := am kJ
      clear kK kJ
      replace yH := eq_true yH
      replace yI := eq_true yI
      try go_wp2_with (first | ((with_reducible refine aC (f := 43) rfl ?_); refine bR (some 25) rfl rfl Try.func43 (by kernel_rfl) rfl #[.slice rT (dZ aH fU).length rU] rfl ar ?_; (with_reducible refine (eD.calls _ _ (dZ aH fU) t194 nM true _ ?bH ?bI A11.out).mono ?_); (case bH => exact kc (Kd.bf oI.out HB.out)); (case bI => exact oJ.out); rintro e w36 ⟨rfl, hb⟩; refine ⟨_, rfl, ?_⟩; replace dA := am (ak (kp dA.out) hb); replace cZ := am (ak (kp cZ.out) hb); replace HB := am (au (bl2 HB.out jB.out jS.out) hb); (try clear hb); (try clear hb2); (try clear hk); (try clear hi)) | ((with_reducible refine bq (N := 12) rfl ?_); refine bx 12 23 #[.int .i64 0, .int .i64 0] ?_; intro dX hg w37 dL hb; have fM := am (dL); have afL := am ((bz2 hg HB.out jB.out jS.out : w.heap.size ≤ dX)); have qo := am ((bz2 hg HB.out jB.out jS.out : w.heap.size ≤ dX)); replace HB := am (au (bl2 HB.out jB.out jS.out) hb); have iZ := am ((nl hg dA.out : jk ≠ dX)); have kL := am ((ng hg dA.out : dX ≠ jk)); replace dA := am (ak (kp dA.out) hb); have jc := am ((nl hg cZ.out : iV ≠ dX)); have kM := am ((ng hg cZ.out : dX ≠ iV)); replace cZ := am (ak (kp cZ.out) hb); clear hb dL hg; have aws := kL.out; have awt := iZ.out; have aoU := kM.out; have aoV := jc.out; have afU : w37.cell? ⟨dX, 0, none⟩ = some (.int .i64 0) := bc fM.out 0; have afV : w37.cell? ⟨dX, 1, none⟩ = some (.int .i64 0) := bc fM.out 1; have afW := aj fM.out 0; have afX := aj fM.out 1))
      have n0_ : ay (((w37.setCell ⟨dX, 0, none⟩ (.int .i64 t194)).setCell ⟨dX, 1, none⟩ (.int .i64 nM)).heap[jk]? = some (.cells #[.int .i64 aQ, .int .i64 aR, .slice (some vK) aH.length bW, .slice dz av.length bZ] 28 (0, 0))) := ⟨kf dA.out iZ.out⟩
      have n1_ : ay (((w37.setCell ⟨dX, 0, none⟩ (.int .i64 t194)).setCell ⟨dX, 1, none⟩ (.int .i64 nM)).heap[iV]? = some (.cells #[.int .i64 1, .func (.func 25) #[] #[], .func (.func 88) #[] #[], .func (.func 89) #[] #[]] 79 (0, 0))) := ⟨kf cZ.out jc.out⟩
      have n2_ : ay (((w37.setCell ⟨dX, 0, none⟩ (.int .i64 t194)).setCell ⟨dX, 1, none⟩ (.int .i64 nM)).heap[dX]? = some (.cells #[.int .i64 t194, .int .i64 nM] 23 (0, 0))) := ⟨by (with_reducible repeat (first | refine aM ?_ _ | refine aI ?_ | refine aA ?_ _)); refine bX (cs := #[.int .i64 t194, .int .i64 0]) ?_ 1 _ rfl; (with_reducible repeat (first | refine aM ?_ _ | refine aI ?_ | refine aA ?_ _)); refine bX (cs := #[.int .i64 0, .int .i64 0]) ?_ 0 _ rfl; (with_reducible repeat (first | refine aM ?_ _ | refine aI ?_ | refine aA ?_ _)); exact fM.out⟩
      have n3_ : ay (Below w.heap.size w ((w37.setCell ⟨dX, 0, none⟩ (.int .i64 t194)).setCell ⟨dX, 1, none⟩ (.int .i64 nM))) := ⟨bl3 HB.out jB.out jS.out qo.out⟩
      (try clear dA)
      (try clear cZ)
      (try clear fM)
      (try clear HB)
      generalize ((w37.setCell ⟨dX, 0, none⟩ (.int .i64 t194)).setCell ⟨dX, 1, none⟩ (.int .i64 nM)) = w41 at n0_ n1_ n2_ n3_ ⊢
      have dA := n0_
      have cZ := n1_
      have fM := n2_
      have HB := n3_
      clear n0_ n1_ n2_ n3_
      replace dA := am (aI dA.out)
      replace cZ := am (aI cZ.out)
      replace fM := am (aI fM.out)
      replace HB := am (dx HB.out)
      refine nW (n := 13) (S := fun w' => w'.cell? ⟨iV, 0, none⟩ = some (.int .i64 1) ∧ w'.cell? ⟨iV, 1, none⟩ = some (.func (.func 25) #[] #[]) ∧ w'.cell? ⟨iV, 2, none⟩ = some (.func (.func 88) #[] #[]) ∧ w'.cell? ⟨iV, 3, none⟩ = some (.func (.func 89) #[] #[]) ∧ w'.cell? ⟨dX, 0, none⟩ = some (.int .i64 t194) ∧ w'.cell? ⟨dX, 1, none⟩ = some (.int .i64 nM) ∧ w'.cell? ⟨jk, 0, none⟩ = some (.int .i64 aQ) ∧ w'.cell? ⟨jk, 1, none⟩ = some (.int .i64 aR) ∧ w'.cell? ⟨jk, 2, none⟩ = some (.slice (some vK) aH.length bW) ∧ w'.cell? ⟨jk, 3, none⟩ = some (.slice dz av.length bZ)) (ds := []) (rs false [13]) (by kernel_rfl) rfl rfl ⟨bc cZ.out 0, bc cZ.out 1, bc cZ.out 2, bc cZ.out 3, bc fM.out 0, bc fM.out 1, bc dA.out 0, bc dA.out 1, bc dA.out 2, bc dA.out 3⟩ (fun hHeld => ?_); refine ji bC.aoP bC.afJ (fun HT_ HW_ => ?_)
      generalize w41.drew = w42 at dA cZ fM HB hHeld ⊢
      refine px 0 30 (rs true [1, 12]) HT_.out ?_
      refine px 3 33 (rs true [1, 2, 1, 9]) HT_.out ?_
      refine px 4 34 (rs true [1, 2, 2, 8]) HT_.out ?_
      refine px 7 37 (rs true [1, 2, 2, 2, 1, 5]) HT_.out ?_
      refine px 10 40 (rs true [1, 2, 2, 2, 1, 2, 1, 2]) HT_.out ?_
      refine tx 1 31 (rs true [2, 1, 2, 2, 1, 2, 1, 2]) HT_.out HW_.out hHeld ?_
      refine tx 2 32 (rs true [5, 2, 1, 2, 1, 2]) HT_.out HW_.out hHeld ?_
      refine tx 5 35 (rs true [6, 1, 1, 2, 1, 2]) HT_.out HW_.out hHeld ?_
      refine tx 8 38 (rs true [6, 1, 2, 1, 1, 2]) HT_.out HW_.out hHeld ?_
      refine oZ (i := 6) (N := some 36) (rs true [9, 1, 1, 2]) rfl rfl (gM HT_.out (by kernel_rfl)) (by decide) (fun K hK => ?_)
      first | refine kg Try.func88 (by kernel_rfl) rfl #[.agg #[.int .i64 t194, .int .i64 nM], .int .i64 a1, .int .i64 aQ] (by rfl) rfl rfl ar ?_ | refine ac7 Try.func88 (by kernel_rfl) rfl #[.agg #[.int .i64 t194, .int .i64 nM], .int .i64 a1, .int .i64 aQ] (by rfl) rfl rfl rfl ar ?_
      with_reducible refine (jX.calls k1 t194 nM a1 aQ t198 _ A13.out).mono ?_
      rintro e w43 ⟨rfl, hb⟩
      refine ⟨_, rfl, ?_⟩
      replace dA := am (ak (kp dA.out) hb)
      replace cZ := am (ak (kp cZ.out) hb)
      replace fM := am (ak (kp fM.out) hb)
      replace HB := am (au (bl3 HB.out jB.out jS.out qo.out) hb)
      (try clear hb)
      refine hK.out _ _ ⟨bc cZ.out 0, bc cZ.out 1, bc cZ.out 2, bc cZ.out 3, bc fM.out 0, bc fM.out 1, bc dA.out 0, bc dA.out 1, bc dA.out 2, bc dA.out 3⟩ (fun hHeld => ?_)
      clear hK K
      refine nx 36 ?_
      refine px 9 39 (rs true [11, 2]) HT_.out ?_
      refine px 11 41 (rs true [12, 1]) HT_.out ?_
      refine px 12 14 (rs true [13]) HT_.out ?_
      refine tV (kU HT_.out (by kernel_rfl)) ?_
      try go_wp2
      go_roundg k1
      case measure => have := HK1.out; omega
      case rel => exact ⟨(wrap64 ((wrap64 (t198 * aR)) + fU)), (true), (wrap64 (fU + 1)), sm, sm, sm, H', ⟨by have := HK1.out; omega⟩, ⟨kp dA.out⟩, ⟨kp cZ.out⟩, ⟨bl3 HB.out jB.out jS.out qo.out⟩⟩
    ·replace c12 := Bool.eq_false_iff.mpr c12
     subst c12
     have H1 : (bC.l0 k1 a1 lG kV aH (aH.length : Int) (wrap64 (fU + 1)) aQ aR aH av 1) = some (r1, r2) := by rw [if_neg (show ¬ (false = true) by decide)] at H; exact H
     clear H
     have H := H1
     clear H1
     have H' := am H
     clear H
     have yH : 0 ≤ (fU : Int) := of_decide_eq_true asm
     have yI : fU < (aH.length : Int) := of_decide_eq_true asm
     obtain ⟨vK, rT, rU, afK, jC, kJ, kK⟩ := ru gF.out fU yH yI
     cases afK
     replace jC := (HB.out.cell (World.block_lt_of_cell? w _ jC)).trans jC
     have oI := am kK
     have oJ := am kJ
     clear kK kJ
     replace yH := eq_true yH
     replace yI := eq_true yI
     go_wp2_with (first | ((with_reducible refine aC (f := 43) rfl ?_); refine bR (some 25) rfl rfl Try.func43 (by kernel_rfl) rfl #[.slice rT (dZ aH fU).length rU] rfl ar ?_; (with_reducible refine (eD.calls _ _ (dZ aH fU) t194 nM false _ ?bH ?bI A11.out).mono ?_); (case bH => exact kc (Kd.bf oI.out HB.out)); (case bI => exact oJ.out); rintro e w44 ⟨rfl, hb⟩; refine ⟨_, rfl, ?_⟩; replace dA := am (ak (kp dA.out) hb); replace cZ := am (ak (kp cZ.out) hb); replace HB := am (au (bl2 HB.out jB.out jS.out) hb); (try clear hb); (try clear hb2); (try clear hk); (try clear hi)) | ((with_reducible refine bq (N := 12) rfl ?_); refine bx 12 23 #[.int .i64 0, .int .i64 0] ?_; intro dX hg w45 dL hb; have fM := am (dL); have afL := am ((bz2 hg HB.out jB.out jS.out : w.heap.size ≤ dX)); have qo := am ((bz2 hg HB.out jB.out jS.out : w.heap.size ≤ dX)); replace HB := am (au (bl2 HB.out jB.out jS.out) hb); have iZ := am ((nl hg dA.out : jk ≠ dX)); have kL := am ((ng hg dA.out : dX ≠ jk)); replace dA := am (ak (kp dA.out) hb); have jc := am ((nl hg cZ.out : iV ≠ dX)); have kM := am ((ng hg cZ.out : dX ≠ iV)); replace cZ := am (ak (kp cZ.out) hb); clear hb dL hg; have amw := kL.out; have amx := iZ.out; have awu := kM.out; have awv := jc.out; have aoW : w45.cell? ⟨dX, 0, none⟩ = some (.int .i64 0) := bc fM.out 0; have aoX : w45.cell? ⟨dX, 1, none⟩ = some (.int .i64 0) := bc fM.out 1; have aoY := aj fM.out 0; have aoZ := aj fM.out 1))
     go_roundg k1
     case measure => have := HK1.out; omega
     case rel => exact ⟨(lG), (kV), (wrap64 (fU + 1)), sm, sm, sm, H', ⟨by have := HK1.out; omega⟩, ⟨kf dA.out iZ.out⟩, ⟨kf cZ.out jc.out⟩, ⟨bl3 HB.out jB.out jS.out qo.out⟩⟩
   ·rw [if_neg c8] at H
    have aft : decide (fU < (aH.length : Int)) = false := decide_eq_false c8
    clear c8
    simp only [Option.some.injEq, Prod.mk.injEq] at H
    obtain ⟨rfl, rfl⟩ := H
    go_wp2
    go_ret2
    exact ⟨rt, bl2 HB.out jB.out jS.out⟩
def gI.f (a0 : Int) : Option (Bool) := if a0 ≥ (-1099511627776) then (some (decide (a0 ≤ 1099511627776))) else (some false)
set_option maxHeartbeats 8000000 in
set_option maxRecDepth 100000 in
theorem gI.calls (a0 : Int) (r : Bool) (w : World) (h : gI.f a0 = some r) :
 Calls Try.prog 55 #[.int .i64 a0] w fun e w' => e = .returned (.bool r) ∧ dh w w' := by
 have H : (if a0 ≥ (-1099511627776) then (some (decide (a0 ≤ 1099511627776))) else (some false)) = some r := h
 clear h
 by_cases c2 : a0 ≥ (-1099511627776)
 ·rw [if_pos c2] at H
  have ajF : decide ((-1099511627776) ≤ a0) = true := decide_eq_true c2
  clear c2
  obtain rfl := Option.some.inj H
  go_enter Try.func55, Try.ntmps55
  go_wp2
  go_ret
  exact ⟨by first | rfl | (simp; done) | (simp [*]; done), by repeat (first | exact dh.refl _ | apply dh.step)⟩
 ·rw [if_neg c2] at H
  have ajF : decide ((-1099511627776) ≤ a0) = false := decide_eq_false c2
  clear c2
  obtain rfl := Option.some.inj H
  go_enter Try.func55, Try.ntmps55
  go_wp2
  go_ret
  exact ⟨by first | rfl | (simp; done) | (simp [*]; done), by repeat (first | exact dh.refl _ | apply dh.step)⟩
def cmp_isNaN_int.f (a0 : Int) : Option (Bool) := some (a0 != a0)
set_option maxHeartbeats 8000000 in
set_option maxRecDepth 100000 in
theorem cmp_isNaN_int.calls (a0 : Int) (r : Bool) (w : World) (h : cmp_isNaN_int.f a0 = some r) :
 Calls Try.prog 97 #[.int .i64 a0] w fun e w' => e = .returned (.bool r) ∧ dh w w' := by
 have H : (some (a0 != a0)) = some r := h
 clear h
 obtain rfl := Option.some.inj H
 go_enter Try.func97, Try.ntmps97
 go_wp2
 go_ret
 exact ⟨by first | rfl | (simp; done) | (simp [*]; done), by repeat (first | exact dh.refl _ | apply dh.step)⟩
def cmp_Compare_int.f (a0 : Int) (a1 : Int) : Option (Int) := (cmp_isNaN_int.f a0).bind fun ajW => ((cmp_isNaN_int.f a1).bind fun acU => (if ajW = true then (if acU = true then (some 0) else (some (-1))) else (if acU = true then (some 1) else (if a0 < a1 then (some (-1)) else (if a0 > a1 then (some 1) else (some 0))))))
set_option maxHeartbeats 8000000 in
set_option maxRecDepth 100000 in
theorem cmp_Compare_int.calls (a0 : Int) (a1 : Int) (r : Int) (w : World) (h : cmp_Compare_int.f a0 a1 = some r) :
 Calls Try.prog 70 #[.int .i64 a0, .int .i64 a1] w fun e w' => e = .returned (.int .i64 r) ∧ dh w w' := by
 have H : ((cmp_isNaN_int.f a0).bind fun ajW => ((cmp_isNaN_int.f a1).bind fun acU => (if ajW = true then (if acU = true then (some 0) else (some (-1))) else (if acU = true then (some 1) else (if a0 < a1 then (some (-1)) else (if a0 > a1 then (some 1) else (some 0))))))) = some r := h
 clear h
 replace H := Option.bind_eq_some_iff.mp H
 obtain ⟨ajW, A30, H⟩ := H
 try dsimp only at H
 have A3 := am A30
 clear A30
 replace H := Option.bind_eq_some_iff.mp H
 obtain ⟨acU, A40, H⟩ := H
 try dsimp only at H
 have A4 := am A40
 clear A40
 by_cases c5 : ajW = true
 ·subst c5
  have H1 : (if acU = true then (some 0) else (some (-1))) = some r := by rw [if_pos rfl] at H; exact H
  clear H
  have H := H1
  clear H1
  by_cases c6 : acU = true
  ·subst c6
   have H1 : (some 0) = some r := by rw [if_pos rfl] at H; exact H
   clear H
   have H := H1
   clear H1
   obtain rfl := Option.some.inj H
   go_enter Try.func70, Try.ntmps70
   go_wp2_with (first | ((with_reducible refine aC (f := 97) rfl ?_); refine bR (some 8) rfl rfl Try.func97 (by kernel_rfl) rfl #[.int .i64 a0] rfl ar ?_; (with_reducible refine (cmp_isNaN_int.calls a0 true _ A3.out).mono ?_); rintro e w' ⟨rfl, ⟨nd, rfl⟩⟩; refine ⟨_, rfl, ?_⟩) | ((with_reducible refine aC (f := 97) rfl ?_); refine bR (some 10) rfl rfl Try.func97 (by kernel_rfl) rfl #[.int .i64 a1] rfl ar ?_; (with_reducible refine (cmp_isNaN_int.calls a1 true _ A4.out).mono ?_); rintro e w' ⟨rfl, ⟨nd, rfl⟩⟩; refine ⟨_, rfl, ?_⟩))
   go_ret
   exact ⟨by first | rfl | (simp; done) | (simp [*]; done), by repeat (first | exact dh.refl _ | apply dh.step)⟩
  ·replace c6 := Bool.eq_false_iff.mpr c6
   subst c6
   have H1 : (some (-1)) = some r := by rw [if_neg (show ¬ (false = true) by decide)] at H; exact H
   clear H
   have H := H1
   clear H1
   obtain rfl := Option.some.inj H
   go_enter Try.func70, Try.ntmps70
   go_wp2_with (first | ((with_reducible refine aC (f := 97) rfl ?_); refine bR (some 8) rfl rfl Try.func97 (by kernel_rfl) rfl #[.int .i64 a0] rfl ar ?_; (with_reducible refine (cmp_isNaN_int.calls a0 true _ A3.out).mono ?_); rintro e w' ⟨rfl, ⟨nd, rfl⟩⟩; refine ⟨_, rfl, ?_⟩) | ((with_reducible refine aC (f := 97) rfl ?_); refine bR (some 10) rfl rfl Try.func97 (by kernel_rfl) rfl #[.int .i64 a1] rfl ar ?_; (with_reducible refine (cmp_isNaN_int.calls a1 false _ A4.out).mono ?_); rintro e w' ⟨rfl, ⟨nd, rfl⟩⟩; refine ⟨_, rfl, ?_⟩))
   go_ret
   exact ⟨by first | rfl | (simp; done) | (simp [*]; done), by repeat (first | exact dh.refl _ | apply dh.step)⟩
 ·replace c5 := Bool.eq_false_iff.mpr c5
  subst c5
  have H1 : (if acU = true then (some 1) else (if a0 < a1 then (some (-1)) else (if a0 > a1 then (some 1) else (some 0)))) = some r := by rw [if_neg (show ¬ (false = true) by decide)] at H; exact H
  clear H
  have H := H1
  clear H1
  by_cases c7 : acU = true
  ·subst c7
   have H1 : (some 1) = some r := by rw [if_pos rfl] at H; exact H
   clear H
   have H := H1
   clear H1
   obtain rfl := Option.some.inj H
   go_enter Try.func70, Try.ntmps70
   go_wp2_with (first | ((with_reducible refine aC (f := 97) rfl ?_); refine bR (some 8) rfl rfl Try.func97 (by kernel_rfl) rfl #[.int .i64 a0] rfl ar ?_; (with_reducible refine (cmp_isNaN_int.calls a0 false _ A3.out).mono ?_); rintro e w' ⟨rfl, ⟨nd, rfl⟩⟩; refine ⟨_, rfl, ?_⟩) | ((with_reducible refine aC (f := 97) rfl ?_); refine bR (some 10) rfl rfl Try.func97 (by kernel_rfl) rfl #[.int .i64 a1] rfl ar ?_; (with_reducible refine (cmp_isNaN_int.calls a1 true _ A4.out).mono ?_); rintro e w' ⟨rfl, ⟨nd, rfl⟩⟩; refine ⟨_, rfl, ?_⟩))
   go_ret
   exact ⟨by first | rfl | (simp; done) | (simp [*]; done), by repeat (first | exact dh.refl _ | apply dh.step)⟩
  ·replace c7 := Bool.eq_false_iff.mpr c7
   subst c7
   have H1 : (if a0 < a1 then (some (-1)) else (if a0 > a1 then (some 1) else (some 0))) = some r := by rw [if_neg (show ¬ (false = true) by decide)] at H; exact H
   clear H
   have H := H1
   clear H1
   by_cases c8 : a0 < a1
   ·rw [if_pos c8] at H
    have aft : decide (a0 < a1) = true := decide_eq_true c8
    clear c8
    obtain rfl := Option.some.inj H
    go_enter Try.func70, Try.ntmps70
    go_wp2_with (first | ((with_reducible refine aC (f := 97) rfl ?_); refine bR (some 8) rfl rfl Try.func97 (by kernel_rfl) rfl #[.int .i64 a0] rfl ar ?_; (with_reducible refine (cmp_isNaN_int.calls a0 false _ A3.out).mono ?_); rintro e w' ⟨rfl, ⟨nd, rfl⟩⟩; refine ⟨_, rfl, ?_⟩) | ((with_reducible refine aC (f := 97) rfl ?_); refine bR (some 10) rfl rfl Try.func97 (by kernel_rfl) rfl #[.int .i64 a1] rfl ar ?_; (with_reducible refine (cmp_isNaN_int.calls a1 false _ A4.out).mono ?_); rintro e w' ⟨rfl, ⟨nd, rfl⟩⟩; refine ⟨_, rfl, ?_⟩))
    go_ret
    exact ⟨by first | rfl | (simp; done) | (simp [*]; done), by repeat (first | exact dh.refl _ | apply dh.step)⟩
   ·rw [if_neg c8] at H
    have aft : decide (a0 < a1) = false := decide_eq_false c8
    clear c8
    by_cases c9 : a0 > a1
    ·rw [if_pos c9] at H
     have afG : decide (a1 < a0) = true := decide_eq_true c9
     clear c9
     obtain rfl := Option.some.inj H
     go_enter Try.func70, Try.ntmps70
     go_wp2_with (first | ((with_reducible refine aC (f := 97) rfl ?_); refine bR (some 8) rfl rfl Try.func97 (by kernel_rfl) rfl #[.int .i64 a0] rfl ar ?_; (with_reducible refine (cmp_isNaN_int.calls a0 false _ A3.out).mono ?_); rintro e w' ⟨rfl, ⟨nd, rfl⟩⟩; refine ⟨_, rfl, ?_⟩) | ((with_reducible refine aC (f := 97) rfl ?_); refine bR (some 10) rfl rfl Try.func97 (by kernel_rfl) rfl #[.int .i64 a1] rfl ar ?_; (with_reducible refine (cmp_isNaN_int.calls a1 false _ A4.out).mono ?_); rintro e w' ⟨rfl, ⟨nd, rfl⟩⟩; refine ⟨_, rfl, ?_⟩))
     go_ret
     exact ⟨by first | rfl | (simp; done) | (simp [*]; done), by repeat (first | exact dh.refl _ | apply dh.step)⟩
    ·rw [if_neg c9] at H
     have afG : decide (a1 < a0) = false := decide_eq_false c9
     clear c9
     obtain rfl := Option.some.inj H
     go_enter Try.func70, Try.ntmps70
     go_wp2_with (first | ((with_reducible refine aC (f := 97) rfl ?_); refine bR (some 8) rfl rfl Try.func97 (by kernel_rfl) rfl #[.int .i64 a0] rfl ar ?_; (with_reducible refine (cmp_isNaN_int.calls a0 false _ A3.out).mono ?_); rintro e w' ⟨rfl, ⟨nd, rfl⟩⟩; refine ⟨_, rfl, ?_⟩) | ((with_reducible refine aC (f := 97) rfl ?_); refine bR (some 10) rfl rfl Try.func97 (by kernel_rfl) rfl #[.int .i64 a1] rfl ar ?_; (with_reducible refine (cmp_isNaN_int.calls a1 false _ A4.out).mono ?_); rintro e w' ⟨rfl, ⟨nd, rfl⟩⟩; refine ⟨_, rfl, ?_⟩))
     go_ret
     exact ⟨by first | rfl | (simp; done) | (simp [*]; done), by repeat (first | exact dh.refl _ | apply dh.step)⟩
def mW.f (aQ : Int) (anL : List (S23)) (a1 : Int) : Option (Int) := (cmp_Compare_int.f aQ a1).bind fun ajX => (some ajX)
set_option maxHeartbeats 8000000 in
set_option maxRecDepth 100000 in
theorem mW.calls (aQ : Int) (au2 : Option Addr) (au3 : Nat) (anL : List (S23)) (a1 : Int) (r : Int) (w : World) (asW : Kd.C k23 w au2 anL.length anL) (asX : anL.length ≤ au3) (h : mW.f aQ anL a1 = some r) :
 Calls Try.prog 101 #[.agg #[.int .i64 aQ, .slice au2 anL.length au3], .int .i64 a1] w fun e w' => e = .returned (.int .i64 r) ∧ Below w.heap.size w w' := by
 have ao0 := Try.underlying70
 have aBU := am asW
 have aBV := am asX
 clear asW asX
 have HB := am (Below.refl w.heap.size w)
 have H : ((cmp_Compare_int.f aQ a1).bind fun ajX => (some ajX)) = some r := h
 clear h
 replace H := Option.bind_eq_some_iff.mp H
 obtain ⟨ajX, A30, H⟩ := H
 try dsimp only at H
 have A3 := am A30
 clear A30
 obtain rfl := Option.some.inj H
 go_enter Try.func101, Try.ntmps101
 go_wp2_with (first | ((with_reducible refine bq (N := 2) rfl ?_); refine bx 2 70 #[.int .i64 aQ, .slice au2 anL.length au3] ?_; intro ahS hg w4 dL hb; have ahT := am (dL); have aAG := am ((bz hg HB.out : w.heap.size ≤ ahS)); have asY := am ((bz hg HB.out : w.heap.size ≤ ahS)); replace HB := am (au (bl HB.out) hb); clear hb dL hg; have abD : w4.cell? ⟨ahS, 0, none⟩ = some (.int .i64 aQ) := bc ahT.out 0; have abE : w4.cell? ⟨ahS, 1, none⟩ = some (.slice au2 anL.length au3) := bc ahT.out 1; have abF := aj ahT.out 0; have abG := aj ahT.out 1) | ((with_reducible refine aC (f := 70) rfl ?_); refine bR (some 8) rfl rfl Try.func70 (by kernel_rfl) rfl #[.int .i64 aQ, .int .i64 a1] rfl ar ?_; (with_reducible refine (cmp_Compare_int.calls aQ a1 ajX _ A3.out).mono ?_); rintro e w' ⟨rfl, ⟨nd, rfl⟩⟩; refine ⟨_, rfl, ?_⟩))
 go_ret
 exact ⟨rt, bl1 HB.out asY.out⟩
def aD.l0 : Nat → List (S70) → Int → Int → Int → Int → Option (Int × Bool)
 | 0, _, _, _, _, _ => none
 | k + 1, x0, x1, x8, x9, x10 => if x9 < x10 then (if 0 ≤ (wrap64 ((IntKind.u64.wrap (wrap64 (x9 + x10))) / 2)) then (if (wrap64 ((IntKind.u64.wrap (wrap64 (x9 + x10))) / 2)) < (x0.length : Int) then ((mW.f ((aU x0 (wrap64 ((IntKind.u64.wrap (wrap64 (x9 + x10))) / 2))).f0) ((aU x0 (wrap64 ((IntKind.u64.wrap (wrap64 (x9 + x10))) / 2))).f1) x1).bind fun adB => (if adB < 0 then (aD.l0 k x0 x1 x8 (wrap64 ((wrap64 ((IntKind.u64.wrap (wrap64 (x9 + x10))) / 2)) + 1)) x10) else (aD.l0 k x0 x1 x8 x9 (wrap64 ((IntKind.u64.wrap (wrap64 (x9 + x10))) / 2))))) else (none)) else (none)) else (if x9 < x8 then (if 0 ≤ x9 then (if x9 < (x0.length : Int) then ((mW.f ((aU x0 x9).f0) ((aU x0 x9).f1) x1).bind fun ao1 => (some (x9, (ao1 == 0)))) else (none)) else (none)) else (some (x9, false)))
def aD.f (k : Nat) (l0 : List (S70)) (a1 : Int)  : Option (Int × Bool) := aD.l0 k l0 a1 (l0.length : Int) 0 (l0.length : Int)
theorem aD.iX : ∀ k, (∀ y0 y1 y2 y3 y4, LeO (aD.l0 k y0 y1 y2 y3 y4) (aD.l0 (k + 1) y0 y1 y2 y3 y4))
 | 0 => fun _ _ _ _ _ r h => by simp [aD.l0] at h
 | k + 1 => by
  have ih0 := aD.iX k
  ·intro y0 y1 y2 y3 y4
   unfold aD.l0
   repeat' first
   | (with_reducible exact ih0 _ _ _ _ _)
   | (with_reducible exact LeO.refl _)
   | (with_reducible exact LeO.none _)
   | (with_reducible refine LeO.ite ?_ ?_)
   | (with_reducible refine LeO.bind ?_ (fun _ => ?_))
   | exact ih0 _ _ _ _ _
   | exact LeO.none _
   | refine LeO.ite ?_ ?_
   | refine LeO.bind ?_ (fun _ => ?_)
theorem aD.mono : ∀ a0 a1 k, LeO (aD.f k a0 a1) (aD.f (k + 1) a0 a1) := by
 intro a0 a1 k
 have ih0 := aD.iX k
 unfold aD.f
 repeat' first
  | (with_reducible exact ih0 _ _ _ _ _)
  | (with_reducible exact LeO.refl _)
  | (with_reducible exact LeO.none _)
  | (with_reducible refine LeO.ite ?_ ?_)
  | (with_reducible refine LeO.bind ?_ (fun _ => ?_))
  | exact ih0 _ _ _ _ _
  | exact LeO.none _
  | refine LeO.ite ?_ ?_
  | refine LeO.bind ?_ (fun _ => ?_)
set_option maxHeartbeats 8000000 in
set_option maxRecDepth 100000 in
theorem aD.calls (k : Nat) (A0 : Option Addr) (c0 : Nat) (l0 : List (S70)) (a1 : Int)  (r1 : Int) (r2 : Bool) (w : World) (hr0 : Kd.C k70 w A0 l0.length l0) (hc0 : l0.length ≤ c0) (h : aD.f k l0 a1 = some (r1, r2)) :
 Calls Try.prog 100 #[.slice A0 l0.length c0, .int .i64 a1, .func (.func 101) #[] #[]] w fun e w' => e = .returned (.tuple #[.int .i64 r1, .bool r2]) ∧ Below w.heap.size w w' := by
 have ao0 := Try.underlying70
 have HR0 := am hr0
 have HC0 := am hc0
 clear hr0 hc0
 have HB := am (Below.refl w.heap.size w)
 have H : (aD.l0 k l0 a1 (l0.length : Int) 0 (l0.length : Int)) = some (r1, r2) := h
 clear h
 have H' := am H
 clear H
 go_enter Try.func100, Try.ntmps100
 go_wp2
 go_loopg [9, 10] k (fun kq v9 v10 w' => ∃ (kV : Int) (lS : Int), v9 = .int .i64 kV ∧ v10 = .int .i64 lS ∧ ay (aD.l0 kq l0 a1 (l0.length : Int) kV lS = some (r1, r2)) ∧ ay (kq ≤ k) ∧ ay (Below w.heap.size w w'))
 case atStart => exact ⟨(0), ((l0.length : Int)), sm, sm, H', ⟨Nat.le_refl _⟩, ⟨bl HB.out⟩⟩
 case round =>
  clear H'
  obtain ⟨kV, lS, rfl, rfl, HA, HK1, HB⟩ := hrel
  cases gk with
  | zero => exact absurd HA.out (by simp [aD.l0])
  | succ k1 =>
   have H := HA.out
   clear HA
   simp only [aD.l0] at H
   by_cases c4 : kV < lS
   ·rw [if_pos c4] at H
    have vv : decide (kV < lS) = true := decide_eq_true c4
    clear c4
    obtain ⟨ji5, uW⟩ : ∃ j_ : Int, (wrap64 ((IntKind.u64.wrap (wrap64 (kV + lS))) / 2)) = j_ := ⟨_, rfl⟩
    replace H : (if 0 ≤ (ji5) then (if (ji5) < (l0.length : Int) then ((mW.f ((aU l0 (ji5)).f0) ((aU l0 (ji5)).f1) a1).bind fun adB => (if adB < 0 then (aD.l0 k1 l0 a1 (l0.length : Int) (wrap64 ((ji5) + 1)) lS) else (aD.l0 k1 l0 a1 (l0.length : Int) kV ji5))) else (none)) else (none)) = some (r1, r2) := by first | (rw [uW] at H; exact H) | (simp only [uW] at H ⊢; exact H)
    have asZ : (IntKind.i64.wrap ((IntKind.u64.wrap (wrap64 (kV + lS))) / 2)) = ji5 := (jR _).trans uW
    by_cases c6 : 0 ≤ (ji5)
    case neg => rw [if_neg c6] at H; exact absurd H (by simp)
    rw [if_pos c6] at H
    have adw : decide (0 ≤ (ji5)) = true := decide_eq_true c6
    clear c6
    by_cases c7 : (ji5) < (l0.length : Int)
    case neg => rw [if_neg c7] at H; exact absurd H (by simp)
    rw [if_pos c7] at H
    have afE : decide ((ji5) < (l0.length : Int)) = true := decide_eq_true c7
    clear c7
    replace H := Option.bind_eq_some_iff.mp H
    obtain ⟨adB, A80, H⟩ := H
    try dsimp only at H
    have A8 := am A80
    clear A80
    by_cases c9 : adB < 0
    ·rw [if_pos c9] at H
     have afG : decide (adB < 0) = true := decide_eq_true c9
     clear c9
     have H' := am H
     clear H
     have afY : 0 ≤ ((ji5) : Int) := of_decide_eq_true asm
     have afZ : (ji5) < (l0.length : Int) := of_decide_eq_true asm
     obtain ⟨as0, ao2, ao3, ao4, vL, vM, zI, zJ⟩ := kZ HR0.out (ji5) afY afZ
     cases ao4
     replace vL := (HB.out.cell (World.block_lt_of_cell? w _ vL)).trans vL
     replace vM := (HB.out.cell (World.block_lt_of_cell? w _ vM)).trans vM
     have adC := am zJ
     have adD := am zI
     clear zJ zI
     replace afY := eq_true afY
     replace afZ := eq_true afZ
     go_wp2_with (first | (go_at_call 101; (with_reducible refine (mW.calls ((aU l0 (ji5)).f0) _ _ ((aU l0 (ji5)).f1) a1 adB _ ?bH ?bI A8.out).mono ?_); (case bH => exact kc (Kd.bf adC.out HB.out)); (case bI => exact adD.out); rintro e w10 ⟨rfl, hb⟩; replace HB := am (au (bl HB.out) hb); (try clear hb); (try clear hb2); (try clear hk); (try clear hi)))
     go_roundg k1
     case measure => have := HK1.out; omega
     case rel => exact ⟨(wrap64 ((ji5) + 1)), (lS), (by first | rfl | (simp; done) | (simp only [← uW] <;> (first | rfl | simp)) | (simp [*]; done)), sm, H', ⟨by have := HK1.out; omega⟩, ⟨bl HB.out⟩⟩
    ·rw [if_neg c9] at H
     have afG : decide (adB < 0) = false := decide_eq_false c9
     clear c9
     have H' := am H
     clear H
     have afY : 0 ≤ ((ji5) : Int) := of_decide_eq_true asm
     have afZ : (ji5) < (l0.length : Int) := of_decide_eq_true asm
     obtain ⟨as0, ao2, ao3, ao4, vL, vM, zI, zJ⟩ := kZ HR0.out (ji5) afY afZ
     cases ao4
     replace vL := (HB.out.cell (World.block_lt_of_cell? w _ vL)).trans vL
     replace vM := (HB.out.cell (World.block_lt_of_cell? w _ vM)).trans vM
     have adC := am zJ
     have adD := am zI
     clear zJ zI
     replace afY := eq_true afY
     replace afZ := eq_true afZ
     go_wp2_with (first | (go_at_call 101; (with_reducible refine (mW.calls ((aU l0 (ji5)).f0) _ _ ((aU l0 (ji5)).f1) a1 adB _ ?bH ?bI A8.out).mono ?_); (case bH => exact kc (Kd.bf adC.out HB.out)); (case bI => exact adD.out); rintro e w11 ⟨rfl, hb⟩; replace HB := am (au (bl HB.out) hb); (try clear hb); (try clear hb2); (try clear hk); (try clear hi)))
     go_roundg k1
     case measure => have := HK1.out; omega
     case rel => exact ⟨(kV), (ji5), sm, (by first | rfl | (simp; done) | (simp only [← uW] <;> (first | rfl | simp)) | (simp [*]; done)), H', ⟨by have := HK1.out; omega⟩, ⟨bl HB.out⟩⟩
   ·rw [if_neg c4] at H
    have vv : decide (kV < lS) = false := decide_eq_false c4
    clear c4
    by_cases c12 : kV < (l0.length : Int)
    ·rw [if_pos c12] at H
     have amy : decide (kV < (l0.length : Int)) = true := decide_eq_true c12
     clear c12
     by_cases c13 : 0 ≤ kV
     case neg => rw [if_neg c13] at H; exact absurd H (by simp)
     rw [if_pos c13] at H
     have yj : decide (0 ≤ kV) = true := decide_eq_true c13
     clear c13
     by_cases c14 : kV < (l0.length : Int)
     case neg => rw [if_neg c14] at H; exact absurd H (by simp)
     rw [if_pos c14] at H
     have wM : decide (kV < (l0.length : Int)) = true := decide_eq_true c14
     clear c14
     replace H := Option.bind_eq_some_iff.mp H
     obtain ⟨ao1, anM, H⟩ := H
     try dsimp only at H
     have A15 := am anM
     clear anM
     simp only [Option.some.injEq, Prod.mk.injEq] at H
     obtain ⟨rfl, rfl⟩ := H
     have ao5 : 0 ≤ (kV : Int) := of_decide_eq_true asm
     have ao6 : kV < (l0.length : Int) := of_decide_eq_true asm
     obtain ⟨aAH, aww, awx, awy, adE, adF, ahU, ahV⟩ := kZ HR0.out kV ao5 ao6
     cases awy
     replace adE := (HB.out.cell (World.block_lt_of_cell? w _ adE)).trans adE
     replace adF := (HB.out.cell (World.block_lt_of_cell? w _ adF)).trans adF
     have amz := am ahV
     have amA := am ahU
     clear ahV ahU
     replace ao5 := eq_true ao5
     replace ao6 := eq_true ao6
     go_wp2_with (first | (go_at_call 101; (with_reducible refine (mW.calls ((aU l0 kV).f0) _ _ ((aU l0 kV).f1) a1 ao1 _ ?bH ?bI A15.out).mono ?_); (case bH => exact kc (Kd.bf amz.out HB.out)); (case bI => exact amA.out); rintro e w16 ⟨rfl, hb⟩; replace HB := am (au (bl HB.out) hb); (try clear hb); (try clear hb2); (try clear hk); (try clear hi)))
     go_ret2
     exact ⟨rt, bl HB.out⟩
    ·rw [if_neg c12] at H
     have amy : decide (kV < (l0.length : Int)) = false := decide_eq_false c12
     clear c12
     simp only [Option.some.injEq, Prod.mk.injEq] at H
     obtain ⟨rfl, rfl⟩ := H
     go_wp2
     go_ret2
     exact ⟨rt, bl HB.out⟩
def iH.f (k : Nat) (aQ : Int) (aR : Int) (aH : List (List (S23))) (av : List (S70)) (a1 : Int) : Option (Int × Bool) := (aD.f k av a1).bind fun aeN => (some (aeN.1, aeN.2))
theorem iH.mono : ∀ a0 a1 a2 a3 a4 k, LeO (iH.f k a0 a1 a2 a3 a4) (iH.f (k + 1) a0 a1 a2 a3 a4) := by
 intro a0 a1 a2 a3 a4 k
 unfold iH.f
 repeat' first
  | (with_reducible exact aD.mono _ _ _)
  | (with_reducible exact LeO.refl _)
  | (with_reducible exact LeO.none _)
  | (with_reducible refine LeO.ite ?_ ?_)
  | (with_reducible refine LeO.bind ?_ (fun _ => ?_))
  | exact aD.mono _ _ _
  | exact LeO.none _
  | refine LeO.ite ?_ ?_
  | refine LeO.bind ?_ (fun _ => ?_)
set_option maxHeartbeats 8000000 in
set_option maxRecDepth 100000 in
theorem iH.calls (k : Nat) (aQ : Int) (aR : Int) (cu : Option Addr) (bW : Nat) (aH : List (List (S23))) (dz : Option Addr) (bZ : Nat) (av : List (S70)) (a1 : Int) (r1 : Int) (r2 : Bool) (w : World) (iF : Kd.C (Kd.slice 23 k23) w cu aH.length aH) (iG : aH.length ≤ bW) (iw : Kd.C k70 w dz av.length av) (iy : av.length ≤ bZ) (h : iH.f k aQ aR aH av a1 = some (r1, r2)) :
 Calls Try.prog 84 #[.agg #[.int .i64 aQ, .int .i64 aR, .slice cu aH.length bW, .slice dz av.length bZ], .int .i64 a1] w fun e w' => e = .returned (.tuple #[.int .i64 r1, .bool r2]) ∧ Below w.heap.size w w' := by
 have aaE := Try.underlying28
 have gF := am iF
 have gX := am iG
 clear iF iG
 have fK := am iw
 have gW := am iy
 clear iw iy
 have HB := am (Below.refl w.heap.size w)
 have H : ((aD.f k av a1).bind fun aeN => (some (aeN.1, aeN.2))) = some (r1, r2) := h
 clear h
 replace H := Option.bind_eq_some_iff.mp H
 obtain ⟨⟨awz, awC⟩, A30, H⟩ := H
 try dsimp only at H
 have A3 := am A30
 clear A30
 simp only [Option.some.injEq, Prod.mk.injEq] at H
 obtain ⟨rfl, rfl⟩ := H
 go_enter Try.func84, Try.ntmps84
 go_wp2_with (first | ((with_reducible refine bq (N := 2) rfl ?_); refine bx 2 28 #[.int .i64 aQ, .int .i64 aR, .slice cu aH.length bW, .slice dz av.length bZ] ?_; intro ac8 hg w4 dL hb; have yE := am (dL); have aAI := am ((bz hg HB.out : w.heap.size ≤ ac8)); have anN := am ((bz hg HB.out : w.heap.size ≤ ac8)); replace HB := am (au (bl HB.out) hb); clear hb dL hg; have abD : w4.cell? ⟨ac8, 0, none⟩ = some (.int .i64 aQ) := bc yE.out 0; have abE : w4.cell? ⟨ac8, 1, none⟩ = some (.int .i64 aR) := bc yE.out 1; have aeO : w4.cell? ⟨ac8, 2, none⟩ = some (.slice cu aH.length bW) := bc yE.out 2; have aeP : w4.cell? ⟨ac8, 3, none⟩ = some (.slice dz av.length bZ) := bc yE.out 3; have abF := aj yE.out 0; have abG := aj yE.out 1; have aeQ := aj yE.out 2; have aeR := aj yE.out 3) | ((with_reducible refine aC (f := 100) rfl ?_); refine bR (some 9) rfl rfl Try.func100 (by kernel_rfl) rfl #[.slice dz av.length bZ, .int .i64 a1, .func (.func 101) #[] #[]] rfl ar ?_; (with_reducible refine (aD.calls k _ _ av a1 awz awC _ ?bH ?bI A3.out).mono ?_); (case bH => exact kc (Kd.bf fK.out HB.out)); (case bI => exact gW.out); rintro e w6 ⟨rfl, hb⟩; refine ⟨_, rfl, ?_⟩; replace yE := am (ak (kp yE.out) hb); replace HB := am (au (bl1 HB.out anN.out) hb); (try clear hb); (try clear hb2); (try clear hk); (try clear hi)))
 go_ret2
 exact ⟨rt, bl1 HB.out anN.out⟩
def bits_Mul64.f (a0 : Int) (a1 : Int) : Option (Int × Int) := some (IntKind.u64.wrap ((IntKind.u64.wrap ((IntKind.u64.wrap ((a0 / 4294967296) * (a1 / 4294967296))) + ((IntKind.u64.wrap ((IntKind.u64.wrap ((a0 / 4294967296) * (Go.bits .and .u64 a1 4294967295))) + ((IntKind.u64.wrap ((Go.bits .and .u64 a0 4294967295) * (Go.bits .and .u64 a1 4294967295))) / 4294967296))) / 4294967296))) + ((IntKind.u64.wrap ((Go.bits .and .u64 (IntKind.u64.wrap ((IntKind.u64.wrap ((a0 / 4294967296) * (Go.bits .and .u64 a1 4294967295))) + ((IntKind.u64.wrap ((Go.bits .and .u64 a0 4294967295) * (Go.bits .and .u64 a1 4294967295))) / 4294967296))) 4294967295) + (IntKind.u64.wrap ((Go.bits .and .u64 a0 4294967295) * (a1 / 4294967296))))) / 4294967296)), IntKind.u64.wrap (a0 * a1))
set_option maxHeartbeats 8000000 in
set_option maxRecDepth 100000 in
theorem bits_Mul64.calls (a0 : Int) (a1 : Int) (r1 : Int) (r2 : Int) (w : World) (h : bits_Mul64.f a0 a1 = some (r1, r2)) :
 Calls Try.prog 102 #[.int .u64 a0, .int .u64 a1] w fun e w' => e = .returned (.tuple #[.int .u64 r1, .int .u64 r2]) ∧ dh w w' := by
 have H : (some (IntKind.u64.wrap ((IntKind.u64.wrap ((IntKind.u64.wrap ((a0 / 4294967296) * (a1 / 4294967296))) + ((IntKind.u64.wrap ((IntKind.u64.wrap ((a0 / 4294967296) * (Go.bits .and .u64 a1 4294967295))) + ((IntKind.u64.wrap ((Go.bits .and .u64 a0 4294967295) * (Go.bits .and .u64 a1 4294967295))) / 4294967296))) / 4294967296))) + ((IntKind.u64.wrap ((Go.bits .and .u64 (IntKind.u64.wrap ((IntKind.u64.wrap ((a0 / 4294967296) * (Go.bits .and .u64 a1 4294967295))) + ((IntKind.u64.wrap ((Go.bits .and .u64 a0 4294967295) * (Go.bits .and .u64 a1 4294967295))) / 4294967296))) 4294967295) + (IntKind.u64.wrap ((Go.bits .and .u64 a0 4294967295) * (a1 / 4294967296))))) / 4294967296)), IntKind.u64.wrap (a0 * a1))) = some (r1, r2) := h
 clear h
 simp only [Option.some.injEq, Prod.mk.injEq] at H
 obtain ⟨rfl, rfl⟩ := H
 go_enter Try.func102, Try.ntmps102
 go_wp2
 go_ret2
 exact ⟨by first | rfl | (simp; done) | (simp [*]; done), by repeat (first | exact dh.refl _ | apply dh.step)⟩
def dR.j0 : Nat → Int → Bool → Bool → Option (Int × Int)
 | 0, _, _, _ => none
 | k + 1, x0, x1, x6 => if x6 = true then (some (wrap64 (IntKind.u64.wrap (-x0)), 0)) else (if x1 = true then (some (0, 10)) else (if x0 ≤ 9223372036854775807 then (some (wrap64 (x0), 0)) else (some (0, 10))))
def dR.f (k : Nat) (a0 : Int) (a1 : Bool) : Option (Int × Int) := if a1 = true then (dR.j0 k a0 a1 (decide (a0 ≤ 9223372036854775808))) else (dR.j0 k a0 a1 false)
theorem dR.iX : ∀ k, (∀ y0 y1 y2, LeO (dR.j0 k y0 y1 y2) (dR.j0 (k + 1) y0 y1 y2))
 | 0 => fun _ _ _ r h => by simp [dR.j0] at h
 | k + 1 => by
  have ih0 := dR.iX k
  ·intro y0 y1 y2
   unfold dR.j0
   repeat' first
   | (with_reducible exact ih0 _ _ _)
   | (with_reducible exact LeO.refl _)
   | (with_reducible exact LeO.none _)
   | (with_reducible refine LeO.ite ?_ ?_)
   | (with_reducible refine LeO.bind ?_ (fun _ => ?_))
   | exact ih0 _ _ _
   | exact LeO.none _
   | refine LeO.ite ?_ ?_
   | refine LeO.bind ?_ (fun _ => ?_)
theorem dR.mono : ∀ a0 a1 k, LeO (dR.f k a0 a1) (dR.f (k + 1) a0 a1) := by
 intro a0 a1 k
 have ih0 := dR.iX k
 unfold dR.f
 repeat' first
  | (with_reducible exact ih0 _ _ _)
  | (with_reducible exact LeO.refl _)
  | (with_reducible exact LeO.none _)
  | (with_reducible refine LeO.ite ?_ ?_)
  | (with_reducible refine LeO.bind ?_ (fun _ => ?_))
  | exact ih0 _ _ _
  | exact LeO.none _
  | refine LeO.ite ?_ ?_
  | refine LeO.bind ?_ (fun _ => ?_)
set_option maxHeartbeats 8000000 in
set_option maxRecDepth 100000 in
theorem dR.calls (k : Nat) (a0 : Int) (a1 : Bool) (r1 : Int) (r2 : Int) (w : World) (h : dR.f k a0 a1 = some (r1, r2)) :
 Calls Try.prog 104 #[.int .u64 a0, .bool a1] w fun e w' => e = .returned (.tuple #[.int .i64 r1, .int .i64 r2]) ∧ dh w w' := by
 have H : (if a1 = true then (dR.j0 k a0 a1 (decide (a0 ≤ 9223372036854775808))) else (dR.j0 k a0 a1 false)) = some (r1, r2) := h
 clear h
 have HC3 := am H
 clear H
 go_enter Try.func104, Try.ntmps104
 go_upto_region 1 with (fail)
 go_cut [6] (fun v6 wc => ∃ (kq : Nat) (au4 : Bool), v6 = .bool au4 ∧ ay (dR.j0 kq a0 a1 au4 = some (r1, r2)) ∧ ay (kq ≤ k) ∧ dh w wc)
 case first =>
  have H := HC3.out
  clear HC3
  by_cases c4 : a1 = true
  ·subst c4
   have H1 : (dR.j0 k a0 true (decide (a0 ≤ 9223372036854775808))) = some (r1, r2) := by rw [if_pos rfl] at H; exact H
   clear H
   have H := H1
   clear H1
   have H' := am H
   clear H
   go_wp2
   go_meet
   case rel => exact ⟨_, (decide (a0 ≤ 9223372036854775808)), sm, H', ⟨by first | omega | exact Nat.le_refl _⟩, by repeat (first | exact dh.refl _ | apply dh.step)⟩
  ·replace c4 := Bool.eq_false_iff.mpr c4
   subst c4
   have H1 : (dR.j0 k a0 false false) = some (r1, r2) := by rw [if_neg (show ¬ (false = true) by decide)] at H; exact H
   clear H
   have H := H1
   clear H1
   have H' := am H
   clear H
   go_wp2
   go_meet
   case rel => exact ⟨_, (false), sm, H', ⟨by first | omega | exact Nat.le_refl _⟩, by repeat (first | exact dh.refl _ | apply dh.step)⟩
 case rest =>
  clear HC3
  obtain ⟨kq, au4, rfl, HA, HJ2, ⟨mc2, rfl⟩⟩ := hcut
  cases kq with
  | zero => exact absurd HA.out (by simp [dR.j0])
  | succ kj2 =>
   have H := HA.out
   clear HA
   simp only [dR.j0] at H
   by_cases c5 : au4 = true
   ·subst c5
    have H1 : (some (wrap64 (IntKind.u64.wrap (-a0)), 0)) = some (r1, r2) := by rw [if_pos rfl] at H; exact H
    clear H
    have H := H1
    clear H1
    simp only [Option.some.injEq, Prod.mk.injEq] at H
    obtain ⟨rfl, rfl⟩ := H
    go_wp2
    go_ret2
    exact ⟨by first | rfl | (simp; done) | (simp [*]; done), by repeat (first | exact dh.refl _ | apply dh.step)⟩
   ·replace c5 := Bool.eq_false_iff.mpr c5
    subst c5
    have H1 : (if a1 = true then (some (0, 10)) else (if a0 ≤ 9223372036854775807 then (some (wrap64 (a0), 0)) else (some (0, 10)))) = some (r1, r2) := by rw [if_neg (show ¬ (false = true) by decide)] at H; exact H
    clear H
    have H := H1
    clear H1
    by_cases c6 : a1 = true
    ·subst c6
     have H1 : (some (0, 10)) = some (r1, r2) := by rw [if_pos rfl] at H; exact H
     clear H
     have H := H1
     clear H1
     simp only [Option.some.injEq, Prod.mk.injEq] at H
     obtain ⟨rfl, rfl⟩ := H
     go_wp2
     go_ret2
     exact ⟨by first | rfl | (simp; done) | (simp [*]; done), by repeat (first | exact dh.refl _ | apply dh.step)⟩
    ·replace c6 := Bool.eq_false_iff.mpr c6
     subst c6
     have H1 : (if a0 ≤ 9223372036854775807 then (some (wrap64 (a0), 0)) else (some (0, 10))) = some (r1, r2) := by rw [if_neg (show ¬ (false = true) by decide)] at H; exact H
     clear H
     have H := H1
     clear H1
     by_cases c7 : a0 ≤ 9223372036854775807
     ·rw [if_pos c7] at H
      have afE : decide (a0 ≤ 9223372036854775807) = true := decide_eq_true c7
      clear c7
      simp only [Option.some.injEq, Prod.mk.injEq] at H
      obtain ⟨rfl, rfl⟩ := H
      go_wp2
      go_ret2
      exact ⟨by first | rfl | (simp; done) | (simp [*]; done), by repeat (first | exact dh.refl _ | apply dh.step)⟩
     ·rw [if_neg c7] at H
      have afE : decide (a0 ≤ 9223372036854775807) = false := decide_eq_false c7
      clear c7
      simp only [Option.some.injEq, Prod.mk.injEq] at H
      obtain ⟨rfl, rfl⟩ := H
      go_wp2
      go_ret2
      exact ⟨by first | rfl | (simp; done) | (simp [*]; done), by repeat (first | exact dh.refl _ | apply dh.step)⟩
def lq.f (a0 : Int) : Option (Int) := if a0 < 0 then (some (IntKind.u64.wrap (-(IntKind.u64.wrap (a0))))) else (some (IntKind.u64.wrap (a0)))
set_option maxHeartbeats 8000000 in
set_option maxRecDepth 100000 in
theorem lq.calls (a0 : Int) (r : Int) (w : World) (h : lq.f a0 = some r) :
 Calls Try.prog 103 #[.int .i64 a0] w fun e w' => e = .returned (.int .u64 r) ∧ dh w w' := by
 have H : (if a0 < 0 then (some (IntKind.u64.wrap (-(IntKind.u64.wrap (a0))))) else (some (IntKind.u64.wrap (a0)))) = some r := h
 clear h
 by_cases c2 : a0 < 0
 ·rw [if_pos c2] at H
  have ajF : decide (a0 < 0) = true := decide_eq_true c2
  clear c2
  obtain rfl := Option.some.inj H
  go_enter Try.func103, Try.ntmps103
  go_wp2
  go_ret
  exact ⟨by first | rfl | (simp; done) | (simp [*]; done), by repeat (first | exact dh.refl _ | apply dh.step)⟩
 ·rw [if_neg c2] at H
  have ajF : decide (a0 < 0) = false := decide_eq_false c2
  clear c2
  obtain rfl := Option.some.inj H
  go_enter Try.func103, Try.ntmps103
  go_wp2
  go_ret
  exact ⟨by first | rfl | (simp; done) | (simp [*]; done), by repeat (first | exact dh.refl _ | apply dh.step)⟩
def nA.f (k : Nat) (a0 : Int) (a1 : Int) : Option (Int × Int) := (lq.f a0).bind fun acV => ((lq.f a1).bind fun acW => ((bits_Mul64.f acV acW).bind fun aeS => (if aeS.1 = 0 then ((dR.f k aeS.2 ((decide (a0 < 0)) != (decide (a1 < 0)))).bind fun aeT => (some (aeT.1, aeT.2))) else (some (0, 10)))))
theorem nA.mono : ∀ a0 a1 k, LeO (nA.f k a0 a1) (nA.f (k + 1) a0 a1) := by
 intro a0 a1 k
 unfold nA.f
 repeat' first
  | (with_reducible exact dR.mono _ _ _)
  | (with_reducible exact LeO.refl _)
  | (with_reducible exact LeO.none _)
  | (with_reducible refine LeO.ite ?_ ?_)
  | (with_reducible refine LeO.bind ?_ (fun _ => ?_))
  | exact dR.mono _ _ _
  | exact LeO.none _
  | refine LeO.ite ?_ ?_
  | refine LeO.bind ?_ (fun _ => ?_)
set_option maxHeartbeats 8000000 in
set_option maxRecDepth 100000 in
theorem nA.calls (k : Nat) (a0 : Int) (a1 : Int) (r1 : Int) (r2 : Int) (w : World) (h : nA.f k a0 a1 = some (r1, r2)) :
 Calls Try.prog 86 #[.int .i64 a0, .int .i64 a1] w fun e w' => e = .returned (.tuple #[.int .i64 r1, .int .i64 r2]) ∧ dh w w' := by
 have H : ((lq.f a0).bind fun acV => ((lq.f a1).bind fun acW => ((bits_Mul64.f acV acW).bind fun aeS => (if aeS.1 = 0 then ((dR.f k aeS.2 ((decide (a0 < 0)) != (decide (a1 < 0)))).bind fun aeT => (some (aeT.1, aeT.2))) else (some (0, 10)))))) = some (r1, r2) := h
 clear h
 replace H := Option.bind_eq_some_iff.mp H
 obtain ⟨acV, A30, H⟩ := H
 try dsimp only at H
 have A3 := am A30
 clear A30
 replace H := Option.bind_eq_some_iff.mp H
 obtain ⟨acW, A40, H⟩ := H
 try dsimp only at H
 have A4 := am A40
 clear A40
 replace H := Option.bind_eq_some_iff.mp H
 obtain ⟨⟨af0, amB⟩, A50, H⟩ := H
 try dsimp only at H
 have A5 := am A50
 clear A50
 by_cases c6 : af0 = 0
 ·rw [if_pos c6] at H
  have adw : (af0 == 0) = true := beq_iff_eq.mpr c6
  have anO : (af0 != 0) = false := bne_eq_false_iff_eq.mpr c6
  clear c6
  replace H := Option.bind_eq_some_iff.mp H
  obtain ⟨⟨awD, awE⟩, A70, H⟩ := H
  try dsimp only at H
  have A7 := am A70
  clear A70
  simp only [Option.some.injEq, Prod.mk.injEq] at H
  obtain ⟨rfl, rfl⟩ := H
  go_enter Try.func86, Try.ntmps86
  go_wp2_with (first | ((with_reducible refine aC (f := 103) rfl ?_); refine bR (some 10) rfl rfl Try.func103 (by kernel_rfl) rfl #[.int .i64 a0] rfl ar ?_; (with_reducible refine (lq.calls a0 acV _ A3.out).mono ?_); rintro e w' ⟨rfl, ⟨nd, rfl⟩⟩; refine ⟨_, rfl, ?_⟩) | ((with_reducible refine aC (f := 103) rfl ?_); refine bR (some 12) rfl rfl Try.func103 (by kernel_rfl) rfl #[.int .i64 a1] rfl ar ?_; (with_reducible refine (lq.calls a1 acW _ A4.out).mono ?_); rintro e w' ⟨rfl, ⟨nd, rfl⟩⟩; refine ⟨_, rfl, ?_⟩) | ((with_reducible refine aC (f := 102) rfl ?_); refine bR (some 13) rfl rfl Try.func102 (by kernel_rfl) rfl #[.int .u64 acV, .int .u64 acW] rfl ar ?_; (with_reducible refine (bits_Mul64.calls acV acW af0 amB _ A5.out).mono ?_); rintro e w' ⟨rfl, ⟨nd, rfl⟩⟩; refine ⟨_, rfl, ?_⟩) | ((with_reducible refine aC (f := 104) rfl ?_); refine bR (some 24) rfl rfl Try.func104 (by kernel_rfl) rfl #[.int .u64 amB, .bool ((decide (a0 < 0)) != (decide (a1 < 0)))] rfl ar ?_; (with_reducible refine (dR.calls k amB ((decide (a0 < 0)) != (decide (a1 < 0))) awD awE _ A7.out).mono ?_); rintro e w' ⟨rfl, ⟨nd, rfl⟩⟩; refine ⟨_, rfl, ?_⟩))
  go_ret2
  exact ⟨by first | rfl | (simp; done) | (simp [*]; done), by repeat (first | exact dh.refl _ | apply dh.step)⟩
 ·rw [if_neg c6] at H
  have adw : (af0 == 0) = false := beq_eq_false_iff_ne.mpr c6
  have anO : (af0 != 0) = true := bne_iff_ne.mpr c6
  simp only [Option.some.injEq, Prod.mk.injEq] at H
  obtain ⟨rfl, rfl⟩ := H
  go_enter Try.func86, Try.ntmps86
  go_wp2_with (first | ((with_reducible refine aC (f := 103) rfl ?_); refine bR (some 10) rfl rfl Try.func103 (by kernel_rfl) rfl #[.int .i64 a0] rfl ar ?_; (with_reducible refine (lq.calls a0 acV _ A3.out).mono ?_); rintro e w' ⟨rfl, ⟨nd, rfl⟩⟩; refine ⟨_, rfl, ?_⟩) | ((with_reducible refine aC (f := 103) rfl ?_); refine bR (some 12) rfl rfl Try.func103 (by kernel_rfl) rfl #[.int .i64 a1] rfl ar ?_; (with_reducible refine (lq.calls a1 acW _ A4.out).mono ?_); rintro e w' ⟨rfl, ⟨nd, rfl⟩⟩; refine ⟨_, rfl, ?_⟩) | ((with_reducible refine aC (f := 102) rfl ?_); refine bR (some 13) rfl rfl Try.func102 (by kernel_rfl) rfl #[.int .u64 acV, .int .u64 acW] rfl ar ?_; (with_reducible refine (bits_Mul64.calls acV acW af0 amB _ A5.out).mono ?_); rintro e w' ⟨rfl, ⟨nd, rfl⟩⟩; refine ⟨_, rfl, ?_⟩))
  go_ret2
  exact ⟨by first | rfl | (simp; done) | (simp [*]; done), by repeat (first | exact dh.refl _ | apply dh.step)⟩
end Go.Proofs.Ytmbmalkpmanaaaa.P

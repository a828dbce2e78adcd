/- Lemmas for laws of chapter 7: what the functions that they reach compute. No condition of its own. -/
import Derived.Test.YtmbmalkpmanaaaaYG4
import Derived.Test.YtmbmalkpmanaaaaYG2
import Derived.Test.YtmbmalkpmanaaaaYG7
import Derived.Laws.EntriesVeiled
import Derived.WalkSpells
import Derived.WalkKit
import Derived.OwnWalk
import Derived.BigQuiet
namespace Go.Proofs.Ytmbmalkpmanaaaa.P
open Go.RowKit Go.Proofs.YtmbmalkpmanaaaaW.aK Go.Proofs.YtmbmalkpmanaaaaW.bK Go.Proofs.YtmbmalkpmanaaaaW.bM
attribute [local go_sem] dS dU fG fH dB dD dV dW   -- for this text's walks alone
set_option linter.unusedVariables false
set_option linter.unusedSimpArgs false
def bg.l0 : Nat → Int → Int → Bool → List (S70) → Int → Int → Int → Option (Int × Bool)
 | 0, _, _, _, _, _, _, _ => none
 | k + 1, x1, x8, x9, x25, x26, x27, x201000 => if x27 < x26 then (if 0 ≤ x27 then (if x27 < (x25.length : Int) then ((eD.f ((aU x25 x27).f1)).bind fun agi => (if agi.2.2 = true then ((mR.f agi.1 agi.2.1 x1).bind fun ako => (if ako = true then (if x9 = true then (if (wrap64 ((wrap64 (((aU x25 x27).f0) - x8)) * x201000)) < 0 then (bg.l0 k x1 ((aU x25 x27).f0) true x25 x26 (wrap64 (x27 + 1)) x201000) else (bg.l0 k x1 x8 x9 x25 x26 (wrap64 (x27 + 1)) x201000)) else (bg.l0 k x1 ((aU x25 x27).f0) true x25 x26 (wrap64 (x27 + 1)) x201000)) else (bg.l0 k x1 x8 x9 x25 x26 (wrap64 (x27 + 1)) x201000))) else (bg.l0 k x1 x8 x9 x25 x26 (wrap64 (x27 + 1)) x201000))) else (none)) else (none)) else (some (x8, x9))
def bg.f (k : Nat) (aQ : Int) (aR : Int) (aH : List (List (S23))) (av : List (S70)) (a1 : Int)  : Option (Int × Bool) := (bT.f k aQ aR aH av (mx (mn a1 1099511627777) (-1099511627777))).bind fun sZ => (bg.l0 k (mx (mn a1 1099511627777) (-1099511627777)) sZ.1 sZ.2 av (av.length : Int) 0 1)
theorem bg.iX : ∀ k, (∀ y0 y1 y2 y3 y4 y5 y6, LeO (bg.l0 k y0 y1 y2 y3 y4 y5 y6) (bg.l0 (k + 1) y0 y1 y2 y3 y4 y5 y6))
 | 0 => fun _ _ _ _ _ _ _ r h => by simp [bg.l0] at h
 | k + 1 => by
  have ih0 := bg.iX k
  ·intro y0 y1 y2 y3 y4 y5 y6
   unfold bg.l0
   repeat' first
   | (with_reducible exact ih0 _ _ _ _ _ _ _)
   | (with_reducible exact bT.mono _ _ _ _ _ _)
   | (with_reducible exact LeO.refl _)
   | (with_reducible exact LeO.none _)
   | (with_reducible refine LeO.ite ?_ ?_)
   | (with_reducible refine LeO.bind ?_ (fun _ => ?_))
   | exact ih0 _ _ _ _ _ _ _
   | exact bT.mono _ _ _ _ _ _
   | exact LeO.none _
   | refine LeO.ite ?_ ?_
   | refine LeO.bind ?_ (fun _ => ?_)
theorem bg.mono : ∀ a0 a1 a2 a3 a4 k, LeO (bg.f k a0 a1 a2 a3 a4) (bg.f (k + 1) a0 a1 a2 a3 a4) := by
 intro a0 a1 a2 a3 a4 k
 have ih0 := bg.iX k
 unfold bg.f
 repeat' first
  | (with_reducible exact ih0 _ _ _ _ _ _ _)
  | (with_reducible exact bT.mono _ _ _ _ _ _)
  | (with_reducible exact LeO.refl _)
  | (with_reducible exact LeO.none _)
  | (with_reducible refine LeO.ite ?_ ?_)
  | (with_reducible refine LeO.bind ?_ (fun _ => ?_))
  | exact ih0 _ _ _ _ _ _ _
  | exact bT.mono _ _ _ _ _ _
  | exact LeO.none _
  | refine LeO.ite ?_ ?_
  | refine LeO.bind ?_ (fun _ => ?_)
set_option maxHeartbeats 8000000 in
set_option maxRecDepth 100000 in
theorem bg.calls (k : Nat) (aQ : Int) (aR : Int) (cu : Option Addr) (bW : Nat) (aH : List (List (S23))) (dz : Option Addr) (bZ : Nat) (av : List (S70)) (a1 : Int)  (r1 : Int) (r2 : Bool) (w : World) (iF : Kd.C (Kd.slice 23 k23) w cu aH.length aH) (iG : aH.length ≤ bW) (iw : Kd.C k70 w dz av.length av) (iy : av.length ≤ bZ) (h : bg.f k aQ aR aH av a1 = some (r1, r2)) :
 Calls Try.prog 58 #[.agg #[.int .i64 aQ, .int .i64 aR, .slice cu aH.length bW, .slice dz av.length bZ], .int .i64 a1, .agg #[.int .i64 1, .func (.func 25) #[] #[], .func (.func 88) #[] #[], .func (.func 89) #[] #[]]] w fun e w' => e = .returned (.tuple #[.int .i64 r1, .bool r2]) ∧ Below w.heap.size w w' := by
 have aaE := Try.underlying28
 have awj := Try.underlying79
 have ao0 := Try.underlying70
 have afs := Try.underlying23
 have gF := am iF
 have gX := am iG
 clear iF iG
 have fK := am iw
 have gW := am iy
 clear iw iy
 have HB := am (Below.refl w.heap.size w)
 have H : ((bT.f k aQ aR aH av (mx (mn a1 1099511627777) (-1099511627777))).bind fun sZ => (bg.l0 k (mx (mn a1 1099511627777) (-1099511627777)) sZ.1 sZ.2 av (av.length : Int) 0 1)) = some (r1, r2) := h
 clear h
 obtain ⟨ji4, akp⟩ : ∃ j_ : Int, (mn a1 1099511627777) = j_ := ⟨_, rfl⟩
 replace H : ((bT.f k aQ aR aH av (mx (ji4) (-1099511627777))).bind fun sZ => (bg.l0 k (mx (ji4) (-1099511627777)) sZ.1 sZ.2 av (av.length : Int) 0 1)) = some (r1, r2) := by first | (rw [akp] at H; exact H) | (simp only [akp] at H ⊢; exact H)
 (try (have axo : ji4 ≤ 1099511627777 := by (rw [← akp]; unfold mn; (repeat' split) <;> omega)))
 (try (have axp : ji4 ≤ 64 := by omega))
 have axq : (if 1099511627777 < a1 then 1099511627777 else a1) = ji4 := akp
 obtain ⟨ji5, uW⟩ : ∃ j_ : Int, (mx (ji4) (-1099511627777)) = j_ := ⟨_, rfl⟩
 replace H : ((bT.f k aQ aR aH av (ji5)).bind fun sZ => (bg.l0 k ji5 sZ.1 sZ.2 av (av.length : Int) 0 1)) = some (r1, r2) := by first | (rw [uW] at H; exact H) | (simp only [uW] at H ⊢; exact H)
 have apI : (if (ji4) < (-1099511627777) then (-1099511627777) else (ji4)) = ji5 := uW
 replace H := Option.bind_eq_some_iff.mp H
 obtain ⟨⟨t201, atf⟩, A60, H⟩ := H
 try dsimp only at H
 have A6 := am A60
 clear A60
 have H' := am H
 clear H
 go_enter Try.func58, Try.ntmps58
 go_wp2_with (first | ((with_reducible refine bq (N := 3) rfl ?_); refine bx 3 28 #[.int .i64 aQ, .int .i64 aR, .slice cu aH.length bW, .slice dz av.length bZ] ?_; intro iA hg w7 dL hb; have dH := am (dL); have axr := am ((bz hg HB.out : w.heap.size ≤ iA)); have fO := am ((bz hg HB.out : w.heap.size ≤ iA)); replace HB := am (au (bl HB.out) hb); clear hb dL hg) | ((with_reducible refine bq (N := 5) rfl ?_); refine bx 5 79 #[.int .i64 1, .func (.func 25) #[] #[], .func (.func 88) #[] #[], .func (.func 89) #[] #[]] ?_; intro fC hg w8 dL hb; have bL := am (dL); have axt := am ((bz1 hg HB.out fO.out : w.heap.size ≤ fC)); have fV := am ((bz1 hg HB.out fO.out : w.heap.size ≤ fC)); replace HB := am (au (bl1 HB.out fO.out) hb); have nN := am ((nl hg dH.out : iA ≠ fC)); have nO := am ((ng hg dH.out : fC ≠ iA)); replace dH := am (ak (kp dH.out) hb); clear hb dL hg; have aBY := nN.out; have aBZ := nO.out; have qJ : w8.cell? ⟨iA, 0, none⟩ = some (.int .i64 aQ) := bc dH.out 0; have qK : w8.cell? ⟨iA, 1, none⟩ = some (.int .i64 aR) := bc dH.out 1; have rZ : w8.cell? ⟨iA, 2, none⟩ = some (.slice cu aH.length bW) := bc dH.out 2; have r9 : w8.cell? ⟨iA, 3, none⟩ = some (.slice dz av.length bZ) := bc dH.out 3; have qL := aj dH.out 0; have qM := aj dH.out 1; have sj := aj dH.out 2; have su := aj dH.out 3; have mg : w8.cell? ⟨fC, 0, none⟩ = some (.int .i64 1) := bc bL.out 0; have mh : w8.cell? ⟨fC, 1, none⟩ = some (.func (.func 25) #[] #[]) := bc bL.out 1; have mX : w8.cell? ⟨fC, 2, none⟩ = some (.func (.func 88) #[] #[]) := bc bL.out 2; have mY : w8.cell? ⟨fC, 3, none⟩ = some (.func (.func 89) #[] #[]) := bc bL.out 3; have mq := aj bL.out 0; have mD := aj bL.out 1; have mZ := aj bL.out 2; have ni := aj bL.out 3) | ((with_reducible refine aC (f := 87) rfl ?_); refine bR (some 21) rfl rfl Try.func87 (by kernel_rfl) rfl #[.agg #[.int .i64 aQ, .int .i64 aR, .slice cu aH.length bW, .slice dz av.length bZ], .int .i64 ji5, .agg #[.int .i64 1, .func (.func 25) #[] #[], .func (.func 88) #[] #[], .func (.func 89) #[] #[]]] rfl (by (try simp only [List.map_toArray, List.map_cons, List.map_nil]); first | done | (simp only [uW]; rfl) | rfl | (simp only [List.length_drop, List.length_take]; rfl)) ?_; (with_reducible refine (bT.calls k aQ aR _ _ aH _ _ av ji5 t201 atf _ ?bH ?bI ?dG ?dI A6.out).mono ?_); (case bH => exact kc (Kd.bf gF.out HB.out)); (case bI => exact gX.out); (case dG => exact kc (Kd.bf fK.out HB.out)); (case dI => exact gW.out); rintro e w12 ⟨rfl, hb⟩; refine ⟨_, rfl, ?_⟩; replace dH := am (ak (kp dH.out) hb); replace bL := am (ak (kp bL.out) hb); replace HB := am (au (bl2 HB.out fO.out fV.out) hb); (try clear hb); (try clear hb2); (try clear hk); (try clear hi); have sw : w12.cell? ⟨iA, 0, none⟩ = some (.int .i64 aQ) := bc dH.out 0; have sD : w12.cell? ⟨iA, 1, none⟩ = some (.int .i64 aR) := bc dH.out 1; have uL : w12.cell? ⟨iA, 2, none⟩ = some (.slice cu aH.length bW) := bc dH.out 2; have uM : w12.cell? ⟨iA, 3, none⟩ = some (.slice dz av.length bZ) := bc dH.out 3; have sF := aj dH.out 0; have sG := aj dH.out 1; have uN := aj dH.out 2; have uO := aj dH.out 3))
 go_loopg [8, 9, 27] k (fun kq v8 v9 v27 w' => ∃ (lG : Int) (kV : Bool) (cK : Int), v8 = .int .i64 lG ∧ v9 = .bool kV ∧ v27 = .int .i64 cK ∧ ay (bg.l0 kq ji5 lG kV av (av.length : Int) cK 1 = some (r1, r2)) ∧ ay (kq ≤ k) ∧ ay (w'.heap[iA]? = some (.cells #[.int .i64 aQ, .int .i64 aR, (.slice cu aH.length bW), (.slice dz av.length bZ)] 28 (0, 0))) ∧ ay (w'.heap[fC]? = some (.cells #[.int .i64 1, (.func (.func 25) #[] #[]), (.func (.func 88) #[] #[]), (.func (.func 89) #[] #[])] 79 (0, 0))) ∧ ay (Below w.heap.size w w'))
 case atStart => exact ⟨(t201), (atf), (0), sm, sm, sm, H', ⟨Nat.le_refl _⟩, ⟨kp dH.out⟩, ⟨kp bL.out⟩, ⟨bl2 HB.out fO.out fV.out⟩⟩
 case round =>
  clear H'
  try clear qJ
  try clear qK
  try clear rZ
  try clear r9
  try clear mg
  try clear mh
  try clear mX
  try clear mY
  try clear sw
  try clear sD
  try clear uL
  try clear uM
  try clear qL
  try clear qM
  try clear sj
  try clear su
  try clear mq
  try clear mD
  try clear mZ
  try clear ni
  try clear sF
  try clear sG
  try clear uN
  try clear uO
  obtain ⟨lG, kV, cK, rfl, rfl, rfl, HA, HK1, dH, bL, HB⟩ := hrel
  cases gk with
  | zero => exact absurd HA.out (by simp [bg.l0])
  | succ k1 =>
   have H := HA.out
   clear HA
   simp only [bg.l0] at H
   by_cases c14 : cK < (av.length : Int)
   ·rw [if_pos c14] at H
    have wM : decide (cK < (av.length : Int)) = true := decide_eq_true c14
    clear c14
    by_cases c15 : 0 ≤ cK
    case neg => rw [if_neg c15] at H; exact absurd H (by simp)
    rw [if_pos c15] at H
    have abC : decide (0 ≤ cK) = true := decide_eq_true c15
    clear c15
    by_cases c16 : cK < (av.length : Int)
    case neg => rw [if_neg c16] at H; exact absurd H (by simp)
    rw [if_pos c16] at H
    have apJ : decide (cK < (av.length : Int)) = true := decide_eq_true c16
    clear c16
    replace H := Option.bind_eq_some_iff.mp H
    obtain ⟨⟨wN, t206, axu⟩, A170, H⟩ := H
    try dsimp only at H
    have A17 := am A170
    clear A170
    by_cases c18 : axu = true
    ·subst c18
     have H1 : ((mR.f wN t206 ji5).bind fun ako => (if ako = true then (if kV = true then (if (wrap64 ((wrap64 (((aU av cK).f0) - lG)) * 1)) < 0 then (bg.l0 k1 ji5 ((aU av cK).f0) true av (av.length : Int) (wrap64 (cK + 1)) 1) else (bg.l0 k1 ji5 lG kV av (av.length : Int) (wrap64 (cK + 1)) 1)) else (bg.l0 k1 ji5 ((aU av cK).f0) true av (av.length : Int) (wrap64 (cK + 1)) 1)) else (bg.l0 k1 ji5 lG kV av (av.length : Int) (wrap64 (cK + 1)) 1))) = some (r1, r2) := by rw [if_pos rfl] at H; exact H
     clear H
     have H := H1
     clear H1
     replace H := Option.bind_eq_some_iff.mp H
     obtain ⟨ako, atg, H⟩ := H
     try dsimp only at H
     have A19 := am atg
     clear atg
     by_cases c20 : ako = true
     ·subst c20
      have H1 : (if kV = true then (if (wrap64 ((wrap64 (((aU av cK).f0) - lG)) * 1)) < 0 then (bg.l0 k1 ji5 ((aU av cK).f0) true av (av.length : Int) (wrap64 (cK + 1)) 1) else (bg.l0 k1 ji5 lG kV av (av.length : Int) (wrap64 (cK + 1)) 1)) else (bg.l0 k1 ji5 ((aU av cK).f0) true av (av.length : Int) (wrap64 (cK + 1)) 1)) = some (r1, r2) := by rw [if_pos rfl] at H; exact H
      clear H
      have H := H1
      clear H1
      by_cases c21 : kV = true
      ·subst c21
       have H1 : (if (wrap64 ((wrap64 (((aU av cK).f0) - lG)) * 1)) < 0 then (bg.l0 k1 ji5 ((aU av cK).f0) true av (av.length : Int) (wrap64 (cK + 1)) 1) else (bg.l0 k1 ji5 lG true av (av.length : Int) (wrap64 (cK + 1)) 1)) = some (r1, r2) := by rw [if_pos rfl] at H; exact H
       clear H
       have H := H1
       clear H1
       by_cases c22 : (wrap64 ((wrap64 (((aU av cK).f0) - lG)) * 1)) < 0
       ·rw [if_pos c22] at H
        have yt : decide ((wrap64 ((wrap64 (((aU av cK).f0) - lG)) * 1)) < 0) = true := decide_eq_true c22
        (try simp only [Int.mul_one, Int.mul_neg, Int.add_zero] at yt)
        clear c22
        have H' := am H
        clear H
        have vN : 0 ≤ (cK : Int) := of_decide_eq_true asm
        have vO : cK < (av.length : Int) := of_decide_eq_true asm
        obtain ⟨qw, jm, jo, e203, iI, iJ, jE, jF⟩ := kZ fK.out cK vN vO
        cases e203
        replace iI := (HB.out.cell (World.block_lt_of_cell? w _ iI)).trans iI
        replace iJ := (HB.out.cell (World.block_lt_of_cell? w _ iJ)).trans iJ
        have mE := am jF
        have mF := am jE
        clear jF jE
        replace vN := eq_true vN
        replace vO := eq_true vO
        go_wp2_with (first | ((with_reducible refine bq (N := 11) rfl ?_); refine bx 11 70 #[.int .i64 0, .slice none 0 0] ?_; intro eP hg w23 dL hb; have dY := am (dL); have adS := am ((bz2 hg HB.out fO.out fV.out : w.heap.size ≤ eP)); have iN := am ((bz2 hg HB.out fO.out fV.out : w.heap.size ≤ eP)); replace HB := am (au (bl2 HB.out fO.out fV.out) hb); have gP := am ((nl hg dH.out : iA ≠ eP)); have jG := am ((ng hg dH.out : eP ≠ iA)); replace dH := am (ak (kp dH.out) hb); have gQ := am ((nl hg bL.out : fC ≠ eP)); have jH := am ((ng hg bL.out : eP ≠ fC)); replace bL := am (ak (kp bL.out) hb); clear hb dL hg; have aoQ := jG.out; have aoR := gP.out; have axv := jH.out; have axw := gQ.out; have af4 : w23.cell? ⟨eP, 0, none⟩ = some (.int .i64 0) := bc dY.out 0; have af5 : w23.cell? ⟨eP, 1, none⟩ = some (.slice none 0 0) := bc dY.out 1; have af6 := aj dY.out 0; have af7 := aj dY.out 1) | ((with_reducible refine aC (f := 43) rfl ?_); refine bR (some 34) rfl rfl Try.func43 (by kernel_rfl) rfl #[.slice jm ((aU av cK).f1).length jo] rfl ar ?_; (with_reducible refine (eD.calls _ _ ((aU av cK).f1) wN t206 true _ ?bH ?bI A17.out).mono ?_); (case bH => exact Kd.bf mE.out (bl3 HB.out fO.out fV.out iN.out)); (case bI => exact mF.out); rintro e w27 ⟨rfl, hb⟩; refine ⟨_, rfl, ?_⟩; replace dH := am (ak (g := iA) (o := .cells #[.int .i64 aQ, .int .i64 aR, .slice cu aH.length bW, .slice (some qw) av.length bZ] 28 (0, 0)) (kf dH.out gP.out) hb); replace bL := am (ak (g := fC) (o := .cells #[.int .i64 1, .func (.func 25) #[] #[], .func (.func 88) #[] #[], .func (.func 89) #[] #[]] 79 (0, 0)) (kf bL.out gQ.out) hb); replace dY := am (ak (g := eP) (o := .cells #[.int .i64 ((aU av cK).f0), .slice jm ((aU av cK).f1).length jo] 70 (0, 0)) (by (with_reducible repeat (first | refine aM ?_ _ | refine aI ?_ | refine aA ?_ _)); refine bX (cs := #[.int .i64 ((aU av cK).f0), .slice none 0 0]) ?_ 1 _ rfl; (with_reducible repeat (first | refine aM ?_ _ | refine aI ?_ | refine aA ?_ _)); refine bX (cs := #[.int .i64 0, .slice none 0 0]) ?_ 0 _ rfl; (with_reducible repeat (first | refine aM ?_ _ | refine aI ?_ | refine aA ?_ _)); exact dY.out) hb); replace HB := am (au (bl3 HB.out fO.out fV.out iN.out) hb); (try clear hb); (try clear hb2); (try clear hk); (try clear hi)) | ((with_reducible refine bq (N := 12) rfl ?_); refine bx 12 23 #[.int .i64 0, .int .i64 0] ?_; intro fI hg w28 dL hb; have jq := am (dL); have adT := am ((bz3 hg HB.out fO.out fV.out iN.out : w.heap.size ≤ fI)); have qx := am ((bz3 hg HB.out fO.out fV.out iN.out : w.heap.size ≤ fI)); replace HB := am (au (bl3 HB.out fO.out fV.out iN.out) hb); have gU := am ((nl hg dH.out : iA ≠ fI)); have jI := am ((ng hg dH.out : fI ≠ iA)); replace dH := am (ak (kp dH.out) hb); have gV := am ((nl hg bL.out : fC ≠ fI)); have jJ := am ((ng hg bL.out : fI ≠ fC)); replace bL := am (ak (kp bL.out) hb); have iC := am ((nl hg dY.out : eP ≠ fI)); have jK := am ((ng hg dY.out : fI ≠ eP)); replace dY := am (ak (kp dY.out) hb); clear hb dL hg; have aoS := jI.out; have aoT := gU.out; have ath := jJ.out; have ati := gV.out; have axx := jK.out; have axy := iC.out; have adO : w28.cell? ⟨fI, 0, none⟩ = some (.int .i64 0) := bc jq.out 0; have adP : w28.cell? ⟨fI, 1, none⟩ = some (.int .i64 0) := bc jq.out 1; have adQ := aj jq.out 0; have adR := aj jq.out 1; have axz := nO.out; have axA := nN.out; have af8 : w28.cell? ⟨fC, 0, none⟩ = some (.int .i64 1) := bc bL.out 0; have af9 : w28.cell? ⟨fC, 1, none⟩ = some (.func (.func 25) #[] #[]) := bc bL.out 1; have aga : w28.cell? ⟨fC, 2, none⟩ = some (.func (.func 88) #[] #[]) := bc bL.out 2; have agb : w28.cell? ⟨fC, 3, none⟩ = some (.func (.func 89) #[] #[]) := bc bL.out 3; have agc := aj bL.out 0; have agd := aj bL.out 1; have agf := aj bL.out 2; have agh := aj bL.out 3) | (go_at_call 89; (with_reducible refine (mR.calls wN t206 ji5 true _ A19.out).mono ?_); rintro e w35 ⟨rfl, hb⟩; replace dH := am (ak (g := iA) (o := .cells #[.int .i64 aQ, .int .i64 aR, .slice cu aH.length bW, .slice (some qw) av.length bZ] 28 (0, 0)) (kf dH.out gU.out) hb); replace bL := am (ak (g := fC) (o := .cells #[.int .i64 1, .func (.func 25) #[] #[], .func (.func 88) #[] #[], .func (.func 89) #[] #[]] 79 (0, 0)) (kf bL.out gV.out) hb); replace dY := am (ak (g := eP) (o := .cells #[.int .i64 ((aU av cK).f0), .slice jm ((aU av cK).f1).length jo] 70 (0, 0)) (kf dY.out iC.out) hb); replace jq := am (ak (g := fI) (o := .cells #[.int .i64 wN, .int .i64 t206] 23 (0, 0)) (by (with_reducible repeat (first | refine aM ?_ _ | refine aI ?_ | refine aA ?_ _)); refine bX (cs := #[.int .i64 wN, .int .i64 0]) ?_ 1 _ rfl; (with_reducible repeat (first | refine aM ?_ _ | refine aI ?_ | refine aA ?_ _)); refine bX (cs := #[.int .i64 0, .int .i64 0]) ?_ 0 _ rfl; (with_reducible repeat (first | refine aM ?_ _ | refine aI ?_ | refine aA ?_ _)); exact jq.out) hb); replace HB := am (au (by repeat (first | (with_reducible first | exact HB.out | apply eG | apply dN | apply dx | refine bO ?_ fO.out | refine bO ?_ fV.out | refine bO ?_ iN.out | refine bO ?_ qx.out) | exact HB.out)) hb); (try clear hb); (try clear hb2); (try clear hk); (try clear hi); have agj : w35.cell? ⟨eP, 0, none⟩ = some (.int .i64 ((aU av cK).f0)) := bc dY.out 0; have agk : w35.cell? ⟨eP, 1, none⟩ = some (.slice jm ((aU av cK).f1).length jo) := bc dY.out 1; have agl := aj dY.out 0; have agm := aj dY.out 1; have akq : w35.cell? ⟨fC, 0, none⟩ = some (.int .i64 1) := bc bL.out 0; have akr : w35.cell? ⟨fC, 1, none⟩ = some (.func (.func 25) #[] #[]) := bc bL.out 1; have aks : w35.cell? ⟨fC, 2, none⟩ = some (.func (.func 88) #[] #[]) := bc bL.out 2; have akt : w35.cell? ⟨fC, 3, none⟩ = some (.func (.func 89) #[] #[]) := bc bL.out 3; have aku := aj bL.out 0; have akv := aj bL.out 1; have akw := aj bL.out 2; have akx := aj bL.out 3))
        go_roundg k1
        case measure => have := HK1.out; omega
        case rel => exact ⟨((aU av cK).f0), (true), (wrap64 (cK + 1)), sm, sm, sm, H', ⟨by have := HK1.out; omega⟩, ⟨kp dH.out⟩, ⟨kp bL.out⟩, ⟨by repeat (first | (with_reducible first | exact HB.out | apply eG | apply dN | apply dx | refine bO ?_ fO.out | refine bO ?_ fV.out | refine bO ?_ iN.out | refine bO ?_ qx.out) | exact HB.out)⟩⟩
       ·rw [if_neg c22] at H
        have yt : decide ((wrap64 ((wrap64 (((aU av cK).f0) - lG)) * 1)) < 0) = false := decide_eq_false c22
        (try simp only [Int.mul_one, Int.mul_neg, Int.add_zero] at yt)
        clear c22
        have H' := am H
        clear H
        have vN : 0 ≤ (cK : Int) := of_decide_eq_true asm
        have vO : cK < (av.length : Int) := of_decide_eq_true asm
        obtain ⟨qw, jm, jo, e203, iI, iJ, jE, jF⟩ := kZ fK.out cK vN vO
        cases e203
        replace iI := (HB.out.cell (World.block_lt_of_cell? w _ iI)).trans iI
        replace iJ := (HB.out.cell (World.block_lt_of_cell? w _ iJ)).trans iJ
        have mE := am jF
        have mF := am jE
        clear jF jE
        replace vN := eq_true vN
        replace vO := eq_true vO
        go_wp2_with (first | ((with_reducible refine bq (N := 11) rfl ?_); refine bx 11 70 #[.int .i64 0, .slice none 0 0] ?_; intro eP hg w38 dL hb; have dY := am (dL); have adS := am ((bz2 hg HB.out fO.out fV.out : w.heap.size ≤ eP)); have iN := am ((bz2 hg HB.out fO.out fV.out : w.heap.size ≤ eP)); replace HB := am (au (bl2 HB.out fO.out fV.out) hb); have gP := am ((nl hg dH.out : iA ≠ eP)); have jG := am ((ng hg dH.out : eP ≠ iA)); replace dH := am (ak (kp dH.out) hb); have gQ := am ((nl hg bL.out : fC ≠ eP)); have jH := am ((ng hg bL.out : eP ≠ fC)); replace bL := am (ak (kp bL.out) hb); clear hb dL hg; have aoU := jG.out; have aoV := gP.out; have atj := jH.out; have atl := gQ.out; have aky : w38.cell? ⟨eP, 0, none⟩ = some (.int .i64 0) := bc dY.out 0; have akz : w38.cell? ⟨eP, 1, none⟩ = some (.slice none 0 0) := bc dY.out 1; have akA := aj dY.out 0; have akB := aj dY.out 1) | ((with_reducible refine aC (f := 43) rfl ?_); refine bR (some 34) rfl rfl Try.func43 (by kernel_rfl) rfl #[.slice jm ((aU av cK).f1).length jo] rfl ar ?_; (with_reducible refine (eD.calls _ _ ((aU av cK).f1) wN t206 true _ ?bH ?bI A17.out).mono ?_); (case bH => exact Kd.bf mE.out (bl3 HB.out fO.out fV.out iN.out)); (case bI => exact mF.out); rintro e w42 ⟨rfl, hb⟩; refine ⟨_, rfl, ?_⟩; replace dH := am (ak (g := iA) (o := .cells #[.int .i64 aQ, .int .i64 aR, .slice cu aH.length bW, .slice (some qw) av.length bZ] 28 (0, 0)) (kf dH.out gP.out) hb); replace bL := am (ak (g := fC) (o := .cells #[.int .i64 1, .func (.func 25) #[] #[], .func (.func 88) #[] #[], .func (.func 89) #[] #[]] 79 (0, 0)) (kf bL.out gQ.out) hb); replace dY := am (ak (g := eP) (o := .cells #[.int .i64 ((aU av cK).f0), .slice jm ((aU av cK).f1).length jo] 70 (0, 0)) (by (with_reducible repeat (first | refine aM ?_ _ | refine aI ?_ | refine aA ?_ _)); refine bX (cs := #[.int .i64 ((aU av cK).f0), .slice none 0 0]) ?_ 1 _ rfl; (with_reducible repeat (first | refine aM ?_ _ | refine aI ?_ | refine aA ?_ _)); refine bX (cs := #[.int .i64 0, .slice none 0 0]) ?_ 0 _ rfl; (with_reducible repeat (first | refine aM ?_ _ | refine aI ?_ | refine aA ?_ _)); exact dY.out) hb); replace HB := am (au (bl3 HB.out fO.out fV.out iN.out) hb); (try clear hb); (try clear hb2); (try clear hk); (try clear hi)) | ((with_reducible refine bq (N := 12) rfl ?_); refine bx 12 23 #[.int .i64 0, .int .i64 0] ?_; intro fI hg w43 dL hb; have jq := am (dL); have adT := am ((bz3 hg HB.out fO.out fV.out iN.out : w.heap.size ≤ fI)); have qx := am ((bz3 hg HB.out fO.out fV.out iN.out : w.heap.size ≤ fI)); replace HB := am (au (bl3 HB.out fO.out fV.out iN.out) hb); have gU := am ((nl hg dH.out : iA ≠ fI)); have jI := am ((ng hg dH.out : fI ≠ iA)); replace dH := am (ak (kp dH.out) hb); have gV := am ((nl hg bL.out : fC ≠ fI)); have jJ := am ((ng hg bL.out : fI ≠ fC)); replace bL := am (ak (kp bL.out) hb); have iC := am ((nl hg dY.out : eP ≠ fI)); have jK := am ((ng hg dY.out : fI ≠ eP)); replace dY := am (ak (kp dY.out) hb); clear hb dL hg; have atm := jI.out; have atn := gU.out; have axB := jJ.out; have axC := gV.out; have amw := jK.out; have amx := iC.out; have agn : w43.cell? ⟨fI, 0, none⟩ = some (.int .i64 0) := bc jq.out 0; have agp : w43.cell? ⟨fI, 1, none⟩ = some (.int .i64 0) := bc jq.out 1; have agq := aj jq.out 0; have agr := aj jq.out 1; have axD := nO.out; have axE := nN.out; have apK : w43.cell? ⟨fC, 0, none⟩ = some (.int .i64 1) := bc bL.out 0; have apL : w43.cell? ⟨fC, 1, none⟩ = some (.func (.func 25) #[] #[]) := bc bL.out 1; have apM : w43.cell? ⟨fC, 2, none⟩ = some (.func (.func 88) #[] #[]) := bc bL.out 2; have apN : w43.cell? ⟨fC, 3, none⟩ = some (.func (.func 89) #[] #[]) := bc bL.out 3; have apO := aj bL.out 0; have apP := aj bL.out 1; have apQ := aj bL.out 2; have apR := aj bL.out 3) | (go_at_call 89; (with_reducible refine (mR.calls wN t206 ji5 true _ A19.out).mono ?_); rintro e w50 ⟨rfl, hb⟩; replace dH := am (ak (g := iA) (o := .cells #[.int .i64 aQ, .int .i64 aR, .slice cu aH.length bW, .slice (some qw) av.length bZ] 28 (0, 0)) (kf dH.out gU.out) hb); replace bL := am (ak (g := fC) (o := .cells #[.int .i64 1, .func (.func 25) #[] #[], .func (.func 88) #[] #[], .func (.func 89) #[] #[]] 79 (0, 0)) (kf bL.out gV.out) hb); replace dY := am (ak (g := eP) (o := .cells #[.int .i64 ((aU av cK).f0), .slice jm ((aU av cK).f1).length jo] 70 (0, 0)) (kf dY.out iC.out) hb); replace jq := am (ak (g := fI) (o := .cells #[.int .i64 wN, .int .i64 t206] 23 (0, 0)) (by (with_reducible repeat (first | refine aM ?_ _ | refine aI ?_ | refine aA ?_ _)); refine bX (cs := #[.int .i64 wN, .int .i64 0]) ?_ 1 _ rfl; (with_reducible repeat (first | refine aM ?_ _ | refine aI ?_ | refine aA ?_ _)); refine bX (cs := #[.int .i64 0, .int .i64 0]) ?_ 0 _ rfl; (with_reducible repeat (first | refine aM ?_ _ | refine aI ?_ | refine aA ?_ _)); exact jq.out) hb); replace HB := am (au (by repeat (first | (with_reducible first | exact HB.out | apply eG | apply dN | apply dx | refine bO ?_ fO.out | refine bO ?_ fV.out | refine bO ?_ iN.out | refine bO ?_ qx.out) | exact HB.out)) hb); (try clear hb); (try clear hb2); (try clear hk); (try clear hi); have akC : w50.cell? ⟨eP, 0, none⟩ = some (.int .i64 ((aU av cK).f0)) := bc dY.out 0; have akD : w50.cell? ⟨eP, 1, none⟩ = some (.slice jm ((aU av cK).f1).length jo) := bc dY.out 1; have akE := aj dY.out 0; have akF := aj dY.out 1; have akG : w50.cell? ⟨fC, 0, none⟩ = some (.int .i64 1) := bc bL.out 0; have akH : w50.cell? ⟨fC, 1, none⟩ = some (.func (.func 25) #[] #[]) := bc bL.out 1; have akI : w50.cell? ⟨fC, 2, none⟩ = some (.func (.func 88) #[] #[]) := bc bL.out 2; have akJ : w50.cell? ⟨fC, 3, none⟩ = some (.func (.func 89) #[] #[]) := bc bL.out 3; have akK := aj bL.out 0; have akL := aj bL.out 1; have akM := aj bL.out 2; have akN := aj bL.out 3))
        go_roundg k1
        case measure => have := HK1.out; omega
        case rel => exact ⟨(lG), (true), (wrap64 (cK + 1)), sm, sm, sm, H', ⟨by have := HK1.out; omega⟩, ⟨kp dH.out⟩, ⟨kp bL.out⟩, ⟨by repeat (first | (with_reducible first | exact HB.out | apply eG | apply dN | apply dx | refine bO ?_ fO.out | refine bO ?_ fV.out | refine bO ?_ iN.out | refine bO ?_ qx.out) | exact HB.out)⟩⟩
      ·replace c21 := Bool.eq_false_iff.mpr c21
       subst c21
       have H1 : (bg.l0 k1 ji5 ((aU av cK).f0) true av (av.length : Int) (wrap64 (cK + 1)) 1) = some (r1, r2) := by rw [if_neg (show ¬ (false = true) by decide)] at H; exact H
       clear H
       have H := H1
       clear H1
       have H' := am H
       clear H
       have vN : 0 ≤ (cK : Int) := of_decide_eq_true asm
       have vO : cK < (av.length : Int) := of_decide_eq_true asm
       obtain ⟨qw, jm, jo, e203, iI, iJ, jE, jF⟩ := kZ fK.out cK vN vO
       cases e203
       replace iI := (HB.out.cell (World.block_lt_of_cell? w _ iI)).trans iI
       replace iJ := (HB.out.cell (World.block_lt_of_cell? w _ iJ)).trans iJ
       have mE := am jF
       have mF := am jE
       clear jF jE
       replace vN := eq_true vN
       replace vO := eq_true vO
       go_wp2_with (first | ((with_reducible refine bq (N := 11) rfl ?_); refine bx 11 70 #[.int .i64 0, .slice none 0 0] ?_; intro eP hg w53 dL hb; have dY := am (dL); have adS := am ((bz2 hg HB.out fO.out fV.out : w.heap.size ≤ eP)); have iN := am ((bz2 hg HB.out fO.out fV.out : w.heap.size ≤ eP)); replace HB := am (au (bl2 HB.out fO.out fV.out) hb); have gP := am ((nl hg dH.out : iA ≠ eP)); have jG := am ((ng hg dH.out : eP ≠ iA)); replace dH := am (ak (kp dH.out) hb); have gQ := am ((nl hg bL.out : fC ≠ eP)); have jH := am ((ng hg bL.out : eP ≠ fC)); replace bL := am (ak (kp bL.out) hb); clear hb dL hg; have axF := jG.out; have axG := gP.out; have axH := jH.out; have axI := gQ.out; have apS : w53.cell? ⟨eP, 0, none⟩ = some (.int .i64 0) := bc dY.out 0; have apT : w53.cell? ⟨eP, 1, none⟩ = some (.slice none 0 0) := bc dY.out 1; have apU := aj dY.out 0; have apV := aj dY.out 1) | ((with_reducible refine aC (f := 43) rfl ?_); refine bR (some 34) rfl rfl Try.func43 (by kernel_rfl) rfl #[.slice jm ((aU av cK).f1).length jo] rfl ar ?_; (with_reducible refine (eD.calls _ _ ((aU av cK).f1) wN t206 true _ ?bH ?bI A17.out).mono ?_); (case bH => exact Kd.bf mE.out (bl3 HB.out fO.out fV.out iN.out)); (case bI => exact mF.out); rintro e w57 ⟨rfl, hb⟩; refine ⟨_, rfl, ?_⟩; replace dH := am (ak (g := iA) (o := .cells #[.int .i64 aQ, .int .i64 aR, .slice cu aH.length bW, .slice (some qw) av.length bZ] 28 (0, 0)) (kf dH.out gP.out) hb); replace bL := am (ak (g := fC) (o := .cells #[.int .i64 1, .func (.func 25) #[] #[], .func (.func 88) #[] #[], .func (.func 89) #[] #[]] 79 (0, 0)) (kf bL.out gQ.out) hb); replace dY := am (ak (g := eP) (o := .cells #[.int .i64 ((aU av cK).f0), .slice jm ((aU av cK).f1).length jo] 70 (0, 0)) (by (with_reducible repeat (first | refine aM ?_ _ | refine aI ?_ | refine aA ?_ _)); refine bX (cs := #[.int .i64 ((aU av cK).f0), .slice none 0 0]) ?_ 1 _ rfl; (with_reducible repeat (first | refine aM ?_ _ | refine aI ?_ | refine aA ?_ _)); refine bX (cs := #[.int .i64 0, .slice none 0 0]) ?_ 0 _ rfl; (with_reducible repeat (first | refine aM ?_ _ | refine aI ?_ | refine aA ?_ _)); exact dY.out) hb); replace HB := am (au (bl3 HB.out fO.out fV.out iN.out) hb); (try clear hb); (try clear hb2); (try clear hk); (try clear hi)) | ((with_reducible refine bq (N := 12) rfl ?_); refine bx 12 23 #[.int .i64 0, .int .i64 0] ?_; intro fI hg w58 dL hb; have jq := am (dL); have adT := am ((bz3 hg HB.out fO.out fV.out iN.out : w.heap.size ≤ fI)); have qx := am ((bz3 hg HB.out fO.out fV.out iN.out : w.heap.size ≤ fI)); replace HB := am (au (bl3 HB.out fO.out fV.out iN.out) hb); have gU := am ((nl hg dH.out : iA ≠ fI)); have jI := am ((ng hg dH.out : fI ≠ iA)); replace dH := am (ak (kp dH.out) hb); have gV := am ((nl hg bL.out : fC ≠ fI)); have jJ := am ((ng hg bL.out : fI ≠ fC)); replace bL := am (ak (kp bL.out) hb); have iC := am ((nl hg dY.out : eP ≠ fI)); have jK := am ((ng hg dY.out : fI ≠ eP)); replace dY := am (ak (kp dY.out) hb); clear hb dL hg; have axJ := jI.out; have axK := gU.out; have axL := jJ.out; have axM := gV.out; have axN := jK.out; have axO := iC.out; have akO : w58.cell? ⟨fI, 0, none⟩ = some (.int .i64 0) := bc jq.out 0; have akP : w58.cell? ⟨fI, 1, none⟩ = some (.int .i64 0) := bc jq.out 1; have akQ := aj jq.out 0; have akR := aj jq.out 1; have axP := nO.out; have axQ := nN.out; have apW : w58.cell? ⟨fC, 0, none⟩ = some (.int .i64 1) := bc bL.out 0; have apX : w58.cell? ⟨fC, 1, none⟩ = some (.func (.func 25) #[] #[]) := bc bL.out 1; have apY : w58.cell? ⟨fC, 2, none⟩ = some (.func (.func 88) #[] #[]) := bc bL.out 2; have apZ : w58.cell? ⟨fC, 3, none⟩ = some (.func (.func 89) #[] #[]) := bc bL.out 3; have ap0 := aj bL.out 0; have ap1 := aj bL.out 1; have ap2 := aj bL.out 2; have ap3 := aj bL.out 3) | (go_at_call 89; (with_reducible refine (mR.calls wN t206 ji5 true _ A19.out).mono ?_); rintro e w65 ⟨rfl, hb⟩; replace dH := am (ak (g := iA) (o := .cells #[.int .i64 aQ, .int .i64 aR, .slice cu aH.length bW, .slice (some qw) av.length bZ] 28 (0, 0)) (kf dH.out gU.out) hb); replace bL := am (ak (g := fC) (o := .cells #[.int .i64 1, .func (.func 25) #[] #[], .func (.func 88) #[] #[], .func (.func 89) #[] #[]] 79 (0, 0)) (kf bL.out gV.out) hb); replace dY := am (ak (g := eP) (o := .cells #[.int .i64 ((aU av cK).f0), .slice jm ((aU av cK).f1).length jo] 70 (0, 0)) (kf dY.out iC.out) hb); replace jq := am (ak (g := fI) (o := .cells #[.int .i64 wN, .int .i64 t206] 23 (0, 0)) (by (with_reducible repeat (first | refine aM ?_ _ | refine aI ?_ | refine aA ?_ _)); refine bX (cs := #[.int .i64 wN, .int .i64 0]) ?_ 1 _ rfl; (with_reducible repeat (first | refine aM ?_ _ | refine aI ?_ | refine aA ?_ _)); refine bX (cs := #[.int .i64 0, .int .i64 0]) ?_ 0 _ rfl; (with_reducible repeat (first | refine aM ?_ _ | refine aI ?_ | refine aA ?_ _)); exact jq.out) hb); replace HB := am (au (by repeat (first | (with_reducible first | exact HB.out | apply eG | apply dN | apply dx | refine bO ?_ fO.out | refine bO ?_ fV.out | refine bO ?_ iN.out | refine bO ?_ qx.out) | exact HB.out)) hb); (try clear hb); (try clear hb2); (try clear hk); (try clear hi); have ap4 : w65.cell? ⟨eP, 0, none⟩ = some (.int .i64 ((aU av cK).f0)) := bc dY.out 0; have ap5 : w65.cell? ⟨eP, 1, none⟩ = some (.slice jm ((aU av cK).f1).length jo) := bc dY.out 1; have ap6 := aj dY.out 0; have ap7 := aj dY.out 1))
       go_roundg k1
       case measure => have := HK1.out; omega
       case rel => exact ⟨((aU av cK).f0), (true), (wrap64 (cK + 1)), sm, sm, sm, H', ⟨by have := HK1.out; omega⟩, ⟨kp dH.out⟩, ⟨kp bL.out⟩, ⟨by repeat (first | (with_reducible first | exact HB.out | apply eG | apply dN | apply dx | refine bO ?_ fO.out | refine bO ?_ fV.out | refine bO ?_ iN.out | refine bO ?_ qx.out) | exact HB.out)⟩⟩
     ·replace c20 := Bool.eq_false_iff.mpr c20
      subst c20
      have H1 : (bg.l0 k1 ji5 lG kV av (av.length : Int) (wrap64 (cK + 1)) 1) = some (r1, r2) := by rw [if_neg (show ¬ (false = true) by decide)] at H; exact H
      clear H
      have H := H1
      clear H1
      have H' := am H
      clear H
      have vN : 0 ≤ (cK : Int) := of_decide_eq_true asm
      have vO : cK < (av.length : Int) := of_decide_eq_true asm
      obtain ⟨qw, jm, jo, e203, iI, iJ, jE, jF⟩ := kZ fK.out cK vN vO
      cases e203
      replace iI := (HB.out.cell (World.block_lt_of_cell? w _ iI)).trans iI
      replace iJ := (HB.out.cell (World.block_lt_of_cell? w _ iJ)).trans iJ
      have mE := am jF
      have mF := am jE
      clear jF jE
      replace vN := eq_true vN
      replace vO := eq_true vO
      go_wp2_with (first | ((with_reducible refine bq (N := 11) rfl ?_); refine bx 11 70 #[.int .i64 0, .slice none 0 0] ?_; intro eP hg w67 dL hb; have dY := am (dL); have adS := am ((bz2 hg HB.out fO.out fV.out : w.heap.size ≤ eP)); have iN := am ((bz2 hg HB.out fO.out fV.out : w.heap.size ≤ eP)); replace HB := am (au (bl2 HB.out fO.out fV.out) hb); have gP := am ((nl hg dH.out : iA ≠ eP)); have jG := am ((ng hg dH.out : eP ≠ iA)); replace dH := am (ak (kp dH.out) hb); have gQ := am ((nl hg bL.out : fC ≠ eP)); have jH := am ((ng hg bL.out : eP ≠ fC)); replace bL := am (ak (kp bL.out) hb); clear hb dL hg; have axR := jG.out; have axS := gP.out; have axT := jH.out; have axU := gQ.out; have ap8 : w67.cell? ⟨eP, 0, none⟩ = some (.int .i64 0) := bc dY.out 0; have ap9 : w67.cell? ⟨eP, 1, none⟩ = some (.slice none 0 0) := bc dY.out 1; have aqa := aj dY.out 0; have aqb := aj dY.out 1) | ((with_reducible refine aC (f := 43) rfl ?_); refine bR (some 34) rfl rfl Try.func43 (by kernel_rfl) rfl #[.slice jm ((aU av cK).f1).length jo] rfl ar ?_; (with_reducible refine (eD.calls _ _ ((aU av cK).f1) wN t206 true _ ?bH ?bI A17.out).mono ?_); (case bH => exact Kd.bf mE.out (bl3 HB.out fO.out fV.out iN.out)); (case bI => exact mF.out); rintro e w71 ⟨rfl, hb⟩; refine ⟨_, rfl, ?_⟩; replace dH := am (ak (g := iA) (o := .cells #[.int .i64 aQ, .int .i64 aR, .slice cu aH.length bW, .slice (some qw) av.length bZ] 28 (0, 0)) (kf dH.out gP.out) hb); replace bL := am (ak (g := fC) (o := .cells #[.int .i64 1, .func (.func 25) #[] #[], .func (.func 88) #[] #[], .func (.func 89) #[] #[]] 79 (0, 0)) (kf bL.out gQ.out) hb); replace dY := am (ak (g := eP) (o := .cells #[.int .i64 ((aU av cK).f0), .slice jm ((aU av cK).f1).length jo] 70 (0, 0)) (by (with_reducible repeat (first | refine aM ?_ _ | refine aI ?_ | refine aA ?_ _)); refine bX (cs := #[.int .i64 ((aU av cK).f0), .slice none 0 0]) ?_ 1 _ rfl; (with_reducible repeat (first | refine aM ?_ _ | refine aI ?_ | refine aA ?_ _)); refine bX (cs := #[.int .i64 0, .slice none 0 0]) ?_ 0 _ rfl; (with_reducible repeat (first | refine aM ?_ _ | refine aI ?_ | refine aA ?_ _)); exact dY.out) hb); replace HB := am (au (bl3 HB.out fO.out fV.out iN.out) hb); (try clear hb); (try clear hb2); (try clear hk); (try clear hi)) | ((with_reducible refine bq (N := 12) rfl ?_); refine bx 12 23 #[.int .i64 0, .int .i64 0] ?_; intro fI hg w72 dL hb; have jq := am (dL); have adT := am ((bz3 hg HB.out fO.out fV.out iN.out : w.heap.size ≤ fI)); have qx := am ((bz3 hg HB.out fO.out fV.out iN.out : w.heap.size ≤ fI)); replace HB := am (au (bl3 HB.out fO.out fV.out iN.out) hb); have gU := am ((nl hg dH.out : iA ≠ fI)); have jI := am ((ng hg dH.out : fI ≠ iA)); replace dH := am (ak (kp dH.out) hb); have gV := am ((nl hg bL.out : fC ≠ fI)); have jJ := am ((ng hg bL.out : fI ≠ fC)); replace bL := am (ak (kp bL.out) hb); have iC := am ((nl hg dY.out : eP ≠ fI)); have jK := am ((ng hg dY.out : fI ≠ eP)); replace dY := am (ak (kp dY.out) hb); clear hb dL hg; have axV := jI.out; have axW := gU.out; have axX := jJ.out; have axY := gV.out; have axZ := jK.out; have ax0 := iC.out; have aqc : w72.cell? ⟨fI, 0, none⟩ = some (.int .i64 0) := bc jq.out 0; have aqd : w72.cell? ⟨fI, 1, none⟩ = some (.int .i64 0) := bc jq.out 1; have aqe := aj jq.out 0; have aqf := aj jq.out 1; have ax1 := nO.out; have ax2 := nN.out; have aqg : w72.cell? ⟨fC, 0, none⟩ = some (.int .i64 1) := bc bL.out 0; have aqh : w72.cell? ⟨fC, 1, none⟩ = some (.func (.func 25) #[] #[]) := bc bL.out 1; have aqi : w72.cell? ⟨fC, 2, none⟩ = some (.func (.func 88) #[] #[]) := bc bL.out 2; have aqj : w72.cell? ⟨fC, 3, none⟩ = some (.func (.func 89) #[] #[]) := bc bL.out 3; have aqk := aj bL.out 0; have aql := aj bL.out 1; have aqm := aj bL.out 2; have aqn := aj bL.out 3) | (go_at_call 89; (with_reducible refine (mR.calls wN t206 ji5 false _ A19.out).mono ?_); rintro e w79 ⟨rfl, hb⟩; replace dH := am (ak (g := iA) (o := .cells #[.int .i64 aQ, .int .i64 aR, .slice cu aH.length bW, .slice (some qw) av.length bZ] 28 (0, 0)) (kf dH.out gU.out) hb); replace bL := am (ak (g := fC) (o := .cells #[.int .i64 1, .func (.func 25) #[] #[], .func (.func 88) #[] #[], .func (.func 89) #[] #[]] 79 (0, 0)) (kf bL.out gV.out) hb); replace dY := am (ak (g := eP) (o := .cells #[.int .i64 ((aU av cK).f0), .slice jm ((aU av cK).f1).length jo] 70 (0, 0)) (kf dY.out iC.out) hb); replace jq := am (ak (g := fI) (o := .cells #[.int .i64 wN, .int .i64 t206] 23 (0, 0)) (by (with_reducible repeat (first | refine aM ?_ _ | refine aI ?_ | refine aA ?_ _)); refine bX (cs := #[.int .i64 wN, .int .i64 0]) ?_ 1 _ rfl; (with_reducible repeat (first | refine aM ?_ _ | refine aI ?_ | refine aA ?_ _)); refine bX (cs := #[.int .i64 0, .int .i64 0]) ?_ 0 _ rfl; (with_reducible repeat (first | refine aM ?_ _ | refine aI ?_ | refine aA ?_ _)); exact jq.out) hb); replace HB := am (au (by repeat (first | (with_reducible first | exact HB.out | apply eG | apply dN | apply dx | refine bO ?_ fO.out | refine bO ?_ fV.out | refine bO ?_ iN.out | refine bO ?_ qx.out) | exact HB.out)) hb); (try clear hb); (try clear hb2); (try clear hk); (try clear hi)))
      go_roundg k1
      case measure => have := HK1.out; omega
      case rel => exact ⟨(lG), (kV), (wrap64 (cK + 1)), sm, sm, sm, H', ⟨by have := HK1.out; omega⟩, ⟨kp dH.out⟩, ⟨kp bL.out⟩, ⟨by repeat (first | (with_reducible first | exact HB.out | apply eG | apply dN | apply dx | refine bO ?_ fO.out | refine bO ?_ fV.out | refine bO ?_ iN.out | refine bO ?_ qx.out) | exact HB.out)⟩⟩
    ·replace c18 := Bool.eq_false_iff.mpr c18
     subst c18
     have H1 : (bg.l0 k1 ji5 lG kV av (av.length : Int) (wrap64 (cK + 1)) 1) = some (r1, r2) := by rw [if_neg (show ¬ (false = true) by decide)] at H; exact H
     clear H
     have H := H1
     clear H1
     have H' := am H
     clear H
     have vN : 0 ≤ (cK : Int) := of_decide_eq_true asm
     have vO : cK < (av.length : Int) := of_decide_eq_true asm
     obtain ⟨qw, jm, jo, e203, iI, iJ, jE, jF⟩ := kZ fK.out cK vN vO
     cases e203
     replace iI := (HB.out.cell (World.block_lt_of_cell? w _ iI)).trans iI
     replace iJ := (HB.out.cell (World.block_lt_of_cell? w _ iJ)).trans iJ
     have mE := am jF
     have mF := am jE
     clear jF jE
     replace vN := eq_true vN
     replace vO := eq_true vO
     go_wp2_with (first | ((with_reducible refine bq (N := 11) rfl ?_); refine bx 11 70 #[.int .i64 0, .slice none 0 0] ?_; intro eP hg w80 dL hb; have dY := am (dL); have adS := am ((bz2 hg HB.out fO.out fV.out : w.heap.size ≤ eP)); have iN := am ((bz2 hg HB.out fO.out fV.out : w.heap.size ≤ eP)); replace HB := am (au (bl2 HB.out fO.out fV.out) hb); have gP := am ((nl hg dH.out : iA ≠ eP)); have jG := am ((ng hg dH.out : eP ≠ iA)); replace dH := am (ak (kp dH.out) hb); have gQ := am ((nl hg bL.out : fC ≠ eP)); have jH := am ((ng hg bL.out : eP ≠ fC)); replace bL := am (ak (kp bL.out) hb); clear hb dL hg; have ax3 := jG.out; have ax4 := gP.out; have ax5 := jH.out; have ax6 := gQ.out; have aqo : w80.cell? ⟨eP, 0, none⟩ = some (.int .i64 0) := bc dY.out 0; have aqp : w80.cell? ⟨eP, 1, none⟩ = some (.slice none 0 0) := bc dY.out 1; have aqr := aj dY.out 0; have aqs := aj dY.out 1) | ((with_reducible refine aC (f := 43) rfl ?_); refine bR (some 34) rfl rfl Try.func43 (by kernel_rfl) rfl #[.slice jm ((aU av cK).f1).length jo] rfl ar ?_; (with_reducible refine (eD.calls _ _ ((aU av cK).f1) wN t206 false _ ?bH ?bI A17.out).mono ?_); (case bH => exact Kd.bf mE.out (bl3 HB.out fO.out fV.out iN.out)); (case bI => exact mF.out); rintro e w84 ⟨rfl, hb⟩; refine ⟨_, rfl, ?_⟩; replace dH := am (ak (g := iA) (o := .cells #[.int .i64 aQ, .int .i64 aR, .slice cu aH.length bW, .slice (some qw) av.length bZ] 28 (0, 0)) (kf dH.out gP.out) hb); replace bL := am (ak (g := fC) (o := .cells #[.int .i64 1, .func (.func 25) #[] #[], .func (.func 88) #[] #[], .func (.func 89) #[] #[]] 79 (0, 0)) (kf bL.out gQ.out) hb); replace dY := am (ak (g := eP) (o := .cells #[.int .i64 ((aU av cK).f0), .slice jm ((aU av cK).f1).length jo] 70 (0, 0)) (by (with_reducible repeat (first | refine aM ?_ _ | refine aI ?_ | refine aA ?_ _)); refine bX (cs := #[.int .i64 ((aU av cK).f0), .slice none 0 0]) ?_ 1 _ rfl; (with_reducible repeat (first | refine aM ?_ _ | refine aI ?_ | refine aA ?_ _)); refine bX (cs := #[.int .i64 0, .slice none 0 0]) ?_ 0 _ rfl; (with_reducible repeat (first | refine aM ?_ _ | refine aI ?_ | refine aA ?_ _)); exact dY.out) hb); replace HB := am (au (bl3 HB.out fO.out fV.out iN.out) hb); (try clear hb); (try clear hb2); (try clear hk); (try clear hi)) | ((with_reducible refine bq (N := 12) rfl ?_); refine bx 12 23 #[.int .i64 0, .int .i64 0] ?_; intro fI hg w85 dL hb; have jq := am (dL); have adT := am ((bz3 hg HB.out fO.out fV.out iN.out : w.heap.size ≤ fI)); have qx := am ((bz3 hg HB.out fO.out fV.out iN.out : w.heap.size ≤ fI)); replace HB := am (au (bl3 HB.out fO.out fV.out iN.out) hb); have gU := am ((nl hg dH.out : iA ≠ fI)); have jI := am ((ng hg dH.out : fI ≠ iA)); replace dH := am (ak (kp dH.out) hb); have gV := am ((nl hg bL.out : fC ≠ fI)); have jJ := am ((ng hg bL.out : fI ≠ fC)); replace bL := am (ak (kp bL.out) hb); have iC := am ((nl hg dY.out : eP ≠ fI)); have jK := am ((ng hg dY.out : fI ≠ eP)); replace dY := am (ak (kp dY.out) hb); clear hb dL hg; have ax7 := jI.out; have ax8 := gU.out; have ax9 := jJ.out; have aya := gV.out; have ayb := jK.out; have ayc := iC.out; have aqt : w85.cell? ⟨fI, 0, none⟩ = some (.int .i64 0) := bc jq.out 0; have aqu : w85.cell? ⟨fI, 1, none⟩ = some (.int .i64 0) := bc jq.out 1; have aqv := aj jq.out 0; have aqw := aj jq.out 1))
     go_roundg k1
     case measure => have := HK1.out; omega
     case rel => exact ⟨(lG), (kV), (wrap64 (cK + 1)), sm, sm, sm, H', ⟨by have := HK1.out; omega⟩, ⟨kf dH.out gU.out⟩, ⟨kf bL.out gV.out⟩, ⟨by repeat (first | (with_reducible first | exact HB.out | apply eG | apply dN | apply dx | refine bO ?_ fO.out | refine bO ?_ fV.out | refine bO ?_ iN.out | refine bO ?_ qx.out) | exact HB.out)⟩⟩
   ·rw [if_neg c14] at H
    have wM : decide (cK < (av.length : Int)) = false := decide_eq_false c14
    clear c14
    simp only [Option.some.injEq, Prod.mk.injEq] at H
    obtain ⟨rfl, rfl⟩ := H
    go_wp2
    go_ret2
    exact ⟨by first | rfl | (simp [gu, gB] <;> rfl) | (simp only [← akp, ← uW]; first | rfl | (simp [gu, gB] <;> rfl)) | (simp [*, gu, gB] <;> rfl), bl2 HB.out fO.out fV.out⟩
end Go.Proofs.Ytmbmalkpmanaaaa.P
namespace Go.Proofs.Ytmbmalkpmanaaaa.P
set_option linter.unusedVariables false
set_option linter.unusedSimpArgs false
open Go.RowKit Go.Proofs.YtmbmalkpmanaaaaW.aK Go.Proofs.YtmbmalkpmanaaaaW.bK
def abN.f : Option Int := some 0
set_option maxRecDepth 100000 in
theorem abN.calls (r : Int) (w : World) (h : abN.f = some r) : Calls Try.prog 59 #[] w fun e w' => e = .returned (.agg #[.int .i64 1, .func (.func 25) #[] #[], .func (.func 88) #[] #[], .func (.func 89) #[] #[]]) ∧ Below w.heap.size w w' := by
  go_enter Try.func59, Try.ntmps59
  go_wp2
  exact bodyPost_ret (results_cell_row rfl _ _ w.heap.size 79 #[.int .i64 1, .func (.func 25) #[] #[], .func (.func 88) #[] #[], .func (.func 89) #[] #[]] (0, 0) _ rfl (l6 _ _) Try.underlying79 rfl (by kernel_rfl)) rfl ⟨rfl, (Below.refl _ _).alloc (Nat.le_refl _) _⟩
def xw.f : Option Int := some 0
set_option maxRecDepth 100000 in
theorem xw.calls (r : Int) (w : World) (h : xw.f = some r) : Calls Try.prog 60 #[] w fun e w' => e = .returned (.agg #[.int .i64 (-1), .func (.func 90) #[] #[], .func (.func 91) #[] #[], .func (.func 92) #[] #[]]) ∧ Below w.heap.size w w' := by
  go_enter Try.func60, Try.ntmps60
  go_wp2
  exact bodyPost_ret (results_cell_row rfl _ _ w.heap.size 79 #[.int .i64 (-1), .func (.func 90) #[] #[], .func (.func 91) #[] #[], .func (.func 92) #[] #[]] (0, 0) _ rfl (l6 _ _) Try.underlying79 rfl (by kernel_rfl)) rfl ⟨rfl, (Below.refl _ _).alloc (Nat.le_refl _) _⟩
end Go.Proofs.Ytmbmalkpmanaaaa.P
namespace Go.Proofs.Ytmbmalkpmanaaaa.P
open Go.RowKit Go.Proofs.YtmbmalkpmanaaaaW.aK Go.Proofs.YtmbmalkpmanaaaaW.bK Go.Proofs.YtmbmalkpmanaaaaW.bM
attribute [local go_sem] dS dU fG fH dB dD dV dW   -- for this text's walks alone
set_option linter.unusedVariables false
set_option linter.unusedSimpArgs false
def bP.f (k : Nat) (aQ : Int) (aR : Int) (aH : List (List (S23))) (av : List (S70)) (a1 : Int) : Option (Int × Bool) := (abN.f).bind fun ayd => ((bg.f k aQ aR aH av a1).bind fun akS => (some (akS.1, akS.2)))
theorem bP.mono : ∀ a0 a1 a2 a3 a4 k, LeO (bP.f k a0 a1 a2 a3 a4) (bP.f (k + 1) a0 a1 a2 a3 a4) := by
 intro a0 a1 a2 a3 a4 k
 unfold bP.f
 repeat' first
  | (with_reducible exact bg.mono _ _ _ _ _ _)
  | (with_reducible exact LeO.refl _)
  | (with_reducible exact LeO.none _)
  | (with_reducible refine LeO.ite ?_ ?_)
  | (with_reducible refine LeO.bind ?_ (fun _ => ?_))
  | exact bg.mono _ _ _ _ _ _
  | exact LeO.none _
  | refine LeO.ite ?_ ?_
  | refine LeO.bind ?_ (fun _ => ?_)
def bP.T1 : Bool × List (List Nat × List Nat) := (true, [([], []), ([], []), ([], []), ([0, 1, 2, 2], [0, 1, 2]), ([3], [3]), ([3], [3]), ([4, 3, 0, 1, 2, 3, 4, 5], [4]), ([5, 6, 0, 1, 2, 3, 4, 5, 6], [5])])
def bP.B1 : List Nat := [0, 0, 0, 7, 15, 15, 63, 127]
theorem bP.aye : xW .any (opsOf Try.f22 1) = bP.T1 := by kernel_rfl
theorem bP.aqx : pq bP.T1.2 bP.B1 = true := by kernel_rfl
set_option maxHeartbeats 8000000 in
set_option maxRecDepth 100000 in
theorem bP.calls (k : Nat) (aQ : Int) (aR : Int) (cu : Option Addr) (bW : Nat) (aH : List (List (S23))) (dz : Option Addr) (bZ : Nat) (av : List (S70)) (a1 : Int) (r1 : Int) (r2 : Bool) (w : World) (iF : Kd.C (Kd.slice 23 k23) w cu aH.length aH) (iG : aH.length ≤ bW) (iw : Kd.C k70 w dz av.length av) (iy : av.length ≤ bZ) (h : bP.f k aQ aR aH av a1 = some (r1, r2)) :
 Calls Try.prog 22 #[.agg #[.int .i64 aQ, .int .i64 aR, .slice cu aH.length bW, .slice dz av.length bZ], .int .i64 a1] w fun e w' => e = .returned (.tuple #[.int .i64 r1, .bool r2]) ∧ Below w.heap.size w w' := by
 have aaE := Try.underlying28
 have gF := am iF
 have gX := am iG
 clear iF iG
 have fK := am iw
 have gW := am iy
 clear iw iy
 have HB := am (Below.refl w.heap.size w)
 have H : ((abN.f).bind fun ayd => ((bg.f k aQ aR aH av a1).bind fun akS => (some (akS.1, akS.2)))) = some (r1, r2) := h
 clear h
 replace H := Option.bind_eq_some_iff.mp H
 obtain ⟨ayd, A30, H⟩ := H
 try dsimp only at H
 have A3 := am A30
 clear A30
 replace H := Option.bind_eq_some_iff.mp H
 obtain ⟨⟨t212, t213⟩, A40, H⟩ := H
 try dsimp only at H
 have A4 := am A40
 clear A40
 simp only [Option.some.injEq, Prod.mk.injEq] at H
 obtain ⟨rfl, rfl⟩ := H
 go_enter Try.func22, Try.ntmps22
 try go_wp2_with (first | ((with_reducible refine bq (N := 2) rfl ?_); refine bx 2 28 #[.int .i64 aQ, .int .i64 aR, .slice cu aH.length bW, .slice dz av.length bZ] ?_; intro aiN hg w5 dL hb; have vP := am (dL); have aB0 := am ((bz hg HB.out : w.heap.size ≤ aiN)); have aqy := am ((bz hg HB.out : w.heap.size ≤ aiN)); replace HB := am (au (bl HB.out) hb); clear hb dL hg))
 replace vP := am (aI vP.out)
 replace HB := am (dx HB.out)
 refine nW (n := 8) (S := fun w' => w'.cell? ⟨aiN, 0, none⟩ = some (.int .i64 aQ) ∧ w'.cell? ⟨aiN, 1, none⟩ = some (.int .i64 aR) ∧ w'.cell? ⟨aiN, 2, none⟩ = some (.slice cu aH.length bW) ∧ w'.cell? ⟨aiN, 3, none⟩ = some (.slice dz av.length bZ)) (ds := []) (rs false [8]) (by kernel_rfl) rfl rfl ⟨bc vP.out 0, bc vP.out 1, bc vP.out 2, bc vP.out 3⟩ (fun hHeld => ?_); refine ji bP.aye bP.aqx (fun HT_ HW_ => ?_)
 generalize w5.drew = w6 at vP HB hHeld ⊢
 refine px 1 7 (rs false [1, 1, 6]) HT_.out ?_
 refine tx 0 6 (rs true [2, 6]) HT_.out HW_.out hHeld ?_
 refine oZ (i := 2) (N := some 8) (rs true [3, 5]) rfl rfl (gM HT_.out (by kernel_rfl)) (by decide) (fun K hK => ?_)
 refine kg Try.func59 (by kernel_rfl) rfl #[] (by rfl) rfl rfl ar ?_
 with_reducible refine (abN.calls  ayd _ A3.out).mono ?_
 rintro e w7 ⟨rfl, hb⟩
 refine ⟨_, rfl, ?_⟩
 replace vP := am (ak (kp vP.out) hb)
 replace HB := am (au (bl1 HB.out aqy.out) hb)
 (try clear hb)
 refine hK.out _ _ ⟨bc vP.out 0, bc vP.out 1, bc vP.out 2, bc vP.out 3⟩ (fun hHeld => ?_)
 clear hK K
 refine nx 8 ?_
 refine oZ (i := 3) (N := some 9) (rs true [4, 4]) rfl rfl (gM HT_.out (by kernel_rfl)) (by decide) (fun K hK => ?_)
 refine kg Try.func58 (by kernel_rfl) rfl #[.agg #[.int .i64 aQ, .int .i64 aR, .slice cu aH.length bW, .slice dz av.length bZ], .int .i64 a1, .agg #[.int .i64 1, .func (.func 25) #[] #[], .func (.func 88) #[] #[], .func (.func 89) #[] #[]]] (by rfl) rfl rfl ar ?_
 with_reducible refine (bg.calls k aQ aR _ _ aH _ _ av a1 t212 t213 _ ?bH ?bI ?dG ?dI A4.out).mono ?_
 (case bH => exact kc (Kd.bf gF.out HB.out))
 (case bI => exact gX.out)
 (case dG => exact kc (Kd.bf fK.out HB.out))
 (case dI => exact gW.out)
 rintro e w8 ⟨rfl, hb⟩
 refine ⟨_, rfl, ?_⟩
 replace vP := am (ak (kp vP.out) hb)
 replace HB := am (au (bl1 HB.out aqy.out) hb)
 (try clear hb)
 refine hK.out _ _ ⟨bc vP.out 0, bc vP.out 1, bc vP.out 2, bc vP.out 3⟩ (fun hHeld => ?_)
 clear hK K
 refine nx 9 ?_
 refine px 4 10 (rs true [5, 3]) HT_.out ?_
 refine px 5 11 (rs true [6, 2]) HT_.out ?_
 refine px 6 4 (rs true [7, 1]) HT_.out ?_
 refine px 7 5 (rs true [8]) HT_.out ?_
 refine tV (kU HT_.out (by kernel_rfl)) ?_
 try go_wp2
 go_ret2
 exact ⟨rt, bl1 HB.out aqy.out⟩
def lH.f (aQ : Int) (aR : Int) (a1 : Int) : Option (Int) := if aR < a1 then (some (-1)) else (if aQ > a1 then (some 1) else (some 0))
set_option maxHeartbeats 8000000 in
set_option maxRecDepth 100000 in
theorem lH.calls (aQ : Int) (aR : Int) (a1 : Int) (r : Int) (w : World) (h : lH.f aQ aR a1 = some r) :
 Calls Try.prog 62 #[.agg #[.int .i64 aQ, .int .i64 aR], .int .i64 a1] w fun e w' => e = .returned (.int .i64 r) ∧ Below w.heap.size w w' := by
 have afs := Try.underlying23
 have HB := am (Below.refl w.heap.size w)
 have H : (if aR < a1 then (some (-1)) else (if aQ > a1 then (some 1) else (some 0))) = some r := h
 clear h
 by_cases c3 : aR < a1
 ·rw [if_pos c3] at H
  have aa8 : decide (aR < a1) = true := decide_eq_true c3
  clear c3
  obtain rfl := Option.some.inj H
  go_enter Try.func62, Try.ntmps62
  go_wp2_with (first | ((with_reducible refine bq (N := 2) rfl ?_); refine bx 2 23 #[.int .i64 aQ, .int .i64 aR] ?_; intro uq hg w4 dL hb; have uw := am (dL); have anT := am ((bz hg HB.out : w.heap.size ≤ uq)); have ae0 := am ((bz hg HB.out : w.heap.size ≤ uq)); replace HB := am (au (bl HB.out) hb); clear hb dL hg; have abD : w4.cell? ⟨uq, 0, none⟩ = some (.int .i64 aQ) := bc uw.out 0; have abE : w4.cell? ⟨uq, 1, none⟩ = some (.int .i64 aR) := bc uw.out 1; have abF := aj uw.out 0; have abG := aj uw.out 1))
  go_ret
  exact ⟨rt, bl1 HB.out ae0.out⟩
 ·rw [if_neg c3] at H
  have aa8 : decide (aR < a1) = false := decide_eq_false c3
  clear c3
  by_cases c6 : aQ > a1
  ·rw [if_pos c6] at H
   have adw : decide (a1 < aQ) = true := decide_eq_true c6
   clear c6
   obtain rfl := Option.some.inj H
   go_enter Try.func62, Try.ntmps62
   go_wp2_with (first | ((with_reducible refine bq (N := 2) rfl ?_); refine bx 2 23 #[.int .i64 aQ, .int .i64 aR] ?_; intro uq hg w7 dL hb; have uw := am (dL); have anT := am ((bz hg HB.out : w.heap.size ≤ uq)); have ae0 := am ((bz hg HB.out : w.heap.size ≤ uq)); replace HB := am (au (bl HB.out) hb); clear hb dL hg; have yx : w7.cell? ⟨uq, 0, none⟩ = some (.int .i64 aQ) := bc uw.out 0; have yA : w7.cell? ⟨uq, 1, none⟩ = some (.int .i64 aR) := bc uw.out 1; have yB := aj uw.out 0; have yC := aj uw.out 1))
   go_ret
   exact ⟨rt, bl1 HB.out ae0.out⟩
  ·rw [if_neg c6] at H
   have adw : decide (a1 < aQ) = false := decide_eq_false c6
   clear c6
   obtain rfl := Option.some.inj H
   go_enter Try.func62, Try.ntmps62
   go_wp2_with (first | ((with_reducible refine bq (N := 2) rfl ?_); refine bx 2 23 #[.int .i64 aQ, .int .i64 aR] ?_; intro uq hg w9 dL hb; have uw := am (dL); have anT := am ((bz hg HB.out : w.heap.size ≤ uq)); have ae0 := am ((bz hg HB.out : w.heap.size ≤ uq)); replace HB := am (au (bl HB.out) hb); clear hb dL hg; have qJ : w9.cell? ⟨uq, 0, none⟩ = some (.int .i64 aQ) := bc uw.out 0; have qK : w9.cell? ⟨uq, 1, none⟩ = some (.int .i64 aR) := bc uw.out 1; have qL := aj uw.out 0; have qM := aj uw.out 1))
   go_ret
   exact ⟨rt, bl1 HB.out ae0.out⟩
def aG.l0 : Nat → List (S23) → Int → Int → Int → Int → Option (Int × Bool)
 | 0, _, _, _, _, _ => none
 | k + 1, x0, x1, x8, x9, x10 => if x9 < x10 then (if 0 ≤ (wrap64 ((IntKind.u64.wrap (wrap64 (x9 + x10))) / 2)) then (if (wrap64 ((IntKind.u64.wrap (wrap64 (x9 + x10))) / 2)) < (x0.length : Int) then ((lH.f ((aT x0 (wrap64 ((IntKind.u64.wrap (wrap64 (x9 + x10))) / 2))).f0) ((aT x0 (wrap64 ((IntKind.u64.wrap (wrap64 (x9 + x10))) / 2))).f1) x1).bind fun adU => (if adU < 0 then (aG.l0 k x0 x1 x8 (wrap64 ((wrap64 ((IntKind.u64.wrap (wrap64 (x9 + x10))) / 2)) + 1)) x10) else (aG.l0 k x0 x1 x8 x9 (wrap64 ((IntKind.u64.wrap (wrap64 (x9 + x10))) / 2))))) else (none)) else (none)) else (if x9 < x8 then (if 0 ≤ x9 then (if x9 < (x0.length : Int) then ((lH.f ((aT x0 x9).f0) ((aT x0 x9).f1) x1).bind fun aqz => (some (x9, (aqz == 0)))) else (none)) else (none)) else (some (x9, false)))
def aG.f (k : Nat) (l0 : List (S23)) (a1 : Int)  : Option (Int × Bool) := aG.l0 k l0 a1 (l0.length : Int) 0 (l0.length : Int)
theorem aG.iX : ∀ k, (∀ y0 y1 y2 y3 y4, LeO (aG.l0 k y0 y1 y2 y3 y4) (aG.l0 (k + 1) y0 y1 y2 y3 y4))
 | 0 => fun _ _ _ _ _ r h => by simp [aG.l0] at h
 | k + 1 => by
  have ih0 := aG.iX k
  ·intro y0 y1 y2 y3 y4
   unfold aG.l0
   repeat' first
   | (with_reducible exact ih0 _ _ _ _ _)
   | (with_reducible exact LeO.refl _)
   | (with_reducible exact LeO.none _)
   | (with_reducible refine LeO.ite ?_ ?_)
   | (with_reducible refine LeO.bind ?_ (fun _ => ?_))
   | exact ih0 _ _ _ _ _
   | exact LeO.none _
   | refine LeO.ite ?_ ?_
   | refine LeO.bind ?_ (fun _ => ?_)
theorem aG.mono : ∀ a0 a1 k, LeO (aG.f k a0 a1) (aG.f (k + 1) a0 a1) := by
 intro a0 a1 k
 have ih0 := aG.iX k
 unfold aG.f
 repeat' first
  | (with_reducible exact ih0 _ _ _ _ _)
  | (with_reducible exact LeO.refl _)
  | (with_reducible exact LeO.none _)
  | (with_reducible refine LeO.ite ?_ ?_)
  | (with_reducible refine LeO.bind ?_ (fun _ => ?_))
  | exact ih0 _ _ _ _ _
  | exact LeO.none _
  | refine LeO.ite ?_ ?_
  | refine LeO.bind ?_ (fun _ => ?_)
set_option maxHeartbeats 8000000 in
set_option maxRecDepth 100000 in
theorem aG.calls (k : Nat) (A0 : Option Addr) (c0 : Nat) (l0 : List (S23)) (a1 : Int)  (r1 : Int) (r2 : Bool) (w : World) (hr0 : Kd.C k23 w A0 l0.length l0) (hc0 : l0.length ≤ c0) (h : aG.f k l0 a1 = some (r1, r2)) :
 Calls Try.prog 61 #[.slice A0 l0.length c0, .int .i64 a1, .func (.func 62) #[] #[]] w fun e w' => e = .returned (.tuple #[.int .i64 r1, .bool r2]) ∧ Below w.heap.size w w' := by
 have afs := Try.underlying23
 have HR0 := am hr0
 have HC0 := am hc0
 clear hr0 hc0
 have HB := am (Below.refl w.heap.size w)
 have H : (aG.l0 k l0 a1 (l0.length : Int) 0 (l0.length : Int)) = some (r1, r2) := h
 clear h
 have H' := am H
 clear H
 go_enter Try.func61, Try.ntmps61
 go_wp2
 go_loopg [9, 10] k (fun kq v9 v10 w' => ∃ (kV : Int) (lS : Int), v9 = .int .i64 kV ∧ v10 = .int .i64 lS ∧ ay (aG.l0 kq l0 a1 (l0.length : Int) kV lS = some (r1, r2)) ∧ ay (kq ≤ k) ∧ ay (Below w.heap.size w w'))
 case atStart => exact ⟨(0), ((l0.length : Int)), sm, sm, H', ⟨Nat.le_refl _⟩, ⟨bl HB.out⟩⟩
 case round =>
  clear H'
  obtain ⟨kV, lS, rfl, rfl, HA, HK1, HB⟩ := hrel
  cases gk with
  | zero => exact absurd HA.out (by simp [aG.l0])
  | succ k1 =>
   have H := HA.out
   clear HA
   simp only [aG.l0] at H
   by_cases c4 : kV < lS
   ·rw [if_pos c4] at H
    have vv : decide (kV < lS) = true := decide_eq_true c4
    clear c4
    obtain ⟨ji5, uW⟩ : ∃ j_ : Int, (wrap64 ((IntKind.u64.wrap (wrap64 (kV + lS))) / 2)) = j_ := ⟨_, rfl⟩
    replace H : (if 0 ≤ (ji5) then (if (ji5) < (l0.length : Int) then ((lH.f ((aT l0 (ji5)).f0) ((aT l0 (ji5)).f1) a1).bind fun adU => (if adU < 0 then (aG.l0 k1 l0 a1 (l0.length : Int) (wrap64 ((ji5) + 1)) lS) else (aG.l0 k1 l0 a1 (l0.length : Int) kV ji5))) else (none)) else (none)) = some (r1, r2) := by first | (rw [uW] at H; exact H) | (simp only [uW] at H ⊢; exact H)
    have asZ : (IntKind.i64.wrap ((IntKind.u64.wrap (wrap64 (kV + lS))) / 2)) = ji5 := (jR _).trans uW
    by_cases c6 : 0 ≤ (ji5)
    case neg => rw [if_neg c6] at H; exact absurd H (by simp)
    rw [if_pos c6] at H
    have adw : decide (0 ≤ (ji5)) = true := decide_eq_true c6
    clear c6
    by_cases c7 : (ji5) < (l0.length : Int)
    case neg => rw [if_neg c7] at H; exact absurd H (by simp)
    rw [if_pos c7] at H
    have afE : decide ((ji5) < (l0.length : Int)) = true := decide_eq_true c7
    clear c7
    replace H := Option.bind_eq_some_iff.mp H
    obtain ⟨adU, A80, H⟩ := H
    try dsimp only at H
    have A8 := am A80
    clear A80
    by_cases c9 : adU < 0
    ·rw [if_pos c9] at H
     have afG : decide (adU < 0) = true := decide_eq_true c9
     clear c9
     have H' := am H
     clear H
     have ags : 0 ≤ ((ji5) : Int) := of_decide_eq_true asm
     have agt : (ji5) < (l0.length : Int) := of_decide_eq_true asm
     obtain ⟨ato, aqA, vQ, vR⟩ := jW HR0.out (ji5) ags agt
     cases aqA
     replace vQ := (HB.out.cell (World.block_lt_of_cell? w _ vQ)).trans vQ
     replace vR := (HB.out.cell (World.block_lt_of_cell? w _ vR)).trans vR
     replace ags := eq_true ags
     replace agt := eq_true agt
     go_wp2_with (first | (go_at_call 62; (with_reducible refine (lH.calls ((aT l0 (ji5)).f0) ((aT l0 (ji5)).f1) a1 adU _ A8.out).mono ?_); rintro e w10 ⟨rfl, hb⟩; replace HB := am (au (bl HB.out) hb); (try clear hb); (try clear hb2); (try clear hk); (try clear hi)))
     go_roundg k1
     case measure => have := HK1.out; omega
     case rel => exact ⟨(wrap64 ((ji5) + 1)), (lS), (by first | rfl | (simp; done) | (simp only [← uW] <;> (first | rfl | simp)) | (simp [*]; done)), sm, H', ⟨by have := HK1.out; omega⟩, ⟨bl HB.out⟩⟩
    ·rw [if_neg c9] at H
     have afG : decide (adU < 0) = false := decide_eq_false c9
     clear c9
     have H' := am H
     clear H
     have ags : 0 ≤ ((ji5) : Int) := of_decide_eq_true asm
     have agt : (ji5) < (l0.length : Int) := of_decide_eq_true asm
     obtain ⟨ato, aqA, vQ, vR⟩ := jW HR0.out (ji5) ags agt
     cases aqA
     replace vQ := (HB.out.cell (World.block_lt_of_cell? w _ vQ)).trans vQ
     replace vR := (HB.out.cell (World.block_lt_of_cell? w _ vR)).trans vR
     replace ags := eq_true ags
     replace agt := eq_true agt
     go_wp2_with (first | (go_at_call 62; (with_reducible refine (lH.calls ((aT l0 (ji5)).f0) ((aT l0 (ji5)).f1) a1 adU _ A8.out).mono ?_); rintro e w11 ⟨rfl, hb⟩; replace HB := am (au (bl HB.out) hb); (try clear hb); (try clear hb2); (try clear hk); (try clear hi)))
     go_roundg k1
     case measure => have := HK1.out; omega
     case rel => exact ⟨(kV), (ji5), sm, (by first | rfl | (simp; done) | (simp only [← uW] <;> (first | rfl | simp)) | (simp [*]; done)), H', ⟨by have := HK1.out; omega⟩, ⟨bl HB.out⟩⟩
   ·rw [if_neg c4] at H
    have vv : decide (kV < lS) = false := decide_eq_false c4
    clear c4
    by_cases c12 : kV < (l0.length : Int)
    ·rw [if_pos c12] at H
     have amy : decide (kV < (l0.length : Int)) = true := decide_eq_true c12
     clear c12
     by_cases c13 : 0 ≤ kV
     case neg => rw [if_neg c13] at H; exact absurd H (by simp)
     rw [if_pos c13] at H
     have yj : decide (0 ≤ kV) = true := decide_eq_true c13
     clear c13
     by_cases c14 : kV < (l0.length : Int)
     case neg => rw [if_neg c14] at H; exact absurd H (by simp)
     rw [if_pos c14] at H
     have wM : decide (kV < (l0.length : Int)) = true := decide_eq_true c14
     clear c14
     replace H := Option.bind_eq_some_iff.mp H
     obtain ⟨aqz, anM, H⟩ := H
     try dsimp only at H
     have A15 := am anM
     clear anM
     simp only [Option.some.injEq, Prod.mk.injEq] at H
     obtain ⟨rfl, rfl⟩ := H
     have aqB : 0 ≤ (kV : Int) := of_decide_eq_true asm
     have aqC : kV < (l0.length : Int) := of_decide_eq_true asm
     obtain ⟨aAT, ayf, adV, adW⟩ := jW HR0.out kV aqB aqC
     cases ayf
     replace adV := (HB.out.cell (World.block_lt_of_cell? w _ adV)).trans adV
     replace adW := (HB.out.cell (World.block_lt_of_cell? w _ adW)).trans adW
     replace aqB := eq_true aqB
     replace aqC := eq_true aqC
     go_wp2_with (first | (go_at_call 62; (with_reducible refine (lH.calls ((aT l0 kV).f0) ((aT l0 kV).f1) a1 aqz _ A15.out).mono ?_); rintro e w16 ⟨rfl, hb⟩; replace HB := am (au (bl HB.out) hb); (try clear hb); (try clear hb2); (try clear hk); (try clear hi)))
     go_ret2
     exact ⟨rt, bl HB.out⟩
    ·rw [if_neg c12] at H
     have amy : decide (kV < (l0.length : Int)) = false := decide_eq_false c12
     clear c12
     simp only [Option.some.injEq, Prod.mk.injEq] at H
     obtain ⟨rfl, rfl⟩ := H
     go_wp2
     go_ret2
     exact ⟨rt, bl HB.out⟩
def jY.f (k : Nat) (l0 : List (S23)) (a1 : Int) : Option (Bool) := (aG.f k l0 a1).bind fun ae1 => (if ae1.2 = true then (some (decide (ae1.1 < (l0.length : Int)))) else (some false))
theorem jY.mono : ∀ a0 a1 k, LeO (jY.f k a0 a1) (jY.f (k + 1) a0 a1) := by
 intro a0 a1 k
 unfold jY.f
 repeat' first
  | (with_reducible exact aG.mono _ _ _)
  | (with_reducible exact LeO.refl _)
  | (with_reducible exact LeO.none _)
  | (with_reducible refine LeO.ite ?_ ?_)
  | (with_reducible refine LeO.bind ?_ (fun _ => ?_))
  | exact aG.mono _ _ _
  | exact LeO.none _
  | refine LeO.ite ?_ ?_
  | refine LeO.bind ?_ (fun _ => ?_)
set_option maxHeartbeats 8000000 in
set_option maxRecDepth 100000 in
theorem jY.calls (k : Nat) (A0 : Option Addr) (c0 : Nat) (l0 : List (S23)) (a1 : Int) (r : Bool) (w : World) (hr0 : Kd.C k23 w A0 l0.length l0) (hc0 : l0.length ≤ c0) (h : jY.f k l0 a1 = some r) :
 Calls Try.prog 24 #[.slice A0 l0.length c0, .int .i64 a1] w fun e w' => e = .returned (.bool r) ∧ Below w.heap.size w w' := by
 have HR0 := am hr0
 have HC0 := am hc0
 clear hr0 hc0
 have HB := am (Below.refl w.heap.size w)
 have H : ((aG.f k l0 a1).bind fun ae1 => (if ae1.2 = true then (some (decide (ae1.1 < (l0.length : Int)))) else (some false))) = some r := h
 clear h
 replace H := Option.bind_eq_some_iff.mp H
 obtain ⟨⟨aqD, ayg⟩, A30, H⟩ := H
 try dsimp only at H
 have A3 := am A30
 clear A30
 by_cases c4 : ayg = true
 ·subst c4
  have H1 : (some (decide (aqD < (l0.length : Int)))) = some r := by rw [if_pos rfl] at H; exact H
  clear H
  have H := H1
  clear H1
  obtain rfl := Option.some.inj H
  go_enter Try.func24, Try.ntmps24
  go_wp2_with (first | ((with_reducible refine aC (f := 61) rfl ?_); refine bR (some 10) rfl rfl Try.func61 (by kernel_rfl) rfl #[.slice A0 l0.length c0, .int .i64 a1, .func (.func 62) #[] #[]] rfl ar ?_; (with_reducible refine (aG.calls k _ _ l0 a1 aqD true _ ?bH ?bI A3.out).mono ?_); (case bH => exact kc HR0.out); (case bI => exact HC0.out); rintro e w5 ⟨rfl, hb⟩; refine ⟨_, rfl, ?_⟩; replace HB := am (au (bl HB.out) hb); (try clear hb); (try clear hb2); (try clear hk); (try clear hi)))
  go_ret
  exact ⟨rt, bl HB.out⟩
 ·replace c4 := Bool.eq_false_iff.mpr c4
  subst c4
  have H1 : (some false) = some r := by rw [if_neg (show ¬ (false = true) by decide)] at H; exact H
  clear H
  have H := H1
  clear H1
  obtain rfl := Option.some.inj H
  go_enter Try.func24, Try.ntmps24
  go_wp2_with (first | ((with_reducible refine aC (f := 61) rfl ?_); refine bR (some 10) rfl rfl Try.func61 (by kernel_rfl) rfl #[.slice A0 l0.length c0, .int .i64 a1, .func (.func 62) #[] #[]] rfl ar ?_; (with_reducible refine (aG.calls k _ _ l0 a1 aqD false _ ?bH ?bI A3.out).mono ?_); (case bH => exact kc HR0.out); (case bI => exact HC0.out); rintro e w6 ⟨rfl, hb⟩; refine ⟨_, rfl, ?_⟩; replace HB := am (au (bl HB.out) hb); (try clear hb); (try clear hb2); (try clear hk); (try clear hi)))
  go_ret
  exact ⟨rt, bl HB.out⟩
end Go.Proofs.Ytmbmalkpmanaaaa.P

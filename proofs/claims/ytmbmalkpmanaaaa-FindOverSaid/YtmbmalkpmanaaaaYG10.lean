/- Lemmas for laws of chapter 7: what the functions that they reach compute. No condition of its own. -/
import Derived.Test.YtmbmalkpmanaaaaYG4
import Derived.Test.YtmbmalkpmanaaaaYG2
import Derived.Test.YtmbmalkpmanaaaaYG9
import Derived.Test.YtmbmalkpmanaaaaYG8
import Derived.WalkSpells
import Derived.WalkKit
import Derived.OwnWalk
import Derived.BigQuiet
import Derived.Laws.EntriesVeiled
import Derived.RangeFuncNested
import Derived.RangeFuncBox
import Derived.RangeFuncLeaves
import Derived.RangeFuncCalls
import Derived.Shelf.Abstract
namespace Go.Proofs.Ytmbmalkpmanaaaa.P
open Go.RowKit Go.Proofs.YtmbmalkpmanaaaaW.aK Go.Proofs.YtmbmalkpmanaaaaW.bK Go.Proofs.YtmbmalkpmanaaaaW.bM
attribute [local go_sem] dS dU fG fH dB dD dV dW   -- for this text's walks alone
set_option linter.unusedVariables false
set_option linter.unusedSimpArgs false
def bn.l0 : Nat → Int → Int → Bool → List (S70) → Int → Int → Int → Option (Int × Bool)
 | 0, _, _, _, _, _, _, _ => none
 | k + 1, x1, x8, x9, x25, x26, x27, x201000 => if x27 < x26 then (if 0 ≤ x27 then (if x27 < (x25.length : Int) then ((eD.f ((aU x25 x27).f1)).bind fun agi => (if agi.2.2 = true then ((j6.f agi.1 agi.2.1 x1).bind fun ako => (if ako = true then (if x9 = true then (if (wrap64 ((wrap64 (((aU x25 x27).f0) - x8)) * x201000)) < 0 then (bn.l0 k x1 ((aU x25 x27).f0) true x25 x26 (wrap64 (x27 + 1)) x201000) else (bn.l0 k x1 x8 x9 x25 x26 (wrap64 (x27 + 1)) x201000)) else (bn.l0 k x1 ((aU x25 x27).f0) true x25 x26 (wrap64 (x27 + 1)) x201000)) else (bn.l0 k x1 x8 x9 x25 x26 (wrap64 (x27 + 1)) x201000))) else (bn.l0 k x1 x8 x9 x25 x26 (wrap64 (x27 + 1)) x201000))) else (none)) else (none)) else (some (x8, x9))
def bn.f (k : Nat) (aQ : Int) (aR : Int) (aH : List (List (S23))) (av : List (S70)) (a1 : Int)  : Option (Int × Bool) := (bU.f k aQ aR aH av (mx (mn a1 1099511627777) (-1099511627777))).bind fun sZ => (bn.l0 k (mx (mn a1 1099511627777) (-1099511627777)) sZ.1 sZ.2 av (av.length : Int) 0 (-1))
theorem bn.iX : ∀ k, (∀ y0 y1 y2 y3 y4 y5 y6, LeO (bn.l0 k y0 y1 y2 y3 y4 y5 y6) (bn.l0 (k + 1) y0 y1 y2 y3 y4 y5 y6))
 | 0 => fun _ _ _ _ _ _ _ r h => by simp [bn.l0] at h
 | k + 1 => by
  have ih0 := bn.iX k
  ·intro y0 y1 y2 y3 y4 y5 y6
   unfold bn.l0
   repeat' first
   | (with_reducible exact ih0 _ _ _ _ _ _ _)
   | (with_reducible exact bU.mono _ _ _ _ _ _)
   | (with_reducible exact LeO.refl _)
   | (with_reducible exact LeO.none _)
   | (with_reducible refine LeO.ite ?_ ?_)
   | (with_reducible refine LeO.bind ?_ (fun _ => ?_))
   | exact ih0 _ _ _ _ _ _ _
   | exact bU.mono _ _ _ _ _ _
   | exact LeO.none _
   | refine LeO.ite ?_ ?_
   | refine LeO.bind ?_ (fun _ => ?_)
theorem bn.mono : ∀ a0 a1 a2 a3 a4 k, LeO (bn.f k a0 a1 a2 a3 a4) (bn.f (k + 1) a0 a1 a2 a3 a4) := by
 intro a0 a1 a2 a3 a4 k
 have ih0 := bn.iX k
 unfold bn.f
 repeat' first
  | (with_reducible exact ih0 _ _ _ _ _ _ _)
  | (with_reducible exact bU.mono _ _ _ _ _ _)
  | (with_reducible exact LeO.refl _)
  | (with_reducible exact LeO.none _)
  | (with_reducible refine LeO.ite ?_ ?_)
  | (with_reducible refine LeO.bind ?_ (fun _ => ?_))
  | exact ih0 _ _ _ _ _ _ _
  | exact bU.mono _ _ _ _ _ _
  | exact LeO.none _
  | refine LeO.ite ?_ ?_
  | refine LeO.bind ?_ (fun _ => ?_)
set_option maxHeartbeats 8000000 in
set_option maxRecDepth 100000 in
theorem bn.calls (k : Nat) (aQ : Int) (aR : Int) (cu : Option Addr) (bW : Nat) (aH : List (List (S23))) (dz : Option Addr) (bZ : Nat) (av : List (S70)) (a1 : Int)  (r1 : Int) (r2 : Bool) (w : World) (iF : Kd.C (Kd.slice 23 k23) w cu aH.length aH) (iG : aH.length ≤ bW) (iw : Kd.C k70 w dz av.length av) (iy : av.length ≤ bZ) (h : bn.f k aQ aR aH av a1 = some (r1, r2)) :
 Calls Try.prog 58 #[.agg #[.int .i64 aQ, .int .i64 aR, .slice cu aH.length bW, .slice dz av.length bZ], .int .i64 a1, .agg #[.int .i64 (-1), .func (.func 90) #[] #[], .func (.func 91) #[] #[], .func (.func 92) #[] #[]]] w fun e w' => e = .returned (.tuple #[.int .i64 r1, .bool r2]) ∧ Below w.heap.size w w' := by
 have aaE := Try.underlying28
 have awj := Try.underlying79
 have ao0 := Try.underlying70
 have afs := Try.underlying23
 have gF := am iF
 have gX := am iG
 clear iF iG
 have fK := am iw
 have gW := am iy
 clear iw iy
 have HB := am (Below.refl w.heap.size w)
 have H : ((bU.f k aQ aR aH av (mx (mn a1 1099511627777) (-1099511627777))).bind fun sZ => (bn.l0 k (mx (mn a1 1099511627777) (-1099511627777)) sZ.1 sZ.2 av (av.length : Int) 0 (-1))) = some (r1, r2) := h
 clear h
 obtain ⟨ji4, akp⟩ : ∃ j_ : Int, (mn a1 1099511627777) = j_ := ⟨_, rfl⟩
 replace H : ((bU.f k aQ aR aH av (mx (ji4) (-1099511627777))).bind fun sZ => (bn.l0 k (mx (ji4) (-1099511627777)) sZ.1 sZ.2 av (av.length : Int) 0 (-1))) = some (r1, r2) := by first | (rw [akp] at H; exact H) | (simp only [akp] at H ⊢; exact H)
 (try (have axo : ji4 ≤ 1099511627777 := by (rw [← akp]; unfold mn; (repeat' split) <;> omega)))
 (try (have axp : ji4 ≤ 64 := by omega))
 have axq : (if 1099511627777 < a1 then 1099511627777 else a1) = ji4 := akp
 obtain ⟨ji5, uW⟩ : ∃ j_ : Int, (mx (ji4) (-1099511627777)) = j_ := ⟨_, rfl⟩
 replace H : ((bU.f k aQ aR aH av (ji5)).bind fun sZ => (bn.l0 k ji5 sZ.1 sZ.2 av (av.length : Int) 0 (-1))) = some (r1, r2) := by first | (rw [uW] at H; exact H) | (simp only [uW] at H ⊢; exact H)
 have apI : (if (ji4) < (-1099511627777) then (-1099511627777) else (ji4)) = ji5 := uW
 replace H := Option.bind_eq_some_iff.mp H
 obtain ⟨⟨t201, atf⟩, A60, H⟩ := H
 try dsimp only at H
 have A6 := am A60
 clear A60
 have H' := am H
 clear H
 go_enter Try.func58, Try.ntmps58
 go_wp2_with (first | ((with_reducible refine bq (N := 3) rfl ?_); refine bx 3 28 #[.int .i64 aQ, .int .i64 aR, .slice cu aH.length bW, .slice dz av.length bZ] ?_; intro iA hg w7 dL hb; have dH := am (dL); have axr := am ((bz hg HB.out : w.heap.size ≤ iA)); have fO := am ((bz hg HB.out : w.heap.size ≤ iA)); replace HB := am (au (bl HB.out) hb); clear hb dL hg) | ((with_reducible refine bq (N := 5) rfl ?_); refine bx 5 79 #[.int .i64 (-1), .func (.func 90) #[] #[], .func (.func 91) #[] #[], .func (.func 92) #[] #[]] ?_; intro fC hg w8 dL hb; have bL := am (dL); have axt := am ((bz1 hg HB.out fO.out : w.heap.size ≤ fC)); have fV := am ((bz1 hg HB.out fO.out : w.heap.size ≤ fC)); replace HB := am (au (bl1 HB.out fO.out) hb); have nN := am ((nl hg dH.out : iA ≠ fC)); have nO := am ((ng hg dH.out : fC ≠ iA)); replace dH := am (ak (kp dH.out) hb); clear hb dL hg; have aBY := nN.out; have aBZ := nO.out; have qJ : w8.cell? ⟨iA, 0, none⟩ = some (.int .i64 aQ) := bc dH.out 0; have qK : w8.cell? ⟨iA, 1, none⟩ = some (.int .i64 aR) := bc dH.out 1; have rZ : w8.cell? ⟨iA, 2, none⟩ = some (.slice cu aH.length bW) := bc dH.out 2; have r9 : w8.cell? ⟨iA, 3, none⟩ = some (.slice dz av.length bZ) := bc dH.out 3; have qL := aj dH.out 0; have qM := aj dH.out 1; have sj := aj dH.out 2; have su := aj dH.out 3; have mg : w8.cell? ⟨fC, 0, none⟩ = some (.int .i64 (-1)) := bc bL.out 0; have mh : w8.cell? ⟨fC, 1, none⟩ = some (.func (.func 90) #[] #[]) := bc bL.out 1; have mX : w8.cell? ⟨fC, 2, none⟩ = some (.func (.func 91) #[] #[]) := bc bL.out 2; have mY : w8.cell? ⟨fC, 3, none⟩ = some (.func (.func 92) #[] #[]) := bc bL.out 3; have mq := aj bL.out 0; have mD := aj bL.out 1; have mZ := aj bL.out 2; have ni := aj bL.out 3) | ((with_reducible refine aC (f := 87) rfl ?_); refine bR (some 21) rfl rfl Try.func87 (by kernel_rfl) rfl #[.agg #[.int .i64 aQ, .int .i64 aR, .slice cu aH.length bW, .slice dz av.length bZ], .int .i64 ji5, .agg #[.int .i64 (-1), .func (.func 90) #[] #[], .func (.func 91) #[] #[], .func (.func 92) #[] #[]]] rfl (by (try simp only [List.map_toArray, List.map_cons, List.map_nil]); first | done | (simp only [uW]; rfl) | rfl | (simp only [List.length_drop, List.length_take]; rfl)) ?_; (with_reducible refine (bU.calls k aQ aR _ _ aH _ _ av ji5 t201 atf _ ?bH ?bI ?dG ?dI A6.out).mono ?_); (case bH => exact kc (Kd.bf gF.out HB.out)); (case bI => exact gX.out); (case dG => exact kc (Kd.bf fK.out HB.out)); (case dI => exact gW.out); rintro e w12 ⟨rfl, hb⟩; refine ⟨_, rfl, ?_⟩; replace dH := am (ak (kp dH.out) hb); replace bL := am (ak (kp bL.out) hb); replace HB := am (au (bl2 HB.out fO.out fV.out) hb); (try clear hb); (try clear hb2); (try clear hk); (try clear hi); have sw : w12.cell? ⟨iA, 0, none⟩ = some (.int .i64 aQ) := bc dH.out 0; have sD : w12.cell? ⟨iA, 1, none⟩ = some (.int .i64 aR) := bc dH.out 1; have uL : w12.cell? ⟨iA, 2, none⟩ = some (.slice cu aH.length bW) := bc dH.out 2; have uM : w12.cell? ⟨iA, 3, none⟩ = some (.slice dz av.length bZ) := bc dH.out 3; have sF := aj dH.out 0; have sG := aj dH.out 1; have uN := aj dH.out 2; have uO := aj dH.out 3))
 go_loopg [8, 9, 27] k (fun kq v8 v9 v27 w' => ∃ (lG : Int) (kV : Bool) (cK : Int), v8 = .int .i64 lG ∧ v9 = .bool kV ∧ v27 = .int .i64 cK ∧ ay (bn.l0 kq ji5 lG kV av (av.length : Int) cK (-1) = some (r1, r2)) ∧ ay (kq ≤ k) ∧ ay (w'.heap[iA]? = some (.cells #[.int .i64 aQ, .int .i64 aR, (.slice cu aH.length bW), (.slice dz av.length bZ)] 28 (0, 0))) ∧ ay (w'.heap[fC]? = some (.cells #[.int .i64 (-1), (.func (.func 90) #[] #[]), (.func (.func 91) #[] #[]), (.func (.func 92) #[] #[])] 79 (0, 0))) ∧ ay (Below w.heap.size w w'))
 case atStart => exact ⟨(t201), (atf), (0), sm, sm, sm, H', ⟨Nat.le_refl _⟩, ⟨kp dH.out⟩, ⟨kp bL.out⟩, ⟨bl2 HB.out fO.out fV.out⟩⟩
 case round =>
  clear H'
  try clear qJ
  try clear qK
  try clear rZ
  try clear r9
  try clear mg
  try clear mh
  try clear mX
  try clear mY
  try clear sw
  try clear sD
  try clear uL
  try clear uM
  try clear qL
  try clear qM
  try clear sj
  try clear su
  try clear mq
  try clear mD
  try clear mZ
  try clear ni
  try clear sF
  try clear sG
  try clear uN
  try clear uO
  obtain ⟨lG, kV, cK, rfl, rfl, rfl, HA, HK1, dH, bL, HB⟩ := hrel
  cases gk with
  | zero => exact absurd HA.out (by simp [bn.l0])
  | succ k1 =>
   have H := HA.out
   clear HA
   simp only [bn.l0] at H
   by_cases c14 : cK < (av.length : Int)
   ·rw [if_pos c14] at H
    have wM : decide (cK < (av.length : Int)) = true := decide_eq_true c14
    clear c14
    by_cases c15 : 0 ≤ cK
    case neg => rw [if_neg c15] at H; exact absurd H (by simp)
    rw [if_pos c15] at H
    have abC : decide (0 ≤ cK) = true := decide_eq_true c15
    clear c15
    by_cases c16 : cK < (av.length : Int)
    case neg => rw [if_neg c16] at H; exact absurd H (by simp)
    rw [if_pos c16] at H
    have apJ : decide (cK < (av.length : Int)) = true := decide_eq_true c16
    clear c16
    replace H := Option.bind_eq_some_iff.mp H
    obtain ⟨⟨wN, t206, axu⟩, A170, H⟩ := H
    try dsimp only at H
    have A17 := am A170
    clear A170
    by_cases c18 : axu = true
    ·subst c18
     have H1 : ((j6.f wN t206 ji5).bind fun ako => (if ako = true then (if kV = true then (if (wrap64 ((wrap64 (((aU av cK).f0) - lG)) * (-1))) < 0 then (bn.l0 k1 ji5 ((aU av cK).f0) true av (av.length : Int) (wrap64 (cK + 1)) (-1)) else (bn.l0 k1 ji5 lG kV av (av.length : Int) (wrap64 (cK + 1)) (-1))) else (bn.l0 k1 ji5 ((aU av cK).f0) true av (av.length : Int) (wrap64 (cK + 1)) (-1))) else (bn.l0 k1 ji5 lG kV av (av.length : Int) (wrap64 (cK + 1)) (-1)))) = some (r1, r2) := by rw [if_pos rfl] at H; exact H
     clear H
     have H := H1
     clear H1
     replace H := Option.bind_eq_some_iff.mp H
     obtain ⟨ako, atg, H⟩ := H
     try dsimp only at H
     have A19 := am atg
     clear atg
     by_cases c20 : ako = true
     ·subst c20
      have H1 : (if kV = true then (if (wrap64 ((wrap64 (((aU av cK).f0) - lG)) * (-1))) < 0 then (bn.l0 k1 ji5 ((aU av cK).f0) true av (av.length : Int) (wrap64 (cK + 1)) (-1)) else (bn.l0 k1 ji5 lG kV av (av.length : Int) (wrap64 (cK + 1)) (-1))) else (bn.l0 k1 ji5 ((aU av cK).f0) true av (av.length : Int) (wrap64 (cK + 1)) (-1))) = some (r1, r2) := by rw [if_pos rfl] at H; exact H
      clear H
      have H := H1
      clear H1
      by_cases c21 : kV = true
      ·subst c21
       have H1 : (if (wrap64 ((wrap64 (((aU av cK).f0) - lG)) * (-1))) < 0 then (bn.l0 k1 ji5 ((aU av cK).f0) true av (av.length : Int) (wrap64 (cK + 1)) (-1)) else (bn.l0 k1 ji5 lG true av (av.length : Int) (wrap64 (cK + 1)) (-1))) = some (r1, r2) := by rw [if_pos rfl] at H; exact H
       clear H
       have H := H1
       clear H1
       by_cases c22 : (wrap64 ((wrap64 (((aU av cK).f0) - lG)) * (-1))) < 0
       ·rw [if_pos c22] at H
        have yt : decide ((wrap64 ((wrap64 (((aU av cK).f0) - lG)) * (-1))) < 0) = true := decide_eq_true c22
        (try simp only [Int.mul_one, Int.mul_neg, Int.add_zero] at yt)
        clear c22
        have H' := am H
        clear H
        have vN : 0 ≤ (cK : Int) := of_decide_eq_true asm
        have vO : cK < (av.length : Int) := of_decide_eq_true asm
        obtain ⟨qw, jm, jo, e203, iI, iJ, jE, jF⟩ := kZ fK.out cK vN vO
        cases e203
        replace iI := (HB.out.cell (World.block_lt_of_cell? w _ iI)).trans iI
        replace iJ := (HB.out.cell (World.block_lt_of_cell? w _ iJ)).trans iJ
        have mE := am jF
        have mF := am jE
        clear jF jE
        replace vN := eq_true vN
        replace vO := eq_true vO
        go_wp2_with (first | ((with_reducible refine bq (N := 11) rfl ?_); refine bx 11 70 #[.int .i64 0, .slice none 0 0] ?_; intro eP hg w23 dL hb; have dY := am (dL); have adS := am ((bz2 hg HB.out fO.out fV.out : w.heap.size ≤ eP)); have iN := am ((bz2 hg HB.out fO.out fV.out : w.heap.size ≤ eP)); replace HB := am (au (bl2 HB.out fO.out fV.out) hb); have gP := am ((nl hg dH.out : iA ≠ eP)); have jG := am ((ng hg dH.out : eP ≠ iA)); replace dH := am (ak (kp dH.out) hb); have gQ := am ((nl hg bL.out : fC ≠ eP)); have jH := am ((ng hg bL.out : eP ≠ fC)); replace bL := am (ak (kp bL.out) hb); clear hb dL hg; have aoQ := jG.out; have aoR := gP.out; have axv := jH.out; have axw := gQ.out; have af4 : w23.cell? ⟨eP, 0, none⟩ = some (.int .i64 0) := bc dY.out 0; have af5 : w23.cell? ⟨eP, 1, none⟩ = some (.slice none 0 0) := bc dY.out 1; have af6 := aj dY.out 0; have af7 := aj dY.out 1) | ((with_reducible refine aC (f := 43) rfl ?_); refine bR (some 34) rfl rfl Try.func43 (by kernel_rfl) rfl #[.slice jm ((aU av cK).f1).length jo] rfl ar ?_; (with_reducible refine (eD.calls _ _ ((aU av cK).f1) wN t206 true _ ?bH ?bI A17.out).mono ?_); (case bH => exact Kd.bf mE.out (bl3 HB.out fO.out fV.out iN.out)); (case bI => exact mF.out); rintro e w27 ⟨rfl, hb⟩; refine ⟨_, rfl, ?_⟩; replace dH := am (ak (g := iA) (o := .cells #[.int .i64 aQ, .int .i64 aR, .slice cu aH.length bW, .slice (some qw) av.length bZ] 28 (0, 0)) (kf dH.out gP.out) hb); replace bL := am (ak (g := fC) (o := .cells #[.int .i64 (-1), .func (.func 90) #[] #[], .func (.func 91) #[] #[], .func (.func 92) #[] #[]] 79 (0, 0)) (kf bL.out gQ.out) hb); replace dY := am (ak (g := eP) (o := .cells #[.int .i64 ((aU av cK).f0), .slice jm ((aU av cK).f1).length jo] 70 (0, 0)) (by (with_reducible repeat (first | refine aM ?_ _ | refine aI ?_ | refine aA ?_ _)); refine bX (cs := #[.int .i64 ((aU av cK).f0), .slice none 0 0]) ?_ 1 _ rfl; (with_reducible repeat (first | refine aM ?_ _ | refine aI ?_ | refine aA ?_ _)); refine bX (cs := #[.int .i64 0, .slice none 0 0]) ?_ 0 _ rfl; (with_reducible repeat (first | refine aM ?_ _ | refine aI ?_ | refine aA ?_ _)); exact dY.out) hb); replace HB := am (au (bl3 HB.out fO.out fV.out iN.out) hb); (try clear hb); (try clear hb2); (try clear hk); (try clear hi)) | ((with_reducible refine bq (N := 12) rfl ?_); refine bx 12 23 #[.int .i64 0, .int .i64 0] ?_; intro fI hg w28 dL hb; have jq := am (dL); have adT := am ((bz3 hg HB.out fO.out fV.out iN.out : w.heap.size ≤ fI)); have qx := am ((bz3 hg HB.out fO.out fV.out iN.out : w.heap.size ≤ fI)); replace HB := am (au (bl3 HB.out fO.out fV.out iN.out) hb); have gU := am ((nl hg dH.out : iA ≠ fI)); have jI := am ((ng hg dH.out : fI ≠ iA)); replace dH := am (ak (kp dH.out) hb); have gV := am ((nl hg bL.out : fC ≠ fI)); have jJ := am ((ng hg bL.out : fI ≠ fC)); replace bL := am (ak (kp bL.out) hb); have iC := am ((nl hg dY.out : eP ≠ fI)); have jK := am ((ng hg dY.out : fI ≠ eP)); replace dY := am (ak (kp dY.out) hb); clear hb dL hg; have aoS := jI.out; have aoT := gU.out; have ath := jJ.out; have ati := gV.out; have axx := jK.out; have axy := iC.out; have adO : w28.cell? ⟨fI, 0, none⟩ = some (.int .i64 0) := bc jq.out 0; have adP : w28.cell? ⟨fI, 1, none⟩ = some (.int .i64 0) := bc jq.out 1; have adQ := aj jq.out 0; have adR := aj jq.out 1; have axz := nO.out; have axA := nN.out; have af8 : w28.cell? ⟨fC, 0, none⟩ = some (.int .i64 (-1)) := bc bL.out 0; have af9 : w28.cell? ⟨fC, 1, none⟩ = some (.func (.func 90) #[] #[]) := bc bL.out 1; have aga : w28.cell? ⟨fC, 2, none⟩ = some (.func (.func 91) #[] #[]) := bc bL.out 2; have agb : w28.cell? ⟨fC, 3, none⟩ = some (.func (.func 92) #[] #[]) := bc bL.out 3; have agc := aj bL.out 0; have agd := aj bL.out 1; have agf := aj bL.out 2; have agh := aj bL.out 3) | (go_at_call 92; (with_reducible refine (j6.calls wN t206 ji5 true _ A19.out).mono ?_); rintro e w35 ⟨rfl, hb⟩; replace dH := am (ak (g := iA) (o := .cells #[.int .i64 aQ, .int .i64 aR, .slice cu aH.length bW, .slice (some qw) av.length bZ] 28 (0, 0)) (kf dH.out gU.out) hb); replace bL := am (ak (g := fC) (o := .cells #[.int .i64 (-1), .func (.func 90) #[] #[], .func (.func 91) #[] #[], .func (.func 92) #[] #[]] 79 (0, 0)) (kf bL.out gV.out) hb); replace dY := am (ak (g := eP) (o := .cells #[.int .i64 ((aU av cK).f0), .slice jm ((aU av cK).f1).length jo] 70 (0, 0)) (kf dY.out iC.out) hb); replace jq := am (ak (g := fI) (o := .cells #[.int .i64 wN, .int .i64 t206] 23 (0, 0)) (by (with_reducible repeat (first | refine aM ?_ _ | refine aI ?_ | refine aA ?_ _)); refine bX (cs := #[.int .i64 wN, .int .i64 0]) ?_ 1 _ rfl; (with_reducible repeat (first | refine aM ?_ _ | refine aI ?_ | refine aA ?_ _)); refine bX (cs := #[.int .i64 0, .int .i64 0]) ?_ 0 _ rfl; (with_reducible repeat (first | refine aM ?_ _ | refine aI ?_ | refine aA ?_ _)); exact jq.out) hb); replace HB := am (au (by repeat (first | (with_reducible first | exact HB.out | apply eG | apply dN | apply dx | refine bO ?_ fO.out | refine bO ?_ fV.out | refine bO ?_ iN.out | refine bO ?_ qx.out) | exact HB.out)) hb); (try clear hb); (try clear hb2); (try clear hk); (try clear hi); have agj : w35.cell? ⟨eP, 0, none⟩ = some (.int .i64 ((aU av cK).f0)) := bc dY.out 0; have agk : w35.cell? ⟨eP, 1, none⟩ = some (.slice jm ((aU av cK).f1).length jo) := bc dY.out 1; have agl := aj dY.out 0; have agm := aj dY.out 1; have akq : w35.cell? ⟨fC, 0, none⟩ = some (.int .i64 (-1)) := bc bL.out 0; have akr : w35.cell? ⟨fC, 1, none⟩ = some (.func (.func 90) #[] #[]) := bc bL.out 1; have aks : w35.cell? ⟨fC, 2, none⟩ = some (.func (.func 91) #[] #[]) := bc bL.out 2; have akt : w35.cell? ⟨fC, 3, none⟩ = some (.func (.func 92) #[] #[]) := bc bL.out 3; have aku := aj bL.out 0; have akv := aj bL.out 1; have akw := aj bL.out 2; have akx := aj bL.out 3))
        go_roundg k1
        case measure => have := HK1.out; omega
        case rel => exact ⟨((aU av cK).f0), (true), (wrap64 (cK + 1)), sm, sm, sm, H', ⟨by have := HK1.out; omega⟩, ⟨kp dH.out⟩, ⟨kp bL.out⟩, ⟨by repeat (first | (with_reducible first | exact HB.out | apply eG | apply dN | apply dx | refine bO ?_ fO.out | refine bO ?_ fV.out | refine bO ?_ iN.out | refine bO ?_ qx.out) | exact HB.out)⟩⟩
       ·rw [if_neg c22] at H
        have yt : decide ((wrap64 ((wrap64 (((aU av cK).f0) - lG)) * (-1))) < 0) = false := decide_eq_false c22
        (try simp only [Int.mul_one, Int.mul_neg, Int.add_zero] at yt)
        clear c22
        have H' := am H
        clear H
        have vN : 0 ≤ (cK : Int) := of_decide_eq_true asm
        have vO : cK < (av.length : Int) := of_decide_eq_true asm
        obtain ⟨qw, jm, jo, e203, iI, iJ, jE, jF⟩ := kZ fK.out cK vN vO
        cases e203
        replace iI := (HB.out.cell (World.block_lt_of_cell? w _ iI)).trans iI
        replace iJ := (HB.out.cell (World.block_lt_of_cell? w _ iJ)).trans iJ
        have mE := am jF
        have mF := am jE
        clear jF jE
        replace vN := eq_true vN
        replace vO := eq_true vO
        go_wp2_with (first | ((with_reducible refine bq (N := 11) rfl ?_); refine bx 11 70 #[.int .i64 0, .slice none 0 0] ?_; intro eP hg w38 dL hb; have dY := am (dL); have adS := am ((bz2 hg HB.out fO.out fV.out : w.heap.size ≤ eP)); have iN := am ((bz2 hg HB.out fO.out fV.out : w.heap.size ≤ eP)); replace HB := am (au (bl2 HB.out fO.out fV.out) hb); have gP := am ((nl hg dH.out : iA ≠ eP)); have jG := am ((ng hg dH.out : eP ≠ iA)); replace dH := am (ak (kp dH.out) hb); have gQ := am ((nl hg bL.out : fC ≠ eP)); have jH := am ((ng hg bL.out : eP ≠ fC)); replace bL := am (ak (kp bL.out) hb); clear hb dL hg; have aoU := jG.out; have aoV := gP.out; have atj := jH.out; have atl := gQ.out; have aky : w38.cell? ⟨eP, 0, none⟩ = some (.int .i64 0) := bc dY.out 0; have akz : w38.cell? ⟨eP, 1, none⟩ = some (.slice none 0 0) := bc dY.out 1; have akA := aj dY.out 0; have akB := aj dY.out 1) | ((with_reducible refine aC (f := 43) rfl ?_); refine bR (some 34) rfl rfl Try.func43 (by kernel_rfl) rfl #[.slice jm ((aU av cK).f1).length jo] rfl ar ?_; (with_reducible refine (eD.calls _ _ ((aU av cK).f1) wN t206 true _ ?bH ?bI A17.out).mono ?_); (case bH => exact Kd.bf mE.out (bl3 HB.out fO.out fV.out iN.out)); (case bI => exact mF.out); rintro e w42 ⟨rfl, hb⟩; refine ⟨_, rfl, ?_⟩; replace dH := am (ak (g := iA) (o := .cells #[.int .i64 aQ, .int .i64 aR, .slice cu aH.length bW, .slice (some qw) av.length bZ] 28 (0, 0)) (kf dH.out gP.out) hb); replace bL := am (ak (g := fC) (o := .cells #[.int .i64 (-1), .func (.func 90) #[] #[], .func (.func 91) #[] #[], .func (.func 92) #[] #[]] 79 (0, 0)) (kf bL.out gQ.out) hb); replace dY := am (ak (g := eP) (o := .cells #[.int .i64 ((aU av cK).f0), .slice jm ((aU av cK).f1).length jo] 70 (0, 0)) (by (with_reducible repeat (first | refine aM ?_ _ | refine aI ?_ | refine aA ?_ _)); refine bX (cs := #[.int .i64 ((aU av cK).f0), .slice none 0 0]) ?_ 1 _ rfl; (with_reducible repeat (first | refine aM ?_ _ | refine aI ?_ | refine aA ?_ _)); refine bX (cs := #[.int .i64 0, .slice none 0 0]) ?_ 0 _ rfl; (with_reducible repeat (first | refine aM ?_ _ | refine aI ?_ | refine aA ?_ _)); exact dY.out) hb); replace HB := am (au (bl3 HB.out fO.out fV.out iN.out) hb); (try clear hb); (try clear hb2); (try clear hk); (try clear hi)) | ((with_reducible refine bq (N := 12) rfl ?_); refine bx 12 23 #[.int .i64 0, .int .i64 0] ?_; intro fI hg w43 dL hb; have jq := am (dL); have adT := am ((bz3 hg HB.out fO.out fV.out iN.out : w.heap.size ≤ fI)); have qx := am ((bz3 hg HB.out fO.out fV.out iN.out : w.heap.size ≤ fI)); replace HB := am (au (bl3 HB.out fO.out fV.out iN.out) hb); have gU := am ((nl hg dH.out : iA ≠ fI)); have jI := am ((ng hg dH.out : fI ≠ iA)); replace dH := am (ak (kp dH.out) hb); have gV := am ((nl hg bL.out : fC ≠ fI)); have jJ := am ((ng hg bL.out : fI ≠ fC)); replace bL := am (ak (kp bL.out) hb); have iC := am ((nl hg dY.out : eP ≠ fI)); have jK := am ((ng hg dY.out : fI ≠ eP)); replace dY := am (ak (kp dY.out) hb); clear hb dL hg; have atm := jI.out; have atn := gU.out; have axB := jJ.out; have axC := gV.out; have amw := jK.out; have amx := iC.out; have agn : w43.cell? ⟨fI, 0, none⟩ = some (.int .i64 0) := bc jq.out 0; have agp : w43.cell? ⟨fI, 1, none⟩ = some (.int .i64 0) := bc jq.out 1; have agq := aj jq.out 0; have agr := aj jq.out 1; have axD := nO.out; have axE := nN.out; have apK : w43.cell? ⟨fC, 0, none⟩ = some (.int .i64 (-1)) := bc bL.out 0; have apL : w43.cell? ⟨fC, 1, none⟩ = some (.func (.func 90) #[] #[]) := bc bL.out 1; have apM : w43.cell? ⟨fC, 2, none⟩ = some (.func (.func 91) #[] #[]) := bc bL.out 2; have apN : w43.cell? ⟨fC, 3, none⟩ = some (.func (.func 92) #[] #[]) := bc bL.out 3; have apO := aj bL.out 0; have apP := aj bL.out 1; have apQ := aj bL.out 2; have apR := aj bL.out 3) | (go_at_call 92; (with_reducible refine (j6.calls wN t206 ji5 true _ A19.out).mono ?_); rintro e w50 ⟨rfl, hb⟩; replace dH := am (ak (g := iA) (o := .cells #[.int .i64 aQ, .int .i64 aR, .slice cu aH.length bW, .slice (some qw) av.length bZ] 28 (0, 0)) (kf dH.out gU.out) hb); replace bL := am (ak (g := fC) (o := .cells #[.int .i64 (-1), .func (.func 90) #[] #[], .func (.func 91) #[] #[], .func (.func 92) #[] #[]] 79 (0, 0)) (kf bL.out gV.out) hb); replace dY := am (ak (g := eP) (o := .cells #[.int .i64 ((aU av cK).f0), .slice jm ((aU av cK).f1).length jo] 70 (0, 0)) (kf dY.out iC.out) hb); replace jq := am (ak (g := fI) (o := .cells #[.int .i64 wN, .int .i64 t206] 23 (0, 0)) (by (with_reducible repeat (first | refine aM ?_ _ | refine aI ?_ | refine aA ?_ _)); refine bX (cs := #[.int .i64 wN, .int .i64 0]) ?_ 1 _ rfl; (with_reducible repeat (first | refine aM ?_ _ | refine aI ?_ | refine aA ?_ _)); refine bX (cs := #[.int .i64 0, .int .i64 0]) ?_ 0 _ rfl; (with_reducible repeat (first | refine aM ?_ _ | refine aI ?_ | refine aA ?_ _)); exact jq.out) hb); replace HB := am (au (by repeat (first | (with_reducible first | exact HB.out | apply eG | apply dN | apply dx | refine bO ?_ fO.out | refine bO ?_ fV.out | refine bO ?_ iN.out | refine bO ?_ qx.out) | exact HB.out)) hb); (try clear hb); (try clear hb2); (try clear hk); (try clear hi); have akC : w50.cell? ⟨eP, 0, none⟩ = some (.int .i64 ((aU av cK).f0)) := bc dY.out 0; have akD : w50.cell? ⟨eP, 1, none⟩ = some (.slice jm ((aU av cK).f1).length jo) := bc dY.out 1; have akE := aj dY.out 0; have akF := aj dY.out 1; have akG : w50.cell? ⟨fC, 0, none⟩ = some (.int .i64 (-1)) := bc bL.out 0; have akH : w50.cell? ⟨fC, 1, none⟩ = some (.func (.func 90) #[] #[]) := bc bL.out 1; have akI : w50.cell? ⟨fC, 2, none⟩ = some (.func (.func 91) #[] #[]) := bc bL.out 2; have akJ : w50.cell? ⟨fC, 3, none⟩ = some (.func (.func 92) #[] #[]) := bc bL.out 3; have akK := aj bL.out 0; have akL := aj bL.out 1; have akM := aj bL.out 2; have akN := aj bL.out 3))
        go_roundg k1
        case measure => have := HK1.out; omega
        case rel => exact ⟨(lG), (true), (wrap64 (cK + 1)), sm, sm, sm, H', ⟨by have := HK1.out; omega⟩, ⟨kp dH.out⟩, ⟨kp bL.out⟩, ⟨by repeat (first | (with_reducible first | exact HB.out | apply eG | apply dN | apply dx | refine bO ?_ fO.out | refine bO ?_ fV.out | refine bO ?_ iN.out | refine bO ?_ qx.out) | exact HB.out)⟩⟩
      ·replace c21 := Bool.eq_false_iff.mpr c21
       subst c21
       have H1 : (bn.l0 k1 ji5 ((aU av cK).f0) true av (av.length : Int) (wrap64 (cK + 1)) (-1)) = some (r1, r2) := by rw [if_neg (show ¬ (false = true) by decide)] at H; exact H
       clear H
       have H := H1
       clear H1
       have H' := am H
       clear H
       have vN : 0 ≤ (cK : Int) := of_decide_eq_true asm
       have vO : cK < (av.length : Int) := of_decide_eq_true asm
       obtain ⟨qw, jm, jo, e203, iI, iJ, jE, jF⟩ := kZ fK.out cK vN vO
       cases e203
       replace iI := (HB.out.cell (World.block_lt_of_cell? w _ iI)).trans iI
       replace iJ := (HB.out.cell (World.block_lt_of_cell? w _ iJ)).trans iJ
       have mE := am jF
       have mF := am jE
       clear jF jE
       replace vN := eq_true vN
       replace vO := eq_true vO
       go_wp2_with (first | ((with_reducible refine bq (N := 11) rfl ?_); refine bx 11 70 #[.int .i64 0, .slice none 0 0] ?_; intro eP hg w53 dL hb; have dY := am (dL); have adS := am ((bz2 hg HB.out fO.out fV.out : w.heap.size ≤ eP)); have iN := am ((bz2 hg HB.out fO.out fV.out : w.heap.size ≤ eP)); replace HB := am (au (bl2 HB.out fO.out fV.out) hb); have gP := am ((nl hg dH.out : iA ≠ eP)); have jG := am ((ng hg dH.out : eP ≠ iA)); replace dH := am (ak (kp dH.out) hb); have gQ := am ((nl hg bL.out : fC ≠ eP)); have jH := am ((ng hg bL.out : eP ≠ fC)); replace bL := am (ak (kp bL.out) hb); clear hb dL hg; have axF := jG.out; have axG := gP.out; have axH := jH.out; have axI := gQ.out; have apS : w53.cell? ⟨eP, 0, none⟩ = some (.int .i64 0) := bc dY.out 0; have apT : w53.cell? ⟨eP, 1, none⟩ = some (.slice none 0 0) := bc dY.out 1; have apU := aj dY.out 0; have apV := aj dY.out 1) | ((with_reducible refine aC (f := 43) rfl ?_); refine bR (some 34) rfl rfl Try.func43 (by kernel_rfl) rfl #[.slice jm ((aU av cK).f1).length jo] rfl ar ?_; (with_reducible refine (eD.calls _ _ ((aU av cK).f1) wN t206 true _ ?bH ?bI A17.out).mono ?_); (case bH => exact Kd.bf mE.out (bl3 HB.out fO.out fV.out iN.out)); (case bI => exact mF.out); rintro e w57 ⟨rfl, hb⟩; refine ⟨_, rfl, ?_⟩; replace dH := am (ak (g := iA) (o := .cells #[.int .i64 aQ, .int .i64 aR, .slice cu aH.length bW, .slice (some qw) av.length bZ] 28 (0, 0)) (kf dH.out gP.out) hb); replace bL := am (ak (g := fC) (o := .cells #[.int .i64 (-1), .func (.func 90) #[] #[], .func (.func 91) #[] #[], .func (.func 92) #[] #[]] 79 (0, 0)) (kf bL.out gQ.out) hb); replace dY := am (ak (g := eP) (o := .cells #[.int .i64 ((aU av cK).f0), .slice jm ((aU av cK).f1).length jo] 70 (0, 0)) (by (with_reducible repeat (first | refine aM ?_ _ | refine aI ?_ | refine aA ?_ _)); refine bX (cs := #[.int .i64 ((aU av cK).f0), .slice none 0 0]) ?_ 1 _ rfl; (with_reducible repeat (first | refine aM ?_ _ | refine aI ?_ | refine aA ?_ _)); refine bX (cs := #[.int .i64 0, .slice none 0 0]) ?_ 0 _ rfl; (with_reducible repeat (first | refine aM ?_ _ | refine aI ?_ | refine aA ?_ _)); exact dY.out) hb); replace HB := am (au (bl3 HB.out fO.out fV.out iN.out) hb); (try clear hb); (try clear hb2); (try clear hk); (try clear hi)) | ((with_reducible refine bq (N := 12) rfl ?_); refine bx 12 23 #[.int .i64 0, .int .i64 0] ?_; intro fI hg w58 dL hb; have jq := am (dL); have adT := am ((bz3 hg HB.out fO.out fV.out iN.out : w.heap.size ≤ fI)); have qx := am ((bz3 hg HB.out fO.out fV.out iN.out : w.heap.size ≤ fI)); replace HB := am (au (bl3 HB.out fO.out fV.out iN.out) hb); have gU := am ((nl hg dH.out : iA ≠ fI)); have jI := am ((ng hg dH.out : fI ≠ iA)); replace dH := am (ak (kp dH.out) hb); have gV := am ((nl hg bL.out : fC ≠ fI)); have jJ := am ((ng hg bL.out : fI ≠ fC)); replace bL := am (ak (kp bL.out) hb); have iC := am ((nl hg dY.out : eP ≠ fI)); have jK := am ((ng hg dY.out : fI ≠ eP)); replace dY := am (ak (kp dY.out) hb); clear hb dL hg; have axJ := jI.out; have axK := gU.out; have axL := jJ.out; have axM := gV.out; have axN := jK.out; have axO := iC.out; have akO : w58.cell? ⟨fI, 0, none⟩ = some (.int .i64 0) := bc jq.out 0; have akP : w58.cell? ⟨fI, 1, none⟩ = some (.int .i64 0) := bc jq.out 1; have akQ := aj jq.out 0; have akR := aj jq.out 1; have axP := nO.out; have axQ := nN.out; have apW : w58.cell? ⟨fC, 0, none⟩ = some (.int .i64 (-1)) := bc bL.out 0; have apX : w58.cell? ⟨fC, 1, none⟩ = some (.func (.func 90) #[] #[]) := bc bL.out 1; have apY : w58.cell? ⟨fC, 2, none⟩ = some (.func (.func 91) #[] #[]) := bc bL.out 2; have apZ : w58.cell? ⟨fC, 3, none⟩ = some (.func (.func 92) #[] #[]) := bc bL.out 3; have ap0 := aj bL.out 0; have ap1 := aj bL.out 1; have ap2 := aj bL.out 2; have ap3 := aj bL.out 3) | (go_at_call 92; (with_reducible refine (j6.calls wN t206 ji5 true _ A19.out).mono ?_); rintro e w65 ⟨rfl, hb⟩; replace dH := am (ak (g := iA) (o := .cells #[.int .i64 aQ, .int .i64 aR, .slice cu aH.length bW, .slice (some qw) av.length bZ] 28 (0, 0)) (kf dH.out gU.out) hb); replace bL := am (ak (g := fC) (o := .cells #[.int .i64 (-1), .func (.func 90) #[] #[], .func (.func 91) #[] #[], .func (.func 92) #[] #[]] 79 (0, 0)) (kf bL.out gV.out) hb); replace dY := am (ak (g := eP) (o := .cells #[.int .i64 ((aU av cK).f0), .slice jm ((aU av cK).f1).length jo] 70 (0, 0)) (kf dY.out iC.out) hb); replace jq := am (ak (g := fI) (o := .cells #[.int .i64 wN, .int .i64 t206] 23 (0, 0)) (by (with_reducible repeat (first | refine aM ?_ _ | refine aI ?_ | refine aA ?_ _)); refine bX (cs := #[.int .i64 wN, .int .i64 0]) ?_ 1 _ rfl; (with_reducible repeat (first | refine aM ?_ _ | refine aI ?_ | refine aA ?_ _)); refine bX (cs := #[.int .i64 0, .int .i64 0]) ?_ 0 _ rfl; (with_reducible repeat (first | refine aM ?_ _ | refine aI ?_ | refine aA ?_ _)); exact jq.out) hb); replace HB := am (au (by repeat (first | (with_reducible first | exact HB.out | apply eG | apply dN | apply dx | refine bO ?_ fO.out | refine bO ?_ fV.out | refine bO ?_ iN.out | refine bO ?_ qx.out) | exact HB.out)) hb); (try clear hb); (try clear hb2); (try clear hk); (try clear hi); have ap4 : w65.cell? ⟨eP, 0, none⟩ = some (.int .i64 ((aU av cK).f0)) := bc dY.out 0; have ap5 : w65.cell? ⟨eP, 1, none⟩ = some (.slice jm ((aU av cK).f1).length jo) := bc dY.out 1; have ap6 := aj dY.out 0; have ap7 := aj dY.out 1))
       go_roundg k1
       case measure => have := HK1.out; omega
       case rel => exact ⟨((aU av cK).f0), (true), (wrap64 (cK + 1)), sm, sm, sm, H', ⟨by have := HK1.out; omega⟩, ⟨kp dH.out⟩, ⟨kp bL.out⟩, ⟨by repeat (first | (with_reducible first | exact HB.out | apply eG | apply dN | apply dx | refine bO ?_ fO.out | refine bO ?_ fV.out | refine bO ?_ iN.out | refine bO ?_ qx.out) | exact HB.out)⟩⟩
     ·replace c20 := Bool.eq_false_iff.mpr c20
      subst c20
      have H1 : (bn.l0 k1 ji5 lG kV av (av.length : Int) (wrap64 (cK + 1)) (-1)) = some (r1, r2) := by rw [if_neg (show ¬ (false = true) by decide)] at H; exact H
      clear H
      have H := H1
      clear H1
      have H' := am H
      clear H
      have vN : 0 ≤ (cK : Int) := of_decide_eq_true asm
      have vO : cK < (av.length : Int) := of_decide_eq_true asm
      obtain ⟨qw, jm, jo, e203, iI, iJ, jE, jF⟩ := kZ fK.out cK vN vO
      cases e203
      replace iI := (HB.out.cell (World.block_lt_of_cell? w _ iI)).trans iI
      replace iJ := (HB.out.cell (World.block_lt_of_cell? w _ iJ)).trans iJ
      have mE := am jF
      have mF := am jE
      clear jF jE
      replace vN := eq_true vN
      replace vO := eq_true vO
      go_wp2_with (first | ((with_reducible refine bq (N := 11) rfl ?_); refine bx 11 70 #[.int .i64 0, .slice none 0 0] ?_; intro eP hg w67 dL hb; have dY := am (dL); have adS := am ((bz2 hg HB.out fO.out fV.out : w.heap.size ≤ eP)); have iN := am ((bz2 hg HB.out fO.out fV.out : w.heap.size ≤ eP)); replace HB := am (au (bl2 HB.out fO.out fV.out) hb); have gP := am ((nl hg dH.out : iA ≠ eP)); have jG := am ((ng hg dH.out : eP ≠ iA)); replace dH := am (ak (kp dH.out) hb); have gQ := am ((nl hg bL.out : fC ≠ eP)); have jH := am ((ng hg bL.out : eP ≠ fC)); replace bL := am (ak (kp bL.out) hb); clear hb dL hg; have axR := jG.out; have axS := gP.out; have axT := jH.out; have axU := gQ.out; have ap8 : w67.cell? ⟨eP, 0, none⟩ = some (.int .i64 0) := bc dY.out 0; have ap9 : w67.cell? ⟨eP, 1, none⟩ = some (.slice none 0 0) := bc dY.out 1; have aqa := aj dY.out 0; have aqb := aj dY.out 1) | ((with_reducible refine aC (f := 43) rfl ?_); refine bR (some 34) rfl rfl Try.func43 (by kernel_rfl) rfl #[.slice jm ((aU av cK).f1).length jo] rfl ar ?_; (with_reducible refine (eD.calls _ _ ((aU av cK).f1) wN t206 true _ ?bH ?bI A17.out).mono ?_); (case bH => exact Kd.bf mE.out (bl3 HB.out fO.out fV.out iN.out)); (case bI => exact mF.out); rintro e w71 ⟨rfl, hb⟩; refine ⟨_, rfl, ?_⟩; replace dH := am (ak (g := iA) (o := .cells #[.int .i64 aQ, .int .i64 aR, .slice cu aH.length bW, .slice (some qw) av.length bZ] 28 (0, 0)) (kf dH.out gP.out) hb); replace bL := am (ak (g := fC) (o := .cells #[.int .i64 (-1), .func (.func 90) #[] #[], .func (.func 91) #[] #[], .func (.func 92) #[] #[]] 79 (0, 0)) (kf bL.out gQ.out) hb); replace dY := am (ak (g := eP) (o := .cells #[.int .i64 ((aU av cK).f0), .slice jm ((aU av cK).f1).length jo] 70 (0, 0)) (by (with_reducible repeat (first | refine aM ?_ _ | refine aI ?_ | refine aA ?_ _)); refine bX (cs := #[.int .i64 ((aU av cK).f0), .slice none 0 0]) ?_ 1 _ rfl; (with_reducible repeat (first | refine aM ?_ _ | refine aI ?_ | refine aA ?_ _)); refine bX (cs := #[.int .i64 0, .slice none 0 0]) ?_ 0 _ rfl; (with_reducible repeat (first | refine aM ?_ _ | refine aI ?_ | refine aA ?_ _)); exact dY.out) hb); replace HB := am (au (bl3 HB.out fO.out fV.out iN.out) hb); (try clear hb); (try clear hb2); (try clear hk); (try clear hi)) | ((with_reducible refine bq (N := 12) rfl ?_); refine bx 12 23 #[.int .i64 0, .int .i64 0] ?_; intro fI hg w72 dL hb; have jq := am (dL); have adT := am ((bz3 hg HB.out fO.out fV.out iN.out : w.heap.size ≤ fI)); have qx := am ((bz3 hg HB.out fO.out fV.out iN.out : w.heap.size ≤ fI)); replace HB := am (au (bl3 HB.out fO.out fV.out iN.out) hb); have gU := am ((nl hg dH.out : iA ≠ fI)); have jI := am ((ng hg dH.out : fI ≠ iA)); replace dH := am (ak (kp dH.out) hb); have gV := am ((nl hg bL.out : fC ≠ fI)); have jJ := am ((ng hg bL.out : fI ≠ fC)); replace bL := am (ak (kp bL.out) hb); have iC := am ((nl hg dY.out : eP ≠ fI)); have jK := am ((ng hg dY.out : fI ≠ eP)); replace dY := am (ak (kp dY.out) hb); clear hb dL hg; have axV := jI.out; have axW := gU.out; have axX := jJ.out; have axY := gV.out; have axZ := jK.out; have ax0 := iC.out; have aqc : w72.cell? ⟨fI, 0, none⟩ = some (.int .i64 0) := bc jq.out 0; have aqd : w72.cell? ⟨fI, 1, none⟩ = some (.int .i64 0) := bc jq.out 1; have aqe := aj jq.out 0; have aqf := aj jq.out 1; have ax1 := nO.out; have ax2 := nN.out; have aqg : w72.cell? ⟨fC, 0, none⟩ = some (.int .i64 (-1)) := bc bL.out 0; have aqh : w72.cell? ⟨fC, 1, none⟩ = some (.func (.func 90) #[] #[]) := bc bL.out 1; have aqi : w72.cell? ⟨fC, 2, none⟩ = some (.func (.func 91) #[] #[]) := bc bL.out 2; have aqj : w72.cell? ⟨fC, 3, none⟩ = some (.func (.func 92) #[] #[]) := bc bL.out 3; have aqk := aj bL.out 0; have aql := aj bL.out 1; have aqm := aj bL.out 2; have aqn := aj bL.out 3) | (go_at_call 92; (with_reducible refine (j6.calls wN t206 ji5 false _ A19.out).mono ?_); rintro e w79 ⟨rfl, hb⟩; replace dH := am (ak (g := iA) (o := .cells #[.int .i64 aQ, .int .i64 aR, .slice cu aH.length bW, .slice (some qw) av.length bZ] 28 (0, 0)) (kf dH.out gU.out) hb); replace bL := am (ak (g := fC) (o := .cells #[.int .i64 (-1), .func (.func 90) #[] #[], .func (.func 91) #[] #[], .func (.func 92) #[] #[]] 79 (0, 0)) (kf bL.out gV.out) hb); replace dY := am (ak (g := eP) (o := .cells #[.int .i64 ((aU av cK).f0), .slice jm ((aU av cK).f1).length jo] 70 (0, 0)) (kf dY.out iC.out) hb); replace jq := am (ak (g := fI) (o := .cells #[.int .i64 wN, .int .i64 t206] 23 (0, 0)) (by (with_reducible repeat (first | refine aM ?_ _ | refine aI ?_ | refine aA ?_ _)); refine bX (cs := #[.int .i64 wN, .int .i64 0]) ?_ 1 _ rfl; (with_reducible repeat (first | refine aM ?_ _ | refine aI ?_ | refine aA ?_ _)); refine bX (cs := #[.int .i64 0, .int .i64 0]) ?_ 0 _ rfl; (with_reducible repeat (first | refine aM ?_ _ | refine aI ?_ | refine aA ?_ _)); exact jq.out) hb); replace HB := am (au (by repeat (first | (with_reducible first | exact HB.out | apply eG | apply dN | apply dx | refine bO ?_ fO.out | refine bO ?_ fV.out | refine bO ?_ iN.out | refine bO ?_ qx.out) | exact HB.out)) hb); (try clear hb); (try clear hb2); (try clear hk); (try clear hi)))
      go_roundg k1
      case measure => have := HK1.out; omega
      case rel => exact ⟨(lG), (kV), (wrap64 (cK + 1)), sm, sm, sm, H', ⟨by have := HK1.out; omega⟩, ⟨kp dH.out⟩, ⟨kp bL.out⟩, ⟨by repeat (first | (with_reducible first | exact HB.out | apply eG | apply dN | apply dx | refine bO ?_ fO.out | refine bO ?_ fV.out | refine bO ?_ iN.out | refine bO ?_ qx.out) | exact HB.out)⟩⟩
    ·replace c18 := Bool.eq_false_iff.mpr c18
     subst c18
     have H1 : (bn.l0 k1 ji5 lG kV av (av.length : Int) (wrap64 (cK + 1)) (-1)) = some (r1, r2) := by rw [if_neg (show ¬ (false = true) by decide)] at H; exact H
     clear H
     have H := H1
     clear H1
     have H' := am H
     clear H
     have vN : 0 ≤ (cK : Int) := of_decide_eq_true asm
     have vO : cK < (av.length : Int) := of_decide_eq_true asm
     obtain ⟨qw, jm, jo, e203, iI, iJ, jE, jF⟩ := kZ fK.out cK vN vO
     cases e203
     replace iI := (HB.out.cell (World.block_lt_of_cell? w _ iI)).trans iI
     replace iJ := (HB.out.cell (World.block_lt_of_cell? w _ iJ)).trans iJ
     have mE := am jF
     have mF := am jE
     clear jF jE
     replace vN := eq_true vN
     replace vO := eq_true vO
     go_wp2_with (first | ((with_reducible refine bq (N := 11) rfl ?_); refine bx 11 70 #[.int .i64 0, .slice none 0 0] ?_; intro eP hg w80 dL hb; have dY := am (dL); have adS := am ((bz2 hg HB.out fO.out fV.out : w.heap.size ≤ eP)); have iN := am ((bz2 hg HB.out fO.out fV.out : w.heap.size ≤ eP)); replace HB := am (au (bl2 HB.out fO.out fV.out) hb); have gP := am ((nl hg dH.out : iA ≠ eP)); have jG := am ((ng hg dH.out : eP ≠ iA)); replace dH := am (ak (kp dH.out) hb); have gQ := am ((nl hg bL.out : fC ≠ eP)); have jH := am ((ng hg bL.out : eP ≠ fC)); replace bL := am (ak (kp bL.out) hb); clear hb dL hg; have ax3 := jG.out; have ax4 := gP.out; have ax5 := jH.out; have ax6 := gQ.out; have aqo : w80.cell? ⟨eP, 0, none⟩ = some (.int .i64 0) := bc dY.out 0; have aqp : w80.cell? ⟨eP, 1, none⟩ = some (.slice none 0 0) := bc dY.out 1; have aqr := aj dY.out 0; have aqs := aj dY.out 1) | ((with_reducible refine aC (f := 43) rfl ?_); refine bR (some 34) rfl rfl Try.func43 (by kernel_rfl) rfl #[.slice jm ((aU av cK).f1).length jo] rfl ar ?_; (with_reducible refine (eD.calls _ _ ((aU av cK).f1) wN t206 false _ ?bH ?bI A17.out).mono ?_); (case bH => exact Kd.bf mE.out (bl3 HB.out fO.out fV.out iN.out)); (case bI => exact mF.out); rintro e w84 ⟨rfl, hb⟩; refine ⟨_, rfl, ?_⟩; replace dH := am (ak (g := iA) (o := .cells #[.int .i64 aQ, .int .i64 aR, .slice cu aH.length bW, .slice (some qw) av.length bZ] 28 (0, 0)) (kf dH.out gP.out) hb); replace bL := am (ak (g := fC) (o := .cells #[.int .i64 (-1), .func (.func 90) #[] #[], .func (.func 91) #[] #[], .func (.func 92) #[] #[]] 79 (0, 0)) (kf bL.out gQ.out) hb); replace dY := am (ak (g := eP) (o := .cells #[.int .i64 ((aU av cK).f0), .slice jm ((aU av cK).f1).length jo] 70 (0, 0)) (by (with_reducible repeat (first | refine aM ?_ _ | refine aI ?_ | refine aA ?_ _)); refine bX (cs := #[.int .i64 ((aU av cK).f0), .slice none 0 0]) ?_ 1 _ rfl; (with_reducible repeat (first | refine aM ?_ _ | refine aI ?_ | refine aA ?_ _)); refine bX (cs := #[.int .i64 0, .slice none 0 0]) ?_ 0 _ rfl; (with_reducible repeat (first | refine aM ?_ _ | refine aI ?_ | refine aA ?_ _)); exact dY.out) hb); replace HB := am (au (bl3 HB.out fO.out fV.out iN.out) hb); (try clear hb); (try clear hb2); (try clear hk); (try clear hi)) | ((with_reducible refine bq (N := 12) rfl ?_); refine bx 12 23 #[.int .i64 0, .int .i64 0] ?_; intro fI hg w85 dL hb; have jq := am (dL); have adT := am ((bz3 hg HB.out fO.out fV.out iN.out : w.heap.size ≤ fI)); have qx := am ((bz3 hg HB.out fO.out fV.out iN.out : w.heap.size ≤ fI)); replace HB := am (au (bl3 HB.out fO.out fV.out iN.out) hb); have gU := am ((nl hg dH.out : iA ≠ fI)); have jI := am ((ng hg dH.out : fI ≠ iA)); replace dH := am (ak (kp dH.out) hb); have gV := am ((nl hg bL.out : fC ≠ fI)); have jJ := am ((ng hg bL.out : fI ≠ fC)); replace bL := am (ak (kp bL.out) hb); have iC := am ((nl hg dY.out : eP ≠ fI)); have jK := am ((ng hg dY.out : fI ≠ eP)); replace dY := am (ak (kp dY.out) hb); clear hb dL hg; have ax7 := jI.out; have ax8 := gU.out; have ax9 := jJ.out; have aya := gV.out; have ayb := jK.out; have ayc := iC.out; have aqt : w85.cell? ⟨fI, 0, none⟩ = some (.int .i64 0) := bc jq.out 0; have aqu : w85.cell? ⟨fI, 1, none⟩ = some (.int .i64 0) := bc jq.out 1; have aqv := aj jq.out 0; have aqw := aj jq.out 1))
     go_roundg k1
     case measure => have := HK1.out; omega
     case rel => exact ⟨(lG), (kV), (wrap64 (cK + 1)), sm, sm, sm, H', ⟨by have := HK1.out; omega⟩, ⟨kf dH.out gU.out⟩, ⟨kf bL.out gV.out⟩, ⟨by repeat (first | (with_reducible first | exact HB.out | apply eG | apply dN | apply dx | refine bO ?_ fO.out | refine bO ?_ fV.out | refine bO ?_ iN.out | refine bO ?_ qx.out) | exact HB.out)⟩⟩
   ·rw [if_neg c14] at H
    have wM : decide (cK < (av.length : Int)) = false := decide_eq_false c14
    clear c14
    simp only [Option.some.injEq, Prod.mk.injEq] at H
    obtain ⟨rfl, rfl⟩ := H
    go_wp2
    go_ret2
    exact ⟨by first | rfl | (simp [gu, gB] <;> rfl) | (simp only [← akp, ← uW]; first | rfl | (simp [gu, gB] <;> rfl)) | (simp [*, gu, gB] <;> rfl), bl2 HB.out fO.out fV.out⟩
def bV.f (k : Nat) (aQ : Int) (aR : Int) (aH : List (List (S23))) (av : List (S70)) (a1 : Int) : Option (Int × Bool) := (xw.f).bind fun atp => ((bn.f k aQ aR aH av a1).bind fun abO => (some (abO.1, abO.2)))
theorem bV.mono : ∀ a0 a1 a2 a3 a4 k, LeO (bV.f k a0 a1 a2 a3 a4) (bV.f (k + 1) a0 a1 a2 a3 a4) := by
 intro a0 a1 a2 a3 a4 k
 unfold bV.f
 repeat' first
  | (with_reducible exact bn.mono _ _ _ _ _ _)
  | (with_reducible exact LeO.refl _)
  | (with_reducible exact LeO.none _)
  | (with_reducible refine LeO.ite ?_ ?_)
  | (with_reducible refine LeO.bind ?_ (fun _ => ?_))
  | exact bn.mono _ _ _ _ _ _
  | exact LeO.none _
  | refine LeO.ite ?_ ?_
  | refine LeO.bind ?_ (fun _ => ?_)
def bV.T1 : Bool × List (List Nat × List Nat) := (true, [([], []), ([], []), ([], []), ([0, 1, 2, 2], [0, 1, 2]), ([3], [3]), ([3], [3]), ([4, 3, 0, 1, 2, 3, 4, 5], [4]), ([5, 6, 0, 1, 2, 3, 4, 5, 6], [5])])
def bV.B1 : List Nat := [0, 0, 0, 7, 15, 15, 63, 127]
theorem bV.aye : xW .any (opsOf Try.f23 1) = bV.T1 := by kernel_rfl
theorem bV.aqx : pq bV.T1.2 bV.B1 = true := by kernel_rfl
set_option maxHeartbeats 8000000 in
set_option maxRecDepth 100000 in
theorem bV.calls (k : Nat) (aQ : Int) (aR : Int) (cu : Option Addr) (bW : Nat) (aH : List (List (S23))) (dz : Option Addr) (bZ : Nat) (av : List (S70)) (a1 : Int) (r1 : Int) (r2 : Bool) (w : World) (iF : Kd.C (Kd.slice 23 k23) w cu aH.length aH) (iG : aH.length ≤ bW) (iw : Kd.C k70 w dz av.length av) (iy : av.length ≤ bZ) (h : bV.f k aQ aR aH av a1 = some (r1, r2)) :
 Calls Try.prog 23 #[.agg #[.int .i64 aQ, .int .i64 aR, .slice cu aH.length bW, .slice dz av.length bZ], .int .i64 a1] w fun e w' => e = .returned (.tuple #[.int .i64 r1, .bool r2]) ∧ Below w.heap.size w w' := by
 have aaE := Try.underlying28
 have gF := am iF
 have gX := am iG
 clear iF iG
 have fK := am iw
 have gW := am iy
 clear iw iy
 have HB := am (Below.refl w.heap.size w)
 have H : ((xw.f).bind fun atp => ((bn.f k aQ aR aH av a1).bind fun abO => (some (abO.1, abO.2)))) = some (r1, r2) := h
 clear h
 replace H := Option.bind_eq_some_iff.mp H
 obtain ⟨atp, A30, H⟩ := H
 try dsimp only at H
 have A3 := am A30
 clear A30
 replace H := Option.bind_eq_some_iff.mp H
 obtain ⟨⟨anU, aB7⟩, A40, H⟩ := H
 try dsimp only at H
 have A4 := am A40
 clear A40
 simp only [Option.some.injEq, Prod.mk.injEq] at H
 obtain ⟨rfl, rfl⟩ := H
 go_enter Try.func23, Try.ntmps23
 try go_wp2_with (first | ((with_reducible refine bq (N := 2) rfl ?_); refine bx 2 28 #[.int .i64 aQ, .int .i64 aR, .slice cu aH.length bW, .slice dz av.length bZ] ?_; intro aiO hg w5 dL hb; have vS := am (dL); have aB8 := am ((bz hg HB.out : w.heap.size ≤ aiO)); have aqE := am ((bz hg HB.out : w.heap.size ≤ aiO)); replace HB := am (au (bl HB.out) hb); clear hb dL hg))
 replace vS := am (aI vS.out)
 replace HB := am (dx HB.out)
 refine nW (n := 8) (S := fun w' => w'.cell? ⟨aiO, 0, none⟩ = some (.int .i64 aQ) ∧ w'.cell? ⟨aiO, 1, none⟩ = some (.int .i64 aR) ∧ w'.cell? ⟨aiO, 2, none⟩ = some (.slice cu aH.length bW) ∧ w'.cell? ⟨aiO, 3, none⟩ = some (.slice dz av.length bZ)) (ds := []) (rs false [8]) (by kernel_rfl) rfl rfl ⟨bc vS.out 0, bc vS.out 1, bc vS.out 2, bc vS.out 3⟩ (fun hHeld => ?_); refine ji bV.aye bV.aqx (fun HT_ HW_ => ?_)
 generalize w5.drew = w6 at vS HB hHeld ⊢
 refine px 1 7 (rs false [1, 1, 6]) HT_.out ?_
 refine tx 0 6 (rs true [2, 6]) HT_.out HW_.out hHeld ?_
 refine oZ (i := 2) (N := some 8) (rs true [3, 5]) rfl rfl (gM HT_.out (by kernel_rfl)) (by decide) (fun K hK => ?_)
 refine kg Try.func60 (by kernel_rfl) rfl #[] (by rfl) rfl rfl ar ?_
 with_reducible refine (xw.calls  atp _ A3.out).mono ?_
 rintro e w7 ⟨rfl, hb⟩
 refine ⟨_, rfl, ?_⟩
 replace vS := am (ak (kp vS.out) hb)
 replace HB := am (au (bl1 HB.out aqE.out) hb)
 (try clear hb)
 refine hK.out _ _ ⟨bc vS.out 0, bc vS.out 1, bc vS.out 2, bc vS.out 3⟩ (fun hHeld => ?_)
 clear hK K
 refine nx 8 ?_
 refine oZ (i := 3) (N := some 9) (rs true [4, 4]) rfl rfl (gM HT_.out (by kernel_rfl)) (by decide) (fun K hK => ?_)
 refine kg Try.func58 (by kernel_rfl) rfl #[.agg #[.int .i64 aQ, .int .i64 aR, .slice cu aH.length bW, .slice dz av.length bZ], .int .i64 a1, .agg #[.int .i64 (-1), .func (.func 90) #[] #[], .func (.func 91) #[] #[], .func (.func 92) #[] #[]]] (by rfl) rfl rfl ar ?_
 with_reducible refine (bn.calls k aQ aR _ _ aH _ _ av a1 anU aB7 _ ?bH ?bI ?dG ?dI A4.out).mono ?_
 (case bH => exact kc (Kd.bf gF.out HB.out))
 (case bI => exact gX.out)
 (case dG => exact kc (Kd.bf fK.out HB.out))
 (case dI => exact gW.out)
 rintro e w8 ⟨rfl, hb⟩
 refine ⟨_, rfl, ?_⟩
 replace vS := am (ak (kp vS.out) hb)
 replace HB := am (au (bl1 HB.out aqE.out) hb)
 (try clear hb)
 refine hK.out _ _ ⟨bc vS.out 0, bc vS.out 1, bc vS.out 2, bc vS.out 3⟩ (fun hHeld => ?_)
 clear hK K
 refine nx 9 ?_
 refine px 4 10 (rs true [5, 3]) HT_.out ?_
 refine px 5 11 (rs true [6, 2]) HT_.out ?_
 refine px 6 4 (rs true [7, 1]) HT_.out ?_
 refine px 7 5 (rs true [8]) HT_.out ?_
 refine tV (kU HT_.out (by kernel_rfl)) ?_
 try go_wp2
 go_ret2
 exact ⟨rt, bl1 HB.out aqE.out⟩
end Go.Proofs.Ytmbmalkpmanaaaa.P
namespace Go.Proofs.Ytmbmalkpmanaaaa.P
set_option linter.unusedVariables false
set_option linter.unusedSimpArgs false
open Go.RowKit Go.Proofs.YtmbmalkpmanaaaaW.aK Go.Proofs.YtmbmalkpmanaaaaW.bK
def IsC (W : World) (g1 g2 : Nat) (want : Int) (ok : Bool) : Prop := W.heap[g1]? = some (.cells #[.int .i64 want] 3 (0, 0)) ∧ W.heap[g2]? = some (.cells #[.bool ok] 4 (0, 0))
theorem IsC.below {W W' : World} {g1 g2 : Nat} {want : Int} {ok : Bool} (h : IsC W g1 g2 want ok) (hb : Below W.heap.size W W') : IsC W' g1 g2 want ok := ⟨ak h.1 hb, ak h.2 hb⟩
def aX.f (want : Int) (ok : Bool) : Option Int := some 0
theorem aX.calls (want : Int) (ok : Bool) (r : Int) (w : World) (h : aX.f want ok = some r) : Calls Try.prog 20 #[.int .i64 want, .bool ok] w fun e w' =>
    ∃ g1 g2, e = .returned (.func (.func 57) #[] #[.pointer (some ⟨g1, 0, none⟩), .pointer (some ⟨g2, 0, none⟩)]) ∧ IsC w' g1 g2 want ok ∧ Below w.heap.size w w' := by
  go_enter Try.func20, Try.ntmps20
  go_wp2
  go_ret
  refine ⟨w.heap.size, w.heap.size + 1, rfl, ⟨aA (l6 w _) _, ?_⟩, ((Below.refl _ _).alloc (Nat.le_refl _) _).alloc (by simp) _⟩
  have := l6 (w.alloc (.cells #[.int .i64 want] 3)) (.cells #[.bool ok] 4)
  simpa using this
def aJ.f (want : Int) (ok : Bool) (i : Int) (found : Bool) : Option Bool := some (decide (i = want) && (found == ok))
theorem aJ.calls (want : Int) (ok : Bool) (i : Int) (found : Bool) (r : Bool) (w : World) (h : aJ.f want ok i found = some r) (g1 g2 : Nat) (hI : IsC w g1 g2 want ok) : Calls Try.prog 57 #[.int .i64 i, .bool found, .pointer (some ⟨g1, 0, none⟩), .pointer (some ⟨g2, 0, none⟩)] w fun e w' =>
    e = .returned (.bool r) ∧ Below w.heap.size w w' := by
  have h1 := (cO hI.1 0).trans rfl
  have h2 := (cO hI.2 0).trans rfl
  clear hI
  cases h
  by_cases e : i = want
  · subst e
    have e1 : (i == i) = true := by simp
    cases found <;> cases ok
    all_goals
      go_enter Try.func57, Try.ntmps57
      go_wp2
      go_ret
      exact ⟨by simp, Below.refl _ _⟩
  · have e1 : (i == want) = false := by simpa using e
    have e2 : decide (i = want) = false := by simpa using e
    have E := ay.mk e2
    clear e e2
    go_enter Try.func57, Try.ntmps57
    go_wp2
    go_ret
    exact ⟨by rw [E.out]; rfl, Below.refl _ _⟩
end Go.Proofs.Ytmbmalkpmanaaaa.P
namespace Go.Proofs.Ytmbmalkpmanaaaa.akT
set_option linter.unusedVariables false
set_option linter.unusedSimpArgs false
open Go Go.RowKit
variable {F : Fence} {n : Nat} {P : Program}
def ae2 (B : Nat) (Pv : Nat → Prop) (J : World → Prop) : Prop :=
  ∀ W W' row, J W → W.grownBy W' row → (∀ r, row = some r → (B ≤ r ∧ ∃ o : Obj, W.heap[r]? = some o ∧ o.isWalk = true) ∨ (Pv r ∧ ∃ o : Obj, W.heap[r]? = some o ∧ o.isCells = true)) → J W'
theorem yL {W W' : World} (h : Below W.heap.size W W') : W.grownBy W' none := ⟨h.os, h.tape, h.output, h.size, fun k hk _ => h.block k hk⟩
theorem ae2.below {B : Nat} {Pv : Nat → Prop} {J : World → Prop} (h : ae2 B Pv J) {W W' : World} (hj : J W) (hb : Below W.heap.size W W') : J W' := h W W' none hj (yL hb) (fun r e => by cases e)
def aAU {β : Type} (F : Fence) (n : Nat) (P : Program) (g : Nat) (lb : Array Value) (Enc : β → Array Value → World → Prop) (Kp : World → World → Prop) (Pv : Nat → Prop) (xs : List β) (w : World) : Prop :=
  ∀ (l : Nat) (J : List β → World → Prop) (Jx : World → Prop) (W : World), Below w.heap.size w W → (∀ s, ae2 W.heap.size Pv (J s)) → ae2 W.heap.size Pv Jx →
    (∀ pre b r args W1, xs = pre ++ b :: r → J pre W1 → Enc b args W1 → YieldAt F (n - 1) P l args W1 fun e W' =>
      (e = .returned (.bool true) ∧ J (pre ++ [b]) W' ∧ Kp W1 W') ∨ (e = .returned (.bool false) ∧ Jx W')) →
    J [] W →
    CallsIn F n P g (#[.func (.yield l) #[] #[]] ++ lb) W fun e W' => (∃ v, e = .returned v) ∧ (J xs W' ∨ Jx W')
def Mine (B : Nat) (Pv : Nat → Prop) (I : World → Prop) : Prop :=
  ∀ W W' row, I W → W.grownBy W' row → (∀ r, row = some r → (B ≤ r ∧ ∃ o : Obj, W.heap[r]? = some o ∧ o.isCells = false) ∨ Pv r) → I W'
theorem Mine.putObj {B : Nat} {Pv : Nat → Prop} {I : World → Prop} (h : Mine B Pv I) {W : World} {l : Nat} {o : Obj} (o' : Obj) (hs : I W) (hB : B ≤ l) (hl : W.heap[l]? = some o) (ho : o.isCells = false) : I (W.putObj l o') :=
  h W _ (some l) hs (grownBy_putObj' W l o') (fun r e => by cases e; exact .inl ⟨hB, o, hl, ho⟩)
theorem Mine.alloc {B : Nat} {Pv : Nat → Prop} {I : World → Prop} (h : Mine B Pv I) {W : World} (o : Obj) (hs : I W) : I (W.alloc o) :=
  h W _ none hs (World.grownBy_alloc W o none) (fun r e => by cases e)
theorem Mine.still {B B' : Nat} {Pv : Nat → Prop} {I : World → Prop} (h : Mine B Pv I) (hB : B ≤ B') : ae2 B' Pv I := fun W W' row hs hg hr =>
  h W W' row hs hg (fun r e => by
    rcases hr r e with ⟨a, o, ho, hw⟩ | ⟨hp, _⟩
    · exact .inl ⟨by omega, o, ho, Obj.not_cells_of_walk hw⟩
    · exact .inr hp)
def aiP {β : Type} (B : Nat) (Kp : World → World → Prop) (I : List β → World → Prop) (Ix : Code → World → Prop) (xs : List β) (W : World) : Exit → Act → World → Prop
  | .normal, _, W' => KeepsFrom B W W' ∧ Kp W W' ∧ I xs W'
  | .ret, _, W' => KeepsFrom B W W' ∧ Ix .ret W'
  | .exit id, _, W' => KeepsFrom B W W' ∧ Ix (.exit id) W'
  | .goto t, _, W' => KeepsFrom B W W' ∧ Ix (.goto t) W'
  | _, _, _ => False
theorem agv {β : Type} {g : Operand} {ps : Array Tmp} {assign body : Code} {Q : Exit → Act → World → Prop} {a : Act} {w : World}
    (hro : F.round = none) (h1 : 1 ≤ n) {gf : Nat} {lb : Array Value} (hg : a.eval g = .func (.func gf) #[] lb) (hFg : F.fn gf) (eg : ∀ args w, (callFunc gf args).run P w = .ok (.enter gf args) w)
    {Enc : β → Array Value → World → Prop} {Kp : World → World → Prop} {Pv : Nat → Prop} {xs : List β} {w0 : World} (hseq : aAU F (n - 1) P gf lb Enc Kp Pv xs w0)
    (hKt : ∀ {A B C : World}, Kp A B → Kp B C → Kp A C) (hKb : ∀ (W : World) (l : Nat) (o o' : Obj), w.heap.size ≤ l → W.heap[l]? = some o → o.isCells = false → o.isWalk = false → Kp W (W.putObj l o')) (hb0 : Below w0.heap.size w0 w) (hps : ∀ b args W, Enc b args W → args.size = ps.size)
    (I : List β → World → Prop) (Ix : Code → World → Prop) (hI : ∀ s, Mine w.heap.size Pv (I s)) (hIx : ∀ c, Mine w.heap.size Pv (Ix c)) (h0 : I [] w) (Ax : List β → β → Act → World → Prop) (hAx : ∀ pre b a', Mine w.heap.size Pv (Ax pre b a'))
    (hassign : ∀ (l : Nat) (pre : List β) (b : β) (args : Array Value) (W : World) (K : Act → World → Prop), I pre W → Enc b args W → (∀ a' W', KeepsFrom w.heap.size W W' → Kp W W' → Ax pre b a' W' → K a' W') →
      assign.wpIn (F.inRound l) (n - 1 - 1) P (Exit.then K (fun _ _ _ => False)) { tmps := (ps.zip args).foldl (fun t (p, v) => t.setIfInBounds p v) a.tmps, defers := [] } W)
    (hbody : ∀ (l : Nat) (pre : List β) (b : β) (r : List β) (a' : Act) (W : World), xs = pre ++ b :: r → Ax pre b a' W → body.wpIn (F.inRound l) (n - 1 - 1) P (aiP w.heap.size Kp I Ix (pre ++ [b]) W) a' W)
    (hdone : ∀ (D : Nat) (W : World), w.heap.size ≤ D → I xs W → W.heap[D]? = some (.deferred (some [])) → Q .normal { a with defers := { target := .collected D, args := #[] } :: a.defers } W)
    (hstop : ∀ (D : Nat) (c : Code) (W : World), w.heap.size ≤ D → Ix c W → W.heap[D]? = some (.deferred (some [])) → c.wpIn F n P Q { a with defers := { target := .collected D, args := #[] } :: a.defers } W) :
    (Code.rangeFunc g ps assign body).wpIn F n P Q a w := by
  refine wpIn_rangeFunc ?_
  intro fn hfn
  rw [hro]
  obtain ⟨rec, hrec⟩ : ∃ rec : LoopState → Option Code → Loop, rec = fun st pe => { state := st, pending := pe, fn, tmps := a.tmps, params := ps, assign, body, defers := w.heap.size } := ⟨_, rfl⟩
  obtain ⟨W1, hW1⟩ : ∃ W1, (w.alloc (.deferred (some []))).alloc (.loop (rec .ready none)) = W1 := ⟨_, rfl⟩
  have hL1 : W1.heap[w.heap.size + 1]? = some (.loop (rec .ready none)) := by
    rw [← hW1]; have := World.alloc_heap_new (w.alloc (.deferred (some []))) (.loop (rec .ready none)); rwa [World.size_alloc] at this
  have hK1 : W1.heap[w.heap.size]? = some (.deferred (some [])) := by
    rw [← hW1]; exact (Below.heap_alloc _ _ _ (by simp)).trans (World.alloc_heap_new w _)
  have hI1 : I [] W1 := by rw [← hW1]; exact (hI _).alloc _ ((hI _).alloc _ h0)
  have hb1 : Below w0.heap.size w0 W1 := by
    rw [← hW1]; exact hb0.trans ((((Below.refl _ w).alloc (Nat.le_refl _) _).alloc (by simp) _).mono hb0.size)
  refine ⟨w.heap.size + 1, [{ target := .collected w.heap.size, args := #[] }], W1, { target := .fn (.func gf) lb, args := #[.func (.yield (w.heap.size + 1)) #[] #[]] }, W1, gf,
    #[.func (.yield (w.heap.size + 1)) #[] #[]] ++ lb, W1, ?_, ?_, ?_, ?_, fun _ => h1, ?_⟩
  · rw [← hW1, hrec]; exact run_enterLoop_outer _ _ _ _ _
  · simp only [resolve, hg]
    simp [go_sem]
  · intro f' hf'; simp [Target.leads] at hf'; subst hf'; exact hFg
  · simp [invoke, go_sem, eg]
  · -- THE ITERATOR's CONTRACT, AT THE CALLER's INVARIANT WITH THE TWO FACTS OF BOOK-KEEPING BESIDE IT
    have hdl : ∀ {A B : World} {row : Option Nat} {k : Nat} {o : Obj}, A.grownBy B row → (∀ r, row = some r → (W1.heap.size ≤ r ∧ ∃ o : Obj, A.heap[r]? = some o ∧ o.isWalk = true) ∨ (Pv r ∧ ∃ o : Obj, A.heap[r]? = some o ∧ o.isCells = true)) → A.heap[k]? = some o → o.isCells = false → o.isWalk = false → B.heap[k]? = some o := by
      intro A B row k o hg' hr hk ho hw
      refine (hg'.block k (Array.getElem?_eq_some_iff.1 hk).1 (fun e => ?_)).trans hk
      rcases hr k e.symm with ⟨_, q, hq, hc⟩ | ⟨_, q, hq, hc⟩
      · rw [hk] at hq; cases hq; rw [hw] at hc; cases hc
      · rw [hk] at hq; cases hq; rw [ho] at hc; cases hc
    have hsz1 : w.heap.size ≤ W1.heap.size := by rw [← hW1]; simp; omega
    refine (hseq (w.heap.size + 1)
      (fun pre W => I pre W ∧ W.heap[w.heap.size + 1]? = some (.loop (rec .ready none)) ∧ W.heap[w.heap.size]? = some (.deferred (some [])))
      (fun W => ∃ c, Ix c W ∧ W.heap[w.heap.size + 1]? = some (.loop (rec .done (some c))) ∧ W.heap[w.heap.size]? = some (.deferred (some [])))
      W1 hb1
      (fun s A B row hs hg' hr => ⟨(hI s).still hsz1 A B row hs.1 hg' hr, hdl hg' hr hs.2.1 rfl rfl, hdl hg' hr hs.2.2 rfl rfl⟩)
      (fun A B row hs hg' hr => by
        obtain ⟨c, hc, hl, hk⟩ := hs
        exact ⟨c, (hIx c).still hsz1 A B row hc hg' hr, hdl hg' hr hl rfl rfl, hdl hg' hr hk rfl rfl⟩)
      ?_ ⟨hI1, hL1, hK1⟩).mono ?_
    · -- ONE ROUND
      rintro pre x r args W hxs ⟨hi, hl, hk⟩ henc
      have hlt : w.heap.size + 1 < W.heap.size := (Array.getElem?_eq_some_iff.1 hl).1
      have hy := run_yield (P := P) (args := args) hl (by rw [hrec]; exact hps _ _ _ henc)
      rw [hrec] at hy
      refine ⟨fn, _, assign, body, hy, roundIn_of_wpIn hfn (hassign _ pre x args W _ hi henc ?_)⟩
      clear hy
      intro a' Wa hkfa hkpa hax
      replace hl := hkfa.same _ _ (by omega) hl rfl
      replace hk := hkfa.same _ _ (Nat.le_refl _) hk rfl
      replace hlt : w.heap.size + 1 < Wa.heap.size := (Array.getElem?_eq_some_iff.1 hl).1
      clear hi henc
      revert hkpa hkfa
      generalize W = Wb
      intro hkfa hkpa
      obtain ⟨W, rfl⟩ : ∃ W, W = Wa := ⟨_, rfl⟩
      refine ⟨_, run_beginRound hl (by rw [hrec]), ?_⟩
      have hl2 : (W.putObj (w.heap.size + 1) (.loop { rec .ready none with state := .busy })).heap[w.heap.size + 1]? = some (.loop { rec .ready none with state := .busy }) := World.putObj_heap_same hlt
      have hk2 : (W.putObj (w.heap.size + 1) (.loop { rec .ready none with state := .busy })).heap[w.heap.size]? = some (.deferred (some [])) := (World.putObj_heap_other (by omega)).trans hk
      have hw2 : Kp W (W.putObj (w.heap.size + 1) (.loop { rec .ready none with state := .busy })) := hKb _ _ _ _ (by omega) hl rfl rfl
      refine wpIn_mono (hbody _ pre x r a' _ hxs ((hAx pre x a').putObj _ hax (by omega) hl rfl)) ?_
      have fin : ∀ (jump : Option Code) (W3 : World), KeepsFrom w.heap.size (W.putObj (w.heap.size + 1) (.loop { rec .ready none with state := .busy })) W3 →
          (Instr.endRound (w.heap.size + 1) jump).run P W3 = .ok (.bool jump.isNone) (W3.putObj (w.heap.size + 1) (.loop (rec (if jump.isNone then .ready else .done) jump))) ∧
          W3.heap[w.heap.size + 1]? = some (.loop { rec .ready none with state := .busy }) ∧
          (W3.putObj (w.heap.size + 1) (.loop (rec (if jump.isNone then .ready else .done) jump))).heap[w.heap.size + 1]? = some (.loop (rec (if jump.isNone then .ready else .done) jump)) ∧
          (W3.putObj (w.heap.size + 1) (.loop (rec (if jump.isNone then .ready else .done) jump))).heap[w.heap.size]? = some (.deferred (some [])) := fun jump W3 hk3 => by
        have hl3 := hk3.same _ _ (by omega) hl2 rfl
        have := run_endRound (P := P) jump hl3
        rw [hrec] at this ⊢
        exact ⟨this, by rw [hrec] at hl3; exact hl3, World.putObj_heap_same (Array.getElem?_eq_some_iff.1 hl3).1, (World.putObj_heap_other (by omega)).trans (hk3.same _ _ (Nat.le_refl _) hk2 rfl)⟩
      rintro e a3 W3 hp
      cases e with
      | normal =>
        obtain ⟨hk3, hkp3, hi3⟩ := hp
        obtain ⟨hr, hl3, hl4, hk4⟩ := fin none W3 hk3
        exact ⟨_, _, hr, .inl ⟨rfl, ⟨(hI _).putObj _ hi3 (by omega) hl3 rfl, hl4, hk4⟩, hKt hkpa (hKt (hKt hw2 hkp3) (hKb _ _ _ _ (by omega) hl3 rfl rfl))⟩⟩
      | ret =>
        obtain ⟨hk3, hi3⟩ := hp
        obtain ⟨hr, hl3, hl4, hk4⟩ := fin (some .ret) W3 hk3
        exact ⟨_, _, hr, .inr ⟨rfl, .ret, (hIx _).putObj _ hi3 (by omega) hl3 rfl, hl4, hk4⟩⟩
      | exit id =>
        obtain ⟨hk3, hi3⟩ := hp
        obtain ⟨hr, hl3, hl4, hk4⟩ := fin (some (.exit id)) W3 hk3
        exact ⟨_, _, hr, .inr ⟨rfl, .exit id, (hIx _).putObj _ hi3 (by omega) hl3 rfl, hl4, hk4⟩⟩
      | goto t =>
        obtain ⟨hk3, hi3⟩ := hp
        obtain ⟨hr, hl3, hl4, hk4⟩ := fin (some (.goto t)) W3 hk3
        exact ⟨_, _, hr, .inr ⟨rfl, .goto t, (hIx _).putObj _ hi3 (by omega) hl3 rfl, hl4, hk4⟩⟩
      | panic ch => exact hp.elim
      | outgrown => exact hp.elim
    · -- BEHIND THE ITERATOR
      rintro e W2 ⟨⟨v, rfl⟩, (⟨hi, hl, hk⟩ | ⟨c, hi, hl, hk⟩)⟩
      · exact ⟨none, _, by have := run_endLoop (P := P) hl (by rw [hrec]; simp); rw [hrec] at this; exact this, hdone _ _ (Nat.le_refl _) ((hI _).putObj _ hi (by omega) hl rfl) ((World.putObj_heap_other (by omega)).trans hk)⟩
      · exact ⟨some c, _, by have := run_endLoop (P := P) hl (by rw [hrec]; simp); rw [hrec] at this; exact this, hstop _ c _ (Nat.le_refl _) ((hIx c).putObj _ hi (by omega) hl rfl) ((World.putObj_heap_other (by omega)).trans hk)⟩
end Go.Proofs.Ytmbmalkpmanaaaa.akT

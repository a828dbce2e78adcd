/- Lemmas for laws of chapter 7: what the functions that they reach compute. No condition of its own. -/
import Derived.Test.YtmbmalkpmanaaaaYG2
import Derived.Test.YtmbmalkpmanaaaaYG1
import Derived.Maps.OwnOps
import Derived.Maps.Views
namespace Go.Proofs.Ytmbmalkpmanaaaa.P
open Go.RowKit Go.Proofs.YtmbmalkpmanaaaaW.aK Go.Proofs.YtmbmalkpmanaaaaW.bK Go.Proofs.YtmbmalkpmanaaaaW.bM
set_option linter.unusedVariables false
def rl : Bool → List Nat → List Bool
  | _, [] => []
  | b, n :: r => List.replicate n b ++ rl (!b) r
def rs (b : Bool) (l : List Nat) : Array Bool := ⟨rl b l⟩
theorem kp {A B : Prop} (h : A) (s : A → B := by intro h; (with_reducible repeat (first | refine aM ?_ _ | refine aI ?_ | refine aA ?_ _)); exact h) : B := s h
theorem bl {A B : Prop} (h : A) (s : A → B := by intro h; repeat (first | (with_reducible first | exact h | apply eG | apply dN | apply dx) | exact h)) : B := s h
theorem bl1 {A B G : Prop} (h : A) (g : G) (s : A → G → B := by intro h g; repeat (first | (with_reducible first | exact h | apply eG | apply dN | apply dx | refine bO ?_ g) | exact h)) : B := s h g
theorem bl2 {A B G G2 : Prop} (h : A) (g : G) (g2 : G2) (s : A → G → G2 → B := by intro h g g2; repeat (first | (with_reducible first | exact h | apply eG | apply dN | apply dx | refine bO ?_ g | refine bO ?_ g2) | exact h)) : B := s h g g2
theorem bl3 {A B G G2 G3 : Prop} (h : A) (g : G) (g2 : G2) (g3 : G3) (s : A → G → G2 → G3 → B := by intro h g g2 g3; repeat (first | (with_reducible first | exact h | apply eG | apply dN | apply dx | refine bO ?_ g | refine bO ?_ g2 | refine bO ?_ g3) | exact h)) : B := s h g g2 g3
theorem kr {A B : Prop} (h : A) (s : A → B := by intro h; (with_reducible repeat (first | apply Kd.qd | apply Kd.qg | apply Kd.qR)); exact h) : B := s h
theorem kn {A B : Prop} (h : A) (s : A → B := by intro h; (with_reducible repeat (first | apply Kd.nX | apply Kd.nY | apply Kd.pz)); exact h) : B := s h
theorem kv {A B : Prop} (h : A) (s : A → B := by intro h; (with_reducible repeat (first | apply Kd.lD | apply Kd.lF | apply Kd.nL)); exact h) : B := s h
theorem kc {A B : Prop} (h : A) (s : A → B := by intro h; repeat (first | exact h | (with_reducible refine Kd.vD ?_ _) | (with_reducible refine Kd.vE ?_ _) | (with_reducible refine Kd.yw ?_))) : B := s h
theorem am {p : Prop} (h : p) : ay p := ⟨h⟩
theorem bc {w : World} {g : Nat} {t : TypeId} {cs : Array Value} {v : Value} (h : w.heap[g]? = some (.cells cs t (0, 0))) (i : Nat) (e : cs[i]? = some v := by rfl) : w.cell? ⟨g, i, none⟩ = some v := (cO h i).trans e
theorem rt {p : Prop} (h : p := by first | rfl | (simp [gu, gB] <;> rfl) | (simp [*, gu, gB] <;> rfl)) : p := h
theorem sm {p : Prop} (h : p := by first | rfl | (simp; done) | (simp [*]; done)) : p := h
theorem ar {p : Prop} (h : p := by (try simp only [List.map_toArray, List.map_cons, List.map_nil]); first | done | rfl | (simp only [List.length_drop, List.length_take]; rfl)) : p := h
theorem asm {p : Prop} (h : p := by first | (with_reducible assumption) | assumption) : p := h
theorem kf {A B N : Prop} (h : A) (n : N) (s : A → N → B := by intro h n; (repeat (first | (with_reducible first | refine aM ?_ _ | refine aI ?_ | refine aA ?_ _) | refine abk ?_ n _)); exact h) : B := s h n
theorem nl {g g2 : Nat} {w : World} (hg : g2 = w.heap.size) {A : Prop} (h : A) (s : A → g < w.heap.size := by intro h; exact yY (kp h)) : g ≠ g2 := by rw [hg]; exact Nat.ne_of_lt (s h)
theorem ng {g g2 : Nat} {w : World} (hg : g2 = w.heap.size) {A : Prop} (h : A) (s : A → g < w.heap.size := by intro h; exact yY (kp h)) : g2 ≠ g := by rw [hg]; exact Nat.ne_of_gt (s h)
theorem bz {g : Nat} {w w1 : World} (hg : g = w1.heap.size) {A : Prop} (h : A) (s : A → Below w.heap.size w w1 := by intro h; exact bl h) : w.heap.size ≤ g := by rw [hg]; exact bY (s h)
theorem bz1 {g : Nat} {w w1 : World} (hg : g = w1.heap.size) {A G : Prop} (h : A) (q : G) (s : A → G → Below w.heap.size w w1 := by intro h q; exact bl1 h q) : w.heap.size ≤ g := by rw [hg]; exact bY (s h q)
theorem bz2 {g : Nat} {w w1 : World} (hg : g = w1.heap.size) {A G G2 : Prop} (h : A) (q : G) (q2 : G2) (s : A → G → G2 → Below w.heap.size w w1 := by intro h q q2; exact bl2 h q q2) : w.heap.size ≤ g := by rw [hg]; exact bY (s h q q2)
theorem bz3 {g : Nat} {w w1 : World} (hg : g = w1.heap.size) {A G G2 G3 : Prop} (h : A) (q : G) (q2 : G2) (q3 : G3) (s : A → G → G2 → G3 → Below w.heap.size w w1 := by intro h q q2 q3; exact bl3 h q q2 q3) : w.heap.size ≤ g := by rw [hg]; exact bY (s h q q2 q3)
section
variable {P : Program} {ops : Array Oper} {rest : List Oper} {o : Oper} {a : Act} {Q : Exit → Act → World → Prop}
theorem bx {W : World} (N : Tmp) (t : TypeId) (cs : Array Value)
    (h : ∀ g, g = W.heap.size → ∀ w1, w1.heap[g]? = some (.cells cs t (0, 0)) → Below W.heap.size W w1 → wpList P ops Q rest (a.put o.dst (.pointer (some ⟨g, 0, none⟩))) w1)
    (hd : o.dst = some N := by rfl) (hg : o.guard = none := by rfl)
    (hr : (execOp a.eval o).run P W = .ok (.value (.pointer (some ⟨W.heap.size, 0, none⟩))) (W.alloc (.cells cs t (0, 0))) := by first | (go_simp; done) | (go_simp; rfl)) : wpList P ops Q (o :: rest) a W := aje hg hd hr h
end
section
variable {P : Program} {ops : Array Oper} {Q : Exit → Act → World → Prop} {md : Region.Mode} {S : World → Prop} {ds : List Nat} {T : Bool × List (List Nat × List Nat)} {BB : List Nat}
theorem px (i n : Nat) (l' : Array Bool) {oi : Oper} {v : Value} {fuel : Nat} {l : Array Bool} {a : Act} {w : World} (hT : xW md ops = T) {a' : Act} (h : fQ P md ops Q S ds fuel l' a' w)
    (hi : ops[i]? = some oi := by rfl) (hN : oi.dst = some n := by rfl) (hc : auY T l.toList l'.toList i = true := by kernel_rfl) (hQ : ∀ c a w, Q (.panic c) (a.put oi.dst v) w → Q (.panic c) a w := by exact fun _ _ _ h => h)
    (hy : Yields P ops oi v a := by (refine Or.inl ⟨by rfl, ?_⟩); intro w'; go_simp; with_reducible rfl) (ha : a.put (some n) v = a' := by simp only [Act.put, List.setIfInBounds_toArray, List.set_cons_zero, List.set_cons_succ, jR, kH]; rfl) : fQ P md ops Q S ds (fuel + 1) l a w :=
  asz l' hi hN (anF hT hc) hQ hy ha h
theorem pu (i n : Nat) (l' : Array Bool) {oi : Oper} {fuel : Nat} {l : Array Bool} {a : Act} {w : World} (hT : xW md ops = T) {a' : Act} (h : fQ P md ops Q S ds fuel l' a' w)
    (hi : ops[i]? = some oi := by rfl) (hN : oi.dst = some n := by rfl) (hc : auY T l.toList l'.toList i = true := by kernel_rfl) (hQ : ∀ c a w, Q (.panic c) (a.put oi.dst undef) w → Q (.panic c) a w := by exact fun _ _ _ h => h)
    (hy : Yields P ops oi undef a := by exact Or.inr ⟨by rfl, rfl⟩) (ha : a.put (some n) undef = a' := by simp only [Act.put, List.setIfInBounds_toArray, List.set_cons_zero, List.set_cons_succ, jR, kH]; rfl) : fQ P md ops Q S ds (fuel + 1) l a w :=
  asz l' hi hN (anF hT hc) hQ hy ha h
theorem tx (i n : Nat) (l' : Array Bool) {oi : Oper} {v : Value} {fuel : Nat} {l : Array Bool} {a : Act} {w : World} (hT : xW md ops = T) (hW : pq T.2 BB = true) (hS : S w) {a' : Act} (h : fQ P md ops Q S ds fuel l' a' w)
    (hi : ops[i]? = some oi := by rfl) (hN : oi.dst = some n := by rfl) (hc : aop T BB ds l.toList l'.toList i = true := by kernel_rfl) (hQ : ∀ c a w, Q (.panic c) (a.put oi.dst v) w → Q (.panic c) a w := by exact fun _ _ _ h => h)
    (hy : YieldsIf P ops S oi v a := by (refine Or.inl ⟨by rfl, ?_⟩); intro w' hs; (repeat (have s := And.left hs; replace hs := And.right hs)); go_simp; with_reducible rfl) (ha : a.put (some n) v = a' := by simp only [Act.put, List.setIfInBounds_toArray, List.set_cons_zero, List.set_cons_succ, jR, kH]; rfl) : fQ P md ops Q S ds (fuel + 1) l a w :=
  adg l' hi hN (vG hT hW hc) hQ hy hS ha h
theorem nx (n : Nat) {fuel : Nat} {l : Array Bool} {b a' : Act} {od : Option Tmp} {v : Value} {w : World} (h : fQ P md ops Q S ds fuel l a' w) (hN : od = some n := by rfl)
    (ha : b.put (some n) v = a' := by simp only [Act.put, List.setIfInBounds_toArray, List.set_cons_zero, List.set_cons_succ, jR, kH]; rfl) : fQ P md ops Q S ds fuel l (b.put od v) w := uG (by subst hN; exact ha) h
end
end Go.Proofs.Ytmbmalkpmanaaaa.P
namespace Go.Proofs.Ytmbmalkpmanaaaa.P
open Go.RowKit Go.Proofs.YtmbmalkpmanaaaaW.aK Go.Proofs.YtmbmalkpmanaaaaW.bK Go.Proofs.YtmbmalkpmanaaaaW.bM
attribute [local go_sem] dS dU fG fH dB dD dV dW   -- for this text's walks alone
set_option linter.unusedVariables false
set_option linter.unusedSimpArgs false
def kW.f  : Option (Int × Int × (List (List (S23))) × (List (S70))) := some (7, 1, (([(([(⟨0, 4⟩ : S23)] : List (S23)))] : List (List (S23)))), ([] : List (S70)))
set_option maxHeartbeats 8000000 in
set_option maxRecDepth 100000 in
theorem kW.calls  (r1 : Int) (r2 : Int) (r3 : List (List (S23))) (r4 : List (S70)) (w : World) (h : kW.f  = some (r1, r2, r3, r4)) :
 Calls Try.prog 52 #[] w fun e w' => ∃ v2_ v3_ : Value, e = .returned (.agg #[.int .i64 r1, .int .i64 r2, v2_, v3_]) ∧ Kd.N (Kd.slice 23 k23) 24 w' w.heap.size (fun k_ => (w.heap.size ≤ k_) ∧ some k_ ≠ (v3_ : Value).ownBlock) v2_ r3 ∧ Kd.N k70 70 w' w.heap.size (fun k_ => (w.heap.size ≤ k_) ∧ some k_ ≠ (v2_ : Value).ownBlock) v3_ r4 ∧ Below w.heap.size w w' := by
 have aaE := Try.underlying28
 have afs := Try.underlying23
 have HB := am (Below.refl w.heap.size w)
 have H : (some (7, 1, (([(([(⟨0, 4⟩ : S23)] : List (S23)))] : List (List (S23)))), ([] : List (S70)))) = some (r1, r2, r3, r4) := h
 clear h
 obtain ⟨y104, hy104⟩ : ∃ y_ : List (S23), y_ = (([(⟨0, 4⟩ : S23)] : List (S23))) := ⟨_, rfl⟩
 replace H : (some (7, 1, (([y104] : List (List (S23)))), ([] : List (S70)))) = some (r1, r2, r3, r4) := by first | (rw [hy104]; with_reducible exact H) | (have H2_ := (Option.bind_some _ _).symm.trans H; rw [hy104]; with_reducible exact H2_) | (have H2_ := (Option.bind_some _ _).symm.trans H; with_reducible exact H2_) | with_reducible exact H | (rw [hy104]; exact H) | exact H
 have asP := am hy104
 clear hy104
 obtain ⟨au0, ajy⟩ : ∃ y_ : List (List (S23)), y_ = (([y104] : List (List (S23)))) := ⟨_, rfl⟩
 replace H : (some (7, 1, au0, ([] : List (S70)))) = some (r1, r2, r3, r4) := by first | (rw [ajy]; with_reducible exact H) | (have H2_ := (Option.bind_some _ _).symm.trans H; rw [ajy]; with_reducible exact H2_) | (have H2_ := (Option.bind_some _ _).symm.trans H; with_reducible exact H2_) | with_reducible exact H | (rw [ajy]; exact H) | exact H
 have asQ := am ajy
 clear ajy
 simp only [Option.some.injEq, Prod.mk.injEq] at H
 obtain ⟨rfl, rfl, rfl, rfl⟩ := H
 go_enter Try.func52, Try.ntmps52
 go_wp2_with (first | ((with_reducible refine bq (N := 0) rfl ?_); refine bx 0 28 #[.int .i64 0, .int .i64 0, .slice none 0 0, .slice none 0 0] ?_; intro wK hg w1 dL hb; have wW := am (dL); have aBJ := am ((bz hg HB.out : w.heap.size ≤ wK)); have afD := am ((bz hg HB.out : w.heap.size ≤ wK)); replace HB := am (au (bl HB.out) hb); clear hb dL hg) | ((with_reducible refine bq (N := 2) rfl ?_); refine Kd.acO k23 _ 23 ?hg (N := 2) ?hd (xs := ([(⟨0, 4⟩ : S23)] : List (S23))) (inner := [.int .i64 0, .int .i64 4]) (ok := fun _ => True) (okp := fun _ => True) ?hr ?hp (fun _ hk => hk) trivial (Below.refl _ _) (Nat.le_refl _) (by simp) ?_; (case hd => rfl); (case hg => rfl); (case hr => first | (go_simp; done) | (go_simp; rfl)); (case hp => exact (kG.c2 (show Kd.M k23 _ _ _ (⟨0, 4⟩ : S23) [.int .i64 0, .int .i64 4] from (rP _ _ _ (⟨0, 4⟩ : S23) )) (kG.none _ _))); intro v105 w2 ho3 hb hg_ qI; clear hg_ qI; (first | rw [← asP.out] at ho3 | (simp only [Int.reduceToNat] at ho3; rw [← asP.out] at ho3)); have aiL := am (Kd.jQ (Kd.asJ (M := fun k_ => (w.heap.size ≤ k_)) ho3 (bY (bl1 HB.out afD.out)) (fun k_ h_ => h_)) (bY (bl1 HB.out afD.out))); replace wW := am (ak (kp wW.out) hb); replace HB := am (au (bl1 HB.out afD.out) hb); clear hb ho3; obtain ⟨Ao4, co4, eo4⟩ := Kd.iW aiL.out; subst eo4) | ((with_reducible refine bq (N := 3) rfl ?_); refine Kd.aox (Kd.slice 23 k23) _ 24 ?hg (N' := 3) ?hd (xs := ([y104] : List (List (S23)))) (inner := [.slice Ao4 y104.length co4]) (ok := (fun k_ => (w.heap.size ≤ k_) ∧ k_ ≠ wK)) (okp := (fun k_ => (w.heap.size ≤ k_) ∧ k_ ≠ wK)) ?hr ?hp (fun _ hk => hk) ((show ∀ k_, w2.heap.size ≤ k_ → (fun k_ => (w.heap.size ≤ k_) ∧ k_ ≠ wK) k_ from fun k_ hk => ⟨(Nat.le_trans (bY (bl1 HB.out afD.out)) hk), Kd.qV (g := wK) (o := .cells #[.int .i64 0, .int .i64 0, .slice none 0 0, .slice none 0 0] 28 (0, 0)) (kp wW.out) k_ hk⟩) _ (Nat.le_refl _)) (Below.refl _ _) (Nat.le_refl _) (by simp) ?_; (case hd => rfl); (case hg => rfl); (case hr => first | (go_simp; done) | (go_simp; rfl)); (case hp => exact (kG.one (show Kd.FK (Kd.slice 23 k23) _ _ y104 [.slice Ao4 y104.length co4] from (Kd.rO (Kd.bS (Kd.lY (ok' := (fun k_ => (w.heap.size ≤ k_) ∧ k_ ≠ wK)) (Kd.adi (aiL.out) wW.out (by decide)) (fun k_ hk => ⟨hk.1.1, hk.2⟩))).2.1 (Kd.R_F (Kd.lY (ok' := (fun k_ => (w.heap.size ≤ k_) ∧ k_ ≠ wK)) (Kd.adi (aiL.out) wW.out (by decide)) (fun k_ hk => ⟨hk.1.1, hk.2⟩))))) (kG.none _ _))); intro aDH w5 ho6 hb hg_ qI; have ajz := am (Kd.lY (ok' := fun _ => True) (Kd.dO (kr aiL.out) hb) (fun _ _ => trivial)); clear hg_ qI; (first | rw [← asQ.out] at ho6 | (simp only [Int.reduceToNat] at ho6; rw [← asQ.out] at ho6)); have n0_ := am (Kd.abv ho6 (bY (bl1 HB.out afD.out))); have n1_ := am (ak (kp wW.out) hb); have n2_ := am (au (bl1 HB.out afD.out) hb); clear wW; clear HB; clear aiL; have aiL := ajz; clear ajz; have asR := n0_; have wW := n1_; have HB := n2_; clear n0_ n1_ n2_; clear hb ho6; obtain ⟨Ao7, co7, eo7⟩ := Kd.aaz asR.out; subst eo7; have yx : w5.cell? ⟨wK, 0, none⟩ = some (.int .i64 0) := bc wW.out 0; have yA : w5.cell? ⟨wK, 1, none⟩ = some (.int .i64 0) := bc wW.out 1; have zn : w5.cell? ⟨wK, 2, none⟩ = some (.slice none 0 0) := bc wW.out 2; have zo : w5.cell? ⟨wK, 3, none⟩ = some (.slice none 0 0) := bc wW.out 3; have yB := aj wW.out 0; have yC := aj wW.out 1; have zq := aj wW.out 2; have zu := aj wW.out 3))
 refine bodyPost_ret (results_cell_row rfl _ _ wK 28 #[.int .i64 7, .int .i64 1, .slice Ao7 au0.length co7, .slice none 0 0] (0, 0) _ rfl (by (with_reducible repeat (first | refine aM ?_ _ | refine aI ?_ | refine aA ?_ _)); refine bX (cs := #[.int .i64 7, .int .i64 1, .slice Ao7 au0.length co7, .slice none 0 0]) ?_ 3 _ rfl; (with_reducible repeat (first | refine aM ?_ _ | refine aI ?_ | refine aA ?_ _)); refine bX (cs := #[.int .i64 7, .int .i64 1, .slice none 0 0, .slice none 0 0]) ?_ 2 _ rfl; (with_reducible repeat (first | refine aM ?_ _ | refine aI ?_ | refine aA ?_ _)); refine bX (cs := #[.int .i64 7, .int .i64 0, .slice none 0 0, .slice none 0 0]) ?_ 1 _ rfl; (with_reducible repeat (first | refine aM ?_ _ | refine aI ?_ | refine aA ?_ _)); refine bX (cs := #[.int .i64 0, .int .i64 0, .slice none 0 0, .slice none 0 0]) ?_ 0 _ rfl; (with_reducible repeat (first | refine aM ?_ _ | refine aI ?_ | refine aA ?_ _)); exact wW.out) Try.underlying28 rfl (by kernel_rfl)) rfl ?_
 exact ⟨_, _, rt, by (with_reducible repeat (first | apply Kd.nX | apply Kd.nY | apply Kd.pz)); exact Kd.qb (Kd.pX (p := ⟨wK, 3, none⟩) (Kd.pX (p := ⟨wK, 2, none⟩) (Kd.pX (p := ⟨wK, 1, none⟩) (Kd.pX (p := ⟨wK, 0, none⟩) (Kd.qb asR.out (fun k_ hk => (⟨hk, hk.2⟩ : _ ∧ k_ ≠ wK))) (fun _ hk => hk.2) (.int .i64 7)) (fun _ hk => hk.2) (.int .i64 1)) (fun _ hk => hk.2) (.slice Ao7 au0.length co7)) (fun _ hk => hk.2) (.slice none 0 0)) (fun _ hk => ⟨hk.1.1, (by simp [Value.ownBlock])⟩), by first | exact Kd.zi _ _ _ _ _ | exact Kd.zk _ _ _ _ _ | exact Kd.wI _ _ _ _ _ | exact Kd.yZ _ _ _ _ _ | exact Kd.wP _ _ _ _ _, bl1 HB.out afD.out⟩
def bF.l0 : Nat → List Int → List Int → Int → Int → Option (Bool)
 | 0, _, _, _, _ => none
 | k + 1, x0, x1, x12, x13 => if x13 < x12 then (if 0 ≤ x13 then (if x13 < (x0.length : Int) then (if x13 < (x1.length : Int) then (if (rd x0 x13) = (rd x1 x13) then (bF.l0 k x0 x1 x12 (wrap64 (x13 + 1))) else (some false)) else (none)) else (none)) else (none)) else (some true)
def bF.f (k : Nat) (l0 : List Int) (l1 : List Int) : Option (Bool) := if (l0.length : Int) = (l1.length : Int) then (bF.l0 k l0 l1 (l0.length : Int) 0) else (some false)
theorem bF.iX : ∀ k, (∀ y0 y1 y2 y3, LeO (bF.l0 k y0 y1 y2 y3) (bF.l0 (k + 1) y0 y1 y2 y3))
 | 0 => fun _ _ _ _ r h => by simp [bF.l0] at h
 | k + 1 => by
  have ih0 := bF.iX k
  ·intro y0 y1 y2 y3
   unfold bF.l0
   repeat' first
   | (with_reducible exact ih0 _ _ _ _)
   | (with_reducible exact LeO.refl _)
   | (with_reducible exact LeO.none _)
   | (with_reducible refine LeO.ite ?_ ?_)
   | (with_reducible refine LeO.bind ?_ (fun _ => ?_))
   | exact ih0 _ _ _ _
   | exact LeO.none _
   | refine LeO.ite ?_ ?_
   | refine LeO.bind ?_ (fun _ => ?_)
theorem bF.mono : ∀ a0 a1 k, LeO (bF.f k a0 a1) (bF.f (k + 1) a0 a1) := by
 intro a0 a1 k
 have ih0 := bF.iX k
 unfold bF.f
 repeat' first
  | (with_reducible exact ih0 _ _ _ _)
  | (with_reducible exact LeO.refl _)
  | (with_reducible exact LeO.none _)
  | (with_reducible refine LeO.ite ?_ ?_)
  | (with_reducible refine LeO.bind ?_ (fun _ => ?_))
  | exact ih0 _ _ _ _
  | exact LeO.none _
  | refine LeO.ite ?_ ?_
  | refine LeO.bind ?_ (fun _ => ?_)
set_option maxHeartbeats 8000000 in
set_option maxRecDepth 100000 in
theorem bF.calls (k : Nat) (A0 : Option Addr) (c0 : Nat) (l0 : List Int) (A1 : Option Addr) (c1 : Nat) (l1 : List Int) (r : Bool) (w : World) (hr0 : Kd.C (Kd.int .i64) w A0 l0.length l0) (hc0 : l0.length ≤ c0) (hr1 : Kd.C (Kd.int .i64) w A1 l1.length l1) (hc1 : l1.length ≤ c1) (h : bF.f k l0 l1 = some r) :
 Calls Try.prog 15 #[.slice A0 l0.length c0, .slice A1 l1.length c1] w fun e w' => e = .returned (.bool r) ∧ dh w w' := by
 have HR0 := am hr0
 have HC0 := am hc0
 clear hr0 hc0
 have HR1 := am hr1
 have HC1 := am hc1
 clear hr1 hc1
 have H : (if (l0.length : Int) = (l1.length : Int) then (bF.l0 k l0 l1 (l0.length : Int) 0) else (some false)) = some r := h
 clear h
 by_cases c3 : (l0.length : Int) = (l1.length : Int)
 ·rw [if_pos c3] at H
  have aa8 : ((l0.length : Int) == (l1.length : Int)) = true := beq_iff_eq.mpr c3
  have ajA : ((l0.length : Int) != (l1.length : Int)) = false := bne_eq_false_iff_eq.mpr c3
  have asS : (l0.length == l1.length) = true := by first | simpa using c3 | (simp at c3 ⊢; omega)
  clear c3
  have H' := am H
  clear H
  go_enter Try.func15, Try.ntmps15
  go_wp2
  repeat (go_quiet (fail); try go_wp2)
  go_loopg [13] k (fun kq v13 w' => ∃ (iY : Int), v13 = .int .i64 iY ∧ ay (bF.l0 kq l0 l1 (l0.length : Int) iY = some r) ∧ ay (kq ≤ k) ∧ dh w w')
  case atStart => exact ⟨(0), sm, H', ⟨Nat.le_refl _⟩, by repeat (first | exact dh.refl _ | apply dh.step)⟩
  case round =>
   clear H'
   try clear c1
   try clear aa8
   try clear ajA
   try clear asS
   obtain ⟨iY, rfl, HA, HK1, ⟨m1, rfl⟩⟩ := hrel
   cases gk with
   | zero => exact absurd HA.out (by simp [bF.l0])
   | succ k1 =>
    have H := HA.out
    clear HA
    simp only [bF.l0] at H
    by_cases c4 : iY < (l0.length : Int)
    ·rw [if_pos c4] at H
     have vv : decide (iY < (l0.length : Int)) = true := decide_eq_true c4
     clear c4
     by_cases c5 : 0 ≤ iY
     case neg => rw [if_neg c5] at H; exact absurd H (by simp)
     rw [if_pos c5] at H
     have acT : decide (0 ≤ iY) = true := decide_eq_true c5
     clear c5
     by_cases c6 : iY < (l0.length : Int)
     case neg => rw [if_neg c6] at H; exact absurd H (by simp)
     rw [if_pos c6] at H
     have adw : decide (iY < (l0.length : Int)) = true := decide_eq_true c6
     clear c6
     by_cases c7 : iY < (l1.length : Int)
     case neg => rw [if_neg c7] at H; exact absurd H (by simp)
     rw [if_pos c7] at H
     have afE : decide (iY < (l1.length : Int)) = true := decide_eq_true c7
     clear c7
     by_cases c8 : (rd l0 iY) = (rd l1 iY)
     ·rw [if_pos c8] at H
      have aft : ((rd l0 iY) == (rd l1 iY)) = true := beq_iff_eq.mpr c8
      have aoF : ((rd l0 iY) != (rd l1 iY)) = false := bne_eq_false_iff_eq.mpr c8
      clear c8
      have H' := am H
      clear H
      have aoG : 0 ≤ (iY : Int) := of_decide_eq_true asm
      have aoH : iY < (l0.length : Int) := of_decide_eq_true asm
      obtain ⟨avZ, av0, aoI⟩ := Kd.aeA HR0.out iY aoG aoH
      cases av0
      replace aoG := eq_true aoG
      replace aoH := eq_true aoH
      have aoJ : 0 ≤ (iY : Int) := of_decide_eq_true asm
      have aoK : iY < (l1.length : Int) := of_decide_eq_true asm
      obtain ⟨av1, av2, aoL⟩ := Kd.aeA HR1.out iY aoJ aoK
      cases av2
      replace aoJ := eq_true aoJ
      replace aoK := eq_true aoK
      go_wp2
      repeat (go_quiet (fail); try go_wp2)
      go_roundg k1
      case measure => have := HK1.out; omega
      case rel => exact ⟨(wrap64 (iY + 1)), sm, H', ⟨by have := HK1.out; omega⟩, by repeat (first | exact dh.refl _ | apply dh.step)⟩
     ·rw [if_neg c8] at H
      have aft : ((rd l0 iY) == (rd l1 iY)) = false := beq_eq_false_iff_ne.mpr c8
      have aoF : ((rd l0 iY) != (rd l1 iY)) = true := bne_iff_ne.mpr c8
      obtain rfl := Option.some.inj H
      have aoG : 0 ≤ (iY : Int) := of_decide_eq_true asm
      have aoH : iY < (l0.length : Int) := of_decide_eq_true asm
      obtain ⟨avZ, av0, aoI⟩ := Kd.aeA HR0.out iY aoG aoH
      cases av0
      replace aoG := eq_true aoG
      replace aoH := eq_true aoH
      have aoJ : 0 ≤ (iY : Int) := of_decide_eq_true asm
      have aoK : iY < (l1.length : Int) := of_decide_eq_true asm
      obtain ⟨av1, av2, aoL⟩ := Kd.aeA HR1.out iY aoJ aoK
      cases av2
      replace aoJ := eq_true aoJ
      replace aoK := eq_true aoK
      go_wp2
      repeat (go_quiet (fail); try go_wp2)
      go_ret
      exact ⟨by first | rfl | (simp; done) | (simp [*]; done), by repeat (first | exact dh.refl _ | apply dh.step)⟩
    ·rw [if_neg c4] at H
     have vv : decide (iY < (l0.length : Int)) = false := decide_eq_false c4
     clear c4
     obtain rfl := Option.some.inj H
     go_wp2
     repeat (go_quiet (fail); try go_wp2)
     go_ret
     exact ⟨by first | rfl | (simp; done) | (simp [*]; done), by repeat (first | exact dh.refl _ | apply dh.step)⟩
 ·rw [if_neg c3] at H
  have aa8 : ((l0.length : Int) == (l1.length : Int)) = false := beq_eq_false_iff_ne.mpr c3
  have ajA : ((l0.length : Int) != (l1.length : Int)) = true := bne_iff_ne.mpr c3
  have asS : (l0.length == l1.length) = false := by first | simpa using c3 | (simp at c3 ⊢; omega)
  obtain rfl := Option.some.inj H
  go_enter Try.func15, Try.ntmps15
  go_wp2
  repeat (go_quiet (fail); try go_wp2)
  go_ret
  exact ⟨by first | rfl | (simp; done) | (simp [*]; done), by repeat (first | exact dh.refl _ | apply dh.step)⟩
def mR.f (aQ : Int) (aR : Int) (a1 : Int) : Option (Bool) := some (decide (aR ≥ a1))
set_option maxHeartbeats 8000000 in
set_option maxRecDepth 100000 in
theorem mR.calls (aQ : Int) (aR : Int) (a1 : Int) (r : Bool) (w : World) (h : mR.f aQ aR a1 = some r) :
 Calls Try.prog 89 #[.agg #[.int .i64 aQ, .int .i64 aR], .int .i64 a1] w fun e w' => e = .returned (.bool r) ∧ Below w.heap.size w w' := by
 have afs := Try.underlying23
 have HB := am (Below.refl w.heap.size w)
 have H : (some (decide (aR ≥ a1))) = some r := h
 clear h
 obtain rfl := Option.some.inj H
 go_enter Try.func89, Try.ntmps89
 go_wp2_with (first | ((with_reducible refine bq (N := 2) rfl ?_); refine bx 2 23 #[.int .i64 aQ, .int .i64 aR] ?_; intro adx hg w3 dL hb; have ady := am (dL); have av3 := am ((bz hg HB.out : w.heap.size ≤ adx)); have aoM := am ((bz hg HB.out : w.heap.size ≤ adx)); replace HB := am (au (bl HB.out) hb); clear hb dL hg; have ajB : w3.cell? ⟨adx, 0, none⟩ = some (.int .i64 aQ) := bc ady.out 0; have ajC : w3.cell? ⟨adx, 1, none⟩ = some (.int .i64 aR) := bc ady.out 1; have ajD := aj ady.out 0; have ajE := aj ady.out 1))
 go_ret
 exact ⟨rt, bl1 HB.out aoM.out⟩
def eD.f (l0 : List (S23)) : Option (Int × Int × Bool) := if (l0.length : Int) = 0 then (some (0, 0, false)) else (if 0 < (l0.length : Int) then (if 0 ≤ (wrap64 ((l0.length : Int) - 1)) then (if (wrap64 ((l0.length : Int) - 1)) < (l0.length : Int) then (some ((aT l0 0).f0, (aT l0 (wrap64 ((l0.length : Int) - 1))).f1, true)) else (none)) else (none)) else (none))
def eD.T3 : Bool × List (List Nat × List Nat) := (true, [([], []), ([0], [0]), ([1], [1]), ([2], [2]), ([], []), ([], []), ([5], [5]), ([6], [6]), ([4, 7], [4, 7]), ([8], [8]), ([9], [9]), ([3, 10], [3, 10]), ([11, 0, 1, 2, 3, 4, 5, 6, 7, 8, 9, 10, 11], [11]), ([12, 0, 1, 2, 3, 4, 5, 6, 7, 8, 9, 10, 11, 12], [])])
def eD.B3 : List Nat := [0, 1, 3, 7, 0, 0, 32, 96, 240, 496, 1008, 2047, 4095, 8191]
theorem eD.aBK : xW .any (opsOf Try.f43 3) = eD.T3 := by kernel_rfl
theorem eD.av4 : pq eD.T3.2 eD.B3 = true := by kernel_rfl
set_option maxHeartbeats 8000000 in
set_option maxRecDepth 100000 in
theorem eD.calls (A0 : Option Addr) (c0 : Nat) (l0 : List (S23)) (r1 : Int) (r2 : Int) (r3 : Bool) (w : World) (hr0 : Kd.C k23 w A0 l0.length l0) (hc0 : l0.length ≤ c0) (h : eD.f l0 = some (r1, r2, r3)) :
 Calls Try.prog 43 #[.slice A0 l0.length c0] w fun e w' => e = .returned (.tuple #[.agg #[.int .i64 r1, .int .i64 r2], .bool r3]) ∧ Below w.heap.size w w' := by
 have afs := Try.underlying23
 have HR0 := am hr0
 have HC0 := am hc0
 clear hr0 hc0
 have HB := am (Below.refl w.heap.size w)
 have H : (if (l0.length : Int) = 0 then (some (0, 0, false)) else (if 0 < (l0.length : Int) then (if 0 ≤ (wrap64 ((l0.length : Int) - 1)) then (if (wrap64 ((l0.length : Int) - 1)) < (l0.length : Int) then (some ((aT l0 0).f0, (aT l0 (wrap64 ((l0.length : Int) - 1))).f1, true)) else (none)) else (none)) else (none))) = some (r1, r2, r3) := h
 clear h
 by_cases c2 : (l0.length : Int) = 0
 ·rw [if_pos c2] at H
  have ajF : ((l0.length : Int) == 0) = true := beq_iff_eq.mpr c2
  have av5 : ((l0.length : Int) != 0) = false := bne_eq_false_iff_eq.mpr c2
  clear c2
  simp only [Option.some.injEq, Prod.mk.injEq] at H
  obtain ⟨rfl, rfl, rfl⟩ := H
  go_enter Try.func43, Try.ntmps43
  go_wp2_with (first | ((with_reducible refine bq (N := 2) rfl ?_); refine bx 2 23 #[.int .i64 0, .int .i64 0] ?_; intro vJ hg w3 dL hb; have zw := am (dL); have nZ := am ((bz hg HB.out : w.heap.size ≤ vJ)); have aoN := am ((bz hg HB.out : w.heap.size ≤ vJ)); replace HB := am (au (bl HB.out) hb); clear hb dL hg; have ajB : w3.cell? ⟨vJ, 0, none⟩ = some (.int .i64 0) := bc zw.out 0; have ajC : w3.cell? ⟨vJ, 1, none⟩ = some (.int .i64 0) := bc zw.out 1; have ajD := aj zw.out 0; have ajE := aj zw.out 1))
  refine bodyPost_ret (ac5 rfl _ _ vJ 23 #[.int .i64 0, .int .i64 0] (0, 0) _ rfl (by (with_reducible repeat (first | refine aM ?_ _ | refine aI ?_ | refine aA ?_ _)); refine bX (cs := #[.int .i64 0, .int .i64 0]) ?_ 1 _ rfl; (with_reducible repeat (first | refine aM ?_ _ | refine aI ?_ | refine aA ?_ _)); refine bX (cs := #[.int .i64 0, .int .i64 0]) ?_ 0 _ rfl; (with_reducible repeat (first | refine aM ?_ _ | refine aI ?_ | refine aA ?_ _)); exact zw.out) Try.underlying23 rfl (by kernel_rfl)) rfl ?_
  exact ⟨rt, bl1 HB.out aoN.out⟩
 ·rw [if_neg c2] at H
  have ajF : ((l0.length : Int) == 0) = false := beq_eq_false_iff_ne.mpr c2
  have av5 : ((l0.length : Int) != 0) = true := bne_iff_ne.mpr c2
  have aDI : ¬ (l0 = []) := fun h_ => c2 (by rw [h_]; rfl)
  by_cases c5 : 0 < (l0.length : Int)
  case neg => rw [if_neg c5] at H; exact absurd H (by simp)
  rw [if_pos c5] at H
  have acT : decide (0 < (l0.length : Int)) = true := decide_eq_true c5
  have amt : decide (0 < l0.length) = true := decide_eq_true (by omega)
  clear c5
  obtain ⟨ji6, ai6⟩ : ∃ j_ : Int, (wrap64 ((l0.length : Int) - 1)) = j_ := ⟨_, rfl⟩
  replace H : (if 0 ≤ (ji6) then (if (ji6) < (l0.length : Int) then (some ((aT l0 0).f0, (aT l0 (ji6)).f1, true)) else (none)) else (none)) = some (r1, r2, r3) := by first | (rw [ai6] at H; exact H) | (simp only [ai6] at H ⊢; exact H)
  have aBL : (IntKind.i64.wrap ((l0.length : Int) - 1)) = ji6 := (jR _).trans ai6
  by_cases c7 : 0 ≤ (ji6)
  case neg => rw [if_neg c7] at H; exact absurd H (by simp)
  rw [if_pos c7] at H
  have afE : decide (0 ≤ (ji6)) = true := decide_eq_true c7
  clear c7
  by_cases c8 : (ji6) < (l0.length : Int)
  case neg => rw [if_neg c8] at H; exact absurd H (by simp)
  rw [if_pos c8] at H
  have aft : decide ((ji6) < (l0.length : Int)) = true := decide_eq_true c8
  clear c8
  simp only [Option.some.injEq, Prod.mk.injEq] at H
  obtain ⟨rfl, rfl, rfl⟩ := H
  go_enter Try.func43, Try.ntmps43
  try go_wp2_with (first | ((with_reducible refine bq (N := 2) rfl ?_); refine bx 2 23 #[.int .i64 0, .int .i64 0] ?_; intro vJ hg w9 dL hb; have zw := am (dL); have nZ := am ((bz hg HB.out : w.heap.size ≤ vJ)); have aoN := am ((bz hg HB.out : w.heap.size ≤ vJ)); replace HB := am (au (bl HB.out) hb); clear hb dL hg))
  replace zw := am (aI zw.out)
  replace HB := am (dx HB.out)
  have av6 : 0 ≤ (0 : Int) := (by omega)
  have av7 : 0 < (l0.length : Int) := of_decide_eq_true asm
  obtain ⟨afF, aBM, wX, wY⟩ := jW HR0.out 0 av6 av7
  have ql := wY
  (try rw [show ((0 : Int)).toNat = 0 from rfl] at ql)
  (try rw [show 0 * 2 = 0 from rfl] at ql)
  (try rw [Addr.add_zero'] at ql)
  have qm := wX
  (try rw [show ((0 : Int)).toNat = 0 from rfl] at qm)
  (try rw [show 0 * 2 = 0 from rfl] at qm)
  (try rw [Addr.add_zero'] at qm)
  cases aBM
  have aBN : (0 < l0.length) = True := eq_true (by omega)
  (try rw [show ((0 : Int)).toNat = 0 from rfl] at wX)
  (try rw [show 0 * 2 = 0 from rfl] at wX)
  (try rw [Addr.add_zero'] at wX)
  (try rw [show ((0 : Int)).toNat = 0 from rfl] at wY)
  (try rw [show 0 * 2 = 0 from rfl] at wY)
  (try rw [Addr.add_zero'] at wY)
  replace wX := (HB.out.cell (World.block_lt_of_cell? w _ wX)).trans wX
  replace wY := (HB.out.cell (World.block_lt_of_cell? w _ wY)).trans wY
  replace av6 := eq_true av6
  replace av7 := eq_true av7
  have av8 : 0 ≤ ((ji6) : Int) := of_decide_eq_true asm
  have av9 : (ji6) < (l0.length : Int) := of_decide_eq_true asm
  obtain ⟨awc, e137, abw, abx⟩ := jW HR0.out (ji6) av8 av9
  have uI := abx
  have uJ := abw
  obtain rfl : afF = awc := (by injection e137)
  replace abw := (HB.out.cell (World.block_lt_of_cell? w _ abw)).trans abw
  replace abx := (HB.out.cell (World.block_lt_of_cell? w _ abx)).trans abx
  replace av8 := eq_true av8
  replace av9 := eq_true av9
  refine nW (n := 14) (S := fun w' => w'.cell? afF = some (.int .i64 ((aT l0 0).f0)) ∧ w'.cell? ⟨afF.block, afF.off + 1, none⟩ = some (.int .i64 ((aT l0 0).f1)) ∧ w'.cell? (afF.add (((ji6)).toNat * 2)) = some (.int .i64 ((aT l0 (ji6)).f0)) ∧ w'.cell? ⟨(afF.add (((ji6)).toNat * 2)).block, (afF.add (((ji6)).toNat * 2)).off + 1, none⟩ = some (.int .i64 ((aT l0 (ji6)).f1))) (ds := []) (rs false [14]) (by kernel_rfl) rfl rfl ⟨((HB.out.cell (World.block_lt_of_cell? w _ qm)).trans qm), ((HB.out.cell (World.block_lt_of_cell? w _ ql)).trans ql), ((HB.out.cell (World.block_lt_of_cell? w _ uJ)).trans uJ), ((HB.out.cell (World.block_lt_of_cell? w _ uI)).trans uI)⟩ (fun hHeld => ?_); refine ji eD.aBK eD.av4 (fun HT_ HW_ => ?_)
  generalize w9.drew = w10 at zw HB wX wY abw abx hHeld ⊢
  refine px 0 8 (rs true [1, 13]) HT_.out ?_
  refine px 1 9 (rs true [2, 12]) HT_.out ?_
  refine px 2 10 (rs true [3, 11]) HT_.out ?_
  refine px 4 12 (rs true [3, 1, 1, 9]) HT_.out ?_
  refine px 5 13 (rs true [3, 1, 2, 8]) HT_.out ?_
  refine px 6 14 (rs true [3, 1, 3, 7]) HT_.out ?_
  refine px 7 15 (rs true [3, 1, 4, 6]) HT_.out ?_
  refine px 8 16 (rs true [3, 1, 5, 5]) HT_.out ?_
  refine px 9 17 (rs true [3, 1, 6, 4]) HT_.out ?_
  refine tx 3 11 (rs true [10, 4]) HT_.out HW_.out hHeld ?_
  refine tx 10 18 (rs true [11, 3]) HT_.out HW_.out hHeld ?_
  refine px 11 19 (rs true [12, 2]) HT_.out ?_
  refine oZ (i := 12) (N := none) (rs true [13, 1]) rfl rfl (gM HT_.out (by kernel_rfl)) (by decide) (fun K hK => ?_)
  have aDJ : w10.cell? ⟨vJ, 0, none⟩ = some (.int .i64 0) := bc zw.out 0
  have aBO := aj zw.out 0
  have aDK : w10.cell? ⟨vJ, 1, none⟩ = some (.int .i64 0) := bc zw.out 1
  have aBP := aj zw.out 1
  refine avS (w1 := ?_) (by rfl) rfl ?_ ?_
  rotate_left
  ·go_simp
   rfl
  refine hK.out _ _ ⟨((cell_far (p := ⟨vJ, _, none⟩) (by first | exact Nat.ne_of_lt (Nat.lt_of_lt_of_le (by have := World.block_lt_of_cell? _ _ qm; first | rwa [add_block] at this | exact this) nZ.out) | (rw [add_block]; exact Nat.ne_of_lt (Nat.lt_of_lt_of_le (by have := World.block_lt_of_cell? _ _ qm; first | rwa [add_block] at this | exact this) nZ.out)) | (show (Addr.add _ _).block ≠ _; rw [add_block]; exact Nat.ne_of_lt (Nat.lt_of_lt_of_le (by have := World.block_lt_of_cell? _ _ qm; first | rwa [add_block] at this | exact this) nZ.out)) | (dsimp only; exact Nat.ne_of_lt (Nat.lt_of_lt_of_le (by have := World.block_lt_of_cell? _ _ qm; first | rwa [add_block] at this | exact this) nZ.out))) _).trans (((cell_far (p := ⟨vJ, _, none⟩) (by first | exact Nat.ne_of_lt (Nat.lt_of_lt_of_le (by have := World.block_lt_of_cell? _ _ qm; first | rwa [add_block] at this | exact this) nZ.out) | (rw [add_block]; exact Nat.ne_of_lt (Nat.lt_of_lt_of_le (by have := World.block_lt_of_cell? _ _ qm; first | rwa [add_block] at this | exact this) nZ.out)) | (show (Addr.add _ _).block ≠ _; rw [add_block]; exact Nat.ne_of_lt (Nat.lt_of_lt_of_le (by have := World.block_lt_of_cell? _ _ qm; first | rwa [add_block] at this | exact this) nZ.out)) | (dsimp only; exact Nat.ne_of_lt (Nat.lt_of_lt_of_le (by have := World.block_lt_of_cell? _ _ qm; first | rwa [add_block] at this | exact this) nZ.out))) _).trans (hHeld.1)))), ((cell_far (p := ⟨vJ, _, none⟩) (by first | exact Nat.ne_of_lt (Nat.lt_of_lt_of_le (by have := World.block_lt_of_cell? _ _ ql; first | rwa [add_block] at this | exact this) nZ.out) | (rw [add_block]; exact Nat.ne_of_lt (Nat.lt_of_lt_of_le (by have := World.block_lt_of_cell? _ _ ql; first | rwa [add_block] at this | exact this) nZ.out)) | (show (Addr.add _ _).block ≠ _; rw [add_block]; exact Nat.ne_of_lt (Nat.lt_of_lt_of_le (by have := World.block_lt_of_cell? _ _ ql; first | rwa [add_block] at this | exact this) nZ.out)) | (dsimp only; exact Nat.ne_of_lt (Nat.lt_of_lt_of_le (by have := World.block_lt_of_cell? _ _ ql; first | rwa [add_block] at this | exact this) nZ.out))) _).trans (((cell_far (p := ⟨vJ, _, none⟩) (by first | exact Nat.ne_of_lt (Nat.lt_of_lt_of_le (by have := World.block_lt_of_cell? _ _ ql; first | rwa [add_block] at this | exact this) nZ.out) | (rw [add_block]; exact Nat.ne_of_lt (Nat.lt_of_lt_of_le (by have := World.block_lt_of_cell? _ _ ql; first | rwa [add_block] at this | exact this) nZ.out)) | (show (Addr.add _ _).block ≠ _; rw [add_block]; exact Nat.ne_of_lt (Nat.lt_of_lt_of_le (by have := World.block_lt_of_cell? _ _ ql; first | rwa [add_block] at this | exact this) nZ.out)) | (dsimp only; exact Nat.ne_of_lt (Nat.lt_of_lt_of_le (by have := World.block_lt_of_cell? _ _ ql; first | rwa [add_block] at this | exact this) nZ.out))) _).trans (hHeld.2.1)))), ((cell_far (p := ⟨vJ, _, none⟩) (by first | exact Nat.ne_of_lt (Nat.lt_of_lt_of_le (by have := World.block_lt_of_cell? _ _ uJ; first | rwa [add_block] at this | exact this) nZ.out) | (rw [add_block]; exact Nat.ne_of_lt (Nat.lt_of_lt_of_le (by have := World.block_lt_of_cell? _ _ uJ; first | rwa [add_block] at this | exact this) nZ.out)) | (show (Addr.add _ _).block ≠ _; rw [add_block]; exact Nat.ne_of_lt (Nat.lt_of_lt_of_le (by have := World.block_lt_of_cell? _ _ uJ; first | rwa [add_block] at this | exact this) nZ.out)) | (dsimp only; exact Nat.ne_of_lt (Nat.lt_of_lt_of_le (by have := World.block_lt_of_cell? _ _ uJ; first | rwa [add_block] at this | exact this) nZ.out))) _).trans (((cell_far (p := ⟨vJ, _, none⟩) (by first | exact Nat.ne_of_lt (Nat.lt_of_lt_of_le (by have := World.block_lt_of_cell? _ _ uJ; first | rwa [add_block] at this | exact this) nZ.out) | (rw [add_block]; exact Nat.ne_of_lt (Nat.lt_of_lt_of_le (by have := World.block_lt_of_cell? _ _ uJ; first | rwa [add_block] at this | exact this) nZ.out)) | (show (Addr.add _ _).block ≠ _; rw [add_block]; exact Nat.ne_of_lt (Nat.lt_of_lt_of_le (by have := World.block_lt_of_cell? _ _ uJ; first | rwa [add_block] at this | exact this) nZ.out)) | (dsimp only; exact Nat.ne_of_lt (Nat.lt_of_lt_of_le (by have := World.block_lt_of_cell? _ _ uJ; first | rwa [add_block] at this | exact this) nZ.out))) _).trans (hHeld.2.2.1)))), ((cell_far (p := ⟨vJ, _, none⟩) (by first | exact Nat.ne_of_lt (Nat.lt_of_lt_of_le (by have := World.block_lt_of_cell? _ _ uI; first | rwa [add_block] at this | exact this) nZ.out) | (rw [add_block]; exact Nat.ne_of_lt (Nat.lt_of_lt_of_le (by have := World.block_lt_of_cell? _ _ uI; first | rwa [add_block] at this | exact this) nZ.out)) | (show (Addr.add _ _).block ≠ _; rw [add_block]; exact Nat.ne_of_lt (Nat.lt_of_lt_of_le (by have := World.block_lt_of_cell? _ _ uI; first | rwa [add_block] at this | exact this) nZ.out)) | (dsimp only; exact Nat.ne_of_lt (Nat.lt_of_lt_of_le (by have := World.block_lt_of_cell? _ _ uI; first | rwa [add_block] at this | exact this) nZ.out))) _).trans (((cell_far (p := ⟨vJ, _, none⟩) (by first | exact Nat.ne_of_lt (Nat.lt_of_lt_of_le (by have := World.block_lt_of_cell? _ _ uI; first | rwa [add_block] at this | exact this) nZ.out) | (rw [add_block]; exact Nat.ne_of_lt (Nat.lt_of_lt_of_le (by have := World.block_lt_of_cell? _ _ uI; first | rwa [add_block] at this | exact this) nZ.out)) | (show (Addr.add _ _).block ≠ _; rw [add_block]; exact Nat.ne_of_lt (Nat.lt_of_lt_of_le (by have := World.block_lt_of_cell? _ _ uI; first | rwa [add_block] at this | exact this) nZ.out)) | (dsimp only; exact Nat.ne_of_lt (Nat.lt_of_lt_of_le (by have := World.block_lt_of_cell? _ _ uI; first | rwa [add_block] at this | exact this) nZ.out))) _).trans (hHeld.2.2.2))))⟩ (fun hHeld => ?_)
  clear hK K
  refine px 13 3 (rs true [14]) HT_.out ?_
  refine tV (kU HT_.out (by kernel_rfl)) ?_
  try go_wp2
  refine bodyPost_ret (ac5 rfl _ _ vJ 23 #[.int .i64 ((aT l0 0).f0), .int .i64 ((aT l0 (ji6)).f1)] (0, 0) _ rfl (by (with_reducible repeat (first | refine aM ?_ _ | refine aI ?_ | refine aA ?_ _)); refine bX (cs := #[.int .i64 ((aT l0 0).f0), .int .i64 0]) ?_ 1 _ rfl; (with_reducible repeat (first | refine aM ?_ _ | refine aI ?_ | refine aA ?_ _)); refine bX (cs := #[.int .i64 0, .int .i64 0]) ?_ 0 _ rfl; (with_reducible repeat (first | refine aM ?_ _ | refine aI ?_ | refine aA ?_ _)); exact zw.out) Try.underlying23 rfl (by kernel_rfl)) rfl ?_
  exact ⟨by first | rfl | (simp [gu, gB] <;> rfl) | (simp only [← ai6]; first | rfl | (simp [gu, gB] <;> rfl)) | (simp [*, gu, gB] <;> rfl), bl1 HB.out aoN.out⟩
end Go.Proofs.Ytmbmalkpmanaaaa.P
namespace Go.Proofs.Ytmbmalkpmanaaaa.P
set_option linter.unusedVariables false
set_option linter.unusedSimpArgs false
open Go.RowKit Go.Proofs.YtmbmalkpmanaaaaW.aK Go.Proofs.YtmbmalkpmanaaaaW.bK
theorem ac7 {P : Program} {ops : Array Oper} {Q : Exit → Act → World → Prop} {oi : Oper} {N : Option Tmp} {a : Act} {w : World} {K : Act → World → Prop} {f : FuncId} {fn : Func} {c : Tmp} {os : Array Operand} {ts : Array TypeId} (hf : P.funcs[f]? = some fn) (hname : (fn.name == "runtime.NumGoroutine") = false) (hb : fn.body.isSome = true) (args : Array Value)
    (hw : Region.wanted oi (yielded ops a.tmps) = true) (hN : oi.dst = N) (hop : oi.op = .call { callee := .value (.tmp c), args := os, argTypes := ts }) (hc : a.eval (.tmp c) = .func (.func f) #[] #[]) (hargs : os.map a.eval = args)
    (h : Calls P f args w fun e w' => ∃ v, e = .returned v ∧ K (a.put N v) w') : if Region.wanted oi (yielded ops a.tmps) = true then Oper.wp P oi a w K Q else K (a.put N undef) w := by
  refine call_ f args hw hN ?_ h
  have he := adl hf hname hb args w
  unfold execOp
  simp [hop, resolve, Deferred.ofValue, invoke, hc, hargs, he]
theorem zx {P : Program} {ops : Array Oper} {Q : Exit → Act → World → Prop} {oi : Oper} {N : Option Tmp} {a : Act} {w : World} {K : Act → World → Prop} {f : FuncId} {fn : Func} {c : Tmp} {os : Array Operand} {ts : Array TypeId} (hf : P.funcs[f]? = some fn) (hname : (fn.name == "runtime.NumGoroutine") = false) (hb : fn.body.isSome = true) (amu cap args : Array Value) (aBQ : amu ++ cap = args)
    (hw : Region.wanted oi (yielded ops a.tmps) = true) (hN : oi.dst = N) (hop : oi.op = .call { callee := .value (.tmp c), args := os, argTypes := ts }) (hc : a.eval (.tmp c) = .func (.func f) #[] cap) (hargs : os.map a.eval = amu)
    (h : Calls P f args w fun e w' => ∃ v, e = .returned v ∧ K (a.put N v) w') : if Region.wanted oi (yielded ops a.tmps) = true then Oper.wp P oi a w K Q else K (a.put N undef) w := by
  subst aBQ
  refine call_ f (amu ++ cap) hw hN ?_ h
  have he := adl hf hname hb (amu ++ cap) w
  unfold execOp
  simp [hop, resolve, Deferred.ofValue, invoke, hc, hargs, he]
end Go.Proofs.Ytmbmalkpmanaaaa.P
namespace Go.Proofs.Ytmbmalkpmanaaaa.P
set_option linter.unusedVariables false
set_option linter.unusedSimpArgs false
open Go.RowKit Go.Maps Go.Proofs.YtmbmalkpmanaaaaW.aK Go.Proofs.YtmbmalkpmanaaaaW.bK
def yD : List Int → Int → Int
  | [], _ => 0
  | y :: r, x => (if y = x then 1 else 0) + yD r x
theorem ajG (l : List Int) (x : Int) : 0 ≤ yD l x ∧ yD l x ≤ l.length := by
  induction l with
  | nil => simp [yD]
  | cons y r ih => simp only [yD, List.length_cons]; split <;> omega
theorem ajH (l : List Int) (y x : Int) : yD (l ++ [y]) x = yD l x + if y = x then 1 else 0 := by
  induction l with
  | nil => simp [yD]
  | cons z r ih => simp only [List.cons_append, yD, ih]; omega
theorem ajI (l : List Int) (x : Int) : yD l x = 0 ↔ x ∉ l := by
  induction l with
  | nil => simp [yD]
  | cons y r ih =>
    have := (ajG r x).1
    simp only [yD, List.mem_cons, not_or]
    by_cases h : y = x
    · rw [if_pos h]; constructor
      · intro e; omega
      · intro e; exact absurd h.symm e.1
    · rw [if_neg h, Int.zero_add, ih]
      exact ⟨fun e => ⟨fun e2 => h e2.symm, e⟩, fun e => e.2⟩
def vw (w : World) (b : Nat) (l : List Int) : Prop :=
  ∃ D : DataW Unit, w.ownsMap Try.prog 3 (plainElem Try.prog 3) b l.length D ∧ IsMap D ∧ ∀ x : Int, D.atKey (.int .i64 x) (.lit (.int .i64 0)) = .lit (.int .i64 (yD l x))
theorem vw.made (w : World) : vw (w.alloc (.map #[] 0)) w.heap.size [] :=
  ⟨.map [], World.ownsMap_made _ _ _ _, ⟨[], rfl⟩, fun x => rfl⟩
theorem vw.heap {w w' : World} {b : Nat} {l : List Int} (h : vw w b l) (e : w'.heap[b]? = w.heap[b]?) : vw w' b l := by
  obtain ⟨D, ⟨es, clock, hb, F, hs, hD⟩, h2, h3⟩ := h
  exact ⟨D, ⟨es, clock, e.trans hb, F, hs, hD⟩, h2, h3⟩
theorem vw.lt {w : World} {b : Nat} {l : List Int} (h : vw w b l) : b < w.heap.size := by
  obtain ⟨D, h1, _⟩ := h; exact h1.lt
theorem aAF : Keyed Try.prog 3 := int_keyed Try.underlying3
theorem awd (w : World) : (zeroValue 3).run Try.prog w = .ok (.int .i64 0) w := by kernel_rfl
theorem vw.lookup {w : World} {ops : Array Oper} {rest : List Oper} {o : Oper} {a : Act} {Q : Exit → Act → World → Prop} {b : Nat} {l : List Int} (hom : vw w b l)
    (hg : o.guard = none) (m x : Operand) (hop : o.op = Op.lookup 62 m x false) (hm : a.eval m = .map (some b)) (y : Int) (hy : (Lit.int .i64 y).wf = true) (hx : a.eval x = .int .i64 y)
    (hK : wpList Try.prog ops Q rest (a.put o.dst (.int .i64 (yD l y))) w) : wpList Try.prog ops Q (o :: rest) a w := by
  obtain ⟨D, h1, h2, h3⟩ := hom
  refine wpList_lookup_own_int w hg m x 62 hop 3 3 .i64 aAF Try.underlying62 Try.underlying3 (awd w) b l.length D hm h1 _ _ hx (keyOf_int_mk Try.underlying3 hy) (fun c hc _ => ?_)
  have e : yD l y = c := by have := (h3 y).symm.trans hc; injection this with this; injection this
  rw [← e]; exact hK
theorem vw.update {w : World} {ops : Array Oper} {rest : List Oper} {o : Oper} {a : Act} {Q : Exit → Act → World → Prop} {b : Nat} {l : List Int} (hom : vw w b l)
    (hg : o.guard = none) (m x v : Operand) (hop : o.op = Op.mapUpdate 62 m x v) (hm : a.eval m = .map (some b)) (hl : l.length < maxLen) (y : Int) (hy : (Lit.int .i64 y).wf = true) (hx : a.eval x = .int .i64 y) (hv : a.eval v = .int .i64 (wrap64 (yD l y + 1)))
    (hK : ∀ w', vw w' b (l ++ [y]) → w.grownBy w' (some b) → wpList Try.prog ops Q rest (a.put o.dst undef) w') : wpList Try.prog ops Q (o :: rest) a w := by
  obtain ⟨D, h1, h2, h3⟩ := hom
  refine wpList_mapUpdate_own w hg m x v 62 hop 3 3 aAF Try.underlying62 _ b l.length D hm h1 hl _ _ _ hx hv (keyOf_int_mk Try.underlying3 hy) _ _ (plainElem_int Try.underlying3 (wrap64_wf _)) (fun w' r1 r2 => hK w' ?_ r2)
  refine ⟨D.put (.int .i64 y) (.lit (.int .i64 (wrap64 (yD l y + 1)))), ?_, ?_, fun z => ?_⟩
  · exact r1.mono (by simp)
  · obtain ⟨es, rfl⟩ := h2; exact ⟨_, rfl⟩
  · have hw : wrap64 (yD l y + 1) = yD l y + 1 := by have := ajG l y; unfold wrap64; unfold maxLen at hl; omega
    rw [ajH]
    by_cases e : y = z
    · subst e; rw [atKey_put_same h2 (by trivial), hw, if_pos rfl]
    · rw [atKey_put_other (by intro h; injection h with _ h; exact e h.symm), h3, if_neg e, Int.add_zero]
end Go.Proofs.Ytmbmalkpmanaaaa.P
namespace Go.Proofs.Ytmbmalkpmanaaaa.P
open Go.RowKit Go.Proofs.YtmbmalkpmanaaaaW.aK Go.Proofs.YtmbmalkpmanaaaaW.bK Go.Proofs.YtmbmalkpmanaaaaW.bM
attribute [local go_sem] dS dU fG fH dB dD dV dW   -- for this text's walks alone
set_option linter.unusedVariables false
set_option linter.unusedSimpArgs false
def eF.j0 : Nat → Int → Int → Bool → Option (Int × Int × Int)
 | 0, _, _, _ => none
 | k + 1, x0, x1, x12 => if x12 = true then (some (0, 0, 10)) else (if x1 = 0 then (none) else (if (Int.tmod x0 x1) = 0 then (some (wrap64 (Int.tdiv x0 x1), Int.tmod x0 x1, 0)) else (if ((decide ((Int.tmod x0 x1) < 0)) != (decide (x1 < 0))) = true then (some (wrap64 ((wrap64 (Int.tdiv x0 x1)) - 1), wrap64 ((Int.tmod x0 x1) + x1), 0)) else (some (wrap64 (Int.tdiv x0 x1), Int.tmod x0 x1, 0)))))
def eF.f (k : Nat) (a0 : Int) (a1 : Int) : Option (Int × Int × Int) := if a1 = 0 then (some (0, 0, 11)) else (if a1 = (-1) then (eF.j0 k a0 a1 (a0 == (-9223372036854775808))) else (eF.j0 k a0 a1 false))
theorem eF.iX : ∀ k, (∀ y0 y1 y2, LeO (eF.j0 k y0 y1 y2) (eF.j0 (k + 1) y0 y1 y2))
 | 0 => fun _ _ _ r h => by simp [eF.j0] at h
 | k + 1 => by
  have ih0 := eF.iX k
  ·intro y0 y1 y2
   unfold eF.j0
   repeat' first
   | (with_reducible exact ih0 _ _ _)
   | (with_reducible exact LeO.refl _)
   | (with_reducible exact LeO.none _)
   | (with_reducible refine LeO.ite ?_ ?_)
   | (with_reducible refine LeO.bind ?_ (fun _ => ?_))
   | exact ih0 _ _ _
   | exact LeO.none _
   | refine LeO.ite ?_ ?_
   | refine LeO.bind ?_ (fun _ => ?_)
theorem eF.mono : ∀ a0 a1 k, LeO (eF.f k a0 a1) (eF.f (k + 1) a0 a1) := by
 intro a0 a1 k
 have ih0 := eF.iX k
 unfold eF.f
 repeat' first
  | (with_reducible exact ih0 _ _ _)
  | (with_reducible exact LeO.refl _)
  | (with_reducible exact LeO.none _)
  | (with_reducible refine LeO.ite ?_ ?_)
  | (with_reducible refine LeO.bind ?_ (fun _ => ?_))
  | exact ih0 _ _ _
  | exact LeO.none _
  | refine LeO.ite ?_ ?_
  | refine LeO.bind ?_ (fun _ => ?_)
set_option maxHeartbeats 8000000 in
set_option maxRecDepth 100000 in
theorem eF.calls (k : Nat) (a0 : Int) (a1 : Int) (r1 : Int) (r2 : Int) (r3 : Int) (w : World) (h : eF.f k a0 a1 = some (r1, r2, r3)) :
 Calls Try.prog 85 #[.int .i64 a0, .int .i64 a1] w fun e w' => e = .returned (.tuple #[.int .i64 r1, .int .i64 r2, .int .i64 r3]) ∧ dh w w' := by
 have H : (if a1 = 0 then (some (0, 0, 11)) else (if a1 = (-1) then (eF.j0 k a0 a1 (a0 == (-9223372036854775808))) else (eF.j0 k a0 a1 false))) = some (r1, r2, r3) := h
 clear h
 by_cases c3 : a1 = 0
 ·rw [if_pos c3] at H
  have aa8 : (a1 == 0) = true := beq_iff_eq.mpr c3
  have ajA : (a1 != 0) = false := bne_eq_false_iff_eq.mpr c3
  clear c3
  simp only [Option.some.injEq, Prod.mk.injEq] at H
  obtain ⟨rfl, rfl, rfl⟩ := H
  go_enter Try.func85, Try.ntmps85
  go_wp2
  repeat (go_quiet (fail); try go_wp2)
  go_ret3
  exact ⟨by first | rfl | (simp; done) | (simp [*]; done), by repeat (first | exact dh.refl _ | apply dh.step)⟩
 ·rw [if_neg c3] at H
  have aa8 : (a1 == 0) = false := beq_eq_false_iff_ne.mpr c3
  have ajA : (a1 != 0) = true := bne_iff_ne.mpr c3
  have HC4 := am H
  clear H
  go_enter Try.func85, Try.ntmps85
  go_upto_region 3 with (fail)
  repeat (go_quiet (fail); go_upto_region 3 with (fail))
  go_cut [12] (fun v12 wc => ∃ (kq : Nat) (amv : Bool), v12 = .bool amv ∧ ay (eF.j0 kq a0 a1 amv = some (r1, r2, r3)) ∧ ay (kq ≤ k) ∧ dh w wc)
  case first =>
   have H := HC4.out
   clear HC4
   by_cases c5 : a1 = (-1)
   ·rw [if_pos c5] at H
    have acT : (a1 == (-1)) = true := beq_iff_eq.mpr c5
    have amt : (a1 != (-1)) = false := bne_eq_false_iff_eq.mpr c5
    clear c5
    (first | rw [acT] | (simp only [jR, kH]; rw [acT]) | skip)
    have H' := am H
    clear H
    go_wp2
    repeat (go_quiet (fail); try go_wp2)
    go_meet
    case rel => exact ⟨_, ((a0 == (-9223372036854775808))), sm, H', ⟨by first | omega | exact Nat.le_refl _⟩, by repeat (first | exact dh.refl _ | apply dh.step)⟩
   ·rw [if_neg c5] at H
    have acT : (a1 == (-1)) = false := beq_eq_false_iff_ne.mpr c5
    have amt : (a1 != (-1)) = true := bne_iff_ne.mpr c5
    (first | rw [acT] | (simp only [jR, kH]; rw [acT]) | skip)
    have H' := am H
    clear H
    go_wp2
    repeat (go_quiet (fail); try go_wp2)
    go_meet
    case rel => exact ⟨_, (false), sm, H', ⟨by first | omega | exact Nat.le_refl _⟩, by repeat (first | exact dh.refl _ | apply dh.step)⟩
  case rest =>
   clear HC4
   try clear c3
   try clear aa8
   try clear ajA
   obtain ⟨kq, amv, rfl, HA, HJ3, ⟨mc3, rfl⟩⟩ := hcut
   cases kq with
   | zero => exact absurd HA.out (by simp [eF.j0])
   | succ kj3 =>
    have H := HA.out
    clear HA
    simp only [eF.j0] at H
    by_cases c6 : amv = true
    ·subst c6
     have H1 : (some (0, 0, 10)) = some (r1, r2, r3) := by rw [if_pos rfl] at H; exact H
     clear H
     have H := H1
     clear H1
     simp only [Option.some.injEq, Prod.mk.injEq] at H
     obtain ⟨rfl, rfl, rfl⟩ := H
     go_wp2
     repeat (go_quiet (fail); try go_wp2)
     go_ret3
     exact ⟨by first | rfl | (simp; done) | (simp [*]; done), by repeat (first | exact dh.refl _ | apply dh.step)⟩
    ·replace c6 := Bool.eq_false_iff.mpr c6
     subst c6
     have H1 : (if a1 = 0 then (none) else (if (Int.tmod a0 a1) = 0 then (some (wrap64 (Int.tdiv a0 a1), Int.tmod a0 a1, 0)) else (if ((decide ((Int.tmod a0 a1) < 0)) != (decide (a1 < 0))) = true then (some (wrap64 ((wrap64 (Int.tdiv a0 a1)) - 1), wrap64 ((Int.tmod a0 a1) + a1), 0)) else (some (wrap64 (Int.tdiv a0 a1), Int.tmod a0 a1, 0))))) = some (r1, r2, r3) := by rw [if_neg (show ¬ (false = true) by decide)] at H; exact H
     clear H
     have H := H1
     clear H1
     by_cases c7 : a1 = 0
     ·rw [if_pos c7] at H
      exact absurd H (by simp)
     ·rw [if_neg c7] at H
      have afE : (a1 == 0) = false := beq_eq_false_iff_ne.mpr c7
      have awe : (a1 != 0) = true := bne_iff_ne.mpr c7
      by_cases c8 : (Int.tmod a0 a1) = 0
      ·rw [if_pos c8] at H
       have aft : ((Int.tmod a0 a1) == 0) = true := beq_iff_eq.mpr c8
       have aoF : ((Int.tmod a0 a1) != 0) = false := bne_eq_false_iff_eq.mpr c8
       clear c8
       simp only [Option.some.injEq, Prod.mk.injEq] at H
       obtain ⟨rfl, rfl, rfl⟩ := H
       go_wp2
       repeat (go_quiet (fail); try go_wp2)
       go_ret3
       exact ⟨by first | rfl | (simp; done) | (simp [*]; done), by repeat (first | exact dh.refl _ | apply dh.step)⟩
      ·rw [if_neg c8] at H
       have aft : ((Int.tmod a0 a1) == 0) = false := beq_eq_false_iff_ne.mpr c8
       have aoF : ((Int.tmod a0 a1) != 0) = true := bne_iff_ne.mpr c8
       by_cases c9 : ((decide ((Int.tmod a0 a1) < 0)) != (decide (a1 < 0))) = true
       ·rw [if_pos c9] at H
        have afG : ((decide ((Int.tmod a0 a1) < 0)) != (decide (a1 < 0))) = true := c9
        (try (have au1 : decide ((decide ((Int.tmod a0 a1) < 0)) = (decide (a1 < 0))) = false := by simpa using c9))
        (try (have aBR : ((decide ((Int.tmod a0 a1) < 0)) == (decide (a1 < 0))) = false := by simpa using c9))
        (try (have aDL : ¬ ((decide ((Int.tmod a0 a1) < 0)) = (decide (a1 < 0))) := by simpa using c9))
        clear c9
        simp only [Option.some.injEq, Prod.mk.injEq] at H
        obtain ⟨rfl, rfl, rfl⟩ := H
        go_wp2
        repeat (go_quiet (fail); try go_wp2)
        go_ret3
        exact ⟨by first | rfl | (simp; done) | (simp [*]; done), by repeat (first | exact dh.refl _ | apply dh.step)⟩
       ·rw [if_neg c9] at H
        have afG : ((decide ((Int.tmod a0 a1) < 0)) != (decide (a1 < 0))) = false := by simpa using c9
        (try (have au1 : decide ((decide ((Int.tmod a0 a1) < 0)) = (decide (a1 < 0))) = true := by simpa using c9))
        (try (have aBR : ((decide ((Int.tmod a0 a1) < 0)) == (decide (a1 < 0))) = true := by simpa using c9))
        clear c9
        simp only [Option.some.injEq, Prod.mk.injEq] at H
        obtain ⟨rfl, rfl, rfl⟩ := H
        go_wp2
        repeat (go_quiet (fail); try go_wp2)
        go_ret3
        exact ⟨by first | rfl | (simp; done) | (simp [*]; done), by repeat (first | exact dh.refl _ | apply dh.step)⟩
def jX.f (k : Nat) (aQ : Int) (aR : Int) (a1 : Int) (a2 : Int) : Option (Int) := (eF.f k (wrap64 (aR - a1)) a2).bind fun afH => (some (wrap64 (-afH.1)))
theorem jX.mono : ∀ a0 a1 a2 a3 k, LeO (jX.f k a0 a1 a2 a3) (jX.f (k + 1) a0 a1 a2 a3) := by
 intro a0 a1 a2 a3 k
 unfold jX.f
 repeat' first
  | (with_reducible exact eF.mono _ _ _)
  | (with_reducible exact LeO.refl _)
  | (with_reducible exact LeO.none _)
  | (with_reducible refine LeO.ite ?_ ?_)
  | (with_reducible refine LeO.bind ?_ (fun _ => ?_))
  | exact eF.mono _ _ _
  | exact LeO.none _
  | refine LeO.ite ?_ ?_
  | refine LeO.bind ?_ (fun _ => ?_)
set_option maxHeartbeats 8000000 in
set_option maxRecDepth 100000 in
theorem jX.calls (k : Nat) (aQ : Int) (aR : Int) (a1 : Int) (a2 : Int) (r : Int) (w : World) (h : jX.f k aQ aR a1 a2 = some r) :
 Calls Try.prog 88 #[.agg #[.int .i64 aQ, .int .i64 aR], .int .i64 a1, .int .i64 a2] w fun e w' => e = .returned (.int .i64 r) ∧ Below w.heap.size w w' := by
 have afs := Try.underlying23
 have HB := am (Below.refl w.heap.size w)
 have H : ((eF.f k (wrap64 (aR - a1)) a2).bind fun afH => (some (wrap64 (-afH.1)))) = some r := h
 clear h
 replace H := Option.bind_eq_some_iff.mp H
 obtain ⟨⟨awf, awg, awh⟩, A40, H⟩ := H
 try dsimp only at H
 have A4 := am A40
 clear A40
 obtain rfl := Option.some.inj H
 go_enter Try.func88, Try.ntmps88
 go_wp2_with (first | ((with_reducible refine bq (N := 3) rfl ?_); refine bx 3 23 #[.int .i64 aQ, .int .i64 aR] ?_; intro adz hg w5 dL hb; have adA := am (dL); have awi := am ((bz hg HB.out : w.heap.size ≤ adz)); have aoO := am ((bz hg HB.out : w.heap.size ≤ adz)); replace HB := am (au (bl HB.out) hb); clear hb dL hg; have aby : w5.cell? ⟨adz, 0, none⟩ = some (.int .i64 aQ) := bc adA.out 0; have abz : w5.cell? ⟨adz, 1, none⟩ = some (.int .i64 aR) := bc adA.out 1; have abA := aj adA.out 0; have abB := aj adA.out 1) | ((with_reducible refine aC (f := 85) rfl ?_); refine bR (some 16) rfl rfl Try.func85 (by kernel_rfl) rfl #[.int .i64 (wrap64 (aR - a1)), .int .i64 a2] rfl ar ?_; (with_reducible refine (eF.calls k (wrap64 (aR - a1)) a2 awf awg awh _ A4.out).mono ?_); rintro e w' ⟨rfl, ⟨nd, rfl⟩⟩; refine ⟨_, rfl, ?_⟩))
 go_ret
 exact ⟨rt, bl1 HB.out aoO.out⟩
end Go.Proofs.Ytmbmalkpmanaaaa.P

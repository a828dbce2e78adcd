/- Lemmas for the law FindRises: what the functions that it reaches compute. No condition of its own. -/
import Derived.Test.YtmbmalkpmanaaaaYFindRises2
import Derived.Test.YtmbmalkpmanaaaaYFindRises1
import Derived.Maps.OwnOps
import Derived.Maps.Views
namespace Go.Proofs.Ytmbmalkpmanaaaa.P
open Go.RowKit Go.Proofs.YtmbmalkpmanaaaaW.PrintWords Go.Proofs.YtmbmalkpmanaaaaW.PrintLast Go.Proofs.YtmbmalkpmanaaaaW.PrintMore
set_option linter.unusedVariables false

def bsL : Nat → Nat → List Bool
  | 0, _ => []
  | n + 1, m => (m % 2 == 1) :: bsL n (m / 2)
def bs (n m : Nat) : Array Bool := ⟨bsL n m⟩
theorem kp {A B : Prop} (h : A) (s : A → B := by intro h; (with_reducible repeat (first | refine blk_drewN ?_ _ | refine blk_drew ?_ | refine blk_alloc ?_ _)); exact h) : B := s h
theorem bl {A B : Prop} (h : A) (s : A → B := by intro h; repeat (first | (with_reducible first | exact h | apply below_alloc | apply pw_below_drewN | apply below_drew1) | exact h)) : B := s h
theorem bl1 {A B G : Prop} (h : A) (g : G) (s : A → G → B := by intro h g; repeat (first | (with_reducible first | exact h | apply below_alloc | apply pw_below_drewN | apply below_drew1 | refine below_set ?_ g) | exact h)) : B := s h g
theorem bl2 {A B G G2 : Prop} (h : A) (g : G) (g2 : G2) (s : A → G → G2 → B := by intro h g g2; repeat (first | (with_reducible first | exact h | apply below_alloc | apply pw_below_drewN | apply below_drew1 | refine below_set ?_ g | refine below_set ?_ g2) | exact h)) : B := s h g g2
theorem bl3 {A B G G2 G3 : Prop} (h : A) (g : G) (g2 : G2) (g3 : G3) (s : A → G → G2 → G3 → B := by intro h g g2 g3; repeat (first | (with_reducible first | exact h | apply below_alloc | apply pw_below_drewN | apply below_drew1 | refine below_set ?_ g | refine below_set ?_ g2 | refine below_set ?_ g3) | exact h)) : B := s h g g2 g3
theorem kr {A B : Prop} (h : A) (s : A → B := by intro h; (with_reducible repeat (first | apply Kd.R_alloc | apply Kd.R_drewN | apply Kd.R_drew)); exact h) : B := s h
theorem kn {A B : Prop} (h : A) (s : A → B := by intro h; (with_reducible repeat (first | apply Kd.N_alloc | apply Kd.N_drewN | apply Kd.N_drew)); exact h) : B := s h
theorem kv {A B : Prop} (h : A) (s : A → B := by intro h; (with_reducible repeat (first | apply Kd.V_alloc | apply Kd.V_drewN | apply Kd.V_drew)); exact h) : B := s h
theorem kc {A B : Prop} (h : A) (s : A → B := by intro h; repeat (first | exact h | (with_reducible refine Kd.C_alloc ?_ _) | (with_reducible refine Kd.C_drewN ?_ _) | (with_reducible refine Kd.C_drew ?_))) : B := s h
theorem am {p : Prop} (h : p) : Aside0 p := ⟨h⟩
theorem bc {w : World} {g : Nat} {t : TypeId} {cs : Array Value} {v : Value} (h : w.heap[g]? = some (.cells cs t (0, 0))) (i : Nat) (e : cs[i]? = some v := by rfl) : w.cell? ⟨g, i, none⟩ = some v := (blk_cell h i).trans e
theorem rt {p : Prop} (h : p := by first | rfl | (simp [errW_none, errW_some] <;> rfl) | (simp [*, errW_none, errW_some] <;> rfl)) : p := h
theorem sm {p : Prop} (h : p := by first | rfl | (simp; done) | (simp [*]; done)) : p := h
theorem ar {p : Prop} (h : p := by (try simp only [List.map_toArray, List.map_cons, List.map_nil]); first | done | rfl | (simp only [List.length_drop, List.length_take]; rfl)) : p := h
theorem asm {p : Prop} (h : p := by first | (with_reducible assumption) | assumption) : p := h
theorem kf {A B N : Prop} (h : A) (n : N) (s : A → N → B := by intro h n; (repeat (first | (with_reducible first | refine blk_drewN ?_ _ | refine blk_drew ?_ | refine blk_alloc ?_ _) | refine blk_far ?_ n _)); exact h) : B := s h n
theorem nl {g g2 : Nat} {w : World} (hg : g2 = w.heap.size) {A : Prop} (h : A) (s : A → g < w.heap.size := by intro h; exact blk_lt (kp h)) : g ≠ g2 := by rw [hg]; exact Nat.ne_of_lt (s h)
theorem ng {g g2 : Nat} {w : World} (hg : g2 = w.heap.size) {A : Prop} (h : A) (s : A → g < w.heap.size := by intro h; exact blk_lt (kp h)) : g2 ≠ g := by rw [hg]; exact Nat.ne_of_gt (s h)
theorem bz {g : Nat} {w w1 : World} (hg : g = w1.heap.size) {A : Prop} (h : A) (s : A → Below w.heap.size w w1 := by intro h; exact bl h) : w.heap.size ≤ g := by rw [hg]; exact below_size (s h)
theorem bz1 {g : Nat} {w w1 : World} (hg : g = w1.heap.size) {A G : Prop} (h : A) (q : G) (s : A → G → Below w.heap.size w w1 := by intro h q; exact bl1 h q) : w.heap.size ≤ g := by rw [hg]; exact below_size (s h q)
theorem bz2 {g : Nat} {w w1 : World} (hg : g = w1.heap.size) {A G G2 : Prop} (h : A) (q : G) (q2 : G2) (s : A → G → G2 → Below w.heap.size w w1 := by intro h q q2; exact bl2 h q q2) : w.heap.size ≤ g := by rw [hg]; exact below_size (s h q q2)
theorem bz3 {g : Nat} {w w1 : World} (hg : g = w1.heap.size) {A G G2 G3 : Prop} (h : A) (q : G) (q2 : G2) (q3 : G3) (s : A → G → G2 → G3 → Below w.heap.size w w1 := by intro h q q2 q3; exact bl3 h q q2 q3) : w.heap.size ≤ g := by rw [hg]; exact below_size (s h q q2 q3)
section
variable {P : Program} {ops : Array Oper} {rest : List Oper} {o : Oper} {a : Act} {Q : Exit → Act → World → Prop}
theorem bx {W : World} (N : Tmp) (t : TypeId) (cs : Array Value)
    (h : ∀ g, g = W.heap.size → ∀ w1, w1.heap[g]? = some (.cells cs t (0, 0)) → Below W.heap.size W w1 → wpList P ops Q rest (a.put o.dst (.pointer (some ⟨g, 0, none⟩))) w1)
    (hd : o.dst = some N := by rfl) (hg : o.guard = none := by rfl)
    (hr : (execOp a.eval o).run P W = .ok (.value (.pointer (some ⟨W.heap.size, 0, none⟩))) (W.alloc (.cells cs t (0, 0))) := by first | (go_simp; done) | (go_simp; rfl)) : wpList P ops Q (o :: rest) a W := box_event hg hd hr h
end
section
variable {P : Program} {ops : Array Oper} {Q : Exit → Act → World → Prop} {md : Region.Mode} {S : World → Prop} {ds : List Nat} {T : Bool × List (List Nat × List Nat)} {BB : List Nat}
theorem px (i n : Nat) (l' : Array Bool) {oi : Oper} {v : Value} {fuel : Nat} {l : Array Bool} {a : Act} {w : World} (hT : rtab md ops = T) {a' : Act} (h : wpAnyLast P md ops Q S ds fuel l' a' w)
    (hi : ops[i]? = some oi := by rfl) (hN : oi.dst = some n := by rfl) (hc : anyT T l.toList l'.toList i = true := by kernel_rfl) (hQ : ∀ c a w, Q (.panic c) (a.put oi.dst v) w → Q (.panic c) a w := by exact fun _ _ _ h => h)
    (hy : Yields P ops oi v a := by (refine Or.inl ⟨by rfl, ?_⟩); intro w'; go_simp; with_reducible rfl) (ha : a.put (some n) v = a' := by simp only [Act.put, List.setIfInBounds_toArray, List.set_cons_zero, List.set_cons_succ, i64_w, i32_w]; rfl) : wpAnyLast P md ops Q S ds (fuel + 1) l a w :=
  pure_ l' hi hN (any_of hT hc) hQ hy ha h
theorem pu (i n : Nat) (l' : Array Bool) {oi : Oper} {fuel : Nat} {l : Array Bool} {a : Act} {w : World} (hT : rtab md ops = T) {a' : Act} (h : wpAnyLast P md ops Q S ds fuel l' a' w)
    (hi : ops[i]? = some oi := by rfl) (hN : oi.dst = some n := by rfl) (hc : anyT T l.toList l'.toList i = true := by kernel_rfl) (hQ : ∀ c a w, Q (.panic c) (a.put oi.dst undef) w → Q (.panic c) a w := by exact fun _ _ _ h => h)
    (hy : Yields P ops oi undef a := by exact Or.inr ⟨by rfl, rfl⟩) (ha : a.put (some n) undef = a' := by simp only [Act.put, List.setIfInBounds_toArray, List.set_cons_zero, List.set_cons_succ, i64_w, i32_w]; rfl) : wpAnyLast P md ops Q S ds (fuel + 1) l a w :=
  pure_ l' hi hN (any_of hT hc) hQ hy ha h
theorem tx (i n : Nat) (l' : Array Bool) {oi : Oper} {v : Value} {fuel : Nat} {l : Array Bool} {a : Act} {w : World} (hT : rtab md ops = T) (hW : waitsOk T.2 BB = true) (hS : S w) {a' : Act} (h : wpAnyLast P md ops Q S ds fuel l' a' w)
    (hi : ops[i]? = some oi := by rfl) (hN : oi.dst = some n := by rfl) (hc : takeW T BB ds l.toList l'.toList i = true := by kernel_rfl) (hQ : ∀ c a w, Q (.panic c) (a.put oi.dst v) w → Q (.panic c) a w := by exact fun _ _ _ h => h)
    (hy : YieldsIf P ops S oi v a := by (refine Or.inl ⟨by rfl, ?_⟩); intro w' hs; (repeat (obtain ⟨s, hs⟩ := hs)); go_simp; with_reducible rfl) (ha : a.put (some n) v = a' := by simp only [Act.put, List.setIfInBounds_toArray, List.set_cons_zero, List.set_cons_succ, i64_w, i32_w]; rfl) : wpAnyLast P md ops Q S ds (fuel + 1) l a w :=
  take_ l' hi hN (take_ofW hT hW hc) hQ hy hS ha h
theorem nx {fuel : Nat} {l : Array Bool} {a a' : Act} {w : World} (h : wpAnyLast P md ops Q S ds fuel l a' w) (ha : a = a' := by (show Act.put _ _ _ = _); simp only [Act.put, List.setIfInBounds_toArray, List.set_cons_zero, List.set_cons_succ, i64_w, i32_w]; rfl) : wpAnyLast P md ops Q S ds fuel l a w := norm_ ha h
end
end Go.Proofs.Ytmbmalkpmanaaaa.P

namespace Go.Proofs.Ytmbmalkpmanaaaa.P
open Go.RowKit Go.Proofs.YtmbmalkpmanaaaaW.PrintWords Go.Proofs.YtmbmalkpmanaaaaW.PrintLast Go.Proofs.YtmbmalkpmanaaaaW.PrintMore
attribute [local go_sem] max2_int min2_int max_two min_two max_three min_three max_four min_four   -- for this text's walks alone
set_option linter.unusedVariables false
set_option linter.unusedSimpArgs false

def epactlaw05_Weeks.f  : Option (Int × Int × (List (List (S23))) × (List (S70))) := some (7, 1, (([(([(⟨0, 4⟩ : S23)] : List (S23)))] : List (List (S23)))), ([] : List (S70)))
set_option maxHeartbeats 8000000 in
set_option maxRecDepth 100000 in
theorem epactlaw05_Weeks.calls  (r1 : Int) (r2 : Int) (r3 : List (List (S23))) (r4 : List (S70)) (w : World) (h : epactlaw05_Weeks.f  = some (r1, r2, r3, r4)) :
 Calls Try.prog 52 #[] w fun e w' => ∃ v2_ v3_ : Value, e = .returned (.agg #[.int .i64 r1, .int .i64 r2, v2_, v3_]) ∧ Kd.N (Kd.slice 23 k23) 24 w' w.heap.size (fun k_ => (w.heap.size ≤ k_) ∧ some k_ ≠ (v3_ : Value).ownBlock) v2_ r3 ∧ Kd.N k70 70 w' w.heap.size (fun k_ => (w.heap.size ≤ k_) ∧ some k_ ≠ (v2_ : Value).ownBlock) v3_ r4 ∧ Below w.heap.size w w' := by
 have hu28 := Try.underlying28
 have hu23 := Try.underlying23
 have HB := am (Below.refl w.heap.size w)
 have H : (some (7, 1, (([(([(⟨0, 4⟩ : S23)] : List (S23)))] : List (List (S23)))), ([] : List (S70)))) = some (r1, r2, r3, r4) := h
 clear h
 obtain ⟨y2102, hy2102⟩ : ∃ y_ : List (S23), y_ = (([(⟨0, 4⟩ : S23)] : List (S23))) := ⟨_, rfl⟩
 replace H : (some (7, 1, (([y2102] : List (List (S23)))), ([] : List (S70)))) = some (r1, r2, r3, r4) := by first | (rw [hy2102]; with_reducible exact H) | (have H2_ := (Option.bind_some _ _).symm.trans H; rw [hy2102]; with_reducible exact H2_) | (have H2_ := (Option.bind_some _ _).symm.trans H; with_reducible exact H2_) | with_reducible exact H | (rw [hy2102]; exact H) | exact H
 have Ny2102 := am hy2102
 clear hy2102
 obtain ⟨y2105, hy2105⟩ : ∃ y_ : List (List (S23)), y_ = (([y2102] : List (List (S23)))) := ⟨_, rfl⟩
 replace H : (some (7, 1, y2105, ([] : List (S70)))) = some (r1, r2, r3, r4) := by first | (rw [hy2105]; with_reducible exact H) | (have H2_ := (Option.bind_some _ _).symm.trans H; rw [hy2105]; with_reducible exact H2_) | (have H2_ := (Option.bind_some _ _).symm.trans H; with_reducible exact H2_) | with_reducible exact H | (rw [hy2105]; exact H) | exact H
 have Ny2105 := am hy2105
 clear hy2105
 simp only [Option.some.injEq, Prod.mk.injEq] at H
 obtain ⟨rfl, rfl, rfl, rfl⟩ := H
 go_enter Try.func52, Try.ntmps52
 go_wp2_with (first | ((with_reducible refine gate_dst (N := 0) rfl ?_); refine bx 0 28 #[.int .i64 0, .int .i64 0, .slice none 0 0, .slice none 0 0] ?_; intro gb2101 hg w1 hbox hb; have BK2101 := am (hbox); have GW2101 := am ((bz hg HB.out : w.heap.size ≤ gb2101)); have GE2101 := am ((bz hg HB.out : w.heap.size ≤ gb2101)); replace HB := am (below_step (bl HB.out) hb); clear hb hbox hg) | ((with_reducible refine gate_dst (N := 2) rfl ?_); refine Kd.R_lit k23 _ 23 ?hg (N := 2) ?hd (xs := ([(⟨0, 4⟩ : S23)] : List (S23))) (inner := [.int .i64 0, .int .i64 4]) (ok := fun _ => True) (okp := fun _ => True) ?hr ?hp (fun _ hk => hk) trivial (Below.refl _ _) (Nat.le_refl _) (by simp) ?_; (case hd => rfl); (case hg => rfl); (case hr => first | (go_simp; done) | (go_simp; rfl)); (case hp => exact (Reps.c2 (show Kd.M k23 _ _ _ (⟨0, 4⟩ : S23) [.int .i64 0, .int .i64 4] from (k23_mkM _ _ _ (⟨0, 4⟩ : S23) )) (Reps.none _ _))); intro v2103 w2 ho3 hb hg_ hnew_; clear hg_ hnew_; (first | rw [← Ny2102.out] at ho3 | (simp only [Int.reduceToNat] at ho3; rw [← Ny2102.out] at ho3)); have HO2104 := am (Kd.R_lower (Kd.R_newM (M := fun k_ => (w.heap.size ≤ k_)) ho3 (below_size (bl1 HB.out GE2101.out)) (fun k_ h_ => h_)) (below_size (bl1 HB.out GE2101.out))); replace BK2101 := am (blk_below (kp BK2101.out) hb); replace HB := am (below_step (bl1 HB.out GE2101.out) hb); clear hb ho3; obtain ⟨Ao4, co4, eo4⟩ := Kd.R_slice HO2104.out; subst eo4) | ((with_reducible refine gate_dst (N := 3) rfl ?_); refine Kd.N_lit (Kd.slice 23 k23) _ 24 ?hg (N' := 3) ?hd (xs := ([y2102] : List (List (S23)))) (inner := [.slice Ao4 y2102.length co4]) (ok := (fun k_ => (w.heap.size ≤ k_) ∧ k_ ≠ gb2101)) (okp := (fun k_ => (w.heap.size ≤ k_) ∧ k_ ≠ gb2101)) ?hr ?hp (fun _ hk => hk) ((show ∀ k_, w2.heap.size ≤ k_ → (fun k_ => (w.heap.size ≤ k_) ∧ k_ ≠ gb2101) k_ from fun k_ hk => ⟨(Nat.le_trans (below_size (bl1 HB.out GE2101.out)) hk), Kd.freshB (g := gb2101) (o := .cells #[.int .i64 0, .int .i64 0, .slice none 0 0, .slice none 0 0] 28 (0, 0)) (kp BK2101.out) k_ hk⟩) _ (Nat.le_refl _)) (Below.refl _ _) (Nat.le_refl _) (by simp) ?_; (case hd => rfl); (case hg => rfl); (case hr => first | (go_simp; done) | (go_simp; rfl)); (case hp => exact (Reps.one (show Kd.FK (Kd.slice 23 k23) _ _ y2102 [.slice Ao4 y2102.length co4] from (Kd.FK_slice_mk (Kd.R_reads' (Kd.R_mono (ok' := (fun k_ => (w.heap.size ≤ k_) ∧ k_ ≠ gb2101)) (Kd.R_types (HO2104.out) BK2101.out (by decide)) (fun k_ hk => ⟨hk.1.1, hk.2⟩))).2.1 (Kd.R_F (Kd.R_mono (ok' := (fun k_ => (w.heap.size ≤ k_) ∧ k_ ≠ gb2101)) (Kd.R_types (HO2104.out) BK2101.out (by decide)) (fun k_ hk => ⟨hk.1.1, hk.2⟩))))) (Reps.none _ _))); intro v2106 w5 ho6 hb hg_ hnew_; have kHO2104_ := am (Kd.R_mono (ok' := fun _ => True) (Kd.R_below (kr HO2104.out) hb) (fun _ _ => trivial)); clear hg_ hnew_; (first | rw [← Ny2105.out] at ho6 | (simp only [Int.reduceToNat] at ho6; rw [← Ny2105.out] at ho6)); have n0_ := am (Kd.N_lower ho6 (below_size (bl1 HB.out GE2101.out))); have n1_ := am (blk_below (kp BK2101.out) hb); have n2_ := am (below_step (bl1 HB.out GE2101.out) hb); clear BK2101; clear HB; clear HO2104; have HO2104 := kHO2104_; clear kHO2104_; have HO2107 := n0_; have BK2101 := n1_; have HB := n2_; clear n0_ n1_ n2_; clear hb ho6; obtain ⟨Ao7, co7, eo7⟩ := Kd.N_slice HO2107.out; subst eo7; have hcz8_0 : w5.cell? ⟨gb2101, 0, none⟩ = some (.int .i64 0) := bc BK2101.out 0; have hcz8_1 : w5.cell? ⟨gb2101, 1, none⟩ = some (.int .i64 0) := bc BK2101.out 1; have hcz8_2 : w5.cell? ⟨gb2101, 2, none⟩ = some (.slice none 0 0) := bc BK2101.out 2; have hcz8_3 : w5.cell? ⟨gb2101, 3, none⟩ = some (.slice none 0 0) := bc BK2101.out 3; have hfz8_0 := blk_frozen BK2101.out 0; have hfz8_1 := blk_frozen BK2101.out 1; have hfz8_2 := blk_frozen BK2101.out 2; have hfz8_3 := blk_frozen BK2101.out 3))
 refine bodyPost_ret (results_cell_row rfl _ _ gb2101 28 #[.int .i64 7, .int .i64 1, .slice Ao7 y2105.length co7, .slice none 0 0] (0, 0) _ rfl (by (with_reducible repeat (first | refine blk_drewN ?_ _ | refine blk_drew ?_ | refine blk_alloc ?_ _)); refine blk_put (cs := #[.int .i64 7, .int .i64 1, .slice Ao7 y2105.length co7, .slice none 0 0]) ?_ 3 _ rfl; (with_reducible repeat (first | refine blk_drewN ?_ _ | refine blk_drew ?_ | refine blk_alloc ?_ _)); refine blk_put (cs := #[.int .i64 7, .int .i64 1, .slice none 0 0, .slice none 0 0]) ?_ 2 _ rfl; (with_reducible repeat (first | refine blk_drewN ?_ _ | refine blk_drew ?_ | refine blk_alloc ?_ _)); refine blk_put (cs := #[.int .i64 7, .int .i64 0, .slice none 0 0, .slice none 0 0]) ?_ 1 _ rfl; (with_reducible repeat (first | refine blk_drewN ?_ _ | refine blk_drew ?_ | refine blk_alloc ?_ _)); refine blk_put (cs := #[.int .i64 0, .int .i64 0, .slice none 0 0, .slice none 0 0]) ?_ 0 _ rfl; (with_reducible repeat (first | refine blk_drewN ?_ _ | refine blk_drew ?_ | refine blk_alloc ?_ _)); exact BK2101.out) Try.underlying28 rfl (by kernel_rfl)) rfl ?_
 exact ⟨_, _, rt, by (with_reducible repeat (first | apply Kd.N_alloc | apply Kd.N_drewN | apply Kd.N_drew)); exact Kd.N_mono (Kd.N_far (p := ⟨gb2101, 3, none⟩) (Kd.N_far (p := ⟨gb2101, 2, none⟩) (Kd.N_far (p := ⟨gb2101, 1, none⟩) (Kd.N_far (p := ⟨gb2101, 0, none⟩) (Kd.N_mono HO2107.out (fun k_ hk => (⟨hk, hk.2⟩ : _ ∧ k_ ≠ gb2101))) (fun _ hk => hk.2) (.int .i64 7)) (fun _ hk => hk.2) (.int .i64 1)) (fun _ hk => hk.2) (.slice Ao7 y2105.length co7)) (fun _ hk => hk.2) (.slice none 0 0)) (fun _ hk => ⟨hk.1.1, (by simp [Value.ownBlock])⟩), by first | exact Kd.S_nil _ _ _ _ _ | exact Kd.N_nil _ _ _ _ _ | exact Kd.V_nil _ _ _ _ _ | exact Kd.Q_nil _ _ _ _ _ | exact Kd.R_nil _ _ _ _ _, bl1 HB.out GE2101.out⟩

end Go.Proofs.Ytmbmalkpmanaaaa.P

namespace Go.Proofs.Ytmbmalkpmanaaaa.P
open Go.RowKit Go.Proofs.YtmbmalkpmanaaaaW.PrintWords Go.Proofs.YtmbmalkpmanaaaaW.PrintLast Go.Proofs.YtmbmalkpmanaaaaW.PrintMore
attribute [local go_sem] max2_int min2_int max_two min_two max_three min_three max_four min_four   -- for this text's walks alone
set_option linter.unusedVariables false
set_option linter.unusedSimpArgs false

def epactlaw07_ints.l0 : Nat → List Int → List Int → Int → Int → Option (Bool)
 | 0, _, _, _, _ => none
 | k + 1, x0, x1, x12, x13 => if x13 < x12 then (if 0 ≤ x13 then (if x13 < (x0.length : Int) then (if x13 < (x1.length : Int) then (if (rd x0 x13) = (rd x1 x13) then (epactlaw07_ints.l0 k x0 x1 x12 (wrap64 (x13 + 1))) else (some false)) else (none)) else (none)) else (none)) else (some true)
def epactlaw07_ints.f (k : Nat) (l0 : List Int) (l1 : List Int) : Option (Bool) := if (l0.length : Int) = (l1.length : Int) then (epactlaw07_ints.l0 k l0 l1 (l0.length : Int) 0) else (some false)
theorem epactlaw07_ints.mono_l : ∀ k, (∀ y0 y1 y2 y3, LeO (epactlaw07_ints.l0 k y0 y1 y2 y3) (epactlaw07_ints.l0 (k + 1) y0 y1 y2 y3))
 | 0 => fun _ _ _ _ r h => by simp [epactlaw07_ints.l0] at h
 | k + 1 => by
  have ih0 := epactlaw07_ints.mono_l k
  ·intro y0 y1 y2 y3
   unfold epactlaw07_ints.l0
   repeat' first
   | (with_reducible exact ih0 _ _ _ _)
   | (with_reducible exact LeO.refl _)
   | (with_reducible exact LeO.none _)
   | (with_reducible refine LeO.ite ?_ ?_)
   | (with_reducible refine LeO.bind ?_ (fun _ => ?_))
   | exact ih0 _ _ _ _
   | exact LeO.none _
   | refine LeO.ite ?_ ?_
   | refine LeO.bind ?_ (fun _ => ?_)
theorem epactlaw07_ints.mono : ∀ a0 a1 k, LeO (epactlaw07_ints.f k a0 a1) (epactlaw07_ints.f (k + 1) a0 a1) := by
 intro a0 a1 k
 have ih0 := epactlaw07_ints.mono_l k
 unfold epactlaw07_ints.f
 repeat' first
  | (with_reducible exact ih0 _ _ _ _)
  | (with_reducible exact LeO.refl _)
  | (with_reducible exact LeO.none _)
  | (with_reducible refine LeO.ite ?_ ?_)
  | (with_reducible refine LeO.bind ?_ (fun _ => ?_))
  | exact ih0 _ _ _ _
  | exact LeO.none _
  | refine LeO.ite ?_ ?_
  | refine LeO.bind ?_ (fun _ => ?_)
set_option maxHeartbeats 8000000 in
set_option maxRecDepth 100000 in
theorem epactlaw07_ints.calls (k : Nat) (A0 : Option Addr) (c0 : Nat) (l0 : List Int) (A1 : Option Addr) (c1 : Nat) (l1 : List Int) (r : Bool) (w : World) (hr0 : Kd.C (Kd.int .i64) w A0 l0.length l0) (hc0 : l0.length ≤ c0) (hr1 : Kd.C (Kd.int .i64) w A1 l1.length l1) (hc1 : l1.length ≤ c1) (h : epactlaw07_ints.f k l0 l1 = some r) :
 Calls Try.prog 15 #[.slice A0 l0.length c0, .slice A1 l1.length c1] w fun e w' => e = .returned (.bool r) ∧ Drawn0 w w' := by
 have HR0 := am hr0
 have HC0 := am hc0
 clear hr0 hc0
 have HR1 := am hr1
 have HC1 := am hc1
 clear hr1 hc1
 have H : (if (l0.length : Int) = (l1.length : Int) then (epactlaw07_ints.l0 k l0 l1 (l0.length : Int) 0) else (some false)) = some r := h
 clear h
 by_cases c3 : (l0.length : Int) = (l1.length : Int)
 ·rw [if_pos c3] at H
  have c3b0 : ((l0.length : Int) == (l1.length : Int)) = true := beq_iff_eq.mpr c3
  have c3b1 : ((l0.length : Int) != (l1.length : Int)) = false := bne_eq_false_iff_eq.mpr c3
  have c3b2 : (l0.length == l1.length) = true := by first | simpa using c3 | (simp at c3 ⊢; omega)
  clear c3
  have H' := am H
  clear H
  go_enter Try.func15, Try.ntmps15
  go_wp2
  repeat (go_quiet (fail); try go_wp2)
  go_loopg [13] k (fun kq v13 w' => ∃ (x13_1 : Int), v13 = .int .i64 x13_1 ∧ Aside0 (epactlaw07_ints.l0 kq l0 l1 (l0.length : Int) x13_1 = some r) ∧ Aside0 (kq ≤ k) ∧ Drawn0 w w')
  case atStart => exact ⟨(0), sm, H', ⟨Nat.le_refl _⟩, by repeat (first | exact Drawn0.refl _ | apply Drawn0.step)⟩
  case round =>
   clear H'
   try clear c1
   try clear p2
   try clear c3
   try clear c3b0
   try clear c3b1
   try clear c3b2
   obtain ⟨x13_1, rfl, HA, HK1, ⟨m1, rfl⟩⟩ := hrel
   cases gk with
   | zero => exact absurd HA.out (by simp [epactlaw07_ints.l0])
   | succ k1 =>
    have H := HA.out
    clear HA
    simp only [epactlaw07_ints.l0] at H
    by_cases c4 : x13_1 < (l0.length : Int)
    ·rw [if_pos c4] at H
     have c4b0 : decide (x13_1 < (l0.length : Int)) = true := decide_eq_true c4
     clear c4
     by_cases c5 : 0 ≤ x13_1
     ·rw [if_pos c5] at H
      have c5b0 : decide (0 ≤ x13_1) = true := decide_eq_true c5
      clear c5
      by_cases c6 : x13_1 < (l0.length : Int)
      ·rw [if_pos c6] at H
       have c6b0 : decide (x13_1 < (l0.length : Int)) = true := decide_eq_true c6
       clear c6
       by_cases c7 : x13_1 < (l1.length : Int)
       ·rw [if_pos c7] at H
        have c7b0 : decide (x13_1 < (l1.length : Int)) = true := decide_eq_true c7
        clear c7
        by_cases c8 : (rd l0 x13_1) = (rd l1 x13_1)
        ·rw [if_pos c8] at H
         have c8b0 : ((rd l0 x13_1) == (rd l1 x13_1)) = true := beq_iff_eq.mpr c8
         have c8b1 : ((rd l0 x13_1) != (rd l1 x13_1)) = false := bne_eq_false_iff_eq.mpr c8
         clear c8
         have H' := am H
         clear H
         have p101 : 0 ≤ (x13_1 : Int) := of_decide_eq_true asm
         have q101 : x13_1 < (l0.length : Int) := of_decide_eq_true asm
         obtain ⟨ad101, e101, hx101_0⟩ := Kd.at_int HR0.out x13_1 p101 q101
         cases e101
         replace p101 := eq_true p101
         replace q101 := eq_true q101
         have p102 : 0 ≤ (x13_1 : Int) := of_decide_eq_true asm
         have q102 : x13_1 < (l1.length : Int) := of_decide_eq_true asm
         obtain ⟨ad102, e102, hx102_0⟩ := Kd.at_int HR1.out x13_1 p102 q102
         cases e102
         replace p102 := eq_true p102
         replace q102 := eq_true q102
         go_wp2
         repeat (go_quiet (fail); try go_wp2)
         go_roundg k1
         case measure => have := HK1.out; omega
         case rel => exact ⟨(wrap64 (x13_1 + 1)), sm, H', ⟨by have := HK1.out; omega⟩, by repeat (first | exact Drawn0.refl _ | apply Drawn0.step)⟩
        ·rw [if_neg c8] at H
         have c8b0 : ((rd l0 x13_1) == (rd l1 x13_1)) = false := beq_eq_false_iff_ne.mpr c8
         have c8b1 : ((rd l0 x13_1) != (rd l1 x13_1)) = true := bne_iff_ne.mpr c8
         obtain rfl := Option.some.inj H
         have p101 : 0 ≤ (x13_1 : Int) := of_decide_eq_true asm
         have q101 : x13_1 < (l0.length : Int) := of_decide_eq_true asm
         obtain ⟨ad101, e101, hx101_0⟩ := Kd.at_int HR0.out x13_1 p101 q101
         cases e101
         replace p101 := eq_true p101
         replace q101 := eq_true q101
         have p102 : 0 ≤ (x13_1 : Int) := of_decide_eq_true asm
         have q102 : x13_1 < (l1.length : Int) := of_decide_eq_true asm
         obtain ⟨ad102, e102, hx102_0⟩ := Kd.at_int HR1.out x13_1 p102 q102
         cases e102
         replace p102 := eq_true p102
         replace q102 := eq_true q102
         go_wp2
         repeat (go_quiet (fail); try go_wp2)
         go_ret
         exact ⟨by first | rfl | (simp; done) | (simp [*]; done), by repeat (first | exact Drawn0.refl _ | apply Drawn0.step)⟩
       ·rw [if_neg c7] at H
        exact absurd H (by simp)
      ·rw [if_neg c6] at H
       exact absurd H (by simp)
     ·rw [if_neg c5] at H
      exact absurd H (by simp)
    ·rw [if_neg c4] at H
     have c4b0 : decide (x13_1 < (l0.length : Int)) = false := decide_eq_false c4
     clear c4
     obtain rfl := Option.some.inj H
     go_wp2
     repeat (go_quiet (fail); try go_wp2)
     go_ret
     exact ⟨by first | rfl | (simp; done) | (simp [*]; done), by repeat (first | exact Drawn0.refl _ | apply Drawn0.step)⟩
 ·rw [if_neg c3] at H
  have c3b0 : ((l0.length : Int) == (l1.length : Int)) = false := beq_eq_false_iff_ne.mpr c3
  have c3b1 : ((l0.length : Int) != (l1.length : Int)) = true := bne_iff_ne.mpr c3
  have c3b2 : (l0.length == l1.length) = false := by first | simpa using c3 | (simp at c3 ⊢; omega)
  obtain rfl := Option.some.inj H
  go_enter Try.func15, Try.ntmps15
  go_wp2
  repeat (go_quiet (fail); try go_wp2)
  go_ret
  exact ⟨by first | rfl | (simp; done) | (simp [*]; done), by repeat (first | exact Drawn0.refl _ | apply Drawn0.step)⟩

end Go.Proofs.Ytmbmalkpmanaaaa.P

namespace Go.Proofs.Ytmbmalkpmanaaaa.P
open Go.RowKit Go.Proofs.YtmbmalkpmanaaaaW.PrintWords Go.Proofs.YtmbmalkpmanaaaaW.PrintLast Go.Proofs.YtmbmalkpmanaaaaW.PrintMore
attribute [local go_sem] max2_int min2_int max_two min_two max_three min_three max_four min_four   -- for this text's walks alone
set_option linter.unusedVariables false
set_option linter.unusedSimpArgs false

def find_up_2.f (a0_0 : Int) (a0_1 : Int) (a1 : Int) : Option (Bool) := some (decide (a0_1 ≥ a1))
set_option maxHeartbeats 8000000 in
set_option maxRecDepth 100000 in
theorem find_up_2.calls (a0_0 : Int) (a0_1 : Int) (a1 : Int) (r : Bool) (w : World) (h : find_up_2.f a0_0 a0_1 a1 = some r) :
 Calls Try.prog 89 #[.agg #[.int .i64 a0_0, .int .i64 a0_1], .int .i64 a1] w fun e w' => e = .returned (.bool r) ∧ Below w.heap.size w w' := by
 have hu23 := Try.underlying23
 have HB := am (Below.refl w.heap.size w)
 have H : (some (decide (a0_1 ≥ a1))) = some r := h
 clear h
 obtain rfl := Option.some.inj H
 go_enter Try.func89, Try.ntmps89
 go_wp2_with (first | ((with_reducible refine gate_dst (N := 2) rfl ?_); refine bx 2 23 #[.int .i64 a0_0, .int .i64 a0_1] ?_; intro gb190 hg w3 hbox hb; have BK190 := am (hbox); have GW190 := am ((bz hg HB.out : w.heap.size ≤ gb190)); have GE190 := am ((bz hg HB.out : w.heap.size ≤ gb190)); replace HB := am (below_step (bl HB.out) hb); clear hb hbox hg; have hcz4_0 : w3.cell? ⟨gb190, 0, none⟩ = some (.int .i64 a0_0) := bc BK190.out 0; have hcz4_1 : w3.cell? ⟨gb190, 1, none⟩ = some (.int .i64 a0_1) := bc BK190.out 1; have hfz4_0 := blk_frozen BK190.out 0; have hfz4_1 := blk_frozen BK190.out 1))
 go_ret
 exact ⟨rt, bl1 HB.out GE190.out⟩

end Go.Proofs.Ytmbmalkpmanaaaa.P

namespace Go.Proofs.Ytmbmalkpmanaaaa.P
open Go.RowKit Go.Proofs.YtmbmalkpmanaaaaW.PrintWords Go.Proofs.YtmbmalkpmanaaaaW.PrintLast Go.Proofs.YtmbmalkpmanaaaaW.PrintMore
attribute [local go_sem] max2_int min2_int max_two min_two max_three min_three max_four min_four   -- for this text's walks alone
set_option linter.unusedVariables false
set_option linter.unusedSimpArgs false

def spans_Hull.f (l0 : List (S23)) : Option (Int × Int × Bool) := if (l0.length : Int) = 0 then (some (0, 0, false)) else (if 0 < (l0.length : Int) then (if 0 ≤ (wrap64 ((l0.length : Int) - 1)) then (if (wrap64 ((l0.length : Int) - 1)) < (l0.length : Int) then (some ((rd_T23 l0 0).f0, (rd_T23 l0 (wrap64 ((l0.length : Int) - 1))).f1, true)) else (none)) else (none)) else (none))
def spans_Hull.T3 : Bool × List (List Nat × List Nat) := (true, [([], []), ([0], [0]), ([1], [1]), ([2], [2]), ([], []), ([], []), ([5], [5]), ([6], [6]), ([4, 7], [4, 7]), ([8], [8]), ([9], [9]), ([3, 10], [3, 10]), ([11, 0, 1, 2, 3, 4, 5, 6, 7, 8, 9, 10, 11], [11]), ([12, 0, 1, 2, 3, 4, 5, 6, 7, 8, 9, 10, 11, 12], [])])
def spans_Hull.B3 : List Nat := [0, 1, 3, 7, 0, 0, 32, 96, 240, 496, 1008, 2047, 4095, 8191]
theorem spans_Hull.tab3 : rtab .any (opsOf Try.f43 3) = spans_Hull.T3 := by kernel_rfl
theorem spans_Hull.bits3 : waitsOk spans_Hull.T3.2 spans_Hull.B3 = true := by kernel_rfl
set_option maxHeartbeats 8000000 in
set_option maxRecDepth 100000 in
theorem spans_Hull.calls (A0 : Option Addr) (c0 : Nat) (l0 : List (S23)) (r1 : Int) (r2 : Int) (r3 : Bool) (w : World) (hr0 : Kd.C k23 w A0 l0.length l0) (hc0 : l0.length ≤ c0) (h : spans_Hull.f l0 = some (r1, r2, r3)) :
 Calls Try.prog 43 #[.slice A0 l0.length c0] w fun e w' => e = .returned (.tuple #[.agg #[.int .i64 r1, .int .i64 r2], .bool r3]) ∧ Below w.heap.size w w' := by
 have hu23 := Try.underlying23
 have HR0 := am hr0
 have HC0 := am hc0
 clear hr0 hc0
 have HB := am (Below.refl w.heap.size w)
 have H : (if (l0.length : Int) = 0 then (some (0, 0, false)) else (if 0 < (l0.length : Int) then (if 0 ≤ (wrap64 ((l0.length : Int) - 1)) then (if (wrap64 ((l0.length : Int) - 1)) < (l0.length : Int) then (some ((rd_T23 l0 0).f0, (rd_T23 l0 (wrap64 ((l0.length : Int) - 1))).f1, true)) else (none)) else (none)) else (none))) = some (r1, r2, r3) := h
 clear h
 by_cases c2 : (l0.length : Int) = 0
 ·rw [if_pos c2] at H
  have c2b0 : ((l0.length : Int) == 0) = true := beq_iff_eq.mpr c2
  have c2b1 : ((l0.length : Int) != 0) = false := bne_eq_false_iff_eq.mpr c2
  clear c2
  simp only [Option.some.injEq, Prod.mk.injEq] at H
  obtain ⟨rfl, rfl, rfl⟩ := H
  go_enter Try.func43, Try.ntmps43
  go_wp2_with (first | ((with_reducible refine gate_dst (N := 2) rfl ?_); refine bx 2 23 #[.int .i64 0, .int .i64 0] ?_; intro gb135 hg w3 hbox hb; have BK135 := am (hbox); have GW135 := am ((bz hg HB.out : w.heap.size ≤ gb135)); have GE135 := am ((bz hg HB.out : w.heap.size ≤ gb135)); replace HB := am (below_step (bl HB.out) hb); clear hb hbox hg; have hcz4_0 : w3.cell? ⟨gb135, 0, none⟩ = some (.int .i64 0) := bc BK135.out 0; have hcz4_1 : w3.cell? ⟨gb135, 1, none⟩ = some (.int .i64 0) := bc BK135.out 1; have hfz4_0 := blk_frozen BK135.out 0; have hfz4_1 := blk_frozen BK135.out 1))
  refine bodyPost_ret (results_ct rfl _ _ gb135 23 #[.int .i64 0, .int .i64 0] (0, 0) _ rfl (by (with_reducible repeat (first | refine blk_drewN ?_ _ | refine blk_drew ?_ | refine blk_alloc ?_ _)); refine blk_put (cs := #[.int .i64 0, .int .i64 0]) ?_ 1 _ rfl; (with_reducible repeat (first | refine blk_drewN ?_ _ | refine blk_drew ?_ | refine blk_alloc ?_ _)); refine blk_put (cs := #[.int .i64 0, .int .i64 0]) ?_ 0 _ rfl; (with_reducible repeat (first | refine blk_drewN ?_ _ | refine blk_drew ?_ | refine blk_alloc ?_ _)); exact BK135.out) Try.underlying23 rfl (by kernel_rfl)) rfl ?_
  exact ⟨rt, bl1 HB.out GE135.out⟩
 ·rw [if_neg c2] at H
  have c2b0 : ((l0.length : Int) == 0) = false := beq_eq_false_iff_ne.mpr c2
  have c2b1 : ((l0.length : Int) != 0) = true := bne_iff_ne.mpr c2
  have c2b2 : ¬ (l0 = []) := fun h_ => c2 (by rw [h_]; rfl)
  by_cases c5 : 0 < (l0.length : Int)
  ·rw [if_pos c5] at H
   have c5b0 : decide (0 < (l0.length : Int)) = true := decide_eq_true c5
   have c5b1 : decide (0 < l0.length) = true := decide_eq_true (by omega)
   clear c5
   obtain ⟨ji6, hji6⟩ : ∃ j_ : Int, (wrap64 ((l0.length : Int) - 1)) = j_ := ⟨_, rfl⟩
   replace H : (if 0 ≤ (ji6) then (if (ji6) < (l0.length : Int) then (some ((rd_T23 l0 0).f0, (rd_T23 l0 (ji6)).f1, true)) else (none)) else (none)) = some (r1, r2, r3) := by first | (rw [hji6] at H; exact H) | (simp only [hji6] at H ⊢; exact H)
   have hji6w : (IntKind.i64.wrap ((l0.length : Int) - 1)) = ji6 := (i64_w _).trans hji6
   by_cases c7 : 0 ≤ (ji6)
   ·rw [if_pos c7] at H
    have c7b0 : decide (0 ≤ (ji6)) = true := decide_eq_true c7
    clear c7
    by_cases c8 : (ji6) < (l0.length : Int)
    ·rw [if_pos c8] at H
     have c8b0 : decide ((ji6) < (l0.length : Int)) = true := decide_eq_true c8
     clear c8
     simp only [Option.some.injEq, Prod.mk.injEq] at H
     obtain ⟨rfl, rfl, rfl⟩ := H
     go_enter Try.func43, Try.ntmps43
     try go_wp2_with (first | ((with_reducible refine gate_dst (N := 2) rfl ?_); refine bx 2 23 #[.int .i64 0, .int .i64 0] ?_; intro gb135 hg w9 hbox hb; have BK135 := am (hbox); have GW135 := am ((bz hg HB.out : w.heap.size ≤ gb135)); have GE135 := am ((bz hg HB.out : w.heap.size ≤ gb135)); replace HB := am (below_step (bl HB.out) hb); clear hb hbox hg))
     replace BK135 := am (blk_drew BK135.out)
     replace HB := am (below_drew1 HB.out)
     have p136 : 0 ≤ (0 : Int) := (by omega)
     have q136 : 0 < (l0.length : Int) := of_decide_eq_true asm
     obtain ⟨ad136, e136, hx136_0, hx136_1⟩ := at_T23 HR0.out 0 p136 q136
     have hw136_1 := hx136_1
     (try rw [show ((0 : Int)).toNat = 0 from rfl] at hw136_1)
     (try rw [show 0 * 2 = 0 from rfl] at hw136_1)
     (try rw [Addr.add_zero'] at hw136_1)
     have hw136_0 := hx136_0
     (try rw [show ((0 : Int)).toNat = 0 from rfl] at hw136_0)
     (try rw [show 0 * 2 = 0 from rfl] at hw136_0)
     (try rw [Addr.add_zero'] at hw136_0)
     cases e136
     have qi136 : (0 < l0.length) = True := eq_true (by omega)
     (try rw [show ((0 : Int)).toNat = 0 from rfl] at hx136_0)
     (try rw [show 0 * 2 = 0 from rfl] at hx136_0)
     (try rw [Addr.add_zero'] at hx136_0)
     (try rw [show ((0 : Int)).toNat = 0 from rfl] at hx136_1)
     (try rw [show 0 * 2 = 0 from rfl] at hx136_1)
     (try rw [Addr.add_zero'] at hx136_1)
     replace hx136_0 := (HB.out.cell (World.block_lt_of_cell? w _ hx136_0)).trans hx136_0
     replace hx136_1 := (HB.out.cell (World.block_lt_of_cell? w _ hx136_1)).trans hx136_1
     replace p136 := eq_true p136
     replace q136 := eq_true q136
     have p137 : 0 ≤ ((ji6) : Int) := of_decide_eq_true asm
     have q137 : (ji6) < (l0.length : Int) := of_decide_eq_true asm
     obtain ⟨ad137, e137, hx137_0, hx137_1⟩ := at_T23 HR0.out (ji6) p137 q137
     have hw137_1 := hx137_1
     have hw137_0 := hx137_0
     obtain rfl : ad136 = ad137 := (by injection e137)
     replace hx137_0 := (HB.out.cell (World.block_lt_of_cell? w _ hx137_0)).trans hx137_0
     replace hx137_1 := (HB.out.cell (World.block_lt_of_cell? w _ hx137_1)).trans hx137_1
     replace p137 := eq_true p137
     replace q137 := eq_true q137
     refine start_ (n := 14) (S := fun w' => w'.cell? ad136 = some (.int .i64 ((rd_T23 l0 0).f0)) ∧ w'.cell? ⟨ad136.block, ad136.off + 1, none⟩ = some (.int .i64 ((rd_T23 l0 0).f1)) ∧ w'.cell? (ad136.add (((ji6)).toNat * 2)) = some (.int .i64 ((rd_T23 l0 (ji6)).f0)) ∧ w'.cell? ⟨(ad136.add (((ji6)).toNat * 2)).block, (ad136.add (((ji6)).toNat * 2)).off + 1, none⟩ = some (.int .i64 ((rd_T23 l0 (ji6)).f1))) (ds := []) (bs 14 0) (by kernel_rfl) rfl rfl ⟨((HB.out.cell (World.block_lt_of_cell? w _ hw136_0)).trans hw136_0), ((HB.out.cell (World.block_lt_of_cell? w _ hw136_1)).trans hw136_1), ((HB.out.cell (World.block_lt_of_cell? w _ hw137_0)).trans hw137_0), ((HB.out.cell (World.block_lt_of_cell? w _ hw137_1)).trans hw137_1)⟩ (fun hHeld => ?_); refine with_tabW spans_Hull.tab3 spans_Hull.bits3 (fun HT_ HW_ => ?_)
     generalize w9.drew = w10 at BK135 HB hx136_0 hx136_1 hx137_0 hx137_1 hHeld ⊢
     refine px 0 8 (bs 14 1) HT_.out ?_
     refine px 1 9 (bs 14 3) HT_.out ?_
     refine px 2 10 (bs 14 7) HT_.out ?_
     refine px 4 12 (bs 14 23) HT_.out ?_
     refine px 5 13 (bs 14 55) HT_.out ?_
     refine px 6 14 (bs 14 119) HT_.out ?_
     refine px 7 15 (bs 14 247) HT_.out ?_
     refine px 8 16 (bs 14 503) HT_.out ?_
     refine px 9 17 (bs 14 1015) HT_.out ?_
     refine tx 3 11 (bs 14 1023) HT_.out HW_.out hHeld ?_
     refine tx 10 18 (bs 14 2047) HT_.out HW_.out hHeld ?_
     refine px 11 19 (bs 14 4095) HT_.out ?_
     refine one_ (i := 12) (N := none) (bs 14 8191) rfl rfl (one_of HT_.out (by kernel_rfl)) (by decide) (fun K hK => ?_)
     have hs11 : w10.cell? ⟨gb135, 0, none⟩ = some (.int .i64 0) := bc BK135.out 0
     have hfs11 := blk_frozen BK135.out 0
     have hs12 : w10.cell? ⟨gb135, 1, none⟩ = some (.int .i64 0) := bc BK135.out 1
     have hfs12 := blk_frozen BK135.out 1
     refine skip_ (w1 := ?_) (by rfl) rfl ?_ ?_
     rotate_left
     ·go_simp
      rfl
     refine hK.out _ _ ⟨((cell_far (p := ⟨gb135, _, none⟩) (by first | exact Nat.ne_of_lt (Nat.lt_of_lt_of_le (by have := World.block_lt_of_cell? _ _ hw136_0; first | rwa [add_block] at this | exact this) GW135.out) | (rw [add_block]; exact Nat.ne_of_lt (Nat.lt_of_lt_of_le (by have := World.block_lt_of_cell? _ _ hw136_0; first | rwa [add_block] at this | exact this) GW135.out)) | (show (Addr.add _ _).block ≠ _; rw [add_block]; exact Nat.ne_of_lt (Nat.lt_of_lt_of_le (by have := World.block_lt_of_cell? _ _ hw136_0; first | rwa [add_block] at this | exact this) GW135.out)) | (dsimp only; exact Nat.ne_of_lt (Nat.lt_of_lt_of_le (by have := World.block_lt_of_cell? _ _ hw136_0; first | rwa [add_block] at this | exact this) GW135.out))) _).trans (((cell_far (p := ⟨gb135, _, none⟩) (by first | exact Nat.ne_of_lt (Nat.lt_of_lt_of_le (by have := World.block_lt_of_cell? _ _ hw136_0; first | rwa [add_block] at this | exact this) GW135.out) | (rw [add_block]; exact Nat.ne_of_lt (Nat.lt_of_lt_of_le (by have := World.block_lt_of_cell? _ _ hw136_0; first | rwa [add_block] at this | exact this) GW135.out)) | (show (Addr.add _ _).block ≠ _; rw [add_block]; exact Nat.ne_of_lt (Nat.lt_of_lt_of_le (by have := World.block_lt_of_cell? _ _ hw136_0; first | rwa [add_block] at this | exact this) GW135.out)) | (dsimp only; exact Nat.ne_of_lt (Nat.lt_of_lt_of_le (by have := World.block_lt_of_cell? _ _ hw136_0; first | rwa [add_block] at this | exact this) GW135.out))) _).trans (hHeld.1)))), ((cell_far (p := ⟨gb135, _, none⟩) (by first | exact Nat.ne_of_lt (Nat.lt_of_lt_of_le (by have := World.block_lt_of_cell? _ _ hw136_1; first | rwa [add_block] at this | exact this) GW135.out) | (rw [add_block]; exact Nat.ne_of_lt (Nat.lt_of_lt_of_le (by have := World.block_lt_of_cell? _ _ hw136_1; first | rwa [add_block] at this | exact this) GW135.out)) | (show (Addr.add _ _).block ≠ _; rw [add_block]; exact Nat.ne_of_lt (Nat.lt_of_lt_of_le (by have := World.block_lt_of_cell? _ _ hw136_1; first | rwa [add_block] at this | exact this) GW135.out)) | (dsimp only; exact Nat.ne_of_lt (Nat.lt_of_lt_of_le (by have := World.block_lt_of_cell? _ _ hw136_1; first | rwa [add_block] at this | exact this) GW135.out))) _).trans (((cell_far (p := ⟨gb135, _, none⟩) (by first | exact Nat.ne_of_lt (Nat.lt_of_lt_of_le (by have := World.block_lt_of_cell? _ _ hw136_1; first | rwa [add_block] at this | exact this) GW135.out) | (rw [add_block]; exact Nat.ne_of_lt (Nat.lt_of_lt_of_le (by have := World.block_lt_of_cell? _ _ hw136_1; first | rwa [add_block] at this | exact this) GW135.out)) | (show (Addr.add _ _).block ≠ _; rw [add_block]; exact Nat.ne_of_lt (Nat.lt_of_lt_of_le (by have := World.block_lt_of_cell? _ _ hw136_1; first | rwa [add_block] at this | exact this) GW135.out)) | (dsimp only; exact Nat.ne_of_lt (Nat.lt_of_lt_of_le (by have := World.block_lt_of_cell? _ _ hw136_1; first | rwa [add_block] at this | exact this) GW135.out))) _).trans (hHeld.2.1)))), ((cell_far (p := ⟨gb135, _, none⟩) (by first | exact Nat.ne_of_lt (Nat.lt_of_lt_of_le (by have := World.block_lt_of_cell? _ _ hw137_0; first | rwa [add_block] at this | exact this) GW135.out) | (rw [add_block]; exact Nat.ne_of_lt (Nat.lt_of_lt_of_le (by have := World.block_lt_of_cell? _ _ hw137_0; first | rwa [add_block] at this | exact this) GW135.out)) | (show (Addr.add _ _).block ≠ _; rw [add_block]; exact Nat.ne_of_lt (Nat.lt_of_lt_of_le (by have := World.block_lt_of_cell? _ _ hw137_0; first | rwa [add_block] at this | exact this) GW135.out)) | (dsimp only; exact Nat.ne_of_lt (Nat.lt_of_lt_of_le (by have := World.block_lt_of_cell? _ _ hw137_0; first | rwa [add_block] at this | exact this) GW135.out))) _).trans (((cell_far (p := ⟨gb135, _, none⟩) (by first | exact Nat.ne_of_lt (Nat.lt_of_lt_of_le (by have := World.block_lt_of_cell? _ _ hw137_0; first | rwa [add_block] at this | exact this) GW135.out) | (rw [add_block]; exact Nat.ne_of_lt (Nat.lt_of_lt_of_le (by have := World.block_lt_of_cell? _ _ hw137_0; first | rwa [add_block] at this | exact this) GW135.out)) | (show (Addr.add _ _).block ≠ _; rw [add_block]; exact Nat.ne_of_lt (Nat.lt_of_lt_of_le (by have := World.block_lt_of_cell? _ _ hw137_0; first | rwa [add_block] at this | exact this) GW135.out)) | (dsimp only; exact Nat.ne_of_lt (Nat.lt_of_lt_of_le (by have := World.block_lt_of_cell? _ _ hw137_0; first | rwa [add_block] at this | exact this) GW135.out))) _).trans (hHeld.2.2.1)))), ((cell_far (p := ⟨gb135, _, none⟩) (by first | exact Nat.ne_of_lt (Nat.lt_of_lt_of_le (by have := World.block_lt_of_cell? _ _ hw137_1; first | rwa [add_block] at this | exact this) GW135.out) | (rw [add_block]; exact Nat.ne_of_lt (Nat.lt_of_lt_of_le (by have := World.block_lt_of_cell? _ _ hw137_1; first | rwa [add_block] at this | exact this) GW135.out)) | (show (Addr.add _ _).block ≠ _; rw [add_block]; exact Nat.ne_of_lt (Nat.lt_of_lt_of_le (by have := World.block_lt_of_cell? _ _ hw137_1; first | rwa [add_block] at this | exact this) GW135.out)) | (dsimp only; exact Nat.ne_of_lt (Nat.lt_of_lt_of_le (by have := World.block_lt_of_cell? _ _ hw137_1; first | rwa [add_block] at this | exact this) GW135.out))) _).trans (((cell_far (p := ⟨gb135, _, none⟩) (by first | exact Nat.ne_of_lt (Nat.lt_of_lt_of_le (by have := World.block_lt_of_cell? _ _ hw137_1; first | rwa [add_block] at this | exact this) GW135.out) | (rw [add_block]; exact Nat.ne_of_lt (Nat.lt_of_lt_of_le (by have := World.block_lt_of_cell? _ _ hw137_1; first | rwa [add_block] at this | exact this) GW135.out)) | (show (Addr.add _ _).block ≠ _; rw [add_block]; exact Nat.ne_of_lt (Nat.lt_of_lt_of_le (by have := World.block_lt_of_cell? _ _ hw137_1; first | rwa [add_block] at this | exact this) GW135.out)) | (dsimp only; exact Nat.ne_of_lt (Nat.lt_of_lt_of_le (by have := World.block_lt_of_cell? _ _ hw137_1; first | rwa [add_block] at this | exact this) GW135.out))) _).trans (hHeld.2.2.2))))⟩ (fun hHeld => ?_)
     clear hK K
     refine px 13 3 (bs 14 16383) HT_.out ?_
     refine done_ (done_of HT_.out (by kernel_rfl)) ?_
     try go_wp2
     refine bodyPost_ret (results_ct rfl _ _ gb135 23 #[.int .i64 ((rd_T23 l0 0).f0), .int .i64 ((rd_T23 l0 (ji6)).f1)] (0, 0) _ rfl (by (with_reducible repeat (first | refine blk_drewN ?_ _ | refine blk_drew ?_ | refine blk_alloc ?_ _)); refine blk_put (cs := #[.int .i64 ((rd_T23 l0 0).f0), .int .i64 0]) ?_ 1 _ rfl; (with_reducible repeat (first | refine blk_drewN ?_ _ | refine blk_drew ?_ | refine blk_alloc ?_ _)); refine blk_put (cs := #[.int .i64 0, .int .i64 0]) ?_ 0 _ rfl; (with_reducible repeat (first | refine blk_drewN ?_ _ | refine blk_drew ?_ | refine blk_alloc ?_ _)); exact BK135.out) Try.underlying23 rfl (by kernel_rfl)) rfl ?_
     exact ⟨by first | rfl | (simp [errW_none, errW_some] <;> rfl) | (simp only [← hji6]; first | rfl | (simp [errW_none, errW_some] <;> rfl)) | (simp [*, errW_none, errW_some] <;> rfl), bl1 HB.out GE135.out⟩
    ·rw [if_neg c8] at H
     exact absurd H (by simp)
   ·rw [if_neg c7] at H
    exact absurd H (by simp)
  ·rw [if_neg c5] at H
   exact absurd H (by simp)

end Go.Proofs.Ytmbmalkpmanaaaa.P

namespace Go.Proofs.Ytmbmalkpmanaaaa.P
set_option linter.unusedVariables false
set_option linter.unusedSimpArgs false
open Go.RowKit Go.Proofs.YtmbmalkpmanaaaaW.PrintWords Go.Proofs.YtmbmalkpmanaaaaW.PrintLast

theorem goesV_ {P : Program} {ops : Array Oper} {Q : Exit → Act → World → Prop} {oi : Oper} {N : Option Tmp} {a : Act} {w : World} {K : Act → World → Prop} {f : FuncId} {fn : Func} {c : Tmp} {os : Array Operand} {ts : Array TypeId} (hf : P.funcs[f]? = some fn) (hname : (fn.name == "runtime.NumGoroutine") = false) (hb : fn.body.isSome = true) (args : Array Value)
    (hw : Region.wanted oi (yielded ops a.tmps) = true) (hN : oi.dst = N) (hop : oi.op = .call { callee := .value (.tmp c), args := os, argTypes := ts }) (hc : a.eval (.tmp c) = .func (.func f) #[] #[]) (hargs : os.map a.eval = args)
    (h : Calls P f args w fun e w' => ∃ v, e = .returned v ∧ K (a.put N v) w') : if Region.wanted oi (yielded ops a.tmps) = true then Oper.wp P oi a w K Q else K (a.put N undef) w := by
  refine call_ f args hw hN ?_ h
  have he := enters_ hf hname hb args w
  unfold execOp
  simp [hop, resolve, Deferred.ofValue, invoke, hc, hargs, he]
theorem goesC_ {P : Program} {ops : Array Oper} {Q : Exit → Act → World → Prop} {oi : Oper} {N : Option Tmp} {a : Act} {w : World} {K : Act → World → Prop} {f : FuncId} {fn : Func} {c : Tmp} {os : Array Operand} {ts : Array TypeId} (hf : P.funcs[f]? = some fn) (hname : (fn.name == "runtime.NumGoroutine") = false) (hb : fn.body.isSome = true) (args0 cap args : Array Value) (hcat : args0 ++ cap = args)
    (hw : Region.wanted oi (yielded ops a.tmps) = true) (hN : oi.dst = N) (hop : oi.op = .call { callee := .value (.tmp c), args := os, argTypes := ts }) (hc : a.eval (.tmp c) = .func (.func f) #[] cap) (hargs : os.map a.eval = args0)
    (h : Calls P f args w fun e w' => ∃ v, e = .returned v ∧ K (a.put N v) w') : if Region.wanted oi (yielded ops a.tmps) = true then Oper.wp P oi a w K Q else K (a.put N undef) w := by
  subst hcat
  refine call_ f (args0 ++ cap) hw hN ?_ h
  have he := enters_ hf hname hb (args0 ++ cap) w
  unfold execOp
  simp [hop, resolve, Deferred.ofValue, invoke, hc, hargs, he]
end Go.Proofs.Ytmbmalkpmanaaaa.P

namespace Go.Proofs.Ytmbmalkpmanaaaa.P
set_option linter.unusedVariables false
set_option linter.unusedSimpArgs false
open Go.RowKit Go.Maps Go.Proofs.YtmbmalkpmanaaaaW.PrintWords Go.Proofs.YtmbmalkpmanaaaaW.PrintLast

def cntI : List Int → Int → Int
  | [], _ => 0
  | y :: r, x => (if y = x then 1 else 0) + cntI r x
theorem cntI_bd (l : List Int) (x : Int) : 0 ≤ cntI l x ∧ cntI l x ≤ l.length := by
  induction l with
  | nil => simp [cntI]
  | cons y r ih => simp only [cntI, List.length_cons]; split <;> omega
theorem cntI_snoc (l : List Int) (y x : Int) : cntI (l ++ [y]) x = cntI l x + if y = x then 1 else 0 := by
  induction l with
  | nil => simp [cntI]
  | cons z r ih => simp only [List.cons_append, cntI, ih]; omega
theorem cntI_zero (l : List Int) (x : Int) : cntI l x = 0 ↔ x ∉ l := by
  induction l with
  | nil => simp [cntI]
  | cons y r ih =>
    have := (cntI_bd r x).1
    simp only [cntI, List.mem_cons, not_or]
    by_cases h : y = x
    · rw [if_pos h]; constructor
      · intro e; omega
      · intro e; exact absurd h.symm e.1
    · rw [if_neg h, Int.zero_add, ih]
      exact ⟨fun e => ⟨fun e2 => h e2.symm, e⟩, fun e => e.2⟩

def OMap (w : World) (b : Nat) (l : List Int) : Prop :=
  ∃ D : DataW Unit, w.ownsMap Try.prog 3 (plainElem Try.prog 3) b l.length D ∧ IsMap D ∧ ∀ x : Int, D.atKey (.int .i64 x) (.lit (.int .i64 0)) = .lit (.int .i64 (cntI l x))
theorem OMap.made (w : World) : OMap (w.alloc (.map #[] 0)) w.heap.size [] :=
  ⟨.map [], World.ownsMap_made _ _ _ _, ⟨[], rfl⟩, fun x => rfl⟩
theorem OMap.heap {w w' : World} {b : Nat} {l : List Int} (h : OMap w b l) (e : w'.heap[b]? = w.heap[b]?) : OMap w' b l := by
  obtain ⟨D, ⟨es, clock, hb, F, hs, hD⟩, h2, h3⟩ := h
  exact ⟨D, ⟨es, clock, e.trans hb, F, hs, hD⟩, h2, h3⟩
theorem OMap.lt {w : World} {b : Nat} {l : List Int} (h : OMap w b l) : b < w.heap.size := by
  obtain ⟨D, h1, _⟩ := h; exact h1.lt
theorem lawI : Keyed Try.prog 3 := int_keyed Try.underlying3
theorem zeroI (w : World) : (zeroValue 3).run Try.prog w = .ok (.int .i64 0) w := by kernel_rfl
theorem OMap.lookup {w : World} {ops : Array Oper} {rest : List Oper} {o : Oper} {a : Act} {Q : Exit → Act → World → Prop} {b : Nat} {l : List Int} (hom : OMap w b l)
    (hg : o.guard = none) (m x : Operand) (hop : o.op = Op.lookup 62 m x false) (hm : a.eval m = .map (some b)) (y : Int) (hy : (Lit.int .i64 y).wf = true) (hx : a.eval x = .int .i64 y)
    (hK : wpList Try.prog ops Q rest (a.put o.dst (.int .i64 (cntI l y))) w) : wpList Try.prog ops Q (o :: rest) a w := by
  obtain ⟨D, h1, h2, h3⟩ := hom
  refine wpList_lookup_own_int w hg m x 62 hop 3 3 .i64 lawI Try.underlying62 Try.underlying3 (zeroI w) b l.length D hm h1 _ _ hx (keyOf_int_mk Try.underlying3 hy) (fun c hc _ => ?_)
  have e : cntI l y = c := by have := (h3 y).symm.trans hc; injection this with this; injection this
  rw [← e]; exact hK
theorem OMap.update {w : World} {ops : Array Oper} {rest : List Oper} {o : Oper} {a : Act} {Q : Exit → Act → World → Prop} {b : Nat} {l : List Int} (hom : OMap w b l)
    (hg : o.guard = none) (m x v : Operand) (hop : o.op = Op.mapUpdate 62 m x v) (hm : a.eval m = .map (some b)) (hl : l.length < maxLen) (y : Int) (hy : (Lit.int .i64 y).wf = true) (hx : a.eval x = .int .i64 y) (hv : a.eval v = .int .i64 (wrap64 (cntI l y + 1)))
    (hK : ∀ w', OMap w' b (l ++ [y]) → w.grownBy w' (some b) → wpList Try.prog ops Q rest (a.put o.dst undef) w') : wpList Try.prog ops Q (o :: rest) a w := by
  obtain ⟨D, h1, h2, h3⟩ := hom
  refine wpList_mapUpdate_own w hg m x v 62 hop 3 3 lawI Try.underlying62 _ b l.length D hm h1 hl _ _ _ hx hv (keyOf_int_mk Try.underlying3 hy) _ _ (plainElem_int Try.underlying3 (wrap64_wf _)) (fun w' r1 r2 => hK w' ?_ r2)
  refine ⟨D.put (.int .i64 y) (.lit (.int .i64 (wrap64 (cntI l y + 1)))), ?_, ?_, fun z => ?_⟩
  · exact r1.mono (by simp)
  · obtain ⟨es, rfl⟩ := h2; exact ⟨_, rfl⟩
  · have hw : wrap64 (cntI l y + 1) = cntI l y + 1 := by have := cntI_bd l y; unfold wrap64; unfold maxLen at hl; omega
    rw [cntI_snoc]
    by_cases e : y = z
    · subst e; rw [atKey_put_same h2 (by trivial), hw, if_pos rfl]
    · rw [atKey_put_other (by intro h; injection h with _ h; exact e h.symm), h3, if_neg e, Int.add_zero]
end Go.Proofs.Ytmbmalkpmanaaaa.P

namespace Go.Proofs.Ytmbmalkpmanaaaa.P
open Go.RowKit Go.Proofs.YtmbmalkpmanaaaaW.PrintWords Go.Proofs.YtmbmalkpmanaaaaW.PrintLast Go.Proofs.YtmbmalkpmanaaaaW.PrintMore
attribute [local go_sem] max2_int min2_int max_two min_two max_three min_three max_four min_four   -- for this text's walks alone
set_option linter.unusedVariables false
set_option linter.unusedSimpArgs false

def safe_Floor.j0 : Nat → Int → Int → Bool → Option (Int × Int × Int)
 | 0, _, _, _ => none
 | k + 1, x0, x1, x12 => if x12 = true then (some (0, 0, 10)) else (if x1 = 0 then (none) else (if (Int.tmod x0 x1) = 0 then (some (wrap64 (Int.tdiv x0 x1), Int.tmod x0 x1, 0)) else (if ((decide ((Int.tmod x0 x1) < 0)) != (decide (x1 < 0))) = true then (some (wrap64 ((wrap64 (Int.tdiv x0 x1)) - 1), wrap64 ((Int.tmod x0 x1) + x1), 0)) else (some (wrap64 (Int.tdiv x0 x1), Int.tmod x0 x1, 0)))))
def safe_Floor.f (k : Nat) (a0 : Int) (a1 : Int) : Option (Int × Int × Int) := if a1 = 0 then (some (0, 0, 11)) else (if a1 = (-1) then (safe_Floor.j0 k a0 a1 (a0 == (-9223372036854775808))) else (safe_Floor.j0 k a0 a1 false))
theorem safe_Floor.mono_l : ∀ k, (∀ y0 y1 y2, LeO (safe_Floor.j0 k y0 y1 y2) (safe_Floor.j0 (k + 1) y0 y1 y2))
 | 0 => fun _ _ _ r h => by simp [safe_Floor.j0] at h
 | k + 1 => by
  have ih0 := safe_Floor.mono_l k
  ·intro y0 y1 y2
   unfold safe_Floor.j0
   repeat' first
   | (with_reducible exact ih0 _ _ _)
   | (with_reducible exact LeO.refl _)
   | (with_reducible exact LeO.none _)
   | (with_reducible refine LeO.ite ?_ ?_)
   | (with_reducible refine LeO.bind ?_ (fun _ => ?_))
   | exact ih0 _ _ _
   | exact LeO.none _
   | refine LeO.ite ?_ ?_
   | refine LeO.bind ?_ (fun _ => ?_)
theorem safe_Floor.mono : ∀ a0 a1 k, LeO (safe_Floor.f k a0 a1) (safe_Floor.f (k + 1) a0 a1) := by
 intro a0 a1 k
 have ih0 := safe_Floor.mono_l k
 unfold safe_Floor.f
 repeat' first
  | (with_reducible exact ih0 _ _ _)
  | (with_reducible exact LeO.refl _)
  | (with_reducible exact LeO.none _)
  | (with_reducible refine LeO.ite ?_ ?_)
  | (with_reducible refine LeO.bind ?_ (fun _ => ?_))
  | exact ih0 _ _ _
  | exact LeO.none _
  | refine LeO.ite ?_ ?_
  | refine LeO.bind ?_ (fun _ => ?_)
set_option maxHeartbeats 8000000 in
set_option maxRecDepth 100000 in
theorem safe_Floor.calls (k : Nat) (a0 : Int) (a1 : Int) (r1 : Int) (r2 : Int) (r3 : Int) (w : World) (h : safe_Floor.f k a0 a1 = some (r1, r2, r3)) :
 Calls Try.prog 85 #[.int .i64 a0, .int .i64 a1] w fun e w' => e = .returned (.tuple #[.int .i64 r1, .int .i64 r2, .int .i64 r3]) ∧ Drawn0 w w' := by
 have H : (if a1 = 0 then (some (0, 0, 11)) else (if a1 = (-1) then (safe_Floor.j0 k a0 a1 (a0 == (-9223372036854775808))) else (safe_Floor.j0 k a0 a1 false))) = some (r1, r2, r3) := h
 clear h
 by_cases c3 : a1 = 0
 ·rw [if_pos c3] at H
  have c3b0 : (a1 == 0) = true := beq_iff_eq.mpr c3
  have c3b1 : (a1 != 0) = false := bne_eq_false_iff_eq.mpr c3
  clear c3
  simp only [Option.some.injEq, Prod.mk.injEq] at H
  obtain ⟨rfl, rfl, rfl⟩ := H
  go_enter Try.func85, Try.ntmps85
  go_wp2
  repeat (go_quiet (fail); try go_wp2)
  go_ret3
  exact ⟨by first | rfl | (simp; done) | (simp [*]; done), by repeat (first | exact Drawn0.refl _ | apply Drawn0.step)⟩
 ·rw [if_neg c3] at H
  have c3b0 : (a1 == 0) = false := beq_eq_false_iff_ne.mpr c3
  have c3b1 : (a1 != 0) = true := bne_iff_ne.mpr c3
  have HC4 := am H
  clear H
  go_enter Try.func85, Try.ntmps85
  go_upto_region 3 with (fail)
  repeat (go_quiet (fail); go_upto_region 3 with (fail))
  go_cut [12] (fun v12 wc => ∃ (kq : Nat) (x12_3 : Bool), v12 = .bool x12_3 ∧ Aside0 (safe_Floor.j0 kq a0 a1 x12_3 = some (r1, r2, r3)) ∧ Aside0 (kq ≤ k) ∧ Drawn0 w wc)
  case first =>
   have H := HC4.out
   clear HC4
   by_cases c5 : a1 = (-1)
   ·rw [if_pos c5] at H
    have c5b0 : (a1 == (-1)) = true := beq_iff_eq.mpr c5
    have c5b1 : (a1 != (-1)) = false := bne_eq_false_iff_eq.mpr c5
    clear c5
    (first | rw [c5b0] | (simp only [i64_w, i32_w]; rw [c5b0]) | skip)
    have H' := am H
    clear H
    go_wp2
    repeat (go_quiet (fail); try go_wp2)
    go_meet
    case rel => exact ⟨_, ((a0 == (-9223372036854775808))), sm, H', ⟨by first | omega | exact Nat.le_refl _⟩, by repeat (first | exact Drawn0.refl _ | apply Drawn0.step)⟩
   ·rw [if_neg c5] at H
    have c5b0 : (a1 == (-1)) = false := beq_eq_false_iff_ne.mpr c5
    have c5b1 : (a1 != (-1)) = true := bne_iff_ne.mpr c5
    (first | rw [c5b0] | (simp only [i64_w, i32_w]; rw [c5b0]) | skip)
    have H' := am H
    clear H
    go_wp2
    repeat (go_quiet (fail); try go_wp2)
    go_meet
    case rel => exact ⟨_, (false), sm, H', ⟨by first | omega | exact Nat.le_refl _⟩, by repeat (first | exact Drawn0.refl _ | apply Drawn0.step)⟩
  case rest =>
   clear HC4
   try clear p2
   try clear c3
   try clear c3b0
   try clear c3b1
   try clear c5
   try clear c5b0
   try clear c5b1
   obtain ⟨kq, x12_3, rfl, HA, HJ3, ⟨mc3, rfl⟩⟩ := hcut
   cases kq with
   | zero => exact absurd HA.out (by simp [safe_Floor.j0])
   | succ kj3 =>
    have H := HA.out
    clear HA
    simp only [safe_Floor.j0] at H
    by_cases c6 : x12_3 = true
    ·subst c6
     have H1 : (some (0, 0, 10)) = some (r1, r2, r3) := by rw [if_pos rfl] at H; exact H
     clear H
     have H := H1
     clear H1
     simp only [Option.some.injEq, Prod.mk.injEq] at H
     obtain ⟨rfl, rfl, rfl⟩ := H
     go_wp2
     repeat (go_quiet (fail); try go_wp2)
     go_ret3
     exact ⟨by first | rfl | (simp; done) | (simp [*]; done), by repeat (first | exact Drawn0.refl _ | apply Drawn0.step)⟩
    ·replace c6 := Bool.eq_false_iff.mpr c6
     subst c6
     have H1 : (if a1 = 0 then (none) else (if (Int.tmod a0 a1) = 0 then (some (wrap64 (Int.tdiv a0 a1), Int.tmod a0 a1, 0)) else (if ((decide ((Int.tmod a0 a1) < 0)) != (decide (a1 < 0))) = true then (some (wrap64 ((wrap64 (Int.tdiv a0 a1)) - 1), wrap64 ((Int.tmod a0 a1) + a1), 0)) else (some (wrap64 (Int.tdiv a0 a1), Int.tmod a0 a1, 0))))) = some (r1, r2, r3) := by rw [if_neg (show ¬ (false = true) by decide)] at H; exact H
     clear H
     have H := H1
     clear H1
     by_cases c7 : a1 = 0
     ·rw [if_pos c7] at H
      exact absurd H (by simp)
     ·rw [if_neg c7] at H
      have c7b0 : (a1 == 0) = false := beq_eq_false_iff_ne.mpr c7
      have c7b1 : (a1 != 0) = true := bne_iff_ne.mpr c7
      by_cases c8 : (Int.tmod a0 a1) = 0
      ·rw [if_pos c8] at H
       have c8b0 : ((Int.tmod a0 a1) == 0) = true := beq_iff_eq.mpr c8
       have c8b1 : ((Int.tmod a0 a1) != 0) = false := bne_eq_false_iff_eq.mpr c8
       clear c8
       simp only [Option.some.injEq, Prod.mk.injEq] at H
       obtain ⟨rfl, rfl, rfl⟩ := H
       go_wp2
       repeat (go_quiet (fail); try go_wp2)
       go_ret3
       exact ⟨by first | rfl | (simp; done) | (simp [*]; done), by repeat (first | exact Drawn0.refl _ | apply Drawn0.step)⟩
      ·rw [if_neg c8] at H
       have c8b0 : ((Int.tmod a0 a1) == 0) = false := beq_eq_false_iff_ne.mpr c8
       have c8b1 : ((Int.tmod a0 a1) != 0) = true := bne_iff_ne.mpr c8
       by_cases c9 : ((decide ((Int.tmod a0 a1) < 0)) != (decide (a1 < 0))) = true
       ·rw [if_pos c9] at H
        have c9b0 : ((decide ((Int.tmod a0 a1) < 0)) != (decide (a1 < 0))) = true := c9
        (try (have c9b1 : decide ((decide ((Int.tmod a0 a1) < 0)) = (decide (a1 < 0))) = false := by simpa using c9))
        (try (have c9b2 : ((decide ((Int.tmod a0 a1) < 0)) == (decide (a1 < 0))) = false := by simpa using c9))
        (try (have c9b3 : ¬ ((decide ((Int.tmod a0 a1) < 0)) = (decide (a1 < 0))) := by simpa using c9))
        clear c9
        simp only [Option.some.injEq, Prod.mk.injEq] at H
        obtain ⟨rfl, rfl, rfl⟩ := H
        go_wp2
        repeat (go_quiet (fail); try go_wp2)
        go_ret3
        exact ⟨by first | rfl | (simp; done) | (simp [*]; done), by repeat (first | exact Drawn0.refl _ | apply Drawn0.step)⟩
       ·rw [if_neg c9] at H
        have c9b0 : ((decide ((Int.tmod a0 a1) < 0)) != (decide (a1 < 0))) = false := by simpa using c9
        (try (have c9b1 : decide ((decide ((Int.tmod a0 a1) < 0)) = (decide (a1 < 0))) = true := by simpa using c9))
        (try (have c9b2 : ((decide ((Int.tmod a0 a1) < 0)) == (decide (a1 < 0))) = true := by simpa using c9))
        clear c9
        simp only [Option.some.injEq, Prod.mk.injEq] at H
        obtain ⟨rfl, rfl, rfl⟩ := H
        go_wp2
        repeat (go_quiet (fail); try go_wp2)
        go_ret3
        exact ⟨by first | rfl | (simp; done) | (simp [*]; done), by repeat (first | exact Drawn0.refl _ | apply Drawn0.step)⟩

end Go.Proofs.Ytmbmalkpmanaaaa.P

namespace Go.Proofs.Ytmbmalkpmanaaaa.P
open Go.RowKit Go.Proofs.YtmbmalkpmanaaaaW.PrintWords Go.Proofs.YtmbmalkpmanaaaaW.PrintLast Go.Proofs.YtmbmalkpmanaaaaW.PrintMore
attribute [local go_sem] max2_int min2_int max_two min_two max_three min_three max_four min_four   -- for this text's walks alone
set_option linter.unusedVariables false
set_option linter.unusedSimpArgs false

def find_up_1.f (k : Nat) (a0_0 : Int) (a0_1 : Int) (a1 : Int) (a2 : Int) : Option (Int) := (safe_Floor.f k (wrap64 (a0_1 - a1)) a2).bind fun bt187 => (some (wrap64 (-bt187.1)))
theorem find_up_1.mono : ∀ a0 a1 a2 a3 k, LeO (find_up_1.f k a0 a1 a2 a3) (find_up_1.f (k + 1) a0 a1 a2 a3) := by
 intro a0 a1 a2 a3 k
 unfold find_up_1.f
 repeat' first
  | (with_reducible exact safe_Floor.mono _ _ _)
  | (with_reducible exact LeO.refl _)
  | (with_reducible exact LeO.none _)
  | (with_reducible refine LeO.ite ?_ ?_)
  | (with_reducible refine LeO.bind ?_ (fun _ => ?_))
  | exact safe_Floor.mono _ _ _
  | exact LeO.none _
  | refine LeO.ite ?_ ?_
  | refine LeO.bind ?_ (fun _ => ?_)
set_option maxHeartbeats 8000000 in
set_option maxRecDepth 100000 in
theorem find_up_1.calls (k : Nat) (a0_0 : Int) (a0_1 : Int) (a1 : Int) (a2 : Int) (r : Int) (w : World) (h : find_up_1.f k a0_0 a0_1 a1 a2 = some r) :
 Calls Try.prog 88 #[.agg #[.int .i64 a0_0, .int .i64 a0_1], .int .i64 a1, .int .i64 a2] w fun e w' => e = .returned (.int .i64 r) ∧ Below w.heap.size w w' := by
 have hu23 := Try.underlying23
 have HB := am (Below.refl w.heap.size w)
 have H : ((safe_Floor.f k (wrap64 (a0_1 - a1)) a2).bind fun bt187 => (some (wrap64 (-bt187.1)))) = some r := h
 clear h
 replace H := Option.bind_eq_some_iff.mp H
 obtain ⟨⟨t187, t188, t189⟩, A40, H⟩ := H
 try dsimp only at H
 have A4 := am A40
 clear A40
 obtain rfl := Option.some.inj H
 go_enter Try.func88, Try.ntmps88
 go_wp2_with (first | ((with_reducible refine gate_dst (N := 3) rfl ?_); refine bx 3 23 #[.int .i64 a0_0, .int .i64 a0_1] ?_; intro gb186 hg w5 hbox hb; have BK186 := am (hbox); have GW186 := am ((bz hg HB.out : w.heap.size ≤ gb186)); have GE186 := am ((bz hg HB.out : w.heap.size ≤ gb186)); replace HB := am (below_step (bl HB.out) hb); clear hb hbox hg; have hcz6_0 : w5.cell? ⟨gb186, 0, none⟩ = some (.int .i64 a0_0) := bc BK186.out 0; have hcz6_1 : w5.cell? ⟨gb186, 1, none⟩ = some (.int .i64 a0_1) := bc BK186.out 1; have hfz6_0 := blk_frozen BK186.out 0; have hfz6_1 := blk_frozen BK186.out 1) | ((with_reducible refine gate_callee (f := 85) rfl ?_); refine goesL_ (some 16) rfl rfl Try.func85 (by kernel_rfl) rfl #[.int .i64 (wrap64 (a0_1 - a1)), .int .i64 a2] rfl ar ?_; (with_reducible refine (safe_Floor.calls k (wrap64 (a0_1 - a1)) a2 t187 t188 t189 _ A4.out).mono ?_); rintro e w' ⟨rfl, ⟨nd, rfl⟩⟩; refine ⟨_, rfl, ?_⟩))
 go_ret
 exact ⟨rt, bl1 HB.out GE186.out⟩

end Go.Proofs.Ytmbmalkpmanaaaa.P

namespace Go.Proofs.Ytmbmalkpmanaaaa.P
open Go.RowKit Go.Proofs.YtmbmalkpmanaaaaW.PrintWords Go.Proofs.YtmbmalkpmanaaaaW.PrintLast Go.Proofs.YtmbmalkpmanaaaaW.PrintMore
attribute [local go_sem] max2_int min2_int max_two min_two max_three min_three max_four min_four   -- for this text's walks alone
set_option linter.unusedVariables false
set_option linter.unusedSimpArgs false

def find_place_up.l0 : Nat → Int → Int → Bool → List (List (S23)) → Int → Int → Int → Int → List (List (S23)) → List (S70) → Int → Option (Int × Bool)
 | 0, _, _, _, _, _, _, _, _, _, _, _ => none
 | k + 1, x1, x8, x9, x16, x17, x18, x192000, x192001, x192002, x192003, x193000 => if x18 < x17 then (if 0 ≤ x18 then (if x18 < (x16.length : Int) then ((spans_Hull.f (rd_L2 x16 x18)).bind fun bt194 => (if bt194.2.2 = true then ((find_up_1.f k bt194.1 bt194.2.1 x1 x192000).bind fun t198 => (if x9 = true then (if (wrap64 ((wrap64 ((wrap64 ((wrap64 (t198 * x192001)) + x18)) - x8)) * x193000)) < 0 then (find_place_up.l0 k x1 (wrap64 ((wrap64 (t198 * x192001)) + x18)) true x16 x17 (wrap64 (x18 + 1)) x192000 x192001 x192002 x192003 x193000) else (find_place_up.l0 k x1 x8 x9 x16 x17 (wrap64 (x18 + 1)) x192000 x192001 x192002 x192003 x193000)) else (find_place_up.l0 k x1 (wrap64 ((wrap64 (t198 * x192001)) + x18)) true x16 x17 (wrap64 (x18 + 1)) x192000 x192001 x192002 x192003 x193000))) else (find_place_up.l0 k x1 x8 x9 x16 x17 (wrap64 (x18 + 1)) x192000 x192001 x192002 x192003 x193000))) else (none)) else (none)) else (some (x8, x9))
def find_place_up.f (k : Nat) (a0_0 : Int) (a0_1 : Int) (l0_2 : List (List (S23))) (l0_3 : List (S70)) (a1 : Int)  : Option (Int × Bool) := find_place_up.l0 k a1 0 false l0_2 (l0_2.length : Int) 0 a0_0 a0_1 l0_2 l0_3 1
theorem find_place_up.mono_l : ∀ k, (∀ y0 y1 y2 y3 y4 y5 y6 y7 y8 y9 y10, LeO (find_place_up.l0 k y0 y1 y2 y3 y4 y5 y6 y7 y8 y9 y10) (find_place_up.l0 (k + 1) y0 y1 y2 y3 y4 y5 y6 y7 y8 y9 y10))
 | 0 => fun _ _ _ _ _ _ _ _ _ _ _ r h => by simp [find_place_up.l0] at h
 | k + 1 => by
  have ih0 := find_place_up.mono_l k
  ·intro y0 y1 y2 y3 y4 y5 y6 y7 y8 y9 y10
   unfold find_place_up.l0
   repeat' first
   | (with_reducible exact ih0 _ _ _ _ _ _ _ _ _ _ _)
   | (with_reducible exact find_up_1.mono _ _ _ _ _)
   | (with_reducible exact LeO.refl _)
   | (with_reducible exact LeO.none _)
   | (with_reducible refine LeO.ite ?_ ?_)
   | (with_reducible refine LeO.bind ?_ (fun _ => ?_))
   | exact ih0 _ _ _ _ _ _ _ _ _ _ _
   | exact find_up_1.mono _ _ _ _ _
   | exact LeO.none _
   | refine LeO.ite ?_ ?_
   | refine LeO.bind ?_ (fun _ => ?_)
theorem find_place_up.mono : ∀ a0 a1 a2 a3 a4 k, LeO (find_place_up.f k a0 a1 a2 a3 a4) (find_place_up.f (k + 1) a0 a1 a2 a3 a4) := by
 intro a0 a1 a2 a3 a4 k
 have ih0 := find_place_up.mono_l k
 unfold find_place_up.f
 repeat' first
  | (with_reducible exact ih0 _ _ _ _ _ _ _ _ _ _ _)
  | (with_reducible exact find_up_1.mono _ _ _ _ _)
  | (with_reducible exact LeO.refl _)
  | (with_reducible exact LeO.none _)
  | (with_reducible refine LeO.ite ?_ ?_)
  | (with_reducible refine LeO.bind ?_ (fun _ => ?_))
  | exact ih0 _ _ _ _ _ _ _ _ _ _ _
  | exact find_up_1.mono _ _ _ _ _
  | exact LeO.none _
  | refine LeO.ite ?_ ?_
  | refine LeO.bind ?_ (fun _ => ?_)
def find_place_up.T7 : Bool × List (List Nat × List Nat) := (true, [([], []), ([0], [0]), ([], []), ([], []), ([], []), ([4], [4]), ([1, 2, 3, 5], [1, 2, 3, 5]), ([], []), ([7], [7]), ([6, 8], [6, 8]), ([], []), ([9, 10], [9, 10]), ([11, 6, 0, 1, 2, 3, 4, 5, 6, 7, 8, 9, 10, 11], [11])])
def find_place_up.B7 : List Nat := [0, 1, 0, 0, 0, 16, 63, 0, 128, 511, 0, 2047, 4095]
theorem find_place_up.tab7 : rtab .any (opsOf Try.f105 7) = find_place_up.T7 := by kernel_rfl
theorem find_place_up.bits7 : waitsOk find_place_up.T7.2 find_place_up.B7 = true := by kernel_rfl
set_option maxHeartbeats 8000000 in
set_option maxRecDepth 100000 in
theorem find_place_up.calls (k : Nat) (a0_0 : Int) (a0_1 : Int) (A0_2 : Option Addr) (c0_2 : Nat) (l0_2 : List (List (S23))) (A0_3 : Option Addr) (c0_3 : Nat) (l0_3 : List (S70)) (a1 : Int)  (r1 : Int) (r2 : Bool) (w : World) (hr0_2 : Kd.C (Kd.slice 23 k23) w A0_2 l0_2.length l0_2) (hc0_2 : l0_2.length ≤ c0_2) (hr0_3 : Kd.C k70 w A0_3 l0_3.length l0_3) (hc0_3 : l0_3.length ≤ c0_3) (h : find_place_up.f k a0_0 a0_1 l0_2 l0_3 a1 = some (r1, r2)) :
 Calls Try.prog 105 #[.agg #[.int .i64 a0_0, .int .i64 a0_1, .slice A0_2 l0_2.length c0_2, .slice A0_3 l0_3.length c0_3], .int .i64 a1, .agg #[.int .i64 1, .func (.func 25) #[] #[], .func (.func 88) #[] #[], .func (.func 89) #[] #[]]] w fun e w' => e = .returned (.tuple #[.int .i64 r1, .bool r2]) ∧ Below w.heap.size w w' := by
 have hu28 := Try.underlying28
 have hu79 := Try.underlying79
 have hu23 := Try.underlying23
 have HR0_2 := am hr0_2
 have HC0_2 := am hc0_2
 clear hr0_2 hc0_2
 have HR0_3 := am hr0_3
 have HC0_3 := am hc0_3
 clear hr0_3 hc0_3
 have HB := am (Below.refl w.heap.size w)
 have H : (find_place_up.l0 k a1 0 false l0_2 (l0_2.length : Int) 0 a0_0 a0_1 l0_2 l0_3 1) = some (r1, r2) := h
 clear h
 have H' := am H
 clear H
 go_enter Try.func105, Try.ntmps105
 go_wp2_with (first | ((with_reducible refine gate_dst (N := 3) rfl ?_); refine bx 3 28 #[.int .i64 a0_0, .int .i64 a0_1, .slice A0_2 l0_2.length c0_2, .slice A0_3 l0_3.length c0_3] ?_; intro gb191 hg w4 hbox hb; have BK191 := am (hbox); have GW191 := am ((bz hg HB.out : w.heap.size ≤ gb191)); have GE191 := am ((bz hg HB.out : w.heap.size ≤ gb191)); replace HB := am (below_step (bl HB.out) hb); clear hb hbox hg) | ((with_reducible refine gate_dst (N := 5) rfl ?_); refine bx 5 79 #[.int .i64 1, .func (.func 25) #[] #[], .func (.func 88) #[] #[], .func (.func 89) #[] #[]] ?_; intro gb192 hg w5 hbox hb; have BK192 := am (hbox); have GW192 := am ((bz1 hg HB.out GE191.out : w.heap.size ≤ gb192)); have GE192 := am ((bz1 hg HB.out GE191.out : w.heap.size ≤ gb192)); replace HB := am (below_step (bl1 HB.out GE191.out) hb); have NB191_192 := am ((nl hg BK191.out : gb191 ≠ gb192)); have NB192_191 := am ((ng hg BK191.out : gb192 ≠ gb191)); replace BK191 := am (blk_below (kp BK191.out) hb); clear hb hbox hg; have hnb6 := NB191_192.out; have hnc6 := NB192_191.out; have hcz7_0 : w5.cell? ⟨gb191, 0, none⟩ = some (.int .i64 a0_0) := bc BK191.out 0; have hcz7_1 : w5.cell? ⟨gb191, 1, none⟩ = some (.int .i64 a0_1) := bc BK191.out 1; have hcz7_2 : w5.cell? ⟨gb191, 2, none⟩ = some (.slice A0_2 l0_2.length c0_2) := bc BK191.out 2; have hcz7_3 : w5.cell? ⟨gb191, 3, none⟩ = some (.slice A0_3 l0_3.length c0_3) := bc BK191.out 3; have hfz7_0 := blk_frozen BK191.out 0; have hfz7_1 := blk_frozen BK191.out 1; have hfz7_2 := blk_frozen BK191.out 2; have hfz7_3 := blk_frozen BK191.out 3))
 go_loopg [8, 9, 18] k (fun kq v8 v9 v18 w' => ∃ (x8_1 : Int) (x9_1 : Bool) (x18_1 : Int), v8 = .int .i64 x8_1 ∧ v9 = .bool x9_1 ∧ v18 = .int .i64 x18_1 ∧ Aside0 (find_place_up.l0 kq a1 x8_1 x9_1 l0_2 (l0_2.length : Int) x18_1 a0_0 a0_1 l0_2 l0_3 1 = some (r1, r2)) ∧ Aside0 (kq ≤ k) ∧ Aside0 (w'.heap[gb191]? = some (.cells #[.int .i64 a0_0, .int .i64 a0_1, (.slice A0_2 l0_2.length c0_2), (.slice A0_3 l0_3.length c0_3)] 28 (0, 0))) ∧ Aside0 (w'.heap[gb192]? = some (.cells #[.int .i64 1, (.func (.func 25) #[] #[]), (.func (.func 88) #[] #[]), (.func (.func 89) #[] #[])] 79 (0, 0))) ∧ Aside0 (Below w.heap.size w w'))
 case atStart => exact ⟨(0), (false), (0), sm, sm, sm, H', ⟨Nat.le_refl _⟩, ⟨kp BK191.out⟩, ⟨kp BK192.out⟩, ⟨bl2 HB.out GE191.out GE192.out⟩⟩
 case round =>
  clear H'
  try clear c1
  try clear p2
  try clear c6
  try clear hcz7_0
  try clear hcz7_1
  try clear hcz7_2
  try clear hcz7_3
  try clear hfz7_0
  try clear hfz7_1
  try clear hfz7_2
  try clear hfz7_3
  obtain ⟨x8_1, x9_1, x18_1, rfl, rfl, rfl, HA, HK1, BK191, BK192, HB⟩ := hrel
  cases gk with
  | zero => exact absurd HA.out (by simp [find_place_up.l0])
  | succ k1 =>
   have H := HA.out
   clear HA
   simp only [find_place_up.l0] at H
   by_cases c8 : x18_1 < (l0_2.length : Int)
   ·rw [if_pos c8] at H
    have c8b0 : decide (x18_1 < (l0_2.length : Int)) = true := decide_eq_true c8
    clear c8
    by_cases c9 : 0 ≤ x18_1
    ·rw [if_pos c9] at H
     have c9b0 : decide (0 ≤ x18_1) = true := decide_eq_true c9
     clear c9
     by_cases c10 : x18_1 < (l0_2.length : Int)
     ·rw [if_pos c10] at H
      have c10b0 : decide (x18_1 < (l0_2.length : Int)) = true := decide_eq_true c10
      clear c10
      replace H := Option.bind_eq_some_iff.mp H
      obtain ⟨⟨t194, t195, t196⟩, A110, H⟩ := H
      try dsimp only at H
      have A11 := am A110
      clear A110
      by_cases c12 : t196 = true
      ·subst c12
       have H1 : ((find_up_1.f k1 t194 t195 a1 a0_0).bind fun t198 => (if x9_1 = true then (if (wrap64 ((wrap64 ((wrap64 ((wrap64 (t198 * a0_1)) + x18_1)) - x8_1)) * 1)) < 0 then (find_place_up.l0 k1 a1 (wrap64 ((wrap64 (t198 * a0_1)) + x18_1)) true l0_2 (l0_2.length : Int) (wrap64 (x18_1 + 1)) a0_0 a0_1 l0_2 l0_3 1) else (find_place_up.l0 k1 a1 x8_1 x9_1 l0_2 (l0_2.length : Int) (wrap64 (x18_1 + 1)) a0_0 a0_1 l0_2 l0_3 1)) else (find_place_up.l0 k1 a1 (wrap64 ((wrap64 (t198 * a0_1)) + x18_1)) true l0_2 (l0_2.length : Int) (wrap64 (x18_1 + 1)) a0_0 a0_1 l0_2 l0_3 1))) = some (r1, r2) := by rw [if_pos rfl] at H; exact H
       clear H
       have H := H1
       clear H1
       replace H := Option.bind_eq_some_iff.mp H
       obtain ⟨t198, A130, H⟩ := H
       try dsimp only at H
       have A13 := am A130
       clear A130
       by_cases c14 : x9_1 = true
       ·subst c14
        have H1 : (if (wrap64 ((wrap64 ((wrap64 ((wrap64 (t198 * a0_1)) + x18_1)) - x8_1)) * 1)) < 0 then (find_place_up.l0 k1 a1 (wrap64 ((wrap64 (t198 * a0_1)) + x18_1)) true l0_2 (l0_2.length : Int) (wrap64 (x18_1 + 1)) a0_0 a0_1 l0_2 l0_3 1) else (find_place_up.l0 k1 a1 x8_1 true l0_2 (l0_2.length : Int) (wrap64 (x18_1 + 1)) a0_0 a0_1 l0_2 l0_3 1)) = some (r1, r2) := by rw [if_pos rfl] at H; exact H
        clear H
        have H := H1
        clear H1
        by_cases c15 : (wrap64 ((wrap64 ((wrap64 ((wrap64 (t198 * a0_1)) + x18_1)) - x8_1)) * 1)) < 0
        ·rw [if_pos c15] at H
         have c15b0 : decide ((wrap64 ((wrap64 ((wrap64 ((wrap64 (t198 * a0_1)) + x18_1)) - x8_1)) * 1)) < 0) = true := decide_eq_true c15
         (try simp only [Int.mul_one, Int.mul_neg, Int.add_zero] at c15b0)
         clear c15
         have H' := am H
         clear H
         have p193 : 0 ≤ (x18_1 : Int) := of_decide_eq_true asm
         have q193 : x18_1 < (l0_2.length : Int) := of_decide_eq_true asm
         obtain ⟨ad193, A193_0, c193_0, e193, hx193_0, hl193_0, hi193_0⟩ := at_L2 HR0_2.out x18_1 p193 q193
         cases e193
         replace hx193_0 := (HB.out.cell (World.block_lt_of_cell? w _ hx193_0)).trans hx193_0
         have HR193_0 := am hi193_0
         have HC193_0 := am hl193_0
         clear hi193_0 hl193_0
         replace p193 := eq_true p193
         replace q193 := eq_true q193
         try go_wp2_with (first | ((with_reducible refine gate_callee (f := 43) rfl ?_); refine goesL_ (some 25) rfl rfl Try.func43 (by kernel_rfl) rfl #[.slice A193_0 (rd_L2 l0_2 x18_1).length c193_0] rfl ar ?_; (with_reducible refine (spans_Hull.calls _ _ (rd_L2 l0_2 x18_1) t194 t195 true _ ?side1 ?side2 A11.out).mono ?_); (case side1 => exact kc (Kd.C_below HR193_0.out HB.out)); (case side2 => exact HC193_0.out); rintro e w16 ⟨rfl, hb⟩; refine ⟨_, rfl, ?_⟩; replace BK191 := am (blk_below (kp BK191.out) hb); replace BK192 := am (blk_below (kp BK192.out) hb); replace HB := am (below_step (bl2 HB.out GE191.out GE192.out) hb); (try clear hb); (try clear hb2); (try clear hk); (try clear hi)) | ((with_reducible refine gate_dst (N := 12) rfl ?_); refine bx 12 23 #[.int .i64 0, .int .i64 0] ?_; intro gb197 hg w17 hbox hb; have BK197 := am (hbox); have GW197 := am ((bz2 hg HB.out GE191.out GE192.out : w.heap.size ≤ gb197)); have GE197 := am ((bz2 hg HB.out GE191.out GE192.out : w.heap.size ≤ gb197)); replace HB := am (below_step (bl2 HB.out GE191.out GE192.out) hb); have NB191_197 := am ((nl hg BK191.out : gb191 ≠ gb197)); have NB197_191 := am ((ng hg BK191.out : gb197 ≠ gb191)); replace BK191 := am (blk_below (kp BK191.out) hb); have NB192_197 := am ((nl hg BK192.out : gb192 ≠ gb197)); have NB197_192 := am ((ng hg BK192.out : gb197 ≠ gb192)); replace BK192 := am (blk_below (kp BK192.out) hb); clear hb hbox hg; have hnb18 := NB197_191.out; have hnc18 := NB191_197.out; have hnb19 := NB197_192.out; have hnc19 := NB192_197.out; have hcz20_0 : w17.cell? ⟨gb197, 0, none⟩ = some (.int .i64 0) := bc BK197.out 0; have hcz20_1 : w17.cell? ⟨gb197, 1, none⟩ = some (.int .i64 0) := bc BK197.out 1; have hfz20_0 := blk_frozen BK197.out 0; have hfz20_1 := blk_frozen BK197.out 1))
         have n0_ : Aside0 (((w17.setCell ⟨gb197, 0, none⟩ (.int .i64 t194)).setCell ⟨gb197, 1, none⟩ (.int .i64 t195)).heap[gb191]? = some (.cells #[.int .i64 a0_0, .int .i64 a0_1, .slice (some ad193) l0_2.length c0_2, .slice A0_3 l0_3.length c0_3] 28 (0, 0))) := ⟨kf BK191.out NB191_197.out⟩
         have n1_ : Aside0 (((w17.setCell ⟨gb197, 0, none⟩ (.int .i64 t194)).setCell ⟨gb197, 1, none⟩ (.int .i64 t195)).heap[gb192]? = some (.cells #[.int .i64 1, .func (.func 25) #[] #[], .func (.func 88) #[] #[], .func (.func 89) #[] #[]] 79 (0, 0))) := ⟨kf BK192.out NB192_197.out⟩
         have n2_ : Aside0 (((w17.setCell ⟨gb197, 0, none⟩ (.int .i64 t194)).setCell ⟨gb197, 1, none⟩ (.int .i64 t195)).heap[gb197]? = some (.cells #[.int .i64 t194, .int .i64 t195] 23 (0, 0))) := ⟨by (with_reducible repeat (first | refine blk_drewN ?_ _ | refine blk_drew ?_ | refine blk_alloc ?_ _)); refine blk_put (cs := #[.int .i64 t194, .int .i64 0]) ?_ 1 _ rfl; (with_reducible repeat (first | refine blk_drewN ?_ _ | refine blk_drew ?_ | refine blk_alloc ?_ _)); refine blk_put (cs := #[.int .i64 0, .int .i64 0]) ?_ 0 _ rfl; (with_reducible repeat (first | refine blk_drewN ?_ _ | refine blk_drew ?_ | refine blk_alloc ?_ _)); exact BK197.out⟩
         have n3_ : Aside0 (Below w.heap.size w ((w17.setCell ⟨gb197, 0, none⟩ (.int .i64 t194)).setCell ⟨gb197, 1, none⟩ (.int .i64 t195))) := ⟨bl3 HB.out GE191.out GE192.out GE197.out⟩
         (try clear BK191)
         (try clear BK192)
         (try clear BK197)
         (try clear HB)
         generalize ((w17.setCell ⟨gb197, 0, none⟩ (.int .i64 t194)).setCell ⟨gb197, 1, none⟩ (.int .i64 t195)) = w21 at n0_ n1_ n2_ n3_ ⊢
         have BK191 := n0_
         have BK192 := n1_
         have BK197 := n2_
         have HB := n3_
         clear n0_ n1_ n2_ n3_
         replace BK191 := am (blk_drew BK191.out)
         replace BK192 := am (blk_drew BK192.out)
         replace BK197 := am (blk_drew BK197.out)
         replace HB := am (below_drew1 HB.out)
         refine start_ (n := 13) (S := fun w' => w'.cell? ⟨gb192, 0, none⟩ = some (.int .i64 1) ∧ w'.cell? ⟨gb192, 1, none⟩ = some (.func (.func 25) #[] #[]) ∧ w'.cell? ⟨gb192, 2, none⟩ = some (.func (.func 88) #[] #[]) ∧ w'.cell? ⟨gb192, 3, none⟩ = some (.func (.func 89) #[] #[]) ∧ w'.cell? ⟨gb197, 0, none⟩ = some (.int .i64 t194) ∧ w'.cell? ⟨gb197, 1, none⟩ = some (.int .i64 t195) ∧ w'.cell? ⟨gb191, 0, none⟩ = some (.int .i64 a0_0) ∧ w'.cell? ⟨gb191, 1, none⟩ = some (.int .i64 a0_1) ∧ w'.cell? ⟨gb191, 2, none⟩ = some (.slice (some ad193) l0_2.length c0_2) ∧ w'.cell? ⟨gb191, 3, none⟩ = some (.slice A0_3 l0_3.length c0_3)) (ds := []) (bs 13 0) (by kernel_rfl) rfl rfl ⟨bc BK192.out 0, bc BK192.out 1, bc BK192.out 2, bc BK192.out 3, bc BK197.out 0, bc BK197.out 1, bc BK191.out 0, bc BK191.out 1, bc BK191.out 2, bc BK191.out 3⟩ (fun hHeld => ?_); refine with_tabW find_place_up.tab7 find_place_up.bits7 (fun HT_ HW_ => ?_)
         generalize w21.drew = w22 at BK191 BK192 BK197 HB hHeld ⊢
         refine px 0 30 (bs 13 1) HT_.out ?_
         refine px 3 33 (bs 13 9) HT_.out ?_
         refine px 4 34 (bs 13 25) HT_.out ?_
         refine px 7 37 (bs 13 153) HT_.out ?_
         refine px 10 40 (bs 13 1177) HT_.out ?_
         refine tx 1 31 (bs 13 1179) HT_.out HW_.out hHeld ?_
         refine tx 2 32 (bs 13 1183) HT_.out HW_.out hHeld ?_
         refine tx 5 35 (bs 13 1215) HT_.out HW_.out hHeld ?_
         refine tx 8 38 (bs 13 1471) HT_.out HW_.out hHeld ?_
         refine one_ (i := 6) (N := some 36) (bs 13 1535) rfl rfl (one_of HT_.out (by kernel_rfl)) (by decide) (fun K hK => ?_)
         first | refine goes_ Try.func88 (by kernel_rfl) rfl #[.agg #[.int .i64 t194, .int .i64 t195], .int .i64 a1, .int .i64 a0_0] (by rfl) rfl rfl ar ?_ | refine goesV_ Try.func88 (by kernel_rfl) rfl #[.agg #[.int .i64 t194, .int .i64 t195], .int .i64 a1, .int .i64 a0_0] (by rfl) rfl rfl rfl ar ?_
         with_reducible refine (find_up_1.calls k1 t194 t195 a1 a0_0 t198 _ A13.out).mono ?_
         rintro e w23 ⟨rfl, hb⟩
         refine ⟨_, rfl, ?_⟩
         replace BK191 := am (blk_below (kp BK191.out) hb)
         replace BK192 := am (blk_below (kp BK192.out) hb)
         replace BK197 := am (blk_below (kp BK197.out) hb)
         replace HB := am (below_step (bl3 HB.out GE191.out GE192.out GE197.out) hb)
         (try clear hb)
         (try clear hb2)
         (try clear hk)
         (try clear hi)
         refine hK.out _ _ ⟨bc BK192.out 0, bc BK192.out 1, bc BK192.out 2, bc BK192.out 3, bc BK197.out 0, bc BK197.out 1, bc BK191.out 0, bc BK191.out 1, bc BK191.out 2, bc BK191.out 3⟩ (fun hHeld => ?_)
         clear hK K
         refine nx ?_
         refine px 9 39 (bs 13 2047) HT_.out ?_
         refine px 11 41 (bs 13 4095) HT_.out ?_
         refine px 12 14 (bs 13 8191) HT_.out ?_
         refine done_ (done_of HT_.out (by kernel_rfl)) ?_
         have hnb24 := NB192_191.out
         have hnc24 := NB191_192.out
         have hcz25_0 : w23.cell? ⟨gb192, 0, none⟩ = some (.int .i64 1) := bc BK192.out 0
         have hcz25_1 : w23.cell? ⟨gb192, 1, none⟩ = some (.func (.func 25) #[] #[]) := bc BK192.out 1
         have hcz25_2 : w23.cell? ⟨gb192, 2, none⟩ = some (.func (.func 88) #[] #[]) := bc BK192.out 2
         have hcz25_3 : w23.cell? ⟨gb192, 3, none⟩ = some (.func (.func 89) #[] #[]) := bc BK192.out 3
         have hfz25_0 := blk_frozen BK192.out 0
         have hfz25_1 := blk_frozen BK192.out 1
         have hfz25_2 := blk_frozen BK192.out 2
         have hfz25_3 := blk_frozen BK192.out 3
         try go_wp2
         go_roundg k1
         case measure => have := HK1.out; omega
         case rel => exact ⟨(wrap64 ((wrap64 (t198 * a0_1)) + x18_1)), (true), (wrap64 (x18_1 + 1)), sm, sm, sm, H', ⟨by have := HK1.out; omega⟩, ⟨kp BK191.out⟩, ⟨kp BK192.out⟩, ⟨bl3 HB.out GE191.out GE192.out GE197.out⟩⟩
        ·rw [if_neg c15] at H
         have c15b0 : decide ((wrap64 ((wrap64 ((wrap64 ((wrap64 (t198 * a0_1)) + x18_1)) - x8_1)) * 1)) < 0) = false := decide_eq_false c15
         (try simp only [Int.mul_one, Int.mul_neg, Int.add_zero] at c15b0)
         clear c15
         have H' := am H
         clear H
         have p193 : 0 ≤ (x18_1 : Int) := of_decide_eq_true asm
         have q193 : x18_1 < (l0_2.length : Int) := of_decide_eq_true asm
         obtain ⟨ad193, A193_0, c193_0, e193, hx193_0, hl193_0, hi193_0⟩ := at_L2 HR0_2.out x18_1 p193 q193
         cases e193
         replace hx193_0 := (HB.out.cell (World.block_lt_of_cell? w _ hx193_0)).trans hx193_0
         have HR193_0 := am hi193_0
         have HC193_0 := am hl193_0
         clear hi193_0 hl193_0
         replace p193 := eq_true p193
         replace q193 := eq_true q193
         try go_wp2_with (first | ((with_reducible refine gate_callee (f := 43) rfl ?_); refine goesL_ (some 25) rfl rfl Try.func43 (by kernel_rfl) rfl #[.slice A193_0 (rd_L2 l0_2 x18_1).length c193_0] rfl ar ?_; (with_reducible refine (spans_Hull.calls _ _ (rd_L2 l0_2 x18_1) t194 t195 true _ ?side1 ?side2 A11.out).mono ?_); (case side1 => exact kc (Kd.C_below HR193_0.out HB.out)); (case side2 => exact HC193_0.out); rintro e w26 ⟨rfl, hb⟩; refine ⟨_, rfl, ?_⟩; replace BK191 := am (blk_below (kp BK191.out) hb); replace BK192 := am (blk_below (kp BK192.out) hb); replace HB := am (below_step (bl2 HB.out GE191.out GE192.out) hb); (try clear hb); (try clear hb2); (try clear hk); (try clear hi)) | ((with_reducible refine gate_dst (N := 12) rfl ?_); refine bx 12 23 #[.int .i64 0, .int .i64 0] ?_; intro gb197 hg w27 hbox hb; have BK197 := am (hbox); have GW197 := am ((bz2 hg HB.out GE191.out GE192.out : w.heap.size ≤ gb197)); have GE197 := am ((bz2 hg HB.out GE191.out GE192.out : w.heap.size ≤ gb197)); replace HB := am (below_step (bl2 HB.out GE191.out GE192.out) hb); have NB191_197 := am ((nl hg BK191.out : gb191 ≠ gb197)); have NB197_191 := am ((ng hg BK191.out : gb197 ≠ gb191)); replace BK191 := am (blk_below (kp BK191.out) hb); have NB192_197 := am ((nl hg BK192.out : gb192 ≠ gb197)); have NB197_192 := am ((ng hg BK192.out : gb197 ≠ gb192)); replace BK192 := am (blk_below (kp BK192.out) hb); clear hb hbox hg; have hnb28 := NB197_191.out; have hnc28 := NB191_197.out; have hnb29 := NB197_192.out; have hnc29 := NB192_197.out; have hcz30_0 : w27.cell? ⟨gb197, 0, none⟩ = some (.int .i64 0) := bc BK197.out 0; have hcz30_1 : w27.cell? ⟨gb197, 1, none⟩ = some (.int .i64 0) := bc BK197.out 1; have hfz30_0 := blk_frozen BK197.out 0; have hfz30_1 := blk_frozen BK197.out 1))
         have n0_ : Aside0 (((w27.setCell ⟨gb197, 0, none⟩ (.int .i64 t194)).setCell ⟨gb197, 1, none⟩ (.int .i64 t195)).heap[gb191]? = some (.cells #[.int .i64 a0_0, .int .i64 a0_1, .slice (some ad193) l0_2.length c0_2, .slice A0_3 l0_3.length c0_3] 28 (0, 0))) := ⟨kf BK191.out NB191_197.out⟩
         have n1_ : Aside0 (((w27.setCell ⟨gb197, 0, none⟩ (.int .i64 t194)).setCell ⟨gb197, 1, none⟩ (.int .i64 t195)).heap[gb192]? = some (.cells #[.int .i64 1, .func (.func 25) #[] #[], .func (.func 88) #[] #[], .func (.func 89) #[] #[]] 79 (0, 0))) := ⟨kf BK192.out NB192_197.out⟩
         have n2_ : Aside0 (((w27.setCell ⟨gb197, 0, none⟩ (.int .i64 t194)).setCell ⟨gb197, 1, none⟩ (.int .i64 t195)).heap[gb197]? = some (.cells #[.int .i64 t194, .int .i64 t195] 23 (0, 0))) := ⟨by (with_reducible repeat (first | refine blk_drewN ?_ _ | refine blk_drew ?_ | refine blk_alloc ?_ _)); refine blk_put (cs := #[.int .i64 t194, .int .i64 0]) ?_ 1 _ rfl; (with_reducible repeat (first | refine blk_drewN ?_ _ | refine blk_drew ?_ | refine blk_alloc ?_ _)); refine blk_put (cs := #[.int .i64 0, .int .i64 0]) ?_ 0 _ rfl; (with_reducible repeat (first | refine blk_drewN ?_ _ | refine blk_drew ?_ | refine blk_alloc ?_ _)); exact BK197.out⟩
         have n3_ : Aside0 (Below w.heap.size w ((w27.setCell ⟨gb197, 0, none⟩ (.int .i64 t194)).setCell ⟨gb197, 1, none⟩ (.int .i64 t195))) := ⟨bl3 HB.out GE191.out GE192.out GE197.out⟩
         (try clear BK191)
         (try clear BK192)
         (try clear BK197)
         (try clear HB)
         generalize ((w27.setCell ⟨gb197, 0, none⟩ (.int .i64 t194)).setCell ⟨gb197, 1, none⟩ (.int .i64 t195)) = w31 at n0_ n1_ n2_ n3_ ⊢
         have BK191 := n0_
         have BK192 := n1_
         have BK197 := n2_
         have HB := n3_
         clear n0_ n1_ n2_ n3_
         replace BK191 := am (blk_drew BK191.out)
         replace BK192 := am (blk_drew BK192.out)
         replace BK197 := am (blk_drew BK197.out)
         replace HB := am (below_drew1 HB.out)
         refine start_ (n := 13) (S := fun w' => w'.cell? ⟨gb192, 0, none⟩ = some (.int .i64 1) ∧ w'.cell? ⟨gb192, 1, none⟩ = some (.func (.func 25) #[] #[]) ∧ w'.cell? ⟨gb192, 2, none⟩ = some (.func (.func 88) #[] #[]) ∧ w'.cell? ⟨gb192, 3, none⟩ = some (.func (.func 89) #[] #[]) ∧ w'.cell? ⟨gb197, 0, none⟩ = some (.int .i64 t194) ∧ w'.cell? ⟨gb197, 1, none⟩ = some (.int .i64 t195) ∧ w'.cell? ⟨gb191, 0, none⟩ = some (.int .i64 a0_0) ∧ w'.cell? ⟨gb191, 1, none⟩ = some (.int .i64 a0_1) ∧ w'.cell? ⟨gb191, 2, none⟩ = some (.slice (some ad193) l0_2.length c0_2) ∧ w'.cell? ⟨gb191, 3, none⟩ = some (.slice A0_3 l0_3.length c0_3)) (ds := []) (bs 13 0) (by kernel_rfl) rfl rfl ⟨bc BK192.out 0, bc BK192.out 1, bc BK192.out 2, bc BK192.out 3, bc BK197.out 0, bc BK197.out 1, bc BK191.out 0, bc BK191.out 1, bc BK191.out 2, bc BK191.out 3⟩ (fun hHeld => ?_); refine with_tabW find_place_up.tab7 find_place_up.bits7 (fun HT_ HW_ => ?_)
         generalize w31.drew = w32 at BK191 BK192 BK197 HB hHeld ⊢
         refine px 0 30 (bs 13 1) HT_.out ?_
         refine px 3 33 (bs 13 9) HT_.out ?_
         refine px 4 34 (bs 13 25) HT_.out ?_
         refine px 7 37 (bs 13 153) HT_.out ?_
         refine px 10 40 (bs 13 1177) HT_.out ?_
         refine tx 1 31 (bs 13 1179) HT_.out HW_.out hHeld ?_
         refine tx 2 32 (bs 13 1183) HT_.out HW_.out hHeld ?_
         refine tx 5 35 (bs 13 1215) HT_.out HW_.out hHeld ?_
         refine tx 8 38 (bs 13 1471) HT_.out HW_.out hHeld ?_
         refine one_ (i := 6) (N := some 36) (bs 13 1535) rfl rfl (one_of HT_.out (by kernel_rfl)) (by decide) (fun K hK => ?_)
         first | refine goes_ Try.func88 (by kernel_rfl) rfl #[.agg #[.int .i64 t194, .int .i64 t195], .int .i64 a1, .int .i64 a0_0] (by rfl) rfl rfl ar ?_ | refine goesV_ Try.func88 (by kernel_rfl) rfl #[.agg #[.int .i64 t194, .int .i64 t195], .int .i64 a1, .int .i64 a0_0] (by rfl) rfl rfl rfl ar ?_
         with_reducible refine (find_up_1.calls k1 t194 t195 a1 a0_0 t198 _ A13.out).mono ?_
         rintro e w33 ⟨rfl, hb⟩
         refine ⟨_, rfl, ?_⟩
         replace BK191 := am (blk_below (kp BK191.out) hb)
         replace BK192 := am (blk_below (kp BK192.out) hb)
         replace BK197 := am (blk_below (kp BK197.out) hb)
         replace HB := am (below_step (bl3 HB.out GE191.out GE192.out GE197.out) hb)
         (try clear hb)
         (try clear hb2)
         (try clear hk)
         (try clear hi)
         refine hK.out _ _ ⟨bc BK192.out 0, bc BK192.out 1, bc BK192.out 2, bc BK192.out 3, bc BK197.out 0, bc BK197.out 1, bc BK191.out 0, bc BK191.out 1, bc BK191.out 2, bc BK191.out 3⟩ (fun hHeld => ?_)
         clear hK K
         refine nx ?_
         refine px 9 39 (bs 13 2047) HT_.out ?_
         refine px 11 41 (bs 13 4095) HT_.out ?_
         refine px 12 14 (bs 13 8191) HT_.out ?_
         refine done_ (done_of HT_.out (by kernel_rfl)) ?_
         have hnb34 := NB192_191.out
         have hnc34 := NB191_192.out
         have hcz35_0 : w33.cell? ⟨gb192, 0, none⟩ = some (.int .i64 1) := bc BK192.out 0
         have hcz35_1 : w33.cell? ⟨gb192, 1, none⟩ = some (.func (.func 25) #[] #[]) := bc BK192.out 1
         have hcz35_2 : w33.cell? ⟨gb192, 2, none⟩ = some (.func (.func 88) #[] #[]) := bc BK192.out 2
         have hcz35_3 : w33.cell? ⟨gb192, 3, none⟩ = some (.func (.func 89) #[] #[]) := bc BK192.out 3
         have hfz35_0 := blk_frozen BK192.out 0
         have hfz35_1 := blk_frozen BK192.out 1
         have hfz35_2 := blk_frozen BK192.out 2
         have hfz35_3 := blk_frozen BK192.out 3
         try go_wp2
         go_roundg k1
         case measure => have := HK1.out; omega
         case rel => exact ⟨(x8_1), (true), (wrap64 (x18_1 + 1)), sm, sm, sm, H', ⟨by have := HK1.out; omega⟩, ⟨kp BK191.out⟩, ⟨kp BK192.out⟩, ⟨bl3 HB.out GE191.out GE192.out GE197.out⟩⟩
       ·replace c14 := Bool.eq_false_iff.mpr c14
        subst c14
        have H1 : (find_place_up.l0 k1 a1 (wrap64 ((wrap64 (t198 * a0_1)) + x18_1)) true l0_2 (l0_2.length : Int) (wrap64 (x18_1 + 1)) a0_0 a0_1 l0_2 l0_3 1) = some (r1, r2) := by rw [if_neg (show ¬ (false = true) by decide)] at H; exact H
        clear H
        have H := H1
        clear H1
        have H' := am H
        clear H
        have p193 : 0 ≤ (x18_1 : Int) := of_decide_eq_true asm
        have q193 : x18_1 < (l0_2.length : Int) := of_decide_eq_true asm
        obtain ⟨ad193, A193_0, c193_0, e193, hx193_0, hl193_0, hi193_0⟩ := at_L2 HR0_2.out x18_1 p193 q193
        cases e193
        replace hx193_0 := (HB.out.cell (World.block_lt_of_cell? w _ hx193_0)).trans hx193_0
        have HR193_0 := am hi193_0
        have HC193_0 := am hl193_0
        clear hi193_0 hl193_0
        replace p193 := eq_true p193
        replace q193 := eq_true q193
        try go_wp2_with (first | ((with_reducible refine gate_callee (f := 43) rfl ?_); refine goesL_ (some 25) rfl rfl Try.func43 (by kernel_rfl) rfl #[.slice A193_0 (rd_L2 l0_2 x18_1).length c193_0] rfl ar ?_; (with_reducible refine (spans_Hull.calls _ _ (rd_L2 l0_2 x18_1) t194 t195 true _ ?side1 ?side2 A11.out).mono ?_); (case side1 => exact kc (Kd.C_below HR193_0.out HB.out)); (case side2 => exact HC193_0.out); rintro e w36 ⟨rfl, hb⟩; refine ⟨_, rfl, ?_⟩; replace BK191 := am (blk_below (kp BK191.out) hb); replace BK192 := am (blk_below (kp BK192.out) hb); replace HB := am (below_step (bl2 HB.out GE191.out GE192.out) hb); (try clear hb); (try clear hb2); (try clear hk); (try clear hi)) | ((with_reducible refine gate_dst (N := 12) rfl ?_); refine bx 12 23 #[.int .i64 0, .int .i64 0] ?_; intro gb197 hg w37 hbox hb; have BK197 := am (hbox); have GW197 := am ((bz2 hg HB.out GE191.out GE192.out : w.heap.size ≤ gb197)); have GE197 := am ((bz2 hg HB.out GE191.out GE192.out : w.heap.size ≤ gb197)); replace HB := am (below_step (bl2 HB.out GE191.out GE192.out) hb); have NB191_197 := am ((nl hg BK191.out : gb191 ≠ gb197)); have NB197_191 := am ((ng hg BK191.out : gb197 ≠ gb191)); replace BK191 := am (blk_below (kp BK191.out) hb); have NB192_197 := am ((nl hg BK192.out : gb192 ≠ gb197)); have NB197_192 := am ((ng hg BK192.out : gb197 ≠ gb192)); replace BK192 := am (blk_below (kp BK192.out) hb); clear hb hbox hg; have hnb38 := NB197_191.out; have hnc38 := NB191_197.out; have hnb39 := NB197_192.out; have hnc39 := NB192_197.out; have hcz40_0 : w37.cell? ⟨gb197, 0, none⟩ = some (.int .i64 0) := bc BK197.out 0; have hcz40_1 : w37.cell? ⟨gb197, 1, none⟩ = some (.int .i64 0) := bc BK197.out 1; have hfz40_0 := blk_frozen BK197.out 0; have hfz40_1 := blk_frozen BK197.out 1))
        have n0_ : Aside0 (((w37.setCell ⟨gb197, 0, none⟩ (.int .i64 t194)).setCell ⟨gb197, 1, none⟩ (.int .i64 t195)).heap[gb191]? = some (.cells #[.int .i64 a0_0, .int .i64 a0_1, .slice (some ad193) l0_2.length c0_2, .slice A0_3 l0_3.length c0_3] 28 (0, 0))) := ⟨kf BK191.out NB191_197.out⟩
        have n1_ : Aside0 (((w37.setCell ⟨gb197, 0, none⟩ (.int .i64 t194)).setCell ⟨gb197, 1, none⟩ (.int .i64 t195)).heap[gb192]? = some (.cells #[.int .i64 1, .func (.func 25) #[] #[], .func (.func 88) #[] #[], .func (.func 89) #[] #[]] 79 (0, 0))) := ⟨kf BK192.out NB192_197.out⟩
        have n2_ : Aside0 (((w37.setCell ⟨gb197, 0, none⟩ (.int .i64 t194)).setCell ⟨gb197, 1, none⟩ (.int .i64 t195)).heap[gb197]? = some (.cells #[.int .i64 t194, .int .i64 t195] 23 (0, 0))) := ⟨by (with_reducible repeat (first | refine blk_drewN ?_ _ | refine blk_drew ?_ | refine blk_alloc ?_ _)); refine blk_put (cs := #[.int .i64 t194, .int .i64 0]) ?_ 1 _ rfl; (with_reducible repeat (first | refine blk_drewN ?_ _ | refine blk_drew ?_ | refine blk_alloc ?_ _)); refine blk_put (cs := #[.int .i64 0, .int .i64 0]) ?_ 0 _ rfl; (with_reducible repeat (first | refine blk_drewN ?_ _ | refine blk_drew ?_ | refine blk_alloc ?_ _)); exact BK197.out⟩
        have n3_ : Aside0 (Below w.heap.size w ((w37.setCell ⟨gb197, 0, none⟩ (.int .i64 t194)).setCell ⟨gb197, 1, none⟩ (.int .i64 t195))) := ⟨bl3 HB.out GE191.out GE192.out GE197.out⟩
        (try clear BK191)
        (try clear BK192)
        (try clear BK197)
        (try clear HB)
        generalize ((w37.setCell ⟨gb197, 0, none⟩ (.int .i64 t194)).setCell ⟨gb197, 1, none⟩ (.int .i64 t195)) = w41 at n0_ n1_ n2_ n3_ ⊢
        have BK191 := n0_
        have BK192 := n1_
        have BK197 := n2_
        have HB := n3_
        clear n0_ n1_ n2_ n3_
        replace BK191 := am (blk_drew BK191.out)
        replace BK192 := am (blk_drew BK192.out)
        replace BK197 := am (blk_drew BK197.out)
        replace HB := am (below_drew1 HB.out)
        refine start_ (n := 13) (S := fun w' => w'.cell? ⟨gb192, 0, none⟩ = some (.int .i64 1) ∧ w'.cell? ⟨gb192, 1, none⟩ = some (.func (.func 25) #[] #[]) ∧ w'.cell? ⟨gb192, 2, none⟩ = some (.func (.func 88) #[] #[]) ∧ w'.cell? ⟨gb192, 3, none⟩ = some (.func (.func 89) #[] #[]) ∧ w'.cell? ⟨gb197, 0, none⟩ = some (.int .i64 t194) ∧ w'.cell? ⟨gb197, 1, none⟩ = some (.int .i64 t195) ∧ w'.cell? ⟨gb191, 0, none⟩ = some (.int .i64 a0_0) ∧ w'.cell? ⟨gb191, 1, none⟩ = some (.int .i64 a0_1) ∧ w'.cell? ⟨gb191, 2, none⟩ = some (.slice (some ad193) l0_2.length c0_2) ∧ w'.cell? ⟨gb191, 3, none⟩ = some (.slice A0_3 l0_3.length c0_3)) (ds := []) (bs 13 0) (by kernel_rfl) rfl rfl ⟨bc BK192.out 0, bc BK192.out 1, bc BK192.out 2, bc BK192.out 3, bc BK197.out 0, bc BK197.out 1, bc BK191.out 0, bc BK191.out 1, bc BK191.out 2, bc BK191.out 3⟩ (fun hHeld => ?_); refine with_tabW find_place_up.tab7 find_place_up.bits7 (fun HT_ HW_ => ?_)
        generalize w41.drew = w42 at BK191 BK192 BK197 HB hHeld ⊢
        refine px 0 30 (bs 13 1) HT_.out ?_
        refine px 3 33 (bs 13 9) HT_.out ?_
        refine px 4 34 (bs 13 25) HT_.out ?_
        refine px 7 37 (bs 13 153) HT_.out ?_
        refine px 10 40 (bs 13 1177) HT_.out ?_
        refine tx 1 31 (bs 13 1179) HT_.out HW_.out hHeld ?_
        refine tx 2 32 (bs 13 1183) HT_.out HW_.out hHeld ?_
        refine tx 5 35 (bs 13 1215) HT_.out HW_.out hHeld ?_
        refine tx 8 38 (bs 13 1471) HT_.out HW_.out hHeld ?_
        refine one_ (i := 6) (N := some 36) (bs 13 1535) rfl rfl (one_of HT_.out (by kernel_rfl)) (by decide) (fun K hK => ?_)
        first | refine goes_ Try.func88 (by kernel_rfl) rfl #[.agg #[.int .i64 t194, .int .i64 t195], .int .i64 a1, .int .i64 a0_0] (by rfl) rfl rfl ar ?_ | refine goesV_ Try.func88 (by kernel_rfl) rfl #[.agg #[.int .i64 t194, .int .i64 t195], .int .i64 a1, .int .i64 a0_0] (by rfl) rfl rfl rfl ar ?_
        with_reducible refine (find_up_1.calls k1 t194 t195 a1 a0_0 t198 _ A13.out).mono ?_
        rintro e w43 ⟨rfl, hb⟩
        refine ⟨_, rfl, ?_⟩
        replace BK191 := am (blk_below (kp BK191.out) hb)
        replace BK192 := am (blk_below (kp BK192.out) hb)
        replace BK197 := am (blk_below (kp BK197.out) hb)
        replace HB := am (below_step (bl3 HB.out GE191.out GE192.out GE197.out) hb)
        (try clear hb)
        (try clear hb2)
        (try clear hk)
        (try clear hi)
        refine hK.out _ _ ⟨bc BK192.out 0, bc BK192.out 1, bc BK192.out 2, bc BK192.out 3, bc BK197.out 0, bc BK197.out 1, bc BK191.out 0, bc BK191.out 1, bc BK191.out 2, bc BK191.out 3⟩ (fun hHeld => ?_)
        clear hK K
        refine nx ?_
        refine px 9 39 (bs 13 2047) HT_.out ?_
        refine px 11 41 (bs 13 4095) HT_.out ?_
        refine px 12 14 (bs 13 8191) HT_.out ?_
        refine done_ (done_of HT_.out (by kernel_rfl)) ?_
        try go_wp2
        go_roundg k1
        case measure => have := HK1.out; omega
        case rel => exact ⟨(wrap64 ((wrap64 (t198 * a0_1)) + x18_1)), (true), (wrap64 (x18_1 + 1)), sm, sm, sm, H', ⟨by have := HK1.out; omega⟩, ⟨kp BK191.out⟩, ⟨kp BK192.out⟩, ⟨bl3 HB.out GE191.out GE192.out GE197.out⟩⟩
      ·replace c12 := Bool.eq_false_iff.mpr c12
       subst c12
       have H1 : (find_place_up.l0 k1 a1 x8_1 x9_1 l0_2 (l0_2.length : Int) (wrap64 (x18_1 + 1)) a0_0 a0_1 l0_2 l0_3 1) = some (r1, r2) := by rw [if_neg (show ¬ (false = true) by decide)] at H; exact H
       clear H
       have H := H1
       clear H1
       have H' := am H
       clear H
       have p193 : 0 ≤ (x18_1 : Int) := of_decide_eq_true asm
       have q193 : x18_1 < (l0_2.length : Int) := of_decide_eq_true asm
       obtain ⟨ad193, A193_0, c193_0, e193, hx193_0, hl193_0, hi193_0⟩ := at_L2 HR0_2.out x18_1 p193 q193
       cases e193
       replace hx193_0 := (HB.out.cell (World.block_lt_of_cell? w _ hx193_0)).trans hx193_0
       have HR193_0 := am hi193_0
       have HC193_0 := am hl193_0
       clear hi193_0 hl193_0
       replace p193 := eq_true p193
       replace q193 := eq_true q193
       go_wp2_with (first | ((with_reducible refine gate_callee (f := 43) rfl ?_); refine goesL_ (some 25) rfl rfl Try.func43 (by kernel_rfl) rfl #[.slice A193_0 (rd_L2 l0_2 x18_1).length c193_0] rfl ar ?_; (with_reducible refine (spans_Hull.calls _ _ (rd_L2 l0_2 x18_1) t194 t195 false _ ?side1 ?side2 A11.out).mono ?_); (case side1 => exact kc (Kd.C_below HR193_0.out HB.out)); (case side2 => exact HC193_0.out); rintro e w44 ⟨rfl, hb⟩; refine ⟨_, rfl, ?_⟩; replace BK191 := am (blk_below (kp BK191.out) hb); replace BK192 := am (blk_below (kp BK192.out) hb); replace HB := am (below_step (bl2 HB.out GE191.out GE192.out) hb); (try clear hb); (try clear hb2); (try clear hk); (try clear hi)) | ((with_reducible refine gate_dst (N := 12) rfl ?_); refine bx 12 23 #[.int .i64 0, .int .i64 0] ?_; intro gb197 hg w45 hbox hb; have BK197 := am (hbox); have GW197 := am ((bz2 hg HB.out GE191.out GE192.out : w.heap.size ≤ gb197)); have GE197 := am ((bz2 hg HB.out GE191.out GE192.out : w.heap.size ≤ gb197)); replace HB := am (below_step (bl2 HB.out GE191.out GE192.out) hb); have NB191_197 := am ((nl hg BK191.out : gb191 ≠ gb197)); have NB197_191 := am ((ng hg BK191.out : gb197 ≠ gb191)); replace BK191 := am (blk_below (kp BK191.out) hb); have NB192_197 := am ((nl hg BK192.out : gb192 ≠ gb197)); have NB197_192 := am ((ng hg BK192.out : gb197 ≠ gb192)); replace BK192 := am (blk_below (kp BK192.out) hb); clear hb hbox hg; have hnb46 := NB197_191.out; have hnc46 := NB191_197.out; have hnb47 := NB197_192.out; have hnc47 := NB192_197.out; have hcz48_0 : w45.cell? ⟨gb197, 0, none⟩ = some (.int .i64 0) := bc BK197.out 0; have hcz48_1 : w45.cell? ⟨gb197, 1, none⟩ = some (.int .i64 0) := bc BK197.out 1; have hfz48_0 := blk_frozen BK197.out 0; have hfz48_1 := blk_frozen BK197.out 1))
       go_roundg k1
       case measure => have := HK1.out; omega
       case rel => exact ⟨(x8_1), (x9_1), (wrap64 (x18_1 + 1)), sm, sm, sm, H', ⟨by have := HK1.out; omega⟩, ⟨kf BK191.out NB191_197.out⟩, ⟨kf BK192.out NB192_197.out⟩, ⟨bl3 HB.out GE191.out GE192.out GE197.out⟩⟩
     ·rw [if_neg c10] at H
      exact absurd H (by simp)
    ·rw [if_neg c9] at H
     exact absurd H (by simp)
   ·rw [if_neg c8] at H
    have c8b0 : decide (x18_1 < (l0_2.length : Int)) = false := decide_eq_false c8
    clear c8
    simp only [Option.some.injEq, Prod.mk.injEq] at H
    obtain ⟨rfl, rfl⟩ := H
    go_wp2
    go_ret2
    exact ⟨rt, bl2 HB.out GE191.out GE192.out⟩

end Go.Proofs.Ytmbmalkpmanaaaa.P

namespace Go.Proofs.Ytmbmalkpmanaaaa.P
open Go.RowKit Go.Proofs.YtmbmalkpmanaaaaW.PrintWords Go.Proofs.YtmbmalkpmanaaaaW.PrintLast Go.Proofs.YtmbmalkpmanaaaaW.PrintMore
attribute [local go_sem] max2_int min2_int max_two min_two max_three min_three max_four min_four   -- for this text's walks alone
set_option linter.unusedVariables false
set_option linter.unusedSimpArgs false

def gran_inRange.f (a0 : Int) : Option (Bool) := if a0 ≥ (-1099511627776) then (some (decide (a0 ≤ 1099511627776))) else (some false)
set_option maxHeartbeats 8000000 in
set_option maxRecDepth 100000 in
theorem gran_inRange.calls (a0 : Int) (r : Bool) (w : World) (h : gran_inRange.f a0 = some r) :
 Calls Try.prog 55 #[.int .i64 a0] w fun e w' => e = .returned (.bool r) ∧ Drawn0 w w' := by
 have H : (if a0 ≥ (-1099511627776) then (some (decide (a0 ≤ 1099511627776))) else (some false)) = some r := h
 clear h
 by_cases c2 : a0 ≥ (-1099511627776)
 ·rw [if_pos c2] at H
  have c2b0 : decide ((-1099511627776) ≤ a0) = true := decide_eq_true c2
  clear c2
  obtain rfl := Option.some.inj H
  go_enter Try.func55, Try.ntmps55
  go_wp2
  go_ret
  exact ⟨by first | rfl | (simp; done) | (simp [*]; done), by repeat (first | exact Drawn0.refl _ | apply Drawn0.step)⟩
 ·rw [if_neg c2] at H
  have c2b0 : decide ((-1099511627776) ≤ a0) = false := decide_eq_false c2
  clear c2
  obtain rfl := Option.some.inj H
  go_enter Try.func55, Try.ntmps55
  go_wp2
  go_ret
  exact ⟨by first | rfl | (simp; done) | (simp [*]; done), by repeat (first | exact Drawn0.refl _ | apply Drawn0.step)⟩

end Go.Proofs.Ytmbmalkpmanaaaa.P

namespace Go.Proofs.Ytmbmalkpmanaaaa.P
open Go.RowKit Go.Proofs.YtmbmalkpmanaaaaW.PrintWords Go.Proofs.YtmbmalkpmanaaaaW.PrintLast Go.Proofs.YtmbmalkpmanaaaaW.PrintMore
attribute [local go_sem] max2_int min2_int max_two min_two max_three min_three max_four min_four   -- for this text's walks alone
set_option linter.unusedVariables false
set_option linter.unusedSimpArgs false

def cmp_isNaN_int.f (a0 : Int) : Option (Bool) := some (a0 != a0)
set_option maxHeartbeats 8000000 in
set_option maxRecDepth 100000 in
theorem cmp_isNaN_int.calls (a0 : Int) (r : Bool) (w : World) (h : cmp_isNaN_int.f a0 = some r) :
 Calls Try.prog 97 #[.int .i64 a0] w fun e w' => e = .returned (.bool r) ∧ Drawn0 w w' := by
 have H : (some (a0 != a0)) = some r := h
 clear h
 obtain rfl := Option.some.inj H
 go_enter Try.func97, Try.ntmps97
 go_wp2
 go_ret
 exact ⟨by first | rfl | (simp; done) | (simp [*]; done), by repeat (first | exact Drawn0.refl _ | apply Drawn0.step)⟩

end Go.Proofs.Ytmbmalkpmanaaaa.P

namespace Go.Proofs.Ytmbmalkpmanaaaa.P
open Go.RowKit Go.Proofs.YtmbmalkpmanaaaaW.PrintWords Go.Proofs.YtmbmalkpmanaaaaW.PrintLast Go.Proofs.YtmbmalkpmanaaaaW.PrintMore
attribute [local go_sem] max2_int min2_int max_two min_two max_three min_three max_four min_four   -- for this text's walks alone
set_option linter.unusedVariables false
set_option linter.unusedSimpArgs false

def cmp_Compare_int.f (a0 : Int) (a1 : Int) : Option (Int) := (cmp_isNaN_int.f a0).bind fun t2035 => ((cmp_isNaN_int.f a1).bind fun t2036 => (if t2035 = true then (if t2036 = true then (some 0) else (some (-1))) else (if t2036 = true then (some 1) else (if a0 < a1 then (some (-1)) else (if a0 > a1 then (some 1) else (some 0))))))
set_option maxHeartbeats 8000000 in
set_option maxRecDepth 100000 in
theorem cmp_Compare_int.calls (a0 : Int) (a1 : Int) (r : Int) (w : World) (h : cmp_Compare_int.f a0 a1 = some r) :
 Calls Try.prog 70 #[.int .i64 a0, .int .i64 a1] w fun e w' => e = .returned (.int .i64 r) ∧ Drawn0 w w' := by
 have H : ((cmp_isNaN_int.f a0).bind fun t2035 => ((cmp_isNaN_int.f a1).bind fun t2036 => (if t2035 = true then (if t2036 = true then (some 0) else (some (-1))) else (if t2036 = true then (some 1) else (if a0 < a1 then (some (-1)) else (if a0 > a1 then (some 1) else (some 0))))))) = some r := h
 clear h
 replace H := Option.bind_eq_some_iff.mp H
 obtain ⟨t2035, A30, H⟩ := H
 try dsimp only at H
 have A3 := am A30
 clear A30
 replace H := Option.bind_eq_some_iff.mp H
 obtain ⟨t2036, A40, H⟩ := H
 try dsimp only at H
 have A4 := am A40
 clear A40
 by_cases c5 : t2035 = true
 ·subst c5
  have H1 : (if t2036 = true then (some 0) else (some (-1))) = some r := by rw [if_pos rfl] at H; exact H
  clear H
  have H := H1
  clear H1
  by_cases c6 : t2036 = true
  ·subst c6
   have H1 : (some 0) = some r := by rw [if_pos rfl] at H; exact H
   clear H
   have H := H1
   clear H1
   obtain rfl := Option.some.inj H
   go_enter Try.func70, Try.ntmps70
   go_wp2_with (first | ((with_reducible refine gate_callee (f := 97) rfl ?_); refine goesL_ (some 8) rfl rfl Try.func97 (by kernel_rfl) rfl #[.int .i64 a0] rfl ar ?_; (with_reducible refine (cmp_isNaN_int.calls a0 true _ A3.out).mono ?_); rintro e w' ⟨rfl, ⟨nd, rfl⟩⟩; refine ⟨_, rfl, ?_⟩) | ((with_reducible refine gate_callee (f := 97) rfl ?_); refine goesL_ (some 10) rfl rfl Try.func97 (by kernel_rfl) rfl #[.int .i64 a1] rfl ar ?_; (with_reducible refine (cmp_isNaN_int.calls a1 true _ A4.out).mono ?_); rintro e w' ⟨rfl, ⟨nd, rfl⟩⟩; refine ⟨_, rfl, ?_⟩))
   go_ret
   exact ⟨by first | rfl | (simp; done) | (simp [*]; done), by repeat (first | exact Drawn0.refl _ | apply Drawn0.step)⟩
  ·replace c6 := Bool.eq_false_iff.mpr c6
   subst c6
   have H1 : (some (-1)) = some r := by rw [if_neg (show ¬ (false = true) by decide)] at H; exact H
   clear H
   have H := H1
   clear H1
   obtain rfl := Option.some.inj H
   go_enter Try.func70, Try.ntmps70
   go_wp2_with (first | ((with_reducible refine gate_callee (f := 97) rfl ?_); refine goesL_ (some 8) rfl rfl Try.func97 (by kernel_rfl) rfl #[.int .i64 a0] rfl ar ?_; (with_reducible refine (cmp_isNaN_int.calls a0 true _ A3.out).mono ?_); rintro e w' ⟨rfl, ⟨nd, rfl⟩⟩; refine ⟨_, rfl, ?_⟩) | ((with_reducible refine gate_callee (f := 97) rfl ?_); refine goesL_ (some 10) rfl rfl Try.func97 (by kernel_rfl) rfl #[.int .i64 a1] rfl ar ?_; (with_reducible refine (cmp_isNaN_int.calls a1 false _ A4.out).mono ?_); rintro e w' ⟨rfl, ⟨nd, rfl⟩⟩; refine ⟨_, rfl, ?_⟩))
   go_ret
   exact ⟨by first | rfl | (simp; done) | (simp [*]; done), by repeat (first | exact Drawn0.refl _ | apply Drawn0.step)⟩
 ·replace c5 := Bool.eq_false_iff.mpr c5
  subst c5
  have H1 : (if t2036 = true then (some 1) else (if a0 < a1 then (some (-1)) else (if a0 > a1 then (some 1) else (some 0)))) = some r := by rw [if_neg (show ¬ (false = true) by decide)] at H; exact H
  clear H
  have H := H1
  clear H1
  by_cases c7 : t2036 = true
  ·subst c7
   have H1 : (some 1) = some r := by rw [if_pos rfl] at H; exact H
   clear H
   have H := H1
   clear H1
   obtain rfl := Option.some.inj H
   go_enter Try.func70, Try.ntmps70
   go_wp2_with (first | ((with_reducible refine gate_callee (f := 97) rfl ?_); refine goesL_ (some 8) rfl rfl Try.func97 (by kernel_rfl) rfl #[.int .i64 a0] rfl ar ?_; (with_reducible refine (cmp_isNaN_int.calls a0 false _ A3.out).mono ?_); rintro e w' ⟨rfl, ⟨nd, rfl⟩⟩; refine ⟨_, rfl, ?_⟩) | ((with_reducible refine gate_callee (f := 97) rfl ?_); refine goesL_ (some 10) rfl rfl Try.func97 (by kernel_rfl) rfl #[.int .i64 a1] rfl ar ?_; (with_reducible refine (cmp_isNaN_int.calls a1 true _ A4.out).mono ?_); rintro e w' ⟨rfl, ⟨nd, rfl⟩⟩; refine ⟨_, rfl, ?_⟩))
   go_ret
   exact ⟨by first | rfl | (simp; done) | (simp [*]; done), by repeat (first | exact Drawn0.refl _ | apply Drawn0.step)⟩
  ·replace c7 := Bool.eq_false_iff.mpr c7
   subst c7
   have H1 : (if a0 < a1 then (some (-1)) else (if a0 > a1 then (some 1) else (some 0))) = some r := by rw [if_neg (show ¬ (false = true) by decide)] at H; exact H
   clear H
   have H := H1
   clear H1
   by_cases c8 : a0 < a1
   ·rw [if_pos c8] at H
    have c8b0 : decide (a0 < a1) = true := decide_eq_true c8
    clear c8
    obtain rfl := Option.some.inj H
    go_enter Try.func70, Try.ntmps70
    go_wp2_with (first | ((with_reducible refine gate_callee (f := 97) rfl ?_); refine goesL_ (some 8) rfl rfl Try.func97 (by kernel_rfl) rfl #[.int .i64 a0] rfl ar ?_; (with_reducible refine (cmp_isNaN_int.calls a0 false _ A3.out).mono ?_); rintro e w' ⟨rfl, ⟨nd, rfl⟩⟩; refine ⟨_, rfl, ?_⟩) | ((with_reducible refine gate_callee (f := 97) rfl ?_); refine goesL_ (some 10) rfl rfl Try.func97 (by kernel_rfl) rfl #[.int .i64 a1] rfl ar ?_; (with_reducible refine (cmp_isNaN_int.calls a1 false _ A4.out).mono ?_); rintro e w' ⟨rfl, ⟨nd, rfl⟩⟩; refine ⟨_, rfl, ?_⟩))
    go_ret
    exact ⟨by first | rfl | (simp; done) | (simp [*]; done), by repeat (first | exact Drawn0.refl _ | apply Drawn0.step)⟩
   ·rw [if_neg c8] at H
    have c8b0 : decide (a0 < a1) = false := decide_eq_false c8
    clear c8
    by_cases c9 : a0 > a1
    ·rw [if_pos c9] at H
     have c9b0 : decide (a1 < a0) = true := decide_eq_true c9
     clear c9
     obtain rfl := Option.some.inj H
     go_enter Try.func70, Try.ntmps70
     go_wp2_with (first | ((with_reducible refine gate_callee (f := 97) rfl ?_); refine goesL_ (some 8) rfl rfl Try.func97 (by kernel_rfl) rfl #[.int .i64 a0] rfl ar ?_; (with_reducible refine (cmp_isNaN_int.calls a0 false _ A3.out).mono ?_); rintro e w' ⟨rfl, ⟨nd, rfl⟩⟩; refine ⟨_, rfl, ?_⟩) | ((with_reducible refine gate_callee (f := 97) rfl ?_); refine goesL_ (some 10) rfl rfl Try.func97 (by kernel_rfl) rfl #[.int .i64 a1] rfl ar ?_; (with_reducible refine (cmp_isNaN_int.calls a1 false _ A4.out).mono ?_); rintro e w' ⟨rfl, ⟨nd, rfl⟩⟩; refine ⟨_, rfl, ?_⟩))
     go_ret
     exact ⟨by first | rfl | (simp; done) | (simp [*]; done), by repeat (first | exact Drawn0.refl _ | apply Drawn0.step)⟩
    ·rw [if_neg c9] at H
     have c9b0 : decide (a1 < a0) = false := decide_eq_false c9
     clear c9
     obtain rfl := Option.some.inj H
     go_enter Try.func70, Try.ntmps70
     go_wp2_with (first | ((with_reducible refine gate_callee (f := 97) rfl ?_); refine goesL_ (some 8) rfl rfl Try.func97 (by kernel_rfl) rfl #[.int .i64 a0] rfl ar ?_; (with_reducible refine (cmp_isNaN_int.calls a0 false _ A3.out).mono ?_); rintro e w' ⟨rfl, ⟨nd, rfl⟩⟩; refine ⟨_, rfl, ?_⟩) | ((with_reducible refine gate_callee (f := 97) rfl ?_); refine goesL_ (some 10) rfl rfl Try.func97 (by kernel_rfl) rfl #[.int .i64 a1] rfl ar ?_; (with_reducible refine (cmp_isNaN_int.calls a1 false _ A4.out).mono ?_); rintro e w' ⟨rfl, ⟨nd, rfl⟩⟩; refine ⟨_, rfl, ?_⟩))
     go_ret
     exact ⟨by first | rfl | (simp; done) | (simp [*]; done), by repeat (first | exact Drawn0.refl _ | apply Drawn0.step)⟩

end Go.Proofs.Ytmbmalkpmanaaaa.P

namespace Go.Proofs.Ytmbmalkpmanaaaa.P
open Go.RowKit Go.Proofs.YtmbmalkpmanaaaaW.PrintWords Go.Proofs.YtmbmalkpmanaaaaW.PrintLast Go.Proofs.YtmbmalkpmanaaaaW.PrintMore
attribute [local go_sem] max2_int min2_int max_two min_two max_three min_three max_four min_four   -- for this text's walks alone
set_option linter.unusedVariables false
set_option linter.unusedSimpArgs false

def gran_odd_1.f (a0_0 : Int) (l0_1 : List (S23)) (a1 : Int) : Option (Int) := (cmp_Compare_int.f a0_0 a1).bind fun t2038 => (some t2038)
set_option maxHeartbeats 8000000 in
set_option maxRecDepth 100000 in
theorem gran_odd_1.calls (a0_0 : Int) (A0_1 : Option Addr) (c0_1 : Nat) (l0_1 : List (S23)) (a1 : Int) (r : Int) (w : World) (hr0_1 : Kd.C k23 w A0_1 l0_1.length l0_1) (hc0_1 : l0_1.length ≤ c0_1) (h : gran_odd_1.f a0_0 l0_1 a1 = some r) :
 Calls Try.prog 101 #[.agg #[.int .i64 a0_0, .slice A0_1 l0_1.length c0_1], .int .i64 a1] w fun e w' => e = .returned (.int .i64 r) ∧ Below w.heap.size w w' := by
 have hu70 := Try.underlying70
 have HR0_1 := am hr0_1
 have HC0_1 := am hc0_1
 clear hr0_1 hc0_1
 have HB := am (Below.refl w.heap.size w)
 have H : ((cmp_Compare_int.f a0_0 a1).bind fun t2038 => (some t2038)) = some r := h
 clear h
 replace H := Option.bind_eq_some_iff.mp H
 obtain ⟨t2038, A30, H⟩ := H
 try dsimp only at H
 have A3 := am A30
 clear A30
 obtain rfl := Option.some.inj H
 go_enter Try.func101, Try.ntmps101
 go_wp2_with (first | ((with_reducible refine gate_dst (N := 2) rfl ?_); refine bx 2 70 #[.int .i64 a0_0, .slice A0_1 l0_1.length c0_1] ?_; intro gb2037 hg w4 hbox hb; have BK2037 := am (hbox); have GW2037 := am ((bz hg HB.out : w.heap.size ≤ gb2037)); have GE2037 := am ((bz hg HB.out : w.heap.size ≤ gb2037)); replace HB := am (below_step (bl HB.out) hb); clear hb hbox hg; have hcz5_0 : w4.cell? ⟨gb2037, 0, none⟩ = some (.int .i64 a0_0) := bc BK2037.out 0; have hcz5_1 : w4.cell? ⟨gb2037, 1, none⟩ = some (.slice A0_1 l0_1.length c0_1) := bc BK2037.out 1; have hfz5_0 := blk_frozen BK2037.out 0; have hfz5_1 := blk_frozen BK2037.out 1) | ((with_reducible refine gate_callee (f := 70) rfl ?_); refine goesL_ (some 8) rfl rfl Try.func70 (by kernel_rfl) rfl #[.int .i64 a0_0, .int .i64 a1] rfl ar ?_; (with_reducible refine (cmp_Compare_int.calls a0_0 a1 t2038 _ A3.out).mono ?_); rintro e w' ⟨rfl, ⟨nd, rfl⟩⟩; refine ⟨_, rfl, ?_⟩))
 go_ret
 exact ⟨rt, bl1 HB.out GE2037.out⟩

end Go.Proofs.Ytmbmalkpmanaaaa.P

namespace Go.Proofs.Ytmbmalkpmanaaaa.P
open Go.RowKit Go.Proofs.YtmbmalkpmanaaaaW.PrintWords Go.Proofs.YtmbmalkpmanaaaaW.PrintLast Go.Proofs.YtmbmalkpmanaaaaW.PrintMore
attribute [local go_sem] max2_int min2_int max_two min_two max_three min_three max_four min_four   -- for this text's walks alone
set_option linter.unusedVariables false
set_option linter.unusedSimpArgs false

def slices_BinarySearchFunc_Granule_int.l0 : Nat → List (S70) → Int → Int → Int → Int → Option (Int × Bool)
 | 0, _, _, _, _, _ => none
 | k + 1, x0, x1, x8, x9, x10 => if x9 < x10 then (if 0 ≤ (wrap64 ((IntKind.u64.wrap (wrap64 (x9 + x10))) / 2)) then (if (wrap64 ((IntKind.u64.wrap (wrap64 (x9 + x10))) / 2)) < (x0.length : Int) then ((gran_odd_1.f ((rd_T70 x0 (wrap64 ((IntKind.u64.wrap (wrap64 (x9 + x10))) / 2))).f0) ((rd_T70 x0 (wrap64 ((IntKind.u64.wrap (wrap64 (x9 + x10))) / 2))).f1) x1).bind fun t2040 => (if t2040 < 0 then (slices_BinarySearchFunc_Granule_int.l0 k x0 x1 x8 (wrap64 ((wrap64 ((IntKind.u64.wrap (wrap64 (x9 + x10))) / 2)) + 1)) x10) else (slices_BinarySearchFunc_Granule_int.l0 k x0 x1 x8 x9 (wrap64 ((IntKind.u64.wrap (wrap64 (x9 + x10))) / 2))))) else (none)) else (none)) else (if x9 < x8 then (if 0 ≤ x9 then (if x9 < (x0.length : Int) then ((gran_odd_1.f ((rd_T70 x0 x9).f0) ((rd_T70 x0 x9).f1) x1).bind fun t2042 => (some (x9, (t2042 == 0)))) else (none)) else (none)) else (some (x9, false)))
def slices_BinarySearchFunc_Granule_int.f (k : Nat) (l0 : List (S70)) (a1 : Int)  : Option (Int × Bool) := slices_BinarySearchFunc_Granule_int.l0 k l0 a1 (l0.length : Int) 0 (l0.length : Int)
theorem slices_BinarySearchFunc_Granule_int.mono_l : ∀ k, (∀ y0 y1 y2 y3 y4, LeO (slices_BinarySearchFunc_Granule_int.l0 k y0 y1 y2 y3 y4) (slices_BinarySearchFunc_Granule_int.l0 (k + 1) y0 y1 y2 y3 y4))
 | 0 => fun _ _ _ _ _ r h => by simp [slices_BinarySearchFunc_Granule_int.l0] at h
 | k + 1 => by
  have ih0 := slices_BinarySearchFunc_Granule_int.mono_l k
  ·intro y0 y1 y2 y3 y4
   unfold slices_BinarySearchFunc_Granule_int.l0
   repeat' first
   | (with_reducible exact ih0 _ _ _ _ _)
   | (with_reducible exact LeO.refl _)
   | (with_reducible exact LeO.none _)
   | (with_reducible refine LeO.ite ?_ ?_)
   | (with_reducible refine LeO.bind ?_ (fun _ => ?_))
   | exact ih0 _ _ _ _ _
   | exact LeO.none _
   | refine LeO.ite ?_ ?_
   | refine LeO.bind ?_ (fun _ => ?_)
theorem slices_BinarySearchFunc_Granule_int.mono : ∀ a0 a1 k, LeO (slices_BinarySearchFunc_Granule_int.f k a0 a1) (slices_BinarySearchFunc_Granule_int.f (k + 1) a0 a1) := by
 intro a0 a1 k
 have ih0 := slices_BinarySearchFunc_Granule_int.mono_l k
 unfold slices_BinarySearchFunc_Granule_int.f
 repeat' first
  | (with_reducible exact ih0 _ _ _ _ _)
  | (with_reducible exact LeO.refl _)
  | (with_reducible exact LeO.none _)
  | (with_reducible refine LeO.ite ?_ ?_)
  | (with_reducible refine LeO.bind ?_ (fun _ => ?_))
  | exact ih0 _ _ _ _ _
  | exact LeO.none _
  | refine LeO.ite ?_ ?_
  | refine LeO.bind ?_ (fun _ => ?_)
set_option maxHeartbeats 8000000 in
set_option maxRecDepth 100000 in
theorem slices_BinarySearchFunc_Granule_int.calls (k : Nat) (A0 : Option Addr) (c0 : Nat) (l0 : List (S70)) (a1 : Int)  (r1 : Int) (r2 : Bool) (w : World) (hr0 : Kd.C k70 w A0 l0.length l0) (hc0 : l0.length ≤ c0) (h : slices_BinarySearchFunc_Granule_int.f k l0 a1 = some (r1, r2)) :
 Calls Try.prog 100 #[.slice A0 l0.length c0, .int .i64 a1, .func (.func 101) #[] #[]] w fun e w' => e = .returned (.tuple #[.int .i64 r1, .bool r2]) ∧ Below w.heap.size w w' := by
 have hu70 := Try.underlying70
 have HR0 := am hr0
 have HC0 := am hc0
 clear hr0 hc0
 have HB := am (Below.refl w.heap.size w)
 have H : (slices_BinarySearchFunc_Granule_int.l0 k l0 a1 (l0.length : Int) 0 (l0.length : Int)) = some (r1, r2) := h
 clear h
 have H' := am H
 clear H
 go_enter Try.func100, Try.ntmps100
 go_wp2
 go_loopg [9, 10] k (fun kq v9 v10 w' => ∃ (x9_1 : Int) (x10_1 : Int), v9 = .int .i64 x9_1 ∧ v10 = .int .i64 x10_1 ∧ Aside0 (slices_BinarySearchFunc_Granule_int.l0 kq l0 a1 (l0.length : Int) x9_1 x10_1 = some (r1, r2)) ∧ Aside0 (kq ≤ k) ∧ Aside0 (Below w.heap.size w w'))
 case atStart => exact ⟨(0), ((l0.length : Int)), sm, sm, H', ⟨Nat.le_refl _⟩, ⟨bl HB.out⟩⟩
 case round =>
  clear H'
  try clear c1
  try clear p2
  obtain ⟨x9_1, x10_1, rfl, rfl, HA, HK1, HB⟩ := hrel
  cases gk with
  | zero => exact absurd HA.out (by simp [slices_BinarySearchFunc_Granule_int.l0])
  | succ k1 =>
   have H := HA.out
   clear HA
   simp only [slices_BinarySearchFunc_Granule_int.l0] at H
   by_cases c4 : x9_1 < x10_1
   ·rw [if_pos c4] at H
    have c4b0 : decide (x9_1 < x10_1) = true := decide_eq_true c4
    clear c4
    obtain ⟨ji5, hji5⟩ : ∃ j_ : Int, (wrap64 ((IntKind.u64.wrap (wrap64 (x9_1 + x10_1))) / 2)) = j_ := ⟨_, rfl⟩
    replace H : (if 0 ≤ (ji5) then (if (ji5) < (l0.length : Int) then ((gran_odd_1.f ((rd_T70 l0 (ji5)).f0) ((rd_T70 l0 (ji5)).f1) a1).bind fun t2040 => (if t2040 < 0 then (slices_BinarySearchFunc_Granule_int.l0 k1 l0 a1 (l0.length : Int) (wrap64 ((ji5) + 1)) x10_1) else (slices_BinarySearchFunc_Granule_int.l0 k1 l0 a1 (l0.length : Int) x9_1 ji5))) else (none)) else (none)) = some (r1, r2) := by first | (rw [hji5] at H; exact H) | (simp only [hji5] at H ⊢; exact H)
    have hji5w : (IntKind.i64.wrap ((IntKind.u64.wrap (wrap64 (x9_1 + x10_1))) / 2)) = ji5 := (i64_w _).trans hji5
    by_cases c6 : 0 ≤ (ji5)
    ·rw [if_pos c6] at H
     have c6b0 : decide (0 ≤ (ji5)) = true := decide_eq_true c6
     clear c6
     by_cases c7 : (ji5) < (l0.length : Int)
     ·rw [if_pos c7] at H
      have c7b0 : decide ((ji5) < (l0.length : Int)) = true := decide_eq_true c7
      clear c7
      replace H := Option.bind_eq_some_iff.mp H
      obtain ⟨t2040, A80, H⟩ := H
      try dsimp only at H
      have A8 := am A80
      clear A80
      by_cases c9 : t2040 < 0
      ·rw [if_pos c9] at H
       have c9b0 : decide (t2040 < 0) = true := decide_eq_true c9
       clear c9
       have H' := am H
       clear H
       have p2039 : 0 ≤ ((ji5) : Int) := of_decide_eq_true asm
       have q2039 : (ji5) < (l0.length : Int) := of_decide_eq_true asm
       obtain ⟨ad2039, A2039_1, c2039_1, e2039, hx2039_0, hx2039_1, hl2039_1, hi2039_1⟩ := at_T70 HR0.out (ji5) p2039 q2039
       cases e2039
       replace hx2039_0 := (HB.out.cell (World.block_lt_of_cell? w _ hx2039_0)).trans hx2039_0
       replace hx2039_1 := (HB.out.cell (World.block_lt_of_cell? w _ hx2039_1)).trans hx2039_1
       have HR2039_1 := am hi2039_1
       have HC2039_1 := am hl2039_1
       clear hi2039_1 hl2039_1
       replace p2039 := eq_true p2039
       replace q2039 := eq_true q2039
       go_wp2_with (first | (go_at_call 101; (with_reducible refine (gran_odd_1.calls ((rd_T70 l0 (ji5)).f0) _ _ ((rd_T70 l0 (ji5)).f1) a1 t2040 _ ?side1 ?side2 A8.out).mono ?_); (case side1 => exact kc (Kd.C_below HR2039_1.out HB.out)); (case side2 => exact HC2039_1.out); rintro e w10 ⟨rfl, hb⟩; replace HB := am (below_step (bl HB.out) hb); (try clear hb); (try clear hb2); (try clear hk); (try clear hi)))
       go_roundg k1
       case measure => have := HK1.out; omega
       case rel => exact ⟨(wrap64 ((ji5) + 1)), (x10_1), (by first | rfl | (simp; done) | (simp only [← hji5] <;> (first | rfl | simp)) | (simp [*]; done)), sm, H', ⟨by have := HK1.out; omega⟩, ⟨bl HB.out⟩⟩
      ·rw [if_neg c9] at H
       have c9b0 : decide (t2040 < 0) = false := decide_eq_false c9
       clear c9
       have H' := am H
       clear H
       have p2039 : 0 ≤ ((ji5) : Int) := of_decide_eq_true asm
       have q2039 : (ji5) < (l0.length : Int) := of_decide_eq_true asm
       obtain ⟨ad2039, A2039_1, c2039_1, e2039, hx2039_0, hx2039_1, hl2039_1, hi2039_1⟩ := at_T70 HR0.out (ji5) p2039 q2039
       cases e2039
       replace hx2039_0 := (HB.out.cell (World.block_lt_of_cell? w _ hx2039_0)).trans hx2039_0
       replace hx2039_1 := (HB.out.cell (World.block_lt_of_cell? w _ hx2039_1)).trans hx2039_1
       have HR2039_1 := am hi2039_1
       have HC2039_1 := am hl2039_1
       clear hi2039_1 hl2039_1
       replace p2039 := eq_true p2039
       replace q2039 := eq_true q2039
       go_wp2_with (first | (go_at_call 101; (with_reducible refine (gran_odd_1.calls ((rd_T70 l0 (ji5)).f0) _ _ ((rd_T70 l0 (ji5)).f1) a1 t2040 _ ?side1 ?side2 A8.out).mono ?_); (case side1 => exact kc (Kd.C_below HR2039_1.out HB.out)); (case side2 => exact HC2039_1.out); rintro e w11 ⟨rfl, hb⟩; replace HB := am (below_step (bl HB.out) hb); (try clear hb); (try clear hb2); (try clear hk); (try clear hi)))
       go_roundg k1
       case measure => have := HK1.out; omega
       case rel => exact ⟨(x9_1), (ji5), sm, (by first | rfl | (simp; done) | (simp only [← hji5] <;> (first | rfl | simp)) | (simp [*]; done)), H', ⟨by have := HK1.out; omega⟩, ⟨bl HB.out⟩⟩
     ·rw [if_neg c7] at H
      exact absurd H (by simp)
    ·rw [if_neg c6] at H
     exact absurd H (by simp)
   ·rw [if_neg c4] at H
    have c4b0 : decide (x9_1 < x10_1) = false := decide_eq_false c4
    clear c4
    by_cases c12 : x9_1 < (l0.length : Int)
    ·rw [if_pos c12] at H
     have c12b0 : decide (x9_1 < (l0.length : Int)) = true := decide_eq_true c12
     clear c12
     by_cases c13 : 0 ≤ x9_1
     ·rw [if_pos c13] at H
      have c13b0 : decide (0 ≤ x9_1) = true := decide_eq_true c13
      clear c13
      by_cases c14 : x9_1 < (l0.length : Int)
      ·rw [if_pos c14] at H
       have c14b0 : decide (x9_1 < (l0.length : Int)) = true := decide_eq_true c14
       clear c14
       replace H := Option.bind_eq_some_iff.mp H
       obtain ⟨t2042, A150, H⟩ := H
       try dsimp only at H
       have A15 := am A150
       clear A150
       simp only [Option.some.injEq, Prod.mk.injEq] at H
       obtain ⟨rfl, rfl⟩ := H
       have p2041 : 0 ≤ (x9_1 : Int) := of_decide_eq_true asm
       have q2041 : x9_1 < (l0.length : Int) := of_decide_eq_true asm
       obtain ⟨ad2041, A2041_1, c2041_1, e2041, hx2041_0, hx2041_1, hl2041_1, hi2041_1⟩ := at_T70 HR0.out x9_1 p2041 q2041
       cases e2041
       replace hx2041_0 := (HB.out.cell (World.block_lt_of_cell? w _ hx2041_0)).trans hx2041_0
       replace hx2041_1 := (HB.out.cell (World.block_lt_of_cell? w _ hx2041_1)).trans hx2041_1
       have HR2041_1 := am hi2041_1
       have HC2041_1 := am hl2041_1
       clear hi2041_1 hl2041_1
       replace p2041 := eq_true p2041
       replace q2041 := eq_true q2041
       go_wp2_with (first | (go_at_call 101; (with_reducible refine (gran_odd_1.calls ((rd_T70 l0 x9_1).f0) _ _ ((rd_T70 l0 x9_1).f1) a1 t2042 _ ?side1 ?side2 A15.out).mono ?_); (case side1 => exact kc (Kd.C_below HR2041_1.out HB.out)); (case side2 => exact HC2041_1.out); rintro e w16 ⟨rfl, hb⟩; replace HB := am (below_step (bl HB.out) hb); (try clear hb); (try clear hb2); (try clear hk); (try clear hi)))
       go_ret2
       exact ⟨rt, bl HB.out⟩
      ·rw [if_neg c14] at H
       exact absurd H (by simp)
     ·rw [if_neg c13] at H
      exact absurd H (by simp)
    ·rw [if_neg c12] at H
     have c12b0 : decide (x9_1 < (l0.length : Int)) = false := decide_eq_false c12
     clear c12
     simp only [Option.some.injEq, Prod.mk.injEq] at H
     obtain ⟨rfl, rfl⟩ := H
     go_wp2
     go_ret2
     exact ⟨rt, bl HB.out⟩

end Go.Proofs.Ytmbmalkpmanaaaa.P

namespace Go.Proofs.Ytmbmalkpmanaaaa.P
open Go.RowKit Go.Proofs.YtmbmalkpmanaaaaW.PrintWords Go.Proofs.YtmbmalkpmanaaaaW.PrintLast Go.Proofs.YtmbmalkpmanaaaaW.PrintMore
attribute [local go_sem] max2_int min2_int max_two min_two max_three min_three max_four min_four   -- for this text's walks alone
set_option linter.unusedVariables false
set_option linter.unusedSimpArgs false

def gran_odd.f (k : Nat) (a0_0 : Int) (a0_1 : Int) (l0_2 : List (List (S23))) (l0_3 : List (S70)) (a1 : Int) : Option (Int × Bool) := (slices_BinarySearchFunc_Granule_int.f k l0_3 a1).bind fun bt2044 => (some (bt2044.1, bt2044.2))
theorem gran_odd.mono : ∀ a0 a1 a2 a3 a4 k, LeO (gran_odd.f k a0 a1 a2 a3 a4) (gran_odd.f (k + 1) a0 a1 a2 a3 a4) := by
 intro a0 a1 a2 a3 a4 k
 unfold gran_odd.f
 repeat' first
  | (with_reducible exact slices_BinarySearchFunc_Granule_int.mono _ _ _)
  | (with_reducible exact LeO.refl _)
  | (with_reducible exact LeO.none _)
  | (with_reducible refine LeO.ite ?_ ?_)
  | (with_reducible refine LeO.bind ?_ (fun _ => ?_))
  | exact slices_BinarySearchFunc_Granule_int.mono _ _ _
  | exact LeO.none _
  | refine LeO.ite ?_ ?_
  | refine LeO.bind ?_ (fun _ => ?_)
set_option maxHeartbeats 8000000 in
set_option maxRecDepth 100000 in
theorem gran_odd.calls (k : Nat) (a0_0 : Int) (a0_1 : Int) (A0_2 : Option Addr) (c0_2 : Nat) (l0_2 : List (List (S23))) (A0_3 : Option Addr) (c0_3 : Nat) (l0_3 : List (S70)) (a1 : Int) (r1 : Int) (r2 : Bool) (w : World) (hr0_2 : Kd.C (Kd.slice 23 k23) w A0_2 l0_2.length l0_2) (hc0_2 : l0_2.length ≤ c0_2) (hr0_3 : Kd.C k70 w A0_3 l0_3.length l0_3) (hc0_3 : l0_3.length ≤ c0_3) (h : gran_odd.f k a0_0 a0_1 l0_2 l0_3 a1 = some (r1, r2)) :
 Calls Try.prog 84 #[.agg #[.int .i64 a0_0, .int .i64 a0_1, .slice A0_2 l0_2.length c0_2, .slice A0_3 l0_3.length c0_3], .int .i64 a1] w fun e w' => e = .returned (.tuple #[.int .i64 r1, .bool r2]) ∧ Below w.heap.size w w' := by
 have hu28 := Try.underlying28
 have HR0_2 := am hr0_2
 have HC0_2 := am hc0_2
 clear hr0_2 hc0_2
 have HR0_3 := am hr0_3
 have HC0_3 := am hc0_3
 clear hr0_3 hc0_3
 have HB := am (Below.refl w.heap.size w)
 have H : ((slices_BinarySearchFunc_Granule_int.f k l0_3 a1).bind fun bt2044 => (some (bt2044.1, bt2044.2))) = some (r1, r2) := h
 clear h
 replace H := Option.bind_eq_some_iff.mp H
 obtain ⟨⟨t2044, t2045⟩, A30, H⟩ := H
 try dsimp only at H
 have A3 := am A30
 clear A30
 simp only [Option.some.injEq, Prod.mk.injEq] at H
 obtain ⟨rfl, rfl⟩ := H
 go_enter Try.func84, Try.ntmps84
 go_wp2_with (first | ((with_reducible refine gate_dst (N := 2) rfl ?_); refine bx 2 28 #[.int .i64 a0_0, .int .i64 a0_1, .slice A0_2 l0_2.length c0_2, .slice A0_3 l0_3.length c0_3] ?_; intro gb2043 hg w4 hbox hb; have BK2043 := am (hbox); have GW2043 := am ((bz hg HB.out : w.heap.size ≤ gb2043)); have GE2043 := am ((bz hg HB.out : w.heap.size ≤ gb2043)); replace HB := am (below_step (bl HB.out) hb); clear hb hbox hg; have hcz5_0 : w4.cell? ⟨gb2043, 0, none⟩ = some (.int .i64 a0_0) := bc BK2043.out 0; have hcz5_1 : w4.cell? ⟨gb2043, 1, none⟩ = some (.int .i64 a0_1) := bc BK2043.out 1; have hcz5_2 : w4.cell? ⟨gb2043, 2, none⟩ = some (.slice A0_2 l0_2.length c0_2) := bc BK2043.out 2; have hcz5_3 : w4.cell? ⟨gb2043, 3, none⟩ = some (.slice A0_3 l0_3.length c0_3) := bc BK2043.out 3; have hfz5_0 := blk_frozen BK2043.out 0; have hfz5_1 := blk_frozen BK2043.out 1; have hfz5_2 := blk_frozen BK2043.out 2; have hfz5_3 := blk_frozen BK2043.out 3) | ((with_reducible refine gate_callee (f := 100) rfl ?_); refine goesL_ (some 9) rfl rfl Try.func100 (by kernel_rfl) rfl #[.slice A0_3 l0_3.length c0_3, .int .i64 a1, .func (.func 101) #[] #[]] rfl ar ?_; (with_reducible refine (slices_BinarySearchFunc_Granule_int.calls k _ _ l0_3 a1 t2044 t2045 _ ?side1 ?side2 A3.out).mono ?_); (case side1 => exact kc (Kd.C_below HR0_3.out HB.out)); (case side2 => exact HC0_3.out); rintro e w6 ⟨rfl, hb⟩; refine ⟨_, rfl, ?_⟩; replace BK2043 := am (blk_below (kp BK2043.out) hb); replace HB := am (below_step (bl1 HB.out GE2043.out) hb); (try clear hb); (try clear hb2); (try clear hk); (try clear hi)))
 go_ret2
 exact ⟨rt, bl1 HB.out GE2043.out⟩

end Go.Proofs.Ytmbmalkpmanaaaa.P

namespace Go.Proofs.Ytmbmalkpmanaaaa.P
open Go.RowKit Go.Proofs.YtmbmalkpmanaaaaW.PrintWords Go.Proofs.YtmbmalkpmanaaaaW.PrintLast Go.Proofs.YtmbmalkpmanaaaaW.PrintMore
attribute [local go_sem] max2_int min2_int max_two min_two max_three min_three max_four min_four   -- for this text's walks alone
set_option linter.unusedVariables false
set_option linter.unusedSimpArgs false

def bits_Mul64.f (a0 : Int) (a1 : Int) : Option (Int × Int) := some (IntKind.u64.wrap ((IntKind.u64.wrap ((IntKind.u64.wrap ((a0 / 4294967296) * (a1 / 4294967296))) + ((IntKind.u64.wrap ((IntKind.u64.wrap ((a0 / 4294967296) * (Go.bits .and .u64 a1 4294967295))) + ((IntKind.u64.wrap ((Go.bits .and .u64 a0 4294967295) * (Go.bits .and .u64 a1 4294967295))) / 4294967296))) / 4294967296))) + ((IntKind.u64.wrap ((Go.bits .and .u64 (IntKind.u64.wrap ((IntKind.u64.wrap ((a0 / 4294967296) * (Go.bits .and .u64 a1 4294967295))) + ((IntKind.u64.wrap ((Go.bits .and .u64 a0 4294967295) * (Go.bits .and .u64 a1 4294967295))) / 4294967296))) 4294967295) + (IntKind.u64.wrap ((Go.bits .and .u64 a0 4294967295) * (a1 / 4294967296))))) / 4294967296)), IntKind.u64.wrap (a0 * a1))
set_option maxHeartbeats 8000000 in
set_option maxRecDepth 100000 in
theorem bits_Mul64.calls (a0 : Int) (a1 : Int) (r1 : Int) (r2 : Int) (w : World) (h : bits_Mul64.f a0 a1 = some (r1, r2)) :
 Calls Try.prog 102 #[.int .u64 a0, .int .u64 a1] w fun e w' => e = .returned (.tuple #[.int .u64 r1, .int .u64 r2]) ∧ Drawn0 w w' := by
 have H : (some (IntKind.u64.wrap ((IntKind.u64.wrap ((IntKind.u64.wrap ((a0 / 4294967296) * (a1 / 4294967296))) + ((IntKind.u64.wrap ((IntKind.u64.wrap ((a0 / 4294967296) * (Go.bits .and .u64 a1 4294967295))) + ((IntKind.u64.wrap ((Go.bits .and .u64 a0 4294967295) * (Go.bits .and .u64 a1 4294967295))) / 4294967296))) / 4294967296))) + ((IntKind.u64.wrap ((Go.bits .and .u64 (IntKind.u64.wrap ((IntKind.u64.wrap ((a0 / 4294967296) * (Go.bits .and .u64 a1 4294967295))) + ((IntKind.u64.wrap ((Go.bits .and .u64 a0 4294967295) * (Go.bits .and .u64 a1 4294967295))) / 4294967296))) 4294967295) + (IntKind.u64.wrap ((Go.bits .and .u64 a0 4294967295) * (a1 / 4294967296))))) / 4294967296)), IntKind.u64.wrap (a0 * a1))) = some (r1, r2) := h
 clear h
 simp only [Option.some.injEq, Prod.mk.injEq] at H
 obtain ⟨rfl, rfl⟩ := H
 go_enter Try.func102, Try.ntmps102
 go_wp2
 go_ret2
 exact ⟨by first | rfl | (simp; done) | (simp [*]; done), by repeat (first | exact Drawn0.refl _ | apply Drawn0.step)⟩

end Go.Proofs.Ytmbmalkpmanaaaa.P

namespace Go.Proofs.Ytmbmalkpmanaaaa.P
open Go.RowKit Go.Proofs.YtmbmalkpmanaaaaW.PrintWords Go.Proofs.YtmbmalkpmanaaaaW.PrintLast Go.Proofs.YtmbmalkpmanaaaaW.PrintMore
attribute [local go_sem] max2_int min2_int max_two min_two max_three min_three max_four min_four   -- for this text's walks alone
set_option linter.unusedVariables false
set_option linter.unusedSimpArgs false

def safe_signed.j0 : Nat → Int → Bool → Bool → Option (Int × Int)
 | 0, _, _, _ => none
 | k + 1, x0, x1, x6 => if x6 = true then (some (wrap64 (IntKind.u64.wrap (-x0)), 0)) else (if x1 = true then (some (0, 10)) else (if x0 ≤ 9223372036854775807 then (some (wrap64 (x0), 0)) else (some (0, 10))))
def safe_signed.f (k : Nat) (a0 : Int) (a1 : Bool) : Option (Int × Int) := if a1 = true then (safe_signed.j0 k a0 a1 (decide (a0 ≤ 9223372036854775808))) else (safe_signed.j0 k a0 a1 false)
theorem safe_signed.mono_l : ∀ k, (∀ y0 y1 y2, LeO (safe_signed.j0 k y0 y1 y2) (safe_signed.j0 (k + 1) y0 y1 y2))
 | 0 => fun _ _ _ r h => by simp [safe_signed.j0] at h
 | k + 1 => by
  have ih0 := safe_signed.mono_l k
  ·intro y0 y1 y2
   unfold safe_signed.j0
   repeat' first
   | (with_reducible exact ih0 _ _ _)
   | (with_reducible exact LeO.refl _)
   | (with_reducible exact LeO.none _)
   | (with_reducible refine LeO.ite ?_ ?_)
   | (with_reducible refine LeO.bind ?_ (fun _ => ?_))
   | exact ih0 _ _ _
   | exact LeO.none _
   | refine LeO.ite ?_ ?_
   | refine LeO.bind ?_ (fun _ => ?_)
theorem safe_signed.mono : ∀ a0 a1 k, LeO (safe_signed.f k a0 a1) (safe_signed.f (k + 1) a0 a1) := by
 intro a0 a1 k
 have ih0 := safe_signed.mono_l k
 unfold safe_signed.f
 repeat' first
  | (with_reducible exact ih0 _ _ _)
  | (with_reducible exact LeO.refl _)
  | (with_reducible exact LeO.none _)
  | (with_reducible refine LeO.ite ?_ ?_)
  | (with_reducible refine LeO.bind ?_ (fun _ => ?_))
  | exact ih0 _ _ _
  | exact LeO.none _
  | refine LeO.ite ?_ ?_
  | refine LeO.bind ?_ (fun _ => ?_)
set_option maxHeartbeats 8000000 in
set_option maxRecDepth 100000 in
theorem safe_signed.calls (k : Nat) (a0 : Int) (a1 : Bool) (r1 : Int) (r2 : Int) (w : World) (h : safe_signed.f k a0 a1 = some (r1, r2)) :
 Calls Try.prog 104 #[.int .u64 a0, .bool a1] w fun e w' => e = .returned (.tuple #[.int .i64 r1, .int .i64 r2]) ∧ Drawn0 w w' := by
 have H : (if a1 = true then (safe_signed.j0 k a0 a1 (decide (a0 ≤ 9223372036854775808))) else (safe_signed.j0 k a0 a1 false)) = some (r1, r2) := h
 clear h
 have HC3 := am H
 clear H
 go_enter Try.func104, Try.ntmps104
 go_upto_region 1 with (fail)
 go_cut [6] (fun v6 wc => ∃ (kq : Nat) (x6_2 : Bool), v6 = .bool x6_2 ∧ Aside0 (safe_signed.j0 kq a0 a1 x6_2 = some (r1, r2)) ∧ Aside0 (kq ≤ k) ∧ Drawn0 w wc)
 case first =>
  have H := HC3.out
  clear HC3
  by_cases c4 : a1 = true
  ·subst c4
   have H1 : (safe_signed.j0 k a0 true (decide (a0 ≤ 9223372036854775808))) = some (r1, r2) := by rw [if_pos rfl] at H; exact H
   clear H
   have H := H1
   clear H1
   have H' := am H
   clear H
   go_wp2
   go_meet
   case rel => exact ⟨_, (decide (a0 ≤ 9223372036854775808)), sm, H', ⟨by first | omega | exact Nat.le_refl _⟩, by repeat (first | exact Drawn0.refl _ | apply Drawn0.step)⟩
  ·replace c4 := Bool.eq_false_iff.mpr c4
   subst c4
   have H1 : (safe_signed.j0 k a0 false false) = some (r1, r2) := by rw [if_neg (show ¬ (false = true) by decide)] at H; exact H
   clear H
   have H := H1
   clear H1
   have H' := am H
   clear H
   go_wp2
   go_meet
   case rel => exact ⟨_, (false), sm, H', ⟨by first | omega | exact Nat.le_refl _⟩, by repeat (first | exact Drawn0.refl _ | apply Drawn0.step)⟩
 case rest =>
  clear HC3
  try clear c1
  try clear p2
  try clear c4
  obtain ⟨kq, x6_2, rfl, HA, HJ2, ⟨mc2, rfl⟩⟩ := hcut
  cases kq with
  | zero => exact absurd HA.out (by simp [safe_signed.j0])
  | succ kj2 =>
   have H := HA.out
   clear HA
   simp only [safe_signed.j0] at H
   by_cases c5 : x6_2 = true
   ·subst c5
    have H1 : (some (wrap64 (IntKind.u64.wrap (-a0)), 0)) = some (r1, r2) := by rw [if_pos rfl] at H; exact H
    clear H
    have H := H1
    clear H1
    simp only [Option.some.injEq, Prod.mk.injEq] at H
    obtain ⟨rfl, rfl⟩ := H
    go_wp2
    go_ret2
    exact ⟨by first | rfl | (simp; done) | (simp [*]; done), by repeat (first | exact Drawn0.refl _ | apply Drawn0.step)⟩
   ·replace c5 := Bool.eq_false_iff.mpr c5
    subst c5
    have H1 : (if a1 = true then (some (0, 10)) else (if a0 ≤ 9223372036854775807 then (some (wrap64 (a0), 0)) else (some (0, 10)))) = some (r1, r2) := by rw [if_neg (show ¬ (false = true) by decide)] at H; exact H
    clear H
    have H := H1
    clear H1
    by_cases c6 : a1 = true
    ·subst c6
     have H1 : (some (0, 10)) = some (r1, r2) := by rw [if_pos rfl] at H; exact H
     clear H
     have H := H1
     clear H1
     simp only [Option.some.injEq, Prod.mk.injEq] at H
     obtain ⟨rfl, rfl⟩ := H
     go_wp2
     go_ret2
     exact ⟨by first | rfl | (simp; done) | (simp [*]; done), by repeat (first | exact Drawn0.refl _ | apply Drawn0.step)⟩
    ·replace c6 := Bool.eq_false_iff.mpr c6
     subst c6
     have H1 : (if a0 ≤ 9223372036854775807 then (some (wrap64 (a0), 0)) else (some (0, 10))) = some (r1, r2) := by rw [if_neg (show ¬ (false = true) by decide)] at H; exact H
     clear H
     have H := H1
     clear H1
     by_cases c7 : a0 ≤ 9223372036854775807
     ·rw [if_pos c7] at H
      have c7b0 : decide (a0 ≤ 9223372036854775807) = true := decide_eq_true c7
      clear c7
      simp only [Option.some.injEq, Prod.mk.injEq] at H
      obtain ⟨rfl, rfl⟩ := H
      go_wp2
      go_ret2
      exact ⟨by first | rfl | (simp; done) | (simp [*]; done), by repeat (first | exact Drawn0.refl _ | apply Drawn0.step)⟩
     ·rw [if_neg c7] at H
      have c7b0 : decide (a0 ≤ 9223372036854775807) = false := decide_eq_false c7
      clear c7
      simp only [Option.some.injEq, Prod.mk.injEq] at H
      obtain ⟨rfl, rfl⟩ := H
      go_wp2
      go_ret2
      exact ⟨by first | rfl | (simp; done) | (simp [*]; done), by repeat (first | exact Drawn0.refl _ | apply Drawn0.step)⟩

end Go.Proofs.Ytmbmalkpmanaaaa.P

namespace Go.Proofs.Ytmbmalkpmanaaaa.P
open Go.RowKit Go.Proofs.YtmbmalkpmanaaaaW.PrintWords Go.Proofs.YtmbmalkpmanaaaaW.PrintLast Go.Proofs.YtmbmalkpmanaaaaW.PrintMore
attribute [local go_sem] max2_int min2_int max_two min_two max_three min_three max_four min_four   -- for this text's walks alone
set_option linter.unusedVariables false
set_option linter.unusedSimpArgs false

def safe_size.f (a0 : Int) : Option (Int) := if a0 < 0 then (some (IntKind.u64.wrap (-(IntKind.u64.wrap (a0))))) else (some (IntKind.u64.wrap (a0)))
set_option maxHeartbeats 8000000 in
set_option maxRecDepth 100000 in
theorem safe_size.calls (a0 : Int) (r : Int) (w : World) (h : safe_size.f a0 = some r) :
 Calls Try.prog 103 #[.int .i64 a0] w fun e w' => e = .returned (.int .u64 r) ∧ Drawn0 w w' := by
 have H : (if a0 < 0 then (some (IntKind.u64.wrap (-(IntKind.u64.wrap (a0))))) else (some (IntKind.u64.wrap (a0)))) = some r := h
 clear h
 by_cases c2 : a0 < 0
 ·rw [if_pos c2] at H
  have c2b0 : decide (a0 < 0) = true := decide_eq_true c2
  clear c2
  obtain rfl := Option.some.inj H
  go_enter Try.func103, Try.ntmps103
  go_wp2
  go_ret
  exact ⟨by first | rfl | (simp; done) | (simp [*]; done), by repeat (first | exact Drawn0.refl _ | apply Drawn0.step)⟩
 ·rw [if_neg c2] at H
  have c2b0 : decide (a0 < 0) = false := decide_eq_false c2
  clear c2
  obtain rfl := Option.some.inj H
  go_enter Try.func103, Try.ntmps103
  go_wp2
  go_ret
  exact ⟨by first | rfl | (simp; done) | (simp [*]; done), by repeat (first | exact Drawn0.refl _ | apply Drawn0.step)⟩

end Go.Proofs.Ytmbmalkpmanaaaa.P

namespace Go.Proofs.Ytmbmalkpmanaaaa.P
open Go.RowKit Go.Proofs.YtmbmalkpmanaaaaW.PrintWords Go.Proofs.YtmbmalkpmanaaaaW.PrintLast Go.Proofs.YtmbmalkpmanaaaaW.PrintMore
attribute [local go_sem] max2_int min2_int max_two min_two max_three min_three max_four min_four   -- for this text's walks alone
set_option linter.unusedVariables false
set_option linter.unusedSimpArgs false

def safe_Mul.f (k : Nat) (a0 : Int) (a1 : Int) : Option (Int × Int) := (safe_size.f a0).bind fun t2046 => ((safe_size.f a1).bind fun t2047 => ((bits_Mul64.f t2046 t2047).bind fun bt2048 => (if bt2048.1 = 0 then ((safe_signed.f k bt2048.2 ((decide (a0 < 0)) != (decide (a1 < 0)))).bind fun bt2050 => (some (bt2050.1, bt2050.2))) else (some (0, 10)))))
theorem safe_Mul.mono : ∀ a0 a1 k, LeO (safe_Mul.f k a0 a1) (safe_Mul.f (k + 1) a0 a1) := by
 intro a0 a1 k
 unfold safe_Mul.f
 repeat' first
  | (with_reducible exact safe_signed.mono _ _ _)
  | (with_reducible exact LeO.refl _)
  | (with_reducible exact LeO.none _)
  | (with_reducible refine LeO.ite ?_ ?_)
  | (with_reducible refine LeO.bind ?_ (fun _ => ?_))
  | exact safe_signed.mono _ _ _
  | exact LeO.none _
  | refine LeO.ite ?_ ?_
  | refine LeO.bind ?_ (fun _ => ?_)
set_option maxHeartbeats 8000000 in
set_option maxRecDepth 100000 in
theorem safe_Mul.calls (k : Nat) (a0 : Int) (a1 : Int) (r1 : Int) (r2 : Int) (w : World) (h : safe_Mul.f k a0 a1 = some (r1, r2)) :
 Calls Try.prog 86 #[.int .i64 a0, .int .i64 a1] w fun e w' => e = .returned (.tuple #[.int .i64 r1, .int .i64 r2]) ∧ Drawn0 w w' := by
 have H : ((safe_size.f a0).bind fun t2046 => ((safe_size.f a1).bind fun t2047 => ((bits_Mul64.f t2046 t2047).bind fun bt2048 => (if bt2048.1 = 0 then ((safe_signed.f k bt2048.2 ((decide (a0 < 0)) != (decide (a1 < 0)))).bind fun bt2050 => (some (bt2050.1, bt2050.2))) else (some (0, 10)))))) = some (r1, r2) := h
 clear h
 replace H := Option.bind_eq_some_iff.mp H
 obtain ⟨t2046, A30, H⟩ := H
 try dsimp only at H
 have A3 := am A30
 clear A30
 replace H := Option.bind_eq_some_iff.mp H
 obtain ⟨t2047, A40, H⟩ := H
 try dsimp only at H
 have A4 := am A40
 clear A40
 replace H := Option.bind_eq_some_iff.mp H
 obtain ⟨⟨t2048, t2049⟩, A50, H⟩ := H
 try dsimp only at H
 have A5 := am A50
 clear A50
 by_cases c6 : t2048 = 0
 ·rw [if_pos c6] at H
  have c6b0 : (t2048 == 0) = true := beq_iff_eq.mpr c6
  have c6b1 : (t2048 != 0) = false := bne_eq_false_iff_eq.mpr c6
  clear c6
  replace H := Option.bind_eq_some_iff.mp H
  obtain ⟨⟨t2050, t2051⟩, A70, H⟩ := H
  try dsimp only at H
  have A7 := am A70
  clear A70
  simp only [Option.some.injEq, Prod.mk.injEq] at H
  obtain ⟨rfl, rfl⟩ := H
  go_enter Try.func86, Try.ntmps86
  go_wp2_with (first | ((with_reducible refine gate_callee (f := 103) rfl ?_); refine goesL_ (some 10) rfl rfl Try.func103 (by kernel_rfl) rfl #[.int .i64 a0] rfl ar ?_; (with_reducible refine (safe_size.calls a0 t2046 _ A3.out).mono ?_); rintro e w' ⟨rfl, ⟨nd, rfl⟩⟩; refine ⟨_, rfl, ?_⟩) | ((with_reducible refine gate_callee (f := 103) rfl ?_); refine goesL_ (some 12) rfl rfl Try.func103 (by kernel_rfl) rfl #[.int .i64 a1] rfl ar ?_; (with_reducible refine (safe_size.calls a1 t2047 _ A4.out).mono ?_); rintro e w' ⟨rfl, ⟨nd, rfl⟩⟩; refine ⟨_, rfl, ?_⟩) | ((with_reducible refine gate_callee (f := 102) rfl ?_); refine goesL_ (some 13) rfl rfl Try.func102 (by kernel_rfl) rfl #[.int .u64 t2046, .int .u64 t2047] rfl ar ?_; (with_reducible refine (bits_Mul64.calls t2046 t2047 t2048 t2049 _ A5.out).mono ?_); rintro e w' ⟨rfl, ⟨nd, rfl⟩⟩; refine ⟨_, rfl, ?_⟩) | ((with_reducible refine gate_callee (f := 104) rfl ?_); refine goesL_ (some 24) rfl rfl Try.func104 (by kernel_rfl) rfl #[.int .u64 t2049, .bool ((decide (a0 < 0)) != (decide (a1 < 0)))] rfl ar ?_; (with_reducible refine (safe_signed.calls k t2049 ((decide (a0 < 0)) != (decide (a1 < 0))) t2050 t2051 _ A7.out).mono ?_); rintro e w' ⟨rfl, ⟨nd, rfl⟩⟩; refine ⟨_, rfl, ?_⟩))
  go_ret2
  exact ⟨by first | rfl | (simp; done) | (simp [*]; done), by repeat (first | exact Drawn0.refl _ | apply Drawn0.step)⟩
 ·rw [if_neg c6] at H
  have c6b0 : (t2048 == 0) = false := beq_eq_false_iff_ne.mpr c6
  have c6b1 : (t2048 != 0) = true := bne_iff_ne.mpr c6
  simp only [Option.some.injEq, Prod.mk.injEq] at H
  obtain ⟨rfl, rfl⟩ := H
  go_enter Try.func86, Try.ntmps86
  go_wp2_with (first | ((with_reducible refine gate_callee (f := 103) rfl ?_); refine goesL_ (some 10) rfl rfl Try.func103 (by kernel_rfl) rfl #[.int .i64 a0] rfl ar ?_; (with_reducible refine (safe_size.calls a0 t2046 _ A3.out).mono ?_); rintro e w' ⟨rfl, ⟨nd, rfl⟩⟩; refine ⟨_, rfl, ?_⟩) | ((with_reducible refine gate_callee (f := 103) rfl ?_); refine goesL_ (some 12) rfl rfl Try.func103 (by kernel_rfl) rfl #[.int .i64 a1] rfl ar ?_; (with_reducible refine (safe_size.calls a1 t2047 _ A4.out).mono ?_); rintro e w' ⟨rfl, ⟨nd, rfl⟩⟩; refine ⟨_, rfl, ?_⟩) | ((with_reducible refine gate_callee (f := 102) rfl ?_); refine goesL_ (some 13) rfl rfl Try.func102 (by kernel_rfl) rfl #[.int .u64 t2046, .int .u64 t2047] rfl ar ?_; (with_reducible refine (bits_Mul64.calls t2046 t2047 t2048 t2049 _ A5.out).mono ?_); rintro e w' ⟨rfl, ⟨nd, rfl⟩⟩; refine ⟨_, rfl, ?_⟩))
  go_ret2
  exact ⟨by first | rfl | (simp; done) | (simp [*]; done), by repeat (first | exact Drawn0.refl _ | apply Drawn0.step)⟩

end Go.Proofs.Ytmbmalkpmanaaaa.P

namespace Go.Proofs.Ytmbmalkpmanaaaa.P
open Go.RowKit Go.Proofs.YtmbmalkpmanaaaaW.PrintWords Go.Proofs.YtmbmalkpmanaaaaW.PrintLast Go.Proofs.YtmbmalkpmanaaaaW.PrintMore
attribute [local go_sem] max2_int min2_int max_two min_two max_three min_three max_four min_four   -- for this text's walks alone
set_option linter.unusedVariables false
set_option linter.unusedSimpArgs false

def gran_kept.f (k : Nat) (a0_0 : Int) (a0_1 : Int) (l0_2 : List (List (S23))) (l0_3 : List (S70)) (a1 : Int) : Option ((List (S23)) × Int × Int) := (gran_odd.f k a0_0 a0_1 l0_2 l0_3 a1).bind fun bt2053 => (if bt2053.2 = true then (if 0 ≤ bt2053.1 then (if bt2053.1 < (l0_3.length : Int) then (some ((rd_T70 l0_3 bt2053.1).f1, 0, 0)) else (none)) else (none)) else (if a0_1 = 0 then (some (([] : List (S23)), 0, 0)) else ((safe_Floor.f k a1 a0_1).bind fun bt2056 => ((safe_Mul.f k bt2056.1 a0_0).bind fun bt2059 => (if 0 ≤ bt2056.2.1 then (if bt2056.2.1 < (l0_2.length : Int) then (some (rd_L2 l0_2 bt2056.2.1, bt2059.1, bt2059.2)) else (none)) else (none))))))
theorem gran_kept.mono : ∀ a0 a1 a2 a3 a4 k, LeO (gran_kept.f k a0 a1 a2 a3 a4) (gran_kept.f (k + 1) a0 a1 a2 a3 a4) := by
 intro a0 a1 a2 a3 a4 k
 unfold gran_kept.f
 repeat' first
  | (with_reducible exact gran_odd.mono _ _ _ _ _ _)
  | (with_reducible exact safe_Floor.mono _ _ _)
  | (with_reducible exact safe_Mul.mono _ _ _)
  | (with_reducible exact LeO.refl _)
  | (with_reducible exact LeO.none _)
  | (with_reducible refine LeO.ite ?_ ?_)
  | (with_reducible refine LeO.bind ?_ (fun _ => ?_))
  | exact gran_odd.mono _ _ _ _ _ _
  | exact safe_Floor.mono _ _ _
  | exact safe_Mul.mono _ _ _
  | exact LeO.none _
  | refine LeO.ite ?_ ?_
  | refine LeO.bind ?_ (fun _ => ?_)
set_option maxHeartbeats 8000000 in
set_option maxRecDepth 100000 in
theorem gran_kept.calls (k : Nat) (a0_0 : Int) (a0_1 : Int) (P0_2_ : Nat → Prop) (A0_2 : Option Addr) (c0_2 : Nat) (l0_2 : List (List (S23))) (P0_3_ : Nat → Prop) (A0_3 : Option Addr) (c0_3 : Nat) (l0_3 : List (S70)) (a1 : Int) (r1 : List (S23)) (r2 : Int) (r3 : Int) (w : World) (hs0_2 : Kd.V (Kd.slice 23 k23) 24 w w.heap.size (fun k_ => P0_2_ k_) (.slice A0_2 l0_2.length c0_2) l0_2) (hs0_3 : Kd.V k70 70 w w.heap.size (fun k_ => P0_3_ k_) (.slice A0_3 l0_3.length c0_3) l0_3) (h : gran_kept.f k a0_0 a0_1 l0_2 l0_3 a1 = some (r1, r2, r3)) :
 Calls Try.prog 56 #[.agg #[.int .i64 a0_0, .int .i64 a0_1, .slice A0_2 l0_2.length c0_2, .slice A0_3 l0_3.length c0_3], .int .i64 a1] w fun e w' => ∃ v0_ : Value, e = .returned (.tuple #[v0_, .int .i64 r2, .int .i64 r3]) ∧ Kd.V k23 23 w' w.heap.size (fun k_ => ((P0_2_ k_ ∨ P0_3_ k_) ∨ w.heap.size ≤ k_)) v0_ r1 ∧ Below w.heap.size w w' := by
 have hu28 := Try.underlying28
 have HO0_2 := am (show Kd.V (Kd.slice 23 k23) 24 w w.heap.size (fun k_ => ((P0_2_ k_ ∨ P0_3_ k_) ∨ w.heap.size ≤ k_)) (.slice A0_2 l0_2.length c0_2) l0_2 from Kd.V_mono hs0_2 (fun k_ hk => .inl (.inl hk)))
 have HO0_3 := am (show Kd.V k70 70 w w.heap.size (fun k_ => ((P0_2_ k_ ∨ P0_3_ k_) ∨ w.heap.size ≤ k_)) (.slice A0_3 l0_3.length c0_3) l0_3 from Kd.V_mono hs0_3 (fun k_ hk => .inl (.inr hk)))
 have HB := am (Below.refl w.heap.size w)
 have H : ((gran_odd.f k a0_0 a0_1 l0_2 l0_3 a1).bind fun bt2053 => (if bt2053.2 = true then (if 0 ≤ bt2053.1 then (if bt2053.1 < (l0_3.length : Int) then (some ((rd_T70 l0_3 bt2053.1).f1, 0, 0)) else (none)) else (none)) else (if a0_1 = 0 then (some (([] : List (S23)), 0, 0)) else ((safe_Floor.f k a1 a0_1).bind fun bt2056 => ((safe_Mul.f k bt2056.1 a0_0).bind fun bt2059 => (if 0 ≤ bt2056.2.1 then (if bt2056.2.1 < (l0_2.length : Int) then (some (rd_L2 l0_2 bt2056.2.1, bt2059.1, bt2059.2)) else (none)) else (none))))))) = some (r1, r2, r3) := h
 clear h
 replace H := Option.bind_eq_some_iff.mp H
 obtain ⟨⟨t2053, t2054⟩, A30, H⟩ := H
 try dsimp only at H
 have A3 := am A30
 clear A30
 by_cases c4 : t2054 = true
 ·subst c4
  have H1 : (if 0 ≤ t2053 then (if t2053 < (l0_3.length : Int) then (some ((rd_T70 l0_3 t2053).f1, 0, 0)) else (none)) else (none)) = some (r1, r2, r3) := by rw [if_pos rfl] at H; exact H
  clear H
  have H := H1
  clear H1
  by_cases c5 : 0 ≤ t2053
  ·rw [if_pos c5] at H
   have c5b0 : decide (0 ≤ t2053) = true := decide_eq_true c5
   clear c5
   by_cases c6 : t2053 < (l0_3.length : Int)
   ·rw [if_pos c6] at H
    have c6b0 : decide (t2053 < (l0_3.length : Int)) = true := decide_eq_true c6
    clear c6
    simp only [Option.some.injEq, Prod.mk.injEq] at H
    obtain ⟨rfl, rfl, rfl⟩ := H
    go_enter Try.func56, Try.ntmps56
    go_wp2_with (first | ((with_reducible refine gate_dst (N := 2) rfl ?_); refine bx 2 28 #[.int .i64 a0_0, .int .i64 a0_1, .slice A0_2 l0_2.length c0_2, .slice A0_3 l0_3.length c0_3] ?_; intro gb2052 hg w7 hbox hb; replace HO0_2 := am (Kd.V_below (Kd.V_elderB (kv HO0_2.out) gb2052 (Nat.le_of_eq hg.symm)) hb); replace HO0_3 := am (Kd.V_below (Kd.V_elderB (kv HO0_3.out) gb2052 (Nat.le_of_eq hg.symm)) hb); have BK2052 := am (hbox); have GW2052 := am ((bz hg HB.out : w.heap.size ≤ gb2052)); have GE2052 := am ((bz hg HB.out : w.heap.size ≤ gb2052)); replace HB := am (below_step (bl HB.out) hb); clear hb hbox hg; have hcz8_0 : w7.cell? ⟨gb2052, 0, none⟩ = some (.int .i64 a0_0) := bc BK2052.out 0; have hcz8_1 : w7.cell? ⟨gb2052, 1, none⟩ = some (.int .i64 a0_1) := bc BK2052.out 1; have hcz8_2 : w7.cell? ⟨gb2052, 2, none⟩ = some (.slice A0_2 l0_2.length c0_2) := bc BK2052.out 2; have hcz8_3 : w7.cell? ⟨gb2052, 3, none⟩ = some (.slice A0_3 l0_3.length c0_3) := bc BK2052.out 3; have hfz8_0 := blk_frozen BK2052.out 0; have hfz8_1 := blk_frozen BK2052.out 1; have hfz8_2 := blk_frozen BK2052.out 2; have hfz8_3 := blk_frozen BK2052.out 3) | ((with_reducible refine gate_callee (f := 84) rfl ?_); refine goesL_ (some 17) rfl rfl Try.func84 (by kernel_rfl) rfl #[.agg #[.int .i64 a0_0, .int .i64 a0_1, .slice A0_2 l0_2.length c0_2, .slice A0_3 l0_3.length c0_3], .int .i64 a1] rfl ar ?_; (with_reducible refine (gran_odd.calls k a0_0 a0_1 _ _ l0_2 _ _ l0_3 a1 t2053 true _ ?side1 ?side2 ?side3 ?side4 A3.out).mono ?_); (case side1 => exact kc (Kd.V_reads' HO0_2.out).2.2); (case side2 => exact (Kd.V_reads' HO0_2.out).2.1); (case side3 => exact kc (Kd.V_reads' HO0_3.out).2.2); (case side4 => exact (Kd.V_reads' HO0_3.out).2.1); rintro e w9 ⟨rfl, hb⟩; refine ⟨_, rfl, ?_⟩; replace HO0_2 := am (Kd.V_below (kv HO0_2.out) hb); replace HO0_3 := am (Kd.V_below (kv HO0_3.out) hb); replace BK2052 := am (blk_below (kp BK2052.out) hb); replace HB := am (below_step (bl1 HB.out GE2052.out) hb); (try clear hb); (try clear hb2); (try clear hk); (try clear hi); have hcz10_0 : w9.cell? ⟨gb2052, 0, none⟩ = some (.int .i64 a0_0) := bc BK2052.out 0; have hcz10_1 : w9.cell? ⟨gb2052, 1, none⟩ = some (.int .i64 a0_1) := bc BK2052.out 1; have hcz10_2 : w9.cell? ⟨gb2052, 2, none⟩ = some (.slice A0_2 l0_2.length c0_2) := bc BK2052.out 2; have hcz10_3 : w9.cell? ⟨gb2052, 3, none⟩ = some (.slice A0_3 l0_3.length c0_3) := bc BK2052.out 3; have hfz10_0 := blk_frozen BK2052.out 0; have hfz10_1 := blk_frozen BK2052.out 1; have hfz10_2 := blk_frozen BK2052.out 2; have hfz10_3 := blk_frozen BK2052.out 3; have p2055 : 0 ≤ (t2053 : Int) := of_decide_eq_true asm; have q2055 : t2053 < (l0_3.length : Int) := of_decide_eq_true asm; obtain ⟨ad2055, A2055_1, c2055_1, e2055, hx2055_0, hx2055_1, hl2055_1, hi2055_1⟩ := at_T70 (Kd.V_reads' HO0_3.out).2.2 t2053 p2055 q2055; cases e2055; obtain ⟨ce2055, hce2055, hMe2055, hcc2055⟩ := Kd.V_get HO0_3.out z70 t2053 p2055 (by first | exact q2055 | exact of_decide_eq_true asm | (have e_ := (Kd.V_reads' HO0_3.out).1; omega)); obtain ⟨ua2055_1, uc2055_1, rfl, ul2055_1, ge2055_1⟩ := k70_openF hMe2055; have hv2055_1 := hcc2055 1 _ rfl; rw [add_field _ _ 1 (by omega)] at hv2055_1; replace hv2055_1 := Option.some.inj (hv2055_1.symm.trans hx2055_1); injection hv2055_1 with hva_ hvn_ hvc_; rw [hva_] at ge2055_1; rw [hvc_] at ul2055_1; have HL2055_1 := am (show Kd.V k23 23 _ w.heap.size _ _ ((rd_T70 l0_3 t2053).f1) from Kd.V_mk ul2055_1 ge2055_1); clear hva_ hvn_ hvc_ ge2055_1 ul2055_1; clear hcc2055 hce2055; have HR2055_1 := am hi2055_1; have HC2055_1 := am hl2055_1; clear hi2055_1 hl2055_1; replace p2055 := eq_true p2055; replace q2055 := eq_true q2055))
    go_ret3
    exact ⟨_, rt, by (with_reducible repeat (first | apply Kd.V_alloc | apply Kd.V_drewN | apply Kd.V_drew)); exact Kd.V_mono HL2055_1.out (fun _ hk => hk.1), bl1 HB.out GE2052.out⟩
   ·rw [if_neg c6] at H
    exact absurd H (by simp)
  ·rw [if_neg c5] at H
   exact absurd H (by simp)
 ·replace c4 := Bool.eq_false_iff.mpr c4
  subst c4
  have H1 : (if a0_1 = 0 then (some (([] : List (S23)), 0, 0)) else ((safe_Floor.f k a1 a0_1).bind fun bt2056 => ((safe_Mul.f k bt2056.1 a0_0).bind fun bt2059 => (if 0 ≤ bt2056.2.1 then (if bt2056.2.1 < (l0_2.length : Int) then (some (rd_L2 l0_2 bt2056.2.1, bt2059.1, bt2059.2)) else (none)) else (none))))) = some (r1, r2, r3) := by rw [if_neg (show ¬ (false = true) by decide)] at H; exact H
  clear H
  have H := H1
  clear H1
  by_cases c11 : a0_1 = 0
  ·rw [if_pos c11] at H
   have c11b0 : (a0_1 == 0) = true := beq_iff_eq.mpr c11
   have c11b1 : (a0_1 != 0) = false := bne_eq_false_iff_eq.mpr c11
   clear c11
   simp only [Option.some.injEq, Prod.mk.injEq] at H
   obtain ⟨rfl, rfl, rfl⟩ := H
   go_enter Try.func56, Try.ntmps56
   go_wp2_with (first | ((with_reducible refine gate_dst (N := 2) rfl ?_); refine bx 2 28 #[.int .i64 a0_0, .int .i64 a0_1, .slice A0_2 l0_2.length c0_2, .slice A0_3 l0_3.length c0_3] ?_; intro gb2052 hg w12 hbox hb; replace HO0_2 := am (Kd.V_below (Kd.V_elderB (kv HO0_2.out) gb2052 (Nat.le_of_eq hg.symm)) hb); replace HO0_3 := am (Kd.V_below (Kd.V_elderB (kv HO0_3.out) gb2052 (Nat.le_of_eq hg.symm)) hb); have BK2052 := am (hbox); have GW2052 := am ((bz hg HB.out : w.heap.size ≤ gb2052)); have GE2052 := am ((bz hg HB.out : w.heap.size ≤ gb2052)); replace HB := am (below_step (bl HB.out) hb); clear hb hbox hg; have hcz13_0 : w12.cell? ⟨gb2052, 0, none⟩ = some (.int .i64 a0_0) := bc BK2052.out 0; have hcz13_1 : w12.cell? ⟨gb2052, 1, none⟩ = some (.int .i64 a0_1) := bc BK2052.out 1; have hcz13_2 : w12.cell? ⟨gb2052, 2, none⟩ = some (.slice A0_2 l0_2.length c0_2) := bc BK2052.out 2; have hcz13_3 : w12.cell? ⟨gb2052, 3, none⟩ = some (.slice A0_3 l0_3.length c0_3) := bc BK2052.out 3; have hfz13_0 := blk_frozen BK2052.out 0; have hfz13_1 := blk_frozen BK2052.out 1; have hfz13_2 := blk_frozen BK2052.out 2; have hfz13_3 := blk_frozen BK2052.out 3) | ((with_reducible refine gate_callee (f := 84) rfl ?_); refine goesL_ (some 17) rfl rfl Try.func84 (by kernel_rfl) rfl #[.agg #[.int .i64 a0_0, .int .i64 a0_1, .slice A0_2 l0_2.length c0_2, .slice A0_3 l0_3.length c0_3], .int .i64 a1] rfl ar ?_; (with_reducible refine (gran_odd.calls k a0_0 a0_1 _ _ l0_2 _ _ l0_3 a1 t2053 false _ ?side1 ?side2 ?side3 ?side4 A3.out).mono ?_); (case side1 => exact kc (Kd.V_reads' HO0_2.out).2.2); (case side2 => exact (Kd.V_reads' HO0_2.out).2.1); (case side3 => exact kc (Kd.V_reads' HO0_3.out).2.2); (case side4 => exact (Kd.V_reads' HO0_3.out).2.1); rintro e w14 ⟨rfl, hb⟩; refine ⟨_, rfl, ?_⟩; replace HO0_2 := am (Kd.V_below (kv HO0_2.out) hb); replace HO0_3 := am (Kd.V_below (kv HO0_3.out) hb); replace BK2052 := am (blk_below (kp BK2052.out) hb); replace HB := am (below_step (bl1 HB.out GE2052.out) hb); (try clear hb); (try clear hb2); (try clear hk); (try clear hi); have hcz15_0 : w14.cell? ⟨gb2052, 0, none⟩ = some (.int .i64 a0_0) := bc BK2052.out 0; have hcz15_1 : w14.cell? ⟨gb2052, 1, none⟩ = some (.int .i64 a0_1) := bc BK2052.out 1; have hcz15_2 : w14.cell? ⟨gb2052, 2, none⟩ = some (.slice A0_2 l0_2.length c0_2) := bc BK2052.out 2; have hcz15_3 : w14.cell? ⟨gb2052, 3, none⟩ = some (.slice A0_3 l0_3.length c0_3) := bc BK2052.out 3; have hfz15_0 := blk_frozen BK2052.out 0; have hfz15_1 := blk_frozen BK2052.out 1; have hfz15_2 := blk_frozen BK2052.out 2; have hfz15_3 := blk_frozen BK2052.out 3))
   go_ret3
   exact ⟨_, rt, (by first | exact Kd.V_nil _ _ _ _ _ | exact Kd.V_mono (Kd.R_V (by first | exact Kd.R_nil _ _ _ _ _ | exact Kd.N_nil _ _ _ _ _ | exact Kd.V_nil _ _ _ _ _ | exact Kd.Q_nil _ _ _ _ _ | exact Kd.S_nil _ _ _ _ _)) (fun k_ hk => by first | exact ⟨(.inr (hk.1)), hk.2⟩ | exact (.inr (hk)))), bl1 HB.out GE2052.out⟩
  ·rw [if_neg c11] at H
   have c11b0 : (a0_1 == 0) = false := beq_eq_false_iff_ne.mpr c11
   have c11b1 : (a0_1 != 0) = true := bne_iff_ne.mpr c11
   replace H := Option.bind_eq_some_iff.mp H
   obtain ⟨⟨t2056, t2057, t2058⟩, A160, H⟩ := H
   try dsimp only at H
   have A16 := am A160
   clear A160
   replace H := Option.bind_eq_some_iff.mp H
   obtain ⟨⟨t2059, t2060⟩, A170, H⟩ := H
   try dsimp only at H
   have A17 := am A170
   clear A170
   by_cases c18 : 0 ≤ t2057
   ·rw [if_pos c18] at H
    have c18b0 : decide (0 ≤ t2057) = true := decide_eq_true c18
    clear c18
    by_cases c19 : t2057 < (l0_2.length : Int)
    ·rw [if_pos c19] at H
     have c19b0 : decide (t2057 < (l0_2.length : Int)) = true := decide_eq_true c19
     clear c19
     simp only [Option.some.injEq, Prod.mk.injEq] at H
     obtain ⟨rfl, rfl, rfl⟩ := H
     go_enter Try.func56, Try.ntmps56
     go_wp2_with (first | ((with_reducible refine gate_dst (N := 2) rfl ?_); refine bx 2 28 #[.int .i64 a0_0, .int .i64 a0_1, .slice A0_2 l0_2.length c0_2, .slice A0_3 l0_3.length c0_3] ?_; intro gb2052 hg w20 hbox hb; replace HO0_2 := am (Kd.V_below (Kd.V_elderB (kv HO0_2.out) gb2052 (Nat.le_of_eq hg.symm)) hb); replace HO0_3 := am (Kd.V_below (Kd.V_elderB (kv HO0_3.out) gb2052 (Nat.le_of_eq hg.symm)) hb); have BK2052 := am (hbox); have GW2052 := am ((bz hg HB.out : w.heap.size ≤ gb2052)); have GE2052 := am ((bz hg HB.out : w.heap.size ≤ gb2052)); replace HB := am (below_step (bl HB.out) hb); clear hb hbox hg; have hcz21_0 : w20.cell? ⟨gb2052, 0, none⟩ = some (.int .i64 a0_0) := bc BK2052.out 0; have hcz21_1 : w20.cell? ⟨gb2052, 1, none⟩ = some (.int .i64 a0_1) := bc BK2052.out 1; have hcz21_2 : w20.cell? ⟨gb2052, 2, none⟩ = some (.slice A0_2 l0_2.length c0_2) := bc BK2052.out 2; have hcz21_3 : w20.cell? ⟨gb2052, 3, none⟩ = some (.slice A0_3 l0_3.length c0_3) := bc BK2052.out 3; have hfz21_0 := blk_frozen BK2052.out 0; have hfz21_1 := blk_frozen BK2052.out 1; have hfz21_2 := blk_frozen BK2052.out 2; have hfz21_3 := blk_frozen BK2052.out 3) | ((with_reducible refine gate_callee (f := 84) rfl ?_); refine goesL_ (some 17) rfl rfl Try.func84 (by kernel_rfl) rfl #[.agg #[.int .i64 a0_0, .int .i64 a0_1, .slice A0_2 l0_2.length c0_2, .slice A0_3 l0_3.length c0_3], .int .i64 a1] rfl ar ?_; (with_reducible refine (gran_odd.calls k a0_0 a0_1 _ _ l0_2 _ _ l0_3 a1 t2053 false _ ?side1 ?side2 ?side3 ?side4 A3.out).mono ?_); (case side1 => exact kc (Kd.V_reads' HO0_2.out).2.2); (case side2 => exact (Kd.V_reads' HO0_2.out).2.1); (case side3 => exact kc (Kd.V_reads' HO0_3.out).2.2); (case side4 => exact (Kd.V_reads' HO0_3.out).2.1); rintro e w22 ⟨rfl, hb⟩; refine ⟨_, rfl, ?_⟩; replace HO0_2 := am (Kd.V_below (kv HO0_2.out) hb); replace HO0_3 := am (Kd.V_below (kv HO0_3.out) hb); replace BK2052 := am (blk_below (kp BK2052.out) hb); replace HB := am (below_step (bl1 HB.out GE2052.out) hb); (try clear hb); (try clear hb2); (try clear hk); (try clear hi); have hcz23_0 : w22.cell? ⟨gb2052, 0, none⟩ = some (.int .i64 a0_0) := bc BK2052.out 0; have hcz23_1 : w22.cell? ⟨gb2052, 1, none⟩ = some (.int .i64 a0_1) := bc BK2052.out 1; have hcz23_2 : w22.cell? ⟨gb2052, 2, none⟩ = some (.slice A0_2 l0_2.length c0_2) := bc BK2052.out 2; have hcz23_3 : w22.cell? ⟨gb2052, 3, none⟩ = some (.slice A0_3 l0_3.length c0_3) := bc BK2052.out 3; have hfz23_0 := blk_frozen BK2052.out 0; have hfz23_1 := blk_frozen BK2052.out 1; have hfz23_2 := blk_frozen BK2052.out 2; have hfz23_3 := blk_frozen BK2052.out 3) | ((with_reducible refine gate_callee (f := 85) rfl ?_); refine goesL_ (some 34) rfl rfl Try.func85 (by kernel_rfl) rfl #[.int .i64 a1, .int .i64 a0_1] rfl ar ?_; (with_reducible refine (safe_Floor.calls k a1 a0_1 t2056 t2057 t2058 _ A16.out).mono ?_); rintro e w' ⟨rfl, ⟨nd, rfl⟩⟩; refine ⟨_, rfl, ?_⟩) | ((with_reducible refine gate_callee (f := 86) rfl ?_); refine goesL_ (some 42) rfl rfl Try.func86 (by kernel_rfl) rfl #[.int .i64 t2056, .int .i64 a0_0] rfl ar ?_; (with_reducible refine (safe_Mul.calls k t2056 a0_0 t2059 t2060 _ A17.out).mono ?_); rintro e w' ⟨rfl, ⟨nd, rfl⟩⟩; refine ⟨_, rfl, ?_⟩; have p2061 : 0 ≤ (t2057 : Int) := of_decide_eq_true asm; have q2061 : t2057 < (l0_2.length : Int) := of_decide_eq_true asm; obtain ⟨ad2061, A2061_0, c2061_0, e2061, hx2061_0, hl2061_0, hi2061_0⟩ := at_L2 (Kd.V_reads' HO0_2.out).2.2 t2057 p2061 q2061; cases e2061; obtain ⟨ce2061, hce2061, hMe2061, hcc2061⟩ := Kd.V_get HO0_2.out [] t2057 p2061 (by first | exact q2061 | exact of_decide_eq_true asm | (have e_ := (Kd.V_reads' HO0_2.out).1; omega)); obtain ⟨ua2061_0, uc2061_0, rfl, ul2061_0, ge2061_0⟩ := Kd.FK_slice_open hMe2061; have hv2061_0 := hcc2061 0 _ rfl; rw [Nat.add_zero, show ((Kd.slice 23 k23)).sz = 1 from rfl, Nat.mul_one] at hv2061_0; replace hv2061_0 := Option.some.inj (hv2061_0.symm.trans hx2061_0); injection hv2061_0 with hva_ hvn_ hvc_; rw [hva_] at ge2061_0; rw [hvc_] at ul2061_0; have HL2061_0 := am (show Kd.V k23 23 _ w.heap.size _ _ (rd_L2 l0_2 t2057) from Kd.V_mk ul2061_0 ge2061_0); clear hva_ hvn_ hvc_ ge2061_0 ul2061_0; clear hcc2061 hce2061; have HR2061_0 := am hi2061_0; have HC2061_0 := am hl2061_0; clear hi2061_0 hl2061_0; replace p2061 := eq_true p2061; replace q2061 := eq_true q2061))
     go_ret3
     exact ⟨_, rt, by (with_reducible repeat (first | apply Kd.V_alloc | apply Kd.V_drewN | apply Kd.V_drew)); exact Kd.V_mono HL2061_0.out (fun _ hk => hk.1), bl1 HB.out GE2052.out⟩
    ·rw [if_neg c19] at H
     exact absurd H (by simp)
   ·rw [if_neg c18] at H
    exact absurd H (by simp)

end Go.Proofs.Ytmbmalkpmanaaaa.P

namespace Go.Proofs.Ytmbmalkpmanaaaa.P
open Go.RowKit Go.Proofs.YtmbmalkpmanaaaaW.PrintWords Go.Proofs.YtmbmalkpmanaaaaW.PrintLast Go.Proofs.YtmbmalkpmanaaaaW.PrintMore
attribute [local go_sem] max2_int min2_int max_two min_two max_three min_three max_four min_four   -- for this text's walks alone
set_option linter.unusedVariables false
set_option linter.unusedSimpArgs false

def safe_Add.f (a0 : Int) (a1 : Int) : Option (Int × Int) := if ((decide ((wrap64 (a0 + a1)) > a0)) != (decide (a1 > 0))) = true then (if a1 = 0 then (some (wrap64 (a0 + a1), 0)) else (some (0, 10))) else (some (wrap64 (a0 + a1), 0))
set_option maxHeartbeats 8000000 in
set_option maxRecDepth 100000 in
theorem safe_Add.calls (a0 : Int) (a1 : Int) (r1 : Int) (r2 : Int) (w : World) (h : safe_Add.f a0 a1 = some (r1, r2)) :
 Calls Try.prog 76 #[.int .i64 a0, .int .i64 a1] w fun e w' => e = .returned (.tuple #[.int .i64 r1, .int .i64 r2]) ∧ Drawn0 w w' := by
 have H : (if ((decide ((wrap64 (a0 + a1)) > a0)) != (decide (a1 > 0))) = true then (if a1 = 0 then (some (wrap64 (a0 + a1), 0)) else (some (0, 10))) else (some (wrap64 (a0 + a1), 0))) = some (r1, r2) := h
 clear h
 by_cases c3 : ((decide ((wrap64 (a0 + a1)) > a0)) != (decide (a1 > 0))) = true
 ·rw [if_pos c3] at H
  have c3b0 : ((decide ((wrap64 (a0 + a1)) > a0)) != (decide (a1 > 0))) = true := c3
  (try (have c3b1 : decide ((decide ((wrap64 (a0 + a1)) > a0)) = (decide (a1 > 0))) = false := by simpa using c3))
  (try (have c3b2 : ((decide ((wrap64 (a0 + a1)) > a0)) == (decide (a1 > 0))) = false := by simpa using c3))
  (try (have c3b3 : ¬ ((decide ((wrap64 (a0 + a1)) > a0)) = (decide (a1 > 0))) := by simpa using c3))
  clear c3
  by_cases c4 : a1 = 0
  ·rw [if_pos c4] at H
   have c4b0 : (a1 == 0) = true := beq_iff_eq.mpr c4
   have c4b1 : (a1 != 0) = false := bne_eq_false_iff_eq.mpr c4
   clear c4
   simp only [Option.some.injEq, Prod.mk.injEq] at H
   obtain ⟨rfl, rfl⟩ := H
   go_enter Try.func76, Try.ntmps76
   go_wp2
   go_ret2
   exact ⟨by first | rfl | (simp; done) | (simp [*]; done), by repeat (first | exact Drawn0.refl _ | apply Drawn0.step)⟩
  ·rw [if_neg c4] at H
   have c4b0 : (a1 == 0) = false := beq_eq_false_iff_ne.mpr c4
   have c4b1 : (a1 != 0) = true := bne_iff_ne.mpr c4
   simp only [Option.some.injEq, Prod.mk.injEq] at H
   obtain ⟨rfl, rfl⟩ := H
   go_enter Try.func76, Try.ntmps76
   go_wp2
   go_ret2
   exact ⟨by first | rfl | (simp; done) | (simp [*]; done), by repeat (first | exact Drawn0.refl _ | apply Drawn0.step)⟩
 ·rw [if_neg c3] at H
  have c3b0 : ((decide ((wrap64 (a0 + a1)) > a0)) != (decide (a1 > 0))) = false := by simpa using c3
  (try (have c3b1 : decide ((decide ((wrap64 (a0 + a1)) > a0)) = (decide (a1 > 0))) = true := by simpa using c3))
  (try (have c3b2 : ((decide ((wrap64 (a0 + a1)) > a0)) == (decide (a1 > 0))) = true := by simpa using c3))
  clear c3
  simp only [Option.some.injEq, Prod.mk.injEq] at H
  obtain ⟨rfl, rfl⟩ := H
  go_enter Try.func76, Try.ntmps76
  go_wp2
  go_ret2
  exact ⟨by first | rfl | (simp; done) | (simp [*]; done), by repeat (first | exact Drawn0.refl _ | apply Drawn0.step)⟩

end Go.Proofs.Ytmbmalkpmanaaaa.P

namespace Go.Proofs.Ytmbmalkpmanaaaa.P
open Go.RowKit Go.Proofs.YtmbmalkpmanaaaaW.PrintWords Go.Proofs.YtmbmalkpmanaaaaW.PrintLast Go.Proofs.YtmbmalkpmanaaaaW.PrintMore
attribute [local go_sem] max2_int min2_int max_two min_two max_three min_three max_four min_four   -- for this text's walks alone
set_option linter.unusedVariables false
set_option linter.unusedSimpArgs false

def spans_tick.f (a0 : Int) : Option (Bool) := if a0 ≥ (-1099511627776) then (some (decide (a0 ≤ 1099511627776))) else (some false)
set_option maxHeartbeats 8000000 in
set_option maxRecDepth 100000 in
theorem spans_tick.calls (a0 : Int) (r : Bool) (w : World) (h : spans_tick.f a0 = some r) :
 Calls Try.prog 66 #[.int .i64 a0] w fun e w' => e = .returned (.bool r) ∧ Drawn0 w w' := by
 have H : (if a0 ≥ (-1099511627776) then (some (decide (a0 ≤ 1099511627776))) else (some false)) = some r := h
 clear h
 by_cases c2 : a0 ≥ (-1099511627776)
 ·rw [if_pos c2] at H
  have c2b0 : decide ((-1099511627776) ≤ a0) = true := decide_eq_true c2
  clear c2
  obtain rfl := Option.some.inj H
  go_enter Try.func66, Try.ntmps66
  go_wp2
  go_ret
  exact ⟨by first | rfl | (simp; done) | (simp [*]; done), by repeat (first | exact Drawn0.refl _ | apply Drawn0.step)⟩
 ·rw [if_neg c2] at H
  have c2b0 : decide ((-1099511627776) ≤ a0) = false := decide_eq_false c2
  clear c2
  obtain rfl := Option.some.inj H
  go_enter Try.func66, Try.ntmps66
  go_wp2
  go_ret
  exact ⟨by first | rfl | (simp; done) | (simp [*]; done), by repeat (first | exact Drawn0.refl _ | apply Drawn0.step)⟩

end Go.Proofs.Ytmbmalkpmanaaaa.P

namespace Go.Proofs.Ytmbmalkpmanaaaa.P
open Go.RowKit Go.Proofs.YtmbmalkpmanaaaaW.PrintWords Go.Proofs.YtmbmalkpmanaaaaW.PrintLast Go.Proofs.YtmbmalkpmanaaaaW.PrintMore
attribute [local go_sem] max2_int min2_int max_two min_two max_three min_three max_four min_four   -- for this text's walks alone
set_option linter.unusedVariables false
set_option linter.unusedSimpArgs false

def spans_Move.l0 : Nat → Int → List (S23) → List (S23) → Int → Int → Option ((List (S23)) × Int)
 | 0, _, _, _, _, _ => none
 | k + 1, x1, x6, x13, x14, x15 => if x15 < x14 then (if 0 ≤ x15 then (if x15 < (x13.length : Int) then ((safe_Add.f ((rd_T23 x13 x15).f0) x1).bind fun bt126 => ((safe_Add.f ((rd_T23 x13 x15).f1) x1).bind fun bt128 => (if bt126.2 = 0 then (if bt128.2 = 0 then ((spans_tick.f bt126.1).bind fun t130 => (if t130 = true then ((spans_tick.f bt128.1).bind fun t131 => (if t131 = true then (if x6.length < 8796093022208 then (spans_Move.l0 k x1 (x6 ++ [(⟨bt126.1, bt128.1⟩ : S23)]) x13 x14 (wrap64 (x15 + 1))) else (none)) else (some (([] : List (S23)), 20)))) else (some (([] : List (S23)), 20)))) else (some (([] : List (S23)), 20))) else (some (([] : List (S23)), 20))))) else (none)) else (none)) else (some (x6, 0))
def spans_Move.f (k : Nat) (l0 : List (S23)) (a1 : Int) : Option ((List (S23)) × Int) := spans_Move.l0 k a1 ([] : List (S23)) l0 (l0.length : Int) 0
theorem spans_Move.mono_l : ∀ k, (∀ y0 y1 y2 y3 y4, LeO (spans_Move.l0 k y0 y1 y2 y3 y4) (spans_Move.l0 (k + 1) y0 y1 y2 y3 y4))
 | 0 => fun _ _ _ _ _ r h => by simp [spans_Move.l0] at h
 | k + 1 => by
  have ih0 := spans_Move.mono_l k
  ·intro y0 y1 y2 y3 y4
   unfold spans_Move.l0
   repeat' first
   | (with_reducible exact ih0 _ _ _ _ _)
   | (with_reducible exact LeO.refl _)
   | (with_reducible exact LeO.none _)
   | (with_reducible refine LeO.ite ?_ ?_)
   | (with_reducible refine LeO.bind ?_ (fun _ => ?_))
   | exact ih0 _ _ _ _ _
   | exact LeO.none _
   | refine LeO.ite ?_ ?_
   | refine LeO.bind ?_ (fun _ => ?_)
theorem spans_Move.mono : ∀ a0 a1 k, LeO (spans_Move.f k a0 a1) (spans_Move.f (k + 1) a0 a1) := by
 intro a0 a1 k
 have ih0 := spans_Move.mono_l k
 unfold spans_Move.f
 repeat' first
  | (with_reducible exact ih0 _ _ _ _ _)
  | (with_reducible exact LeO.refl _)
  | (with_reducible exact LeO.none _)
  | (with_reducible refine LeO.ite ?_ ?_)
  | (with_reducible refine LeO.bind ?_ (fun _ => ?_))
  | exact ih0 _ _ _ _ _
  | exact LeO.none _
  | refine LeO.ite ?_ ?_
  | refine LeO.bind ?_ (fun _ => ?_)
set_option maxHeartbeats 8000000 in
set_option maxRecDepth 100000 in
theorem spans_Move.calls (k : Nat) (A0 : Option Addr) (c0 : Nat) (l0 : List (S23)) (a1 : Int) (r1 : List (S23)) (r2 : Int) (w : World) (hr0 : Kd.C k23 w A0 l0.length l0) (hc0 : l0.length ≤ c0) (h : spans_Move.f k l0 a1 = some (r1, r2)) :
 Calls Try.prog 41 #[.slice A0 l0.length c0, .int .i64 a1] w fun e w' => ∃ v0_ : Value, e = .returned (.tuple #[v0_, .int .i64 r2]) ∧ Kd.R k23 23 w' w.heap.size (fun _ => True) v0_ r1 ∧ Below w.heap.size w w' := by
 have hu23 := Try.underlying23
 have HR0 := am hr0
 have HC0 := am hc0
 clear hr0 hc0
 have HB := am (Below.refl w.heap.size w)
 have H : (spans_Move.l0 k a1 ([] : List (S23)) l0 (l0.length : Int) 0) = some (r1, r2) := h
 clear h
 have H' := am H
 clear H
 go_enter Try.func41, Try.ntmps41
 go_wp2
 go_loopg [6, 15] k (fun kq v6 v15 w' => ∃ (x6_1 : List (S23)) (x15_1 : Int), v15 = .int .i64 x15_1 ∧ Aside0 (spans_Move.l0 kq a1 x6_1 l0 (l0.length : Int) x15_1 = some (r1, r2)) ∧ Aside0 (kq ≤ k) ∧ Aside0 (Kd.R k23 23 w' w.heap.size (fun _ => True) v6 x6_1) ∧ Aside0 (Below w.heap.size w w'))
 case atStart => exact ⟨(([] : List (S23))), (0), sm, H', ⟨Nat.le_refl _⟩, ⟨by first | exact Kd.R_nil _ _ _ _ _ | exact Kd.N_nil _ _ _ _ _ | exact Kd.V_nil _ _ _ _ _ | exact Kd.Q_nil _ _ _ _ _ | exact Kd.S_nil _ _ _ _ _⟩, ⟨bl HB.out⟩⟩
 case round =>
  clear H'
  try clear p2
  obtain ⟨x6_1, x15_1, rfl, HA, HK1, HO_6, HB⟩ := hrel
  cases gk with
  | zero => exact absurd HA.out (by simp [spans_Move.l0])
  | succ k1 =>
   have H := HA.out
   clear HA
   simp only [spans_Move.l0] at H
   by_cases c3 : x15_1 < (l0.length : Int)
   ·rw [if_pos c3] at H
    have c3b0 : decide (x15_1 < (l0.length : Int)) = true := decide_eq_true c3
    clear c3
    by_cases c4 : 0 ≤ x15_1
    ·rw [if_pos c4] at H
     have c4b0 : decide (0 ≤ x15_1) = true := decide_eq_true c4
     clear c4
     by_cases c5 : x15_1 < (l0.length : Int)
     ·rw [if_pos c5] at H
      have c5b0 : decide (x15_1 < (l0.length : Int)) = true := decide_eq_true c5
      clear c5
      replace H := Option.bind_eq_some_iff.mp H
      obtain ⟨⟨t126, t127⟩, A60, H⟩ := H
      try dsimp only at H
      have A6 := am A60
      clear A60
      replace H := Option.bind_eq_some_iff.mp H
      obtain ⟨⟨t128, t129⟩, A70, H⟩ := H
      try dsimp only at H
      have A7 := am A70
      clear A70
      by_cases c8 : t127 = 0
      ·rw [if_pos c8] at H
       have c8b0 : (t127 == 0) = true := beq_iff_eq.mpr c8
       have c8b1 : (t127 != 0) = false := bne_eq_false_iff_eq.mpr c8
       clear c8
       by_cases c9 : t129 = 0
       ·rw [if_pos c9] at H
        have c9b0 : (t129 == 0) = true := beq_iff_eq.mpr c9
        have c9b1 : (t129 != 0) = false := bne_eq_false_iff_eq.mpr c9
        clear c9
        replace H := Option.bind_eq_some_iff.mp H
        obtain ⟨t130, A100, H⟩ := H
        try dsimp only at H
        have A10 := am A100
        clear A100
        by_cases c11 : t130 = true
        ·subst c11
         have H1 : ((spans_tick.f t128).bind fun t131 => (if t131 = true then (if x6_1.length < 8796093022208 then (spans_Move.l0 k1 a1 (x6_1 ++ [(⟨t126, t128⟩ : S23)]) l0 (l0.length : Int) (wrap64 (x15_1 + 1))) else (none)) else (some (([] : List (S23)), 20)))) = some (r1, r2) := by rw [if_pos rfl] at H; exact H
         clear H
         have H := H1
         clear H1
         replace H := Option.bind_eq_some_iff.mp H
         obtain ⟨t131, A120, H⟩ := H
         try dsimp only at H
         have A12 := am A120
         clear A120
         by_cases c13 : t131 = true
         ·subst c13
          have H1 : (if x6_1.length < 8796093022208 then (spans_Move.l0 k1 a1 (x6_1 ++ [(⟨t126, t128⟩ : S23)]) l0 (l0.length : Int) (wrap64 (x15_1 + 1))) else (none)) = some (r1, r2) := by rw [if_pos rfl] at H; exact H
          clear H
          have H := H1
          clear H1
          by_cases c14 : x6_1.length < 8796093022208
          ·rw [if_pos c14] at H
           have LMc14 := am c14
           clear c14
           obtain ⟨y132, hy132⟩ : ∃ y_ : List (S23), y_ = (x6_1 ++ [(⟨t126, t128⟩ : S23)]) := ⟨_, rfl⟩
           replace H : (spans_Move.l0 k1 a1 y132 l0 (l0.length : Int) (wrap64 (x15_1 + 1))) = some (r1, r2) := by first | (rw [hy132]; with_reducible exact H) | (have H2_ := (Option.bind_some _ _).symm.trans H; rw [hy132]; with_reducible exact H2_) | (have H2_ := (Option.bind_some _ _).symm.trans H; with_reducible exact H2_) | with_reducible exact H | (rw [hy132]; exact H) | exact H
           have Ny132 := am hy132
           clear hy132
           have H' := am H
           clear H
           have p124 : 0 ≤ (x15_1 : Int) := of_decide_eq_true asm
           have q124 : x15_1 < (l0.length : Int) := of_decide_eq_true asm
           obtain ⟨ad124, e124, hx124_0, hx124_1⟩ := at_T23 HR0.out x15_1 p124 q124
           cases e124
           replace hx124_0 := (HB.out.cell (World.block_lt_of_cell? w _ hx124_0)).trans hx124_0
           replace hx124_1 := (HB.out.cell (World.block_lt_of_cell? w _ hx124_1)).trans hx124_1
           replace p124 := eq_true p124
           replace q124 := eq_true q124
           go_wp2_with (first | ((with_reducible refine gate_dst (N := 8) rfl ?_); refine bx 8 23 #[.int .i64 0, .int .i64 0] ?_; intro gb125 hg w15 hbox hb; replace HO_6 := am (Kd.R_below (Kd.R_elderB (kr HO_6.out) gb125 (Nat.le_of_eq hg.symm)) hb); have BK125 := am (hbox); have GW125 := am ((bz hg HB.out : w.heap.size ≤ gb125)); have GE125 := am ((bz hg HB.out : w.heap.size ≤ gb125)); replace HB := am (below_step (bl HB.out) hb); clear hb hbox hg; have hcz16_0 : w15.cell? ⟨gb125, 0, none⟩ = some (.int .i64 0) := bc BK125.out 0; have hcz16_1 : w15.cell? ⟨gb125, 1, none⟩ = some (.int .i64 0) := bc BK125.out 1; have hfz16_0 := blk_frozen BK125.out 0; have hfz16_1 := blk_frozen BK125.out 1) | ((with_reducible refine gate_callee (f := 76) rfl ?_); refine goesL_ (some 23) rfl rfl Try.func76 (by kernel_rfl) rfl #[.int .i64 ((rd_T23 l0 x15_1).f0), .int .i64 a1] rfl ar ?_; (with_reducible refine (safe_Add.calls ((rd_T23 l0 x15_1).f0) a1 t126 t127 _ A6.out).mono ?_); rintro e w' ⟨rfl, ⟨nd, rfl⟩⟩; refine ⟨_, rfl, ?_⟩) | ((with_reducible refine gate_callee (f := 76) rfl ?_); refine goesL_ (some 30) rfl rfl Try.func76 (by kernel_rfl) rfl #[.int .i64 ((rd_T23 l0 x15_1).f1), .int .i64 a1] rfl ar ?_; (with_reducible refine (safe_Add.calls ((rd_T23 l0 x15_1).f1) a1 t128 t129 _ A7.out).mono ?_); rintro e w' ⟨rfl, ⟨nd, rfl⟩⟩; refine ⟨_, rfl, ?_⟩) | (go_at_call 66; (with_reducible refine (spans_tick.calls t126 true _ A10.out).mono ?_); rintro e w' ⟨rfl, ⟨nd, rfl⟩⟩) | (go_at_call 66; (with_reducible refine (spans_tick.calls t128 true _ A12.out).mono ?_); rintro e w' ⟨rfl, ⟨nd, rfl⟩⟩) | ((with_reducible refine gate_builtin (b := .append) (xs := #[.tmp 49, .tmp 53]) rfl ?_); at_builtin; refine Kd.R_append k23 (w0 := w) w.heap.size rfl (.tmp 49) (.tmp 53) 24 23 (.agg #[(.int .i64 0), (.int .i64 0)]) 16 rfl Try.underlying24 info23 rfl (by decide) (by omega) u6 x6_1 (⟨t126, t128⟩ : S23) [.int .i64 t126, .int .i64 t128] (fun k_ => k_ ≠ gb125) (fun _ => False) rfl (by first | (go_simp; done) | (go_simp; rfl)) ?aP (fun _ hk => hk.elim) ?aF ?aO ?aB ?aS ?aL ?_; (case aP => exact k23_mkM _ _ _ (⟨t126, t128⟩ : S23)); (case aB => exact (bl1 HB.out GE125.out)); (case aF => exact (fun k_ hk => Kd.freshB (g := gb125) (o := .cells #[.int .i64 ((rd_T23 l0 x15_1).f0), .int .i64 ((rd_T23 l0 x15_1).f1)] 23 (0, 0)) (by (with_reducible repeat (first | refine blk_drewN ?_ _ | refine blk_drew ?_ | refine blk_alloc ?_ _)); refine blk_put (cs := #[.int .i64 ((rd_T23 l0 x15_1).f0), .int .i64 0]) ?_ 1 _ rfl; (with_reducible repeat (first | refine blk_drewN ?_ _ | refine blk_drew ?_ | refine blk_alloc ?_ _)); refine blk_put (cs := #[.int .i64 0, .int .i64 0]) ?_ 0 _ rfl; (with_reducible repeat (first | refine blk_drewN ?_ _ | refine blk_drew ?_ | refine blk_alloc ?_ _)); exact BK125.out) k_ hk)); (case aO => exact (by (with_reducible repeat (first | apply Kd.R_alloc | apply Kd.R_drewN | apply Kd.R_drew)); exact Kd.R_mono (Kd.R_far (p := ⟨gb125, 1, none⟩) (Kd.R_far (p := ⟨gb125, 0, none⟩) (Kd.R_mono HO_6.out (fun k_ hk => (⟨hk, hk.2⟩ : _ ∧ k_ ≠ gb125))) (fun _ hk => hk.2) (.int .i64 ((rd_T23 l0 x15_1).f0))) (fun _ hk => hk.2) (.int .i64 ((rd_T23 l0 x15_1).f1))) (fun _ hk => hk.1.2))); (case aS => exact (below_size (bl1 HB.out GE125.out))); (case aL => have := LMc14.out; omega); intro v133 w17 ho hb hg hat; rw [← Ny132.out] at ho; replace BK125 := am (blk_grown (g := gb125) (o := .cells #[.int .i64 ((rd_T23 l0 x15_1).f0), .int .i64 ((rd_T23 l0 x15_1).f1)] 23 (0, 0)) (by (with_reducible repeat (first | refine blk_drewN ?_ _ | refine blk_drew ?_ | refine blk_alloc ?_ _)); refine blk_put (cs := #[.int .i64 ((rd_T23 l0 x15_1).f0), .int .i64 0]) ?_ 1 _ rfl; (with_reducible repeat (first | refine blk_drewN ?_ _ | refine blk_drew ?_ | refine blk_alloc ?_ _)); refine blk_put (cs := #[.int .i64 0, .int .i64 0]) ?_ 0 _ rfl; (with_reducible repeat (first | refine blk_drewN ?_ _ | refine blk_drew ?_ | refine blk_alloc ?_ _)); exact BK125.out) hg (Kd.R_away HO_6.out (fun _ hk => hk.2))); replace HB := am (hb); have HO134 := am (ho); clear HO_6; clear ho hb hg hat))
           go_roundg k1
           case measure => have := HK1.out; omega
           case rel => exact ⟨(y132), (wrap64 (x15_1 + 1)), sm, H', ⟨by have := HK1.out; omega⟩, ⟨by (with_reducible repeat (first | apply Kd.R_alloc | apply Kd.R_drewN | apply Kd.R_drew)); exact Kd.R_mono HO134.out (fun _ hk => trivial)⟩, ⟨bl1 HB.out GE125.out⟩⟩
          ·rw [if_neg c14] at H
           exact absurd H (by simp)
         ·replace c13 := Bool.eq_false_iff.mpr c13
          subst c13
          have H1 : (some (([] : List (S23)), 20)) = some (r1, r2) := by rw [if_neg (show ¬ (false = true) by decide)] at H; exact H
          clear H
          have H := H1
          clear H1
          simp only [Option.some.injEq, Prod.mk.injEq] at H
          obtain ⟨rfl, rfl⟩ := H
          have p124 : 0 ≤ (x15_1 : Int) := of_decide_eq_true asm
          have q124 : x15_1 < (l0.length : Int) := of_decide_eq_true asm
          obtain ⟨ad124, e124, hx124_0, hx124_1⟩ := at_T23 HR0.out x15_1 p124 q124
          cases e124
          replace hx124_0 := (HB.out.cell (World.block_lt_of_cell? w _ hx124_0)).trans hx124_0
          replace hx124_1 := (HB.out.cell (World.block_lt_of_cell? w _ hx124_1)).trans hx124_1
          replace p124 := eq_true p124
          replace q124 := eq_true q124
          go_wp2_with (first | ((with_reducible refine gate_dst (N := 8) rfl ?_); refine bx 8 23 #[.int .i64 0, .int .i64 0] ?_; intro gb125 hg w18 hbox hb; replace HO_6 := am (Kd.R_below (Kd.R_elderB (kr HO_6.out) gb125 (Nat.le_of_eq hg.symm)) hb); have BK125 := am (hbox); have GW125 := am ((bz hg HB.out : w.heap.size ≤ gb125)); have GE125 := am ((bz hg HB.out : w.heap.size ≤ gb125)); replace HB := am (below_step (bl HB.out) hb); clear hb hbox hg; have hcz19_0 : w18.cell? ⟨gb125, 0, none⟩ = some (.int .i64 0) := bc BK125.out 0; have hcz19_1 : w18.cell? ⟨gb125, 1, none⟩ = some (.int .i64 0) := bc BK125.out 1; have hfz19_0 := blk_frozen BK125.out 0; have hfz19_1 := blk_frozen BK125.out 1) | ((with_reducible refine gate_callee (f := 76) rfl ?_); refine goesL_ (some 23) rfl rfl Try.func76 (by kernel_rfl) rfl #[.int .i64 ((rd_T23 l0 x15_1).f0), .int .i64 a1] rfl ar ?_; (with_reducible refine (safe_Add.calls ((rd_T23 l0 x15_1).f0) a1 t126 t127 _ A6.out).mono ?_); rintro e w' ⟨rfl, ⟨nd, rfl⟩⟩; refine ⟨_, rfl, ?_⟩) | ((with_reducible refine gate_callee (f := 76) rfl ?_); refine goesL_ (some 30) rfl rfl Try.func76 (by kernel_rfl) rfl #[.int .i64 ((rd_T23 l0 x15_1).f1), .int .i64 a1] rfl ar ?_; (with_reducible refine (safe_Add.calls ((rd_T23 l0 x15_1).f1) a1 t128 t129 _ A7.out).mono ?_); rintro e w' ⟨rfl, ⟨nd, rfl⟩⟩; refine ⟨_, rfl, ?_⟩) | (go_at_call 66; (with_reducible refine (spans_tick.calls t126 true _ A10.out).mono ?_); rintro e w' ⟨rfl, ⟨nd, rfl⟩⟩) | (go_at_call 66; (with_reducible refine (spans_tick.calls t128 false _ A12.out).mono ?_); rintro e w' ⟨rfl, ⟨nd, rfl⟩⟩))
          go_ret2
          exact ⟨_, rt, by first | exact Kd.R_nil _ _ _ _ _ | exact Kd.N_nil _ _ _ _ _ | exact Kd.V_nil _ _ _ _ _ | exact Kd.Q_nil _ _ _ _ _ | exact Kd.S_nil _ _ _ _ _, bl1 HB.out GE125.out⟩
        ·replace c11 := Bool.eq_false_iff.mpr c11
         subst c11
         have H1 : (some (([] : List (S23)), 20)) = some (r1, r2) := by rw [if_neg (show ¬ (false = true) by decide)] at H; exact H
         clear H
         have H := H1
         clear H1
         simp only [Option.some.injEq, Prod.mk.injEq] at H
         obtain ⟨rfl, rfl⟩ := H
         have p124 : 0 ≤ (x15_1 : Int) := of_decide_eq_true asm
         have q124 : x15_1 < (l0.length : Int) := of_decide_eq_true asm
         obtain ⟨ad124, e124, hx124_0, hx124_1⟩ := at_T23 HR0.out x15_1 p124 q124
         cases e124
         replace hx124_0 := (HB.out.cell (World.block_lt_of_cell? w _ hx124_0)).trans hx124_0
         replace hx124_1 := (HB.out.cell (World.block_lt_of_cell? w _ hx124_1)).trans hx124_1
         replace p124 := eq_true p124
         replace q124 := eq_true q124
         go_wp2_with (first | ((with_reducible refine gate_dst (N := 8) rfl ?_); refine bx 8 23 #[.int .i64 0, .int .i64 0] ?_; intro gb125 hg w20 hbox hb; replace HO_6 := am (Kd.R_below (Kd.R_elderB (kr HO_6.out) gb125 (Nat.le_of_eq hg.symm)) hb); have BK125 := am (hbox); have GW125 := am ((bz hg HB.out : w.heap.size ≤ gb125)); have GE125 := am ((bz hg HB.out : w.heap.size ≤ gb125)); replace HB := am (below_step (bl HB.out) hb); clear hb hbox hg; have hcz21_0 : w20.cell? ⟨gb125, 0, none⟩ = some (.int .i64 0) := bc BK125.out 0; have hcz21_1 : w20.cell? ⟨gb125, 1, none⟩ = some (.int .i64 0) := bc BK125.out 1; have hfz21_0 := blk_frozen BK125.out 0; have hfz21_1 := blk_frozen BK125.out 1) | ((with_reducible refine gate_callee (f := 76) rfl ?_); refine goesL_ (some 23) rfl rfl Try.func76 (by kernel_rfl) rfl #[.int .i64 ((rd_T23 l0 x15_1).f0), .int .i64 a1] rfl ar ?_; (with_reducible refine (safe_Add.calls ((rd_T23 l0 x15_1).f0) a1 t126 t127 _ A6.out).mono ?_); rintro e w' ⟨rfl, ⟨nd, rfl⟩⟩; refine ⟨_, rfl, ?_⟩) | ((with_reducible refine gate_callee (f := 76) rfl ?_); refine goesL_ (some 30) rfl rfl Try.func76 (by kernel_rfl) rfl #[.int .i64 ((rd_T23 l0 x15_1).f1), .int .i64 a1] rfl ar ?_; (with_reducible refine (safe_Add.calls ((rd_T23 l0 x15_1).f1) a1 t128 t129 _ A7.out).mono ?_); rintro e w' ⟨rfl, ⟨nd, rfl⟩⟩; refine ⟨_, rfl, ?_⟩) | (go_at_call 66; (with_reducible refine (spans_tick.calls t126 false _ A10.out).mono ?_); rintro e w' ⟨rfl, ⟨nd, rfl⟩⟩))
         go_ret2
         exact ⟨_, rt, by first | exact Kd.R_nil _ _ _ _ _ | exact Kd.N_nil _ _ _ _ _ | exact Kd.V_nil _ _ _ _ _ | exact Kd.Q_nil _ _ _ _ _ | exact Kd.S_nil _ _ _ _ _, bl1 HB.out GE125.out⟩
       ·rw [if_neg c9] at H
        have c9b0 : (t129 == 0) = false := beq_eq_false_iff_ne.mpr c9
        have c9b1 : (t129 != 0) = true := bne_iff_ne.mpr c9
        simp only [Option.some.injEq, Prod.mk.injEq] at H
        obtain ⟨rfl, rfl⟩ := H
        have p124 : 0 ≤ (x15_1 : Int) := of_decide_eq_true asm
        have q124 : x15_1 < (l0.length : Int) := of_decide_eq_true asm
        obtain ⟨ad124, e124, hx124_0, hx124_1⟩ := at_T23 HR0.out x15_1 p124 q124
        cases e124
        replace hx124_0 := (HB.out.cell (World.block_lt_of_cell? w _ hx124_0)).trans hx124_0
        replace hx124_1 := (HB.out.cell (World.block_lt_of_cell? w _ hx124_1)).trans hx124_1
        replace p124 := eq_true p124
        replace q124 := eq_true q124
        go_wp2_with (first | ((with_reducible refine gate_dst (N := 8) rfl ?_); refine bx 8 23 #[.int .i64 0, .int .i64 0] ?_; intro gb125 hg w22 hbox hb; replace HO_6 := am (Kd.R_below (Kd.R_elderB (kr HO_6.out) gb125 (Nat.le_of_eq hg.symm)) hb); have BK125 := am (hbox); have GW125 := am ((bz hg HB.out : w.heap.size ≤ gb125)); have GE125 := am ((bz hg HB.out : w.heap.size ≤ gb125)); replace HB := am (below_step (bl HB.out) hb); clear hb hbox hg; have hcz23_0 : w22.cell? ⟨gb125, 0, none⟩ = some (.int .i64 0) := bc BK125.out 0; have hcz23_1 : w22.cell? ⟨gb125, 1, none⟩ = some (.int .i64 0) := bc BK125.out 1; have hfz23_0 := blk_frozen BK125.out 0; have hfz23_1 := blk_frozen BK125.out 1) | ((with_reducible refine gate_callee (f := 76) rfl ?_); refine goesL_ (some 23) rfl rfl Try.func76 (by kernel_rfl) rfl #[.int .i64 ((rd_T23 l0 x15_1).f0), .int .i64 a1] rfl ar ?_; (with_reducible refine (safe_Add.calls ((rd_T23 l0 x15_1).f0) a1 t126 t127 _ A6.out).mono ?_); rintro e w' ⟨rfl, ⟨nd, rfl⟩⟩; refine ⟨_, rfl, ?_⟩) | ((with_reducible refine gate_callee (f := 76) rfl ?_); refine goesL_ (some 30) rfl rfl Try.func76 (by kernel_rfl) rfl #[.int .i64 ((rd_T23 l0 x15_1).f1), .int .i64 a1] rfl ar ?_; (with_reducible refine (safe_Add.calls ((rd_T23 l0 x15_1).f1) a1 t128 t129 _ A7.out).mono ?_); rintro e w' ⟨rfl, ⟨nd, rfl⟩⟩; refine ⟨_, rfl, ?_⟩))
        go_ret2
        exact ⟨_, rt, by first | exact Kd.R_nil _ _ _ _ _ | exact Kd.N_nil _ _ _ _ _ | exact Kd.V_nil _ _ _ _ _ | exact Kd.Q_nil _ _ _ _ _ | exact Kd.S_nil _ _ _ _ _, bl1 HB.out GE125.out⟩
      ·rw [if_neg c8] at H
       have c8b0 : (t127 == 0) = false := beq_eq_false_iff_ne.mpr c8
       have c8b1 : (t127 != 0) = true := bne_iff_ne.mpr c8
       simp only [Option.some.injEq, Prod.mk.injEq] at H
       obtain ⟨rfl, rfl⟩ := H
       have p124 : 0 ≤ (x15_1 : Int) := of_decide_eq_true asm
       have q124 : x15_1 < (l0.length : Int) := of_decide_eq_true asm
       obtain ⟨ad124, e124, hx124_0, hx124_1⟩ := at_T23 HR0.out x15_1 p124 q124
       cases e124
       replace hx124_0 := (HB.out.cell (World.block_lt_of_cell? w _ hx124_0)).trans hx124_0
       replace hx124_1 := (HB.out.cell (World.block_lt_of_cell? w _ hx124_1)).trans hx124_1
       replace p124 := eq_true p124
       replace q124 := eq_true q124
       go_wp2_with (first | ((with_reducible refine gate_dst (N := 8) rfl ?_); refine bx 8 23 #[.int .i64 0, .int .i64 0] ?_; intro gb125 hg w24 hbox hb; replace HO_6 := am (Kd.R_below (Kd.R_elderB (kr HO_6.out) gb125 (Nat.le_of_eq hg.symm)) hb); have BK125 := am (hbox); have GW125 := am ((bz hg HB.out : w.heap.size ≤ gb125)); have GE125 := am ((bz hg HB.out : w.heap.size ≤ gb125)); replace HB := am (below_step (bl HB.out) hb); clear hb hbox hg; have hcz25_0 : w24.cell? ⟨gb125, 0, none⟩ = some (.int .i64 0) := bc BK125.out 0; have hcz25_1 : w24.cell? ⟨gb125, 1, none⟩ = some (.int .i64 0) := bc BK125.out 1; have hfz25_0 := blk_frozen BK125.out 0; have hfz25_1 := blk_frozen BK125.out 1) | ((with_reducible refine gate_callee (f := 76) rfl ?_); refine goesL_ (some 23) rfl rfl Try.func76 (by kernel_rfl) rfl #[.int .i64 ((rd_T23 l0 x15_1).f0), .int .i64 a1] rfl ar ?_; (with_reducible refine (safe_Add.calls ((rd_T23 l0 x15_1).f0) a1 t126 t127 _ A6.out).mono ?_); rintro e w' ⟨rfl, ⟨nd, rfl⟩⟩; refine ⟨_, rfl, ?_⟩) | ((with_reducible refine gate_callee (f := 76) rfl ?_); refine goesL_ (some 30) rfl rfl Try.func76 (by kernel_rfl) rfl #[.int .i64 ((rd_T23 l0 x15_1).f1), .int .i64 a1] rfl ar ?_; (with_reducible refine (safe_Add.calls ((rd_T23 l0 x15_1).f1) a1 t128 t129 _ A7.out).mono ?_); rintro e w' ⟨rfl, ⟨nd, rfl⟩⟩; refine ⟨_, rfl, ?_⟩))
       go_ret2
       exact ⟨_, rt, by first | exact Kd.R_nil _ _ _ _ _ | exact Kd.N_nil _ _ _ _ _ | exact Kd.V_nil _ _ _ _ _ | exact Kd.Q_nil _ _ _ _ _ | exact Kd.S_nil _ _ _ _ _, bl1 HB.out GE125.out⟩
     ·rw [if_neg c5] at H
      exact absurd H (by simp)
    ·rw [if_neg c4] at H
     exact absurd H (by simp)
   ·rw [if_neg c3] at H
    have c3b0 : decide (x15_1 < (l0.length : Int)) = false := decide_eq_false c3
    clear c3
    simp only [Option.some.injEq, Prod.mk.injEq] at H
    obtain ⟨rfl, rfl⟩ := H
    go_wp2
    go_ret2
    exact ⟨_, rt, by (with_reducible repeat (first | apply Kd.R_alloc | apply Kd.R_drewN | apply Kd.R_drew)); exact HO_6.out, bl HB.out⟩

end Go.Proofs.Ytmbmalkpmanaaaa.P

namespace Go.Proofs.Ytmbmalkpmanaaaa.P
open Go.RowKit Go.Proofs.YtmbmalkpmanaaaaW.PrintWords Go.Proofs.YtmbmalkpmanaaaaW.PrintLast Go.Proofs.YtmbmalkpmanaaaaW.PrintMore
attribute [local go_sem] max2_int min2_int max_two min_two max_three min_three max_four min_four   -- for this text's walks alone
set_option linter.unusedVariables false
set_option linter.unusedSimpArgs false

def gran_Get.f (k : Nat) (a0_0 : Int) (a0_1 : Int) (l0_2 : List (List (S23))) (l0_3 : List (S70)) (a1 : Int) : Option ((List (S23)) × Int) := (gran_inRange.f a1).bind fun t2063 => (if t2063 = true then ((gran_kept.f k a0_0 a0_1 l0_2 l0_3 a1).bind fun bt2064 => (if (bt2064.1.length : Int) = 0 then (some (([] : List (S23)), 0)) else (if bt2064.2.2 = 0 then ((spans_Move.f k bt2064.1 bt2064.2.1).bind fun bt2069 => (some (bt2069.1, bt2069.2))) else (some (([] : List (S23)), 20))))) else (some (([] : List (S23)), 20)))
theorem gran_Get.mono : ∀ a0 a1 a2 a3 a4 k, LeO (gran_Get.f k a0 a1 a2 a3 a4) (gran_Get.f (k + 1) a0 a1 a2 a3 a4) := by
 intro a0 a1 a2 a3 a4 k
 unfold gran_Get.f
 repeat' first
  | (with_reducible exact gran_kept.mono _ _ _ _ _ _)
  | (with_reducible exact spans_Move.mono _ _ _)
  | (with_reducible exact LeO.refl _)
  | (with_reducible exact LeO.none _)
  | (with_reducible refine LeO.ite ?_ ?_)
  | (with_reducible refine LeO.bind ?_ (fun _ => ?_))
  | exact gran_kept.mono _ _ _ _ _ _
  | exact spans_Move.mono _ _ _
  | exact LeO.none _
  | refine LeO.ite ?_ ?_
  | refine LeO.bind ?_ (fun _ => ?_)
set_option maxHeartbeats 8000000 in
set_option maxRecDepth 100000 in
theorem gran_Get.calls (k : Nat) (a0_0 : Int) (a0_1 : Int) (A0_2 : Option Addr) (c0_2 : Nat) (l0_2 : List (List (S23))) (A0_3 : Option Addr) (c0_3 : Nat) (l0_3 : List (S70)) (a1 : Int) (r1 : List (S23)) (r2 : Int) (w : World) (hr0_2 : Kd.C (Kd.slice 23 k23) w A0_2 l0_2.length l0_2) (hc0_2 : l0_2.length ≤ c0_2) (hr0_3 : Kd.C k70 w A0_3 l0_3.length l0_3) (hc0_3 : l0_3.length ≤ c0_3) (h : gran_Get.f k a0_0 a0_1 l0_2 l0_3 a1 = some (r1, r2)) :
 Calls Try.prog 18 #[.agg #[.int .i64 a0_0, .int .i64 a0_1, .slice A0_2 l0_2.length c0_2, .slice A0_3 l0_3.length c0_3], .int .i64 a1] w fun e w' => ∃ v0_ : Value, e = .returned (.tuple #[v0_, .int .i64 r2]) ∧ Kd.R k23 23 w' w.heap.size (fun _ => True) v0_ r1 ∧ Below w.heap.size w w' := by
 have hu28 := Try.underlying28
 have HR0_2 := am hr0_2
 have HC0_2 := am hc0_2
 clear hr0_2 hc0_2
 have HR0_3 := am hr0_3
 have HC0_3 := am hc0_3
 clear hr0_3 hc0_3
 have HB := am (Below.refl w.heap.size w)
 have H : ((gran_inRange.f a1).bind fun t2063 => (if t2063 = true then ((gran_kept.f k a0_0 a0_1 l0_2 l0_3 a1).bind fun bt2064 => (if (bt2064.1.length : Int) = 0 then (some (([] : List (S23)), 0)) else (if bt2064.2.2 = 0 then ((spans_Move.f k bt2064.1 bt2064.2.1).bind fun bt2069 => (some (bt2069.1, bt2069.2))) else (some (([] : List (S23)), 20))))) else (some (([] : List (S23)), 20)))) = some (r1, r2) := h
 clear h
 replace H := Option.bind_eq_some_iff.mp H
 obtain ⟨t2063, A30, H⟩ := H
 try dsimp only at H
 have A3 := am A30
 clear A30
 by_cases c4 : t2063 = true
 ·subst c4
  have H1 : ((gran_kept.f k a0_0 a0_1 l0_2 l0_3 a1).bind fun bt2064 => (if (bt2064.1.length : Int) = 0 then (some (([] : List (S23)), 0)) else (if bt2064.2.2 = 0 then ((spans_Move.f k bt2064.1 bt2064.2.1).bind fun bt2069 => (some (bt2069.1, bt2069.2))) else (some (([] : List (S23)), 20))))) = some (r1, r2) := by rw [if_pos rfl] at H; exact H
  clear H
  have H := H1
  clear H1
  replace H := Option.bind_eq_some_iff.mp H
  obtain ⟨⟨t2064, t2067, t2068⟩, A50, H⟩ := H
  try dsimp only at H
  have A5 := am A50
  clear A50
  by_cases c6 : (t2064.length : Int) = 0
  ·rw [if_pos c6] at H
   have c6b0 : ((t2064.length : Int) == 0) = true := beq_iff_eq.mpr c6
   have c6b1 : ((t2064.length : Int) != 0) = false := bne_eq_false_iff_eq.mpr c6
   clear c6
   simp only [Option.some.injEq, Prod.mk.injEq] at H
   obtain ⟨rfl, rfl⟩ := H
   go_enter Try.func18, Try.ntmps18
   go_wp2_with (first | ((with_reducible refine gate_dst (N := 2) rfl ?_); refine bx 2 28 #[.int .i64 a0_0, .int .i64 a0_1, .slice A0_2 l0_2.length c0_2, .slice A0_3 l0_3.length c0_3] ?_; intro gb2062 hg w7 hbox hb; have BK2062 := am (hbox); have GW2062 := am ((bz hg HB.out : w.heap.size ≤ gb2062)); have GE2062 := am ((bz hg HB.out : w.heap.size ≤ gb2062)); replace HB := am (below_step (bl HB.out) hb); clear hb hbox hg) | ((with_reducible refine gate_callee (f := 55) rfl ?_); refine goesL_ (some 10) rfl rfl Try.func55 (by kernel_rfl) rfl #[.int .i64 a1] rfl ar ?_; (with_reducible refine (gran_inRange.calls a1 true _ A3.out).mono ?_); rintro e w' ⟨rfl, ⟨nd, rfl⟩⟩; refine ⟨_, rfl, ?_⟩; have hcz8_0 : w7.cell? ⟨gb2062, 0, none⟩ = some (.int .i64 a0_0) := bc BK2062.out 0; have hcz8_1 : w7.cell? ⟨gb2062, 1, none⟩ = some (.int .i64 a0_1) := bc BK2062.out 1; have hcz8_2 : w7.cell? ⟨gb2062, 2, none⟩ = some (.slice A0_2 l0_2.length c0_2) := bc BK2062.out 2; have hcz8_3 : w7.cell? ⟨gb2062, 3, none⟩ = some (.slice A0_3 l0_3.length c0_3) := bc BK2062.out 3; have hfz8_0 := blk_frozen BK2062.out 0; have hfz8_1 := blk_frozen BK2062.out 1; have hfz8_2 := blk_frozen BK2062.out 2; have hfz8_3 := blk_frozen BK2062.out 3) | ((with_reducible refine gate_callee (f := 56) rfl ?_); refine goesL_ (some 15) rfl rfl Try.func56 (by kernel_rfl) rfl #[.agg #[.int .i64 a0_0, .int .i64 a0_1, .slice A0_2 l0_2.length c0_2, .slice A0_3 l0_3.length c0_3], .int .i64 a1] rfl ar ?_; (with_reducible refine (gran_kept.calls k a0_0 a0_1 (fun k_ => k_ < w.heap.size) _ _ l0_2 (fun k_ => k_ < w.heap.size) _ _ l0_3 a1 t2064 t2067 t2068 _ ?side1 ?side2 A5.out).mono ?_); (case side1 => exact Kd.V_mk HC0_2.out (Kd.F_below (Kd.C_F (Kd.heap_slice 23 k23_heap) HR0_2.out) (bl1 HB.out GE2062.out))); (case side2 => exact Kd.V_mk HC0_3.out (Kd.F_below (Kd.C_F k70_heap HR0_3.out) (bl1 HB.out GE2062.out))); rintro e w9 ⟨v2065, rfl, ho0, hb⟩; refine ⟨_, rfl, ?_⟩; have HO2066 := am (Kd.V_lower (Kd.V_mono (ok' := fun k_ => k_ ≠ gb2062) ho0 (fun k_ hk_ => Or.elim hk_ (fun hs_ => Or.elim hs_ (fun hs_ => fun e_ => Nat.not_le.2 hs_ (by rw [e_]; exact GW2062.out)) (fun hs_ => fun e_ => Nat.not_le.2 hs_ (by rw [e_]; exact GW2062.out))) (fun hn_ => (Kd.freshB (g := gb2062) (o := .cells #[.int .i64 a0_0, .int .i64 a0_1, .slice A0_2 l0_2.length c0_2, .slice A0_3 l0_3.length c0_3] 28 (0, 0)) (kp BK2062.out) k_ hn_)))) (below_size (bl1 HB.out GE2062.out))); replace BK2062 := am (blk_below (kp BK2062.out) hb); replace HB := am (below_step (bl1 HB.out GE2062.out) hb); (try clear hb); (try clear hb2); (try clear hk); (try clear hi); (try clear ho0); obtain ⟨Ao10, co10, eo10⟩ := Kd.V_slice HO2066.out; subst eo10))
   go_ret2
   exact ⟨_, rt, by first | exact Kd.R_nil _ _ _ _ _ | exact Kd.N_nil _ _ _ _ _ | exact Kd.V_nil _ _ _ _ _ | exact Kd.Q_nil _ _ _ _ _ | exact Kd.S_nil _ _ _ _ _, bl1 HB.out GE2062.out⟩
  ·rw [if_neg c6] at H
   have c6b0 : ((t2064.length : Int) == 0) = false := beq_eq_false_iff_ne.mpr c6
   have c6b1 : ((t2064.length : Int) != 0) = true := bne_iff_ne.mpr c6
   have c6b2 : ¬ (t2064 = []) := fun h_ => c6 (by rw [h_]; rfl)
   by_cases c11 : t2068 = 0
   ·rw [if_pos c11] at H
    have c11b0 : (t2068 == 0) = true := beq_iff_eq.mpr c11
    have c11b1 : (t2068 != 0) = false := bne_eq_false_iff_eq.mpr c11
    clear c11
    replace H := Option.bind_eq_some_iff.mp H
    obtain ⟨⟨t2069, t2070⟩, A120, H⟩ := H
    try dsimp only at H
    have A12 := am A120
    clear A120
    simp only [Option.some.injEq, Prod.mk.injEq] at H
    obtain ⟨rfl, rfl⟩ := H
    go_enter Try.func18, Try.ntmps18
    go_wp2_with (first | ((with_reducible refine gate_dst (N := 2) rfl ?_); refine bx 2 28 #[.int .i64 a0_0, .int .i64 a0_1, .slice A0_2 l0_2.length c0_2, .slice A0_3 l0_3.length c0_3] ?_; intro gb2062 hg w13 hbox hb; have BK2062 := am (hbox); have GW2062 := am ((bz hg HB.out : w.heap.size ≤ gb2062)); have GE2062 := am ((bz hg HB.out : w.heap.size ≤ gb2062)); replace HB := am (below_step (bl HB.out) hb); clear hb hbox hg) | ((with_reducible refine gate_callee (f := 55) rfl ?_); refine goesL_ (some 10) rfl rfl Try.func55 (by kernel_rfl) rfl #[.int .i64 a1] rfl ar ?_; (with_reducible refine (gran_inRange.calls a1 true _ A3.out).mono ?_); rintro e w' ⟨rfl, ⟨nd, rfl⟩⟩; refine ⟨_, rfl, ?_⟩; have hcz14_0 : w13.cell? ⟨gb2062, 0, none⟩ = some (.int .i64 a0_0) := bc BK2062.out 0; have hcz14_1 : w13.cell? ⟨gb2062, 1, none⟩ = some (.int .i64 a0_1) := bc BK2062.out 1; have hcz14_2 : w13.cell? ⟨gb2062, 2, none⟩ = some (.slice A0_2 l0_2.length c0_2) := bc BK2062.out 2; have hcz14_3 : w13.cell? ⟨gb2062, 3, none⟩ = some (.slice A0_3 l0_3.length c0_3) := bc BK2062.out 3; have hfz14_0 := blk_frozen BK2062.out 0; have hfz14_1 := blk_frozen BK2062.out 1; have hfz14_2 := blk_frozen BK2062.out 2; have hfz14_3 := blk_frozen BK2062.out 3) | ((with_reducible refine gate_callee (f := 56) rfl ?_); refine goesL_ (some 15) rfl rfl Try.func56 (by kernel_rfl) rfl #[.agg #[.int .i64 a0_0, .int .i64 a0_1, .slice A0_2 l0_2.length c0_2, .slice A0_3 l0_3.length c0_3], .int .i64 a1] rfl ar ?_; (with_reducible refine (gran_kept.calls k a0_0 a0_1 (fun k_ => k_ < w.heap.size) _ _ l0_2 (fun k_ => k_ < w.heap.size) _ _ l0_3 a1 t2064 t2067 t2068 _ ?side1 ?side2 A5.out).mono ?_); (case side1 => exact Kd.V_mk HC0_2.out (Kd.F_below (Kd.C_F (Kd.heap_slice 23 k23_heap) HR0_2.out) (bl1 HB.out GE2062.out))); (case side2 => exact Kd.V_mk HC0_3.out (Kd.F_below (Kd.C_F k70_heap HR0_3.out) (bl1 HB.out GE2062.out))); rintro e w15 ⟨v2065, rfl, ho0, hb⟩; refine ⟨_, rfl, ?_⟩; have HO2066 := am (Kd.V_lower (Kd.V_mono (ok' := fun k_ => k_ ≠ gb2062) ho0 (fun k_ hk_ => Or.elim hk_ (fun hs_ => Or.elim hs_ (fun hs_ => fun e_ => Nat.not_le.2 hs_ (by rw [e_]; exact GW2062.out)) (fun hs_ => fun e_ => Nat.not_le.2 hs_ (by rw [e_]; exact GW2062.out))) (fun hn_ => (Kd.freshB (g := gb2062) (o := .cells #[.int .i64 a0_0, .int .i64 a0_1, .slice A0_2 l0_2.length c0_2, .slice A0_3 l0_3.length c0_3] 28 (0, 0)) (kp BK2062.out) k_ hn_)))) (below_size (bl1 HB.out GE2062.out))); replace BK2062 := am (blk_below (kp BK2062.out) hb); replace HB := am (below_step (bl1 HB.out GE2062.out) hb); (try clear hb); (try clear hb2); (try clear hk); (try clear hi); (try clear ho0); obtain ⟨Ao16, co16, eo16⟩ := Kd.V_slice HO2066.out; subst eo16) | ((with_reducible refine gate_callee (f := 41) rfl ?_); refine goesL_ (some 26) rfl rfl Try.func41 (by kernel_rfl) rfl #[.slice Ao16 t2064.length co16, .int .i64 t2067] rfl ar ?_; (with_reducible refine (spans_Move.calls k _ _ t2064 t2067 t2069 t2070 _ ?side1 ?side2 A12.out).mono ?_); (case side1 => exact kc (Kd.V_reads' HO2066.out).2.2); (case side2 => exact (Kd.V_reads' HO2066.out).2.1); rintro e w17 ⟨v2071, rfl, ho0, hb⟩; refine ⟨_, rfl, ?_⟩; replace HO2066 := am (Kd.V_elder' (kv HO2066.out) (Kd.R_base ho0) hb); have HO2072 := am (Kd.R_lower ho0 (below_size (bl1 HB.out GE2062.out))); replace BK2062 := am (blk_below (kp BK2062.out) hb); replace HB := am (below_step (bl1 HB.out GE2062.out) hb); (try clear hb); (try clear hb2); (try clear hk); (try clear hi); (try clear ho0)))
    go_ret2
    exact ⟨_, rt, by (with_reducible repeat (first | apply Kd.R_alloc | apply Kd.R_drewN | apply Kd.R_drew)); exact HO2072.out, bl1 HB.out GE2062.out⟩
   ·rw [if_neg c11] at H
    have c11b0 : (t2068 == 0) = false := beq_eq_false_iff_ne.mpr c11
    have c11b1 : (t2068 != 0) = true := bne_iff_ne.mpr c11
    simp only [Option.some.injEq, Prod.mk.injEq] at H
    obtain ⟨rfl, rfl⟩ := H
    go_enter Try.func18, Try.ntmps18
    go_wp2_with (first | ((with_reducible refine gate_dst (N := 2) rfl ?_); refine bx 2 28 #[.int .i64 a0_0, .int .i64 a0_1, .slice A0_2 l0_2.length c0_2, .slice A0_3 l0_3.length c0_3] ?_; intro gb2062 hg w18 hbox hb; have BK2062 := am (hbox); have GW2062 := am ((bz hg HB.out : w.heap.size ≤ gb2062)); have GE2062 := am ((bz hg HB.out : w.heap.size ≤ gb2062)); replace HB := am (below_step (bl HB.out) hb); clear hb hbox hg) | ((with_reducible refine gate_callee (f := 55) rfl ?_); refine goesL_ (some 10) rfl rfl Try.func55 (by kernel_rfl) rfl #[.int .i64 a1] rfl ar ?_; (with_reducible refine (gran_inRange.calls a1 true _ A3.out).mono ?_); rintro e w' ⟨rfl, ⟨nd, rfl⟩⟩; refine ⟨_, rfl, ?_⟩; have hcz19_0 : w18.cell? ⟨gb2062, 0, none⟩ = some (.int .i64 a0_0) := bc BK2062.out 0; have hcz19_1 : w18.cell? ⟨gb2062, 1, none⟩ = some (.int .i64 a0_1) := bc BK2062.out 1; have hcz19_2 : w18.cell? ⟨gb2062, 2, none⟩ = some (.slice A0_2 l0_2.length c0_2) := bc BK2062.out 2; have hcz19_3 : w18.cell? ⟨gb2062, 3, none⟩ = some (.slice A0_3 l0_3.length c0_3) := bc BK2062.out 3; have hfz19_0 := blk_frozen BK2062.out 0; have hfz19_1 := blk_frozen BK2062.out 1; have hfz19_2 := blk_frozen BK2062.out 2; have hfz19_3 := blk_frozen BK2062.out 3) | ((with_reducible refine gate_callee (f := 56) rfl ?_); refine goesL_ (some 15) rfl rfl Try.func56 (by kernel_rfl) rfl #[.agg #[.int .i64 a0_0, .int .i64 a0_1, .slice A0_2 l0_2.length c0_2, .slice A0_3 l0_3.length c0_3], .int .i64 a1] rfl ar ?_; (with_reducible refine (gran_kept.calls k a0_0 a0_1 (fun k_ => k_ < w.heap.size) _ _ l0_2 (fun k_ => k_ < w.heap.size) _ _ l0_3 a1 t2064 t2067 t2068 _ ?side1 ?side2 A5.out).mono ?_); (case side1 => exact Kd.V_mk HC0_2.out (Kd.F_below (Kd.C_F (Kd.heap_slice 23 k23_heap) HR0_2.out) (bl1 HB.out GE2062.out))); (case side2 => exact Kd.V_mk HC0_3.out (Kd.F_below (Kd.C_F k70_heap HR0_3.out) (bl1 HB.out GE2062.out))); rintro e w20 ⟨v2065, rfl, ho0, hb⟩; refine ⟨_, rfl, ?_⟩; have HO2066 := am (Kd.V_lower (Kd.V_mono (ok' := fun k_ => k_ ≠ gb2062) ho0 (fun k_ hk_ => Or.elim hk_ (fun hs_ => Or.elim hs_ (fun hs_ => fun e_ => Nat.not_le.2 hs_ (by rw [e_]; exact GW2062.out)) (fun hs_ => fun e_ => Nat.not_le.2 hs_ (by rw [e_]; exact GW2062.out))) (fun hn_ => (Kd.freshB (g := gb2062) (o := .cells #[.int .i64 a0_0, .int .i64 a0_1, .slice A0_2 l0_2.length c0_2, .slice A0_3 l0_3.length c0_3] 28 (0, 0)) (kp BK2062.out) k_ hn_)))) (below_size (bl1 HB.out GE2062.out))); replace BK2062 := am (blk_below (kp BK2062.out) hb); replace HB := am (below_step (bl1 HB.out GE2062.out) hb); (try clear hb); (try clear hb2); (try clear hk); (try clear hi); (try clear ho0); obtain ⟨Ao21, co21, eo21⟩ := Kd.V_slice HO2066.out; subst eo21))
    go_ret2
    exact ⟨_, rt, by first | exact Kd.R_nil _ _ _ _ _ | exact Kd.N_nil _ _ _ _ _ | exact Kd.V_nil _ _ _ _ _ | exact Kd.Q_nil _ _ _ _ _ | exact Kd.S_nil _ _ _ _ _, bl1 HB.out GE2062.out⟩
 ·replace c4 := Bool.eq_false_iff.mpr c4
  subst c4
  have H1 : (some (([] : List (S23)), 20)) = some (r1, r2) := by rw [if_neg (show ¬ (false = true) by decide)] at H; exact H
  clear H
  have H := H1
  clear H1
  simp only [Option.some.injEq, Prod.mk.injEq] at H
  obtain ⟨rfl, rfl⟩ := H
  go_enter Try.func18, Try.ntmps18
  go_wp2_with (first | ((with_reducible refine gate_dst (N := 2) rfl ?_); refine bx 2 28 #[.int .i64 a0_0, .int .i64 a0_1, .slice A0_2 l0_2.length c0_2, .slice A0_3 l0_3.length c0_3] ?_; intro gb2062 hg w22 hbox hb; have BK2062 := am (hbox); have GW2062 := am ((bz hg HB.out : w.heap.size ≤ gb2062)); have GE2062 := am ((bz hg HB.out : w.heap.size ≤ gb2062)); replace HB := am (below_step (bl HB.out) hb); clear hb hbox hg) | ((with_reducible refine gate_callee (f := 55) rfl ?_); refine goesL_ (some 10) rfl rfl Try.func55 (by kernel_rfl) rfl #[.int .i64 a1] rfl ar ?_; (with_reducible refine (gran_inRange.calls a1 false _ A3.out).mono ?_); rintro e w' ⟨rfl, ⟨nd, rfl⟩⟩; refine ⟨_, rfl, ?_⟩))
  go_ret2
  exact ⟨_, rt, by first | exact Kd.R_nil _ _ _ _ _ | exact Kd.N_nil _ _ _ _ _ | exact Kd.V_nil _ _ _ _ _ | exact Kd.Q_nil _ _ _ _ _ | exact Kd.S_nil _ _ _ _ _, bl1 HB.out GE2062.out⟩

end Go.Proofs.Ytmbmalkpmanaaaa.P

namespace Go.Proofs.Ytmbmalkpmanaaaa.P
open Go.RowKit Go.Proofs.YtmbmalkpmanaaaaW.PrintWords Go.Proofs.YtmbmalkpmanaaaaW.PrintLast Go.Proofs.YtmbmalkpmanaaaaW.PrintMore
attribute [local go_sem] max2_int min2_int max_two min_two max_three min_three max_four min_four   -- for this text's walks alone
set_option linter.unusedVariables false
set_option linter.unusedSimpArgs false

def gran_bare_1.f (l0 : List (S23)) : Option (Bool) := some (decide ((l0.length : Int) > 0))
set_option maxHeartbeats 8000000 in
set_option maxRecDepth 100000 in
theorem gran_bare_1.calls (A0 : Option Addr) (c0 : Nat) (l0 : List (S23)) (r : Bool) (w : World) (hr0 : Kd.C k23 w A0 l0.length l0) (hc0 : l0.length ≤ c0) (h : gran_bare_1.f l0 = some r) :
 Calls Try.prog 107 #[.slice A0 l0.length c0] w fun e w' => e = .returned (.bool r) ∧ Drawn0 w w' := by
 have HR0 := am hr0
 have HC0 := am hc0
 clear hr0 hc0
 have H : (some (decide ((l0.length : Int) > 0))) = some r := h
 clear h
 obtain rfl := Option.some.inj H
 go_enter Try.func107, Try.ntmps107
 go_wp2
 go_ret
 exact ⟨by first | rfl | (simp; done) | (simp [*]; done), by repeat (first | exact Drawn0.refl _ | apply Drawn0.step)⟩

end Go.Proofs.Ytmbmalkpmanaaaa.P

namespace Go.Proofs.Ytmbmalkpmanaaaa.P
open Go.RowKit Go.Proofs.YtmbmalkpmanaaaaW.PrintWords Go.Proofs.YtmbmalkpmanaaaaW.PrintLast Go.Proofs.YtmbmalkpmanaaaaW.PrintMore
attribute [local go_sem] max2_int min2_int max_two min_two max_three min_three max_four min_four   -- for this text's walks alone
set_option linter.unusedVariables false
set_option linter.unusedSimpArgs false

def slices_IndexFunc_Span.l0 : Nat → List (List (S23)) → Int → Int → Option (Int)
 | 0, _, _, _ => none
 | k + 1, x0, x7, x8 => if x8 < x7 then (if 0 ≤ x8 then (if x8 < (x0.length : Int) then ((gran_bare_1.f (rd_L2 x0 x8)).bind fun t2074 => (if t2074 = true then (some x8) else (slices_IndexFunc_Span.l0 k x0 x7 (wrap64 (x8 + 1))))) else (none)) else (none)) else (some (-1))
def slices_IndexFunc_Span.f (k : Nat) (l0 : List (List (S23)))  : Option (Int) := slices_IndexFunc_Span.l0 k l0 (l0.length : Int) 0
theorem slices_IndexFunc_Span.mono_l : ∀ k, (∀ y0 y1 y2, LeO (slices_IndexFunc_Span.l0 k y0 y1 y2) (slices_IndexFunc_Span.l0 (k + 1) y0 y1 y2))
 | 0 => fun _ _ _ r h => by simp [slices_IndexFunc_Span.l0] at h
 | k + 1 => by
  have ih0 := slices_IndexFunc_Span.mono_l k
  ·intro y0 y1 y2
   unfold slices_IndexFunc_Span.l0
   repeat' first
   | (with_reducible exact ih0 _ _ _)
   | (with_reducible exact LeO.refl _)
   | (with_reducible exact LeO.none _)
   | (with_reducible refine LeO.ite ?_ ?_)
   | (with_reducible refine LeO.bind ?_ (fun _ => ?_))
   | exact ih0 _ _ _
   | exact LeO.none _
   | refine LeO.ite ?_ ?_
   | refine LeO.bind ?_ (fun _ => ?_)
theorem slices_IndexFunc_Span.mono : ∀ a0 k, LeO (slices_IndexFunc_Span.f k a0) (slices_IndexFunc_Span.f (k + 1) a0) := by
 intro a0 k
 have ih0 := slices_IndexFunc_Span.mono_l k
 unfold slices_IndexFunc_Span.f
 repeat' first
  | (with_reducible exact ih0 _ _ _)
  | (with_reducible exact LeO.refl _)
  | (with_reducible exact LeO.none _)
  | (with_reducible refine LeO.ite ?_ ?_)
  | (with_reducible refine LeO.bind ?_ (fun _ => ?_))
  | exact ih0 _ _ _
  | exact LeO.none _
  | refine LeO.ite ?_ ?_
  | refine LeO.bind ?_ (fun _ => ?_)
set_option maxHeartbeats 8000000 in
set_option maxRecDepth 100000 in
theorem slices_IndexFunc_Span.calls (k : Nat) (A0 : Option Addr) (c0 : Nat) (l0 : List (List (S23)))  (r : Int) (w : World) (hr0 : Kd.C (Kd.slice 23 k23) w A0 l0.length l0) (hc0 : l0.length ≤ c0) (h : slices_IndexFunc_Span.f k l0 = some r) :
 Calls Try.prog 121 #[.slice A0 l0.length c0, .func (.func 107) #[] #[]] w fun e w' => e = .returned (.int .i64 r) ∧ Drawn0 w w' := by
 have HR0 := am hr0
 have HC0 := am hc0
 clear hr0 hc0
 have H : (slices_IndexFunc_Span.l0 k l0 (l0.length : Int) 0) = some r := h
 clear h
 have H' := am H
 clear H
 go_enter Try.func121, Try.ntmps121
 go_wp2
 go_loopg [8] k (fun kq v8 w' => ∃ (x8_1 : Int), v8 = .int .i64 x8_1 ∧ Aside0 (slices_IndexFunc_Span.l0 kq l0 (l0.length : Int) x8_1 = some r) ∧ Aside0 (kq ≤ k) ∧ Drawn0 w w')
 case atStart => exact ⟨(0), sm, H', ⟨Nat.le_refl _⟩, by repeat (first | exact Drawn0.refl _ | apply Drawn0.step)⟩
 case round =>
  clear H'
  try clear c1
  try clear p2
  obtain ⟨x8_1, rfl, HA, HK1, ⟨m1, rfl⟩⟩ := hrel
  cases gk with
  | zero => exact absurd HA.out (by simp [slices_IndexFunc_Span.l0])
  | succ k1 =>
   have H := HA.out
   clear HA
   simp only [slices_IndexFunc_Span.l0] at H
   by_cases c3 : x8_1 < (l0.length : Int)
   ·rw [if_pos c3] at H
    have c3b0 : decide (x8_1 < (l0.length : Int)) = true := decide_eq_true c3
    clear c3
    by_cases c4 : 0 ≤ x8_1
    ·rw [if_pos c4] at H
     have c4b0 : decide (0 ≤ x8_1) = true := decide_eq_true c4
     clear c4
     by_cases c5 : x8_1 < (l0.length : Int)
     ·rw [if_pos c5] at H
      have c5b0 : decide (x8_1 < (l0.length : Int)) = true := decide_eq_true c5
      clear c5
      replace H := Option.bind_eq_some_iff.mp H
      obtain ⟨t2074, A60, H⟩ := H
      try dsimp only at H
      have A6 := am A60
      clear A60
      by_cases c7 : t2074 = true
      ·subst c7
       have H1 : (some x8_1) = some r := by rw [if_pos rfl] at H; exact H
       clear H
       have H := H1
       clear H1
       obtain rfl := Option.some.inj H
       have p2073 : 0 ≤ (x8_1 : Int) := of_decide_eq_true asm
       have q2073 : x8_1 < (l0.length : Int) := of_decide_eq_true asm
       obtain ⟨ad2073, A2073_0, c2073_0, e2073, hx2073_0, hl2073_0, hi2073_0⟩ := at_L2 HR0.out x8_1 p2073 q2073
       cases e2073
       have HR2073_0 := am hi2073_0
       have HC2073_0 := am hl2073_0
       clear hi2073_0 hl2073_0
       replace p2073 := eq_true p2073
       replace q2073 := eq_true q2073
       go_wp2_with (first | (go_at_call 107; (with_reducible refine (gran_bare_1.calls _ _ (rd_L2 l0 x8_1) true _ ?side1 ?side2 A6.out).mono ?_); (case side1 => exact kc HR2073_0.out); (case side2 => exact HC2073_0.out); rintro e w' ⟨rfl, ⟨nd, rfl⟩⟩))
       go_ret
       exact ⟨by first | rfl | (simp; done) | (simp [*]; done), by repeat (first | exact Drawn0.refl _ | apply Drawn0.step)⟩
      ·replace c7 := Bool.eq_false_iff.mpr c7
       subst c7
       have H1 : (slices_IndexFunc_Span.l0 k1 l0 (l0.length : Int) (wrap64 (x8_1 + 1))) = some r := by rw [if_neg (show ¬ (false = true) by decide)] at H; exact H
       clear H
       have H := H1
       clear H1
       have H' := am H
       clear H
       have p2073 : 0 ≤ (x8_1 : Int) := of_decide_eq_true asm
       have q2073 : x8_1 < (l0.length : Int) := of_decide_eq_true asm
       obtain ⟨ad2073, A2073_0, c2073_0, e2073, hx2073_0, hl2073_0, hi2073_0⟩ := at_L2 HR0.out x8_1 p2073 q2073
       cases e2073
       have HR2073_0 := am hi2073_0
       have HC2073_0 := am hl2073_0
       clear hi2073_0 hl2073_0
       replace p2073 := eq_true p2073
       replace q2073 := eq_true q2073
       go_wp2_with (first | (go_at_call 107; (with_reducible refine (gran_bare_1.calls _ _ (rd_L2 l0 x8_1) false _ ?side1 ?side2 A6.out).mono ?_); (case side1 => exact kc HR2073_0.out); (case side2 => exact HC2073_0.out); rintro e w' ⟨rfl, ⟨nd, rfl⟩⟩))
       go_roundg k1
       case measure => have := HK1.out; omega
       case rel => exact ⟨(wrap64 (x8_1 + 1)), sm, H', ⟨by have := HK1.out; omega⟩, by repeat (first | exact Drawn0.refl _ | apply Drawn0.step)⟩
     ·rw [if_neg c5] at H
      exact absurd H (by simp)
    ·rw [if_neg c4] at H
     exact absurd H (by simp)
   ·rw [if_neg c3] at H
    have c3b0 : decide (x8_1 < (l0.length : Int)) = false := decide_eq_false c3
    clear c3
    obtain rfl := Option.some.inj H
    go_wp2
    go_ret
    exact ⟨by first | rfl | (simp; done) | (simp [*]; done), by repeat (first | exact Drawn0.refl _ | apply Drawn0.step)⟩

end Go.Proofs.Ytmbmalkpmanaaaa.P

namespace Go.Proofs.Ytmbmalkpmanaaaa.P
open Go.RowKit Go.Proofs.YtmbmalkpmanaaaaW.PrintWords Go.Proofs.YtmbmalkpmanaaaaW.PrintLast Go.Proofs.YtmbmalkpmanaaaaW.PrintMore
attribute [local go_sem] max2_int min2_int max_two min_two max_three min_three max_four min_four   -- for this text's walks alone
set_option linter.unusedVariables false
set_option linter.unusedSimpArgs false

def slices_ContainsFunc_Span.f (k : Nat) (l0 : List (List (S23)))  : Option (Bool) := (slices_IndexFunc_Span.f k l0).bind fun t2075 => (some (decide (t2075 ≥ 0)))
theorem slices_ContainsFunc_Span.mono : ∀ a0 k, LeO (slices_ContainsFunc_Span.f k a0) (slices_ContainsFunc_Span.f (k + 1) a0) := by
 intro a0 k
 unfold slices_ContainsFunc_Span.f
 repeat' first
  | (with_reducible exact slices_IndexFunc_Span.mono _ _)
  | (with_reducible exact LeO.refl _)
  | (with_reducible exact LeO.none _)
  | (with_reducible refine LeO.ite ?_ ?_)
  | (with_reducible refine LeO.bind ?_ (fun _ => ?_))
  | exact slices_IndexFunc_Span.mono _ _
  | exact LeO.none _
  | refine LeO.ite ?_ ?_
  | refine LeO.bind ?_ (fun _ => ?_)
set_option maxHeartbeats 8000000 in
set_option maxRecDepth 100000 in
theorem slices_ContainsFunc_Span.calls (k : Nat) (A0 : Option Addr) (c0 : Nat) (l0 : List (List (S23)))  (r : Bool) (w : World) (hr0 : Kd.C (Kd.slice 23 k23) w A0 l0.length l0) (hc0 : l0.length ≤ c0) (h : slices_ContainsFunc_Span.f k l0 = some r) :
 Calls Try.prog 106 #[.slice A0 l0.length c0, .func (.func 107) #[] #[]] w fun e w' => e = .returned (.bool r) ∧ Drawn0 w w' := by
 have HR0 := am hr0
 have HC0 := am hc0
 clear hr0 hc0
 have H : ((slices_IndexFunc_Span.f k l0).bind fun t2075 => (some (decide (t2075 ≥ 0)))) = some r := h
 clear h
 replace H := Option.bind_eq_some_iff.mp H
 obtain ⟨t2075, A30, H⟩ := H
 try dsimp only at H
 have A3 := am A30
 clear A30
 obtain rfl := Option.some.inj H
 go_enter Try.func106, Try.ntmps106
 go_wp2_with (first | ((with_reducible refine gate_callee (f := 121) rfl ?_); refine goesL_ (some 7) rfl rfl Try.func121 (by kernel_rfl) rfl #[.slice A0 l0.length c0, .func (.func 107) #[] #[]] rfl ar ?_; (with_reducible refine (slices_IndexFunc_Span.calls k _ _ l0 t2075 _ ?side1 ?side2 A3.out).mono ?_); (case side1 => exact kc HR0.out); (case side2 => exact HC0.out); rintro e w' ⟨rfl, ⟨nd, rfl⟩⟩; refine ⟨_, rfl, ?_⟩))
 go_ret
 exact ⟨by first | rfl | (simp; done) | (simp [*]; done), by repeat (first | exact Drawn0.refl _ | apply Drawn0.step)⟩

end Go.Proofs.Ytmbmalkpmanaaaa.P

namespace Go.Proofs.Ytmbmalkpmanaaaa.P
open Go.RowKit Go.Proofs.YtmbmalkpmanaaaaW.PrintWords Go.Proofs.YtmbmalkpmanaaaaW.PrintLast Go.Proofs.YtmbmalkpmanaaaaW.PrintMore
attribute [local go_sem] max2_int min2_int max_two min_two max_three min_three max_four min_four   -- for this text's walks alone
set_option linter.unusedVariables false
set_option linter.unusedSimpArgs false

def gran_bare.f (k : Nat) (a0_0 : Int) (a0_1 : Int) (l0_2 : List (List (S23))) (l0_3 : List (S70)) : Option (Bool) := (slices_ContainsFunc_Span.f k l0_2).bind fun t2077 => (some (!t2077))
theorem gran_bare.mono : ∀ a0 a1 a2 a3 k, LeO (gran_bare.f k a0 a1 a2 a3) (gran_bare.f (k + 1) a0 a1 a2 a3) := by
 intro a0 a1 a2 a3 k
 unfold gran_bare.f
 repeat' first
  | (with_reducible exact slices_ContainsFunc_Span.mono _ _)
  | (with_reducible exact LeO.refl _)
  | (with_reducible exact LeO.none _)
  | (with_reducible refine LeO.ite ?_ ?_)
  | (with_reducible refine LeO.bind ?_ (fun _ => ?_))
  | exact slices_ContainsFunc_Span.mono _ _
  | exact LeO.none _
  | refine LeO.ite ?_ ?_
  | refine LeO.bind ?_ (fun _ => ?_)
set_option maxHeartbeats 8000000 in
set_option maxRecDepth 100000 in
theorem gran_bare.calls (k : Nat) (a0_0 : Int) (a0_1 : Int) (A0_2 : Option Addr) (c0_2 : Nat) (l0_2 : List (List (S23))) (A0_3 : Option Addr) (c0_3 : Nat) (l0_3 : List (S70)) (r : Bool) (w : World) (hr0_2 : Kd.C (Kd.slice 23 k23) w A0_2 l0_2.length l0_2) (hc0_2 : l0_2.length ≤ c0_2) (hr0_3 : Kd.C k70 w A0_3 l0_3.length l0_3) (hc0_3 : l0_3.length ≤ c0_3) (h : gran_bare.f k a0_0 a0_1 l0_2 l0_3 = some r) :
 Calls Try.prog 93 #[.agg #[.int .i64 a0_0, .int .i64 a0_1, .slice A0_2 l0_2.length c0_2, .slice A0_3 l0_3.length c0_3]] w fun e w' => e = .returned (.bool r) ∧ Below w.heap.size w w' := by
 have hu28 := Try.underlying28
 have HR0_2 := am hr0_2
 have HC0_2 := am hc0_2
 clear hr0_2 hc0_2
 have HR0_3 := am hr0_3
 have HC0_3 := am hc0_3
 clear hr0_3 hc0_3
 have HB := am (Below.refl w.heap.size w)
 have H : ((slices_ContainsFunc_Span.f k l0_2).bind fun t2077 => (some (!t2077))) = some r := h
 clear h
 replace H := Option.bind_eq_some_iff.mp H
 obtain ⟨t2077, A20, H⟩ := H
 try dsimp only at H
 have A2 := am A20
 clear A20
 obtain rfl := Option.some.inj H
 go_enter Try.func93, Try.ntmps93
 go_wp2_with (first | ((with_reducible refine gate_dst (N := 1) rfl ?_); refine bx 1 28 #[.int .i64 a0_0, .int .i64 a0_1, .slice A0_2 l0_2.length c0_2, .slice A0_3 l0_3.length c0_3] ?_; intro gb2076 hg w3 hbox hb; have BK2076 := am (hbox); have GW2076 := am ((bz hg HB.out : w.heap.size ≤ gb2076)); have GE2076 := am ((bz hg HB.out : w.heap.size ≤ gb2076)); replace HB := am (below_step (bl HB.out) hb); clear hb hbox hg; have hcz4_0 : w3.cell? ⟨gb2076, 0, none⟩ = some (.int .i64 a0_0) := bc BK2076.out 0; have hcz4_1 : w3.cell? ⟨gb2076, 1, none⟩ = some (.int .i64 a0_1) := bc BK2076.out 1; have hcz4_2 : w3.cell? ⟨gb2076, 2, none⟩ = some (.slice A0_2 l0_2.length c0_2) := bc BK2076.out 2; have hcz4_3 : w3.cell? ⟨gb2076, 3, none⟩ = some (.slice A0_3 l0_3.length c0_3) := bc BK2076.out 3; have hfz4_0 := blk_frozen BK2076.out 0; have hfz4_1 := blk_frozen BK2076.out 1; have hfz4_2 := blk_frozen BK2076.out 2; have hfz4_3 := blk_frozen BK2076.out 3) | ((with_reducible refine gate_callee (f := 106) rfl ?_); refine goesL_ (some 5) rfl rfl Try.func106 (by kernel_rfl) rfl #[.slice A0_2 l0_2.length c0_2, .func (.func 107) #[] #[]] rfl ar ?_; (with_reducible refine (slices_ContainsFunc_Span.calls k _ _ l0_2 t2077 _ ?side1 ?side2 A2.out).mono ?_); (case side1 => exact kc (Kd.C_below HR0_2.out HB.out)); (case side2 => exact HC0_2.out); rintro e w' ⟨rfl, ⟨nd, rfl⟩⟩; refine ⟨_, rfl, ?_⟩))
 go_ret
 exact ⟨rt, bl1 HB.out GE2076.out⟩

end Go.Proofs.Ytmbmalkpmanaaaa.P

namespace Go.Proofs.Ytmbmalkpmanaaaa.P
open Go.RowKit Go.Proofs.YtmbmalkpmanaaaaW.PrintWords Go.Proofs.YtmbmalkpmanaaaaW.PrintLast Go.Proofs.YtmbmalkpmanaaaaW.PrintMore
attribute [local go_sem] max2_int min2_int max_two min_two max_three min_three max_four min_four   -- for this text's walks alone
set_option linter.unusedVariables false
set_option linter.unusedSimpArgs false

def gran_some.f (k : Nat) (a0_0 : Int) (a0_1 : Int) (l0_2 : List (List (S23))) (l0_3 : List (S70)) (a1 : Int) : Option (Bool) := (gran_kept.f k a0_0 a0_1 l0_2 l0_3 a1).bind fun bt2079 => (some (decide ((bt2079.1.length : Int) > 0)))
theorem gran_some.mono : ∀ a0 a1 a2 a3 a4 k, LeO (gran_some.f k a0 a1 a2 a3 a4) (gran_some.f (k + 1) a0 a1 a2 a3 a4) := by
 intro a0 a1 a2 a3 a4 k
 unfold gran_some.f
 repeat' first
  | (with_reducible exact gran_kept.mono _ _ _ _ _ _)
  | (with_reducible exact LeO.refl _)
  | (with_reducible exact LeO.none _)
  | (with_reducible refine LeO.ite ?_ ?_)
  | (with_reducible refine LeO.bind ?_ (fun _ => ?_))
  | exact gran_kept.mono _ _ _ _ _ _
  | exact LeO.none _
  | refine LeO.ite ?_ ?_
  | refine LeO.bind ?_ (fun _ => ?_)
set_option maxHeartbeats 8000000 in
set_option maxRecDepth 100000 in
theorem gran_some.calls (k : Nat) (a0_0 : Int) (a0_1 : Int) (A0_2 : Option Addr) (c0_2 : Nat) (l0_2 : List (List (S23))) (A0_3 : Option Addr) (c0_3 : Nat) (l0_3 : List (S70)) (a1 : Int) (r : Bool) (w : World) (hr0_2 : Kd.C (Kd.slice 23 k23) w A0_2 l0_2.length l0_2) (hc0_2 : l0_2.length ≤ c0_2) (hr0_3 : Kd.C k70 w A0_3 l0_3.length l0_3) (hc0_3 : l0_3.length ≤ c0_3) (h : gran_some.f k a0_0 a0_1 l0_2 l0_3 a1 = some r) :
 Calls Try.prog 94 #[.agg #[.int .i64 a0_0, .int .i64 a0_1, .slice A0_2 l0_2.length c0_2, .slice A0_3 l0_3.length c0_3], .int .i64 a1] w fun e w' => e = .returned (.bool r) ∧ Below w.heap.size w w' := by
 have hu28 := Try.underlying28
 have HR0_2 := am hr0_2
 have HC0_2 := am hc0_2
 clear hr0_2 hc0_2
 have HR0_3 := am hr0_3
 have HC0_3 := am hc0_3
 clear hr0_3 hc0_3
 have HB := am (Below.refl w.heap.size w)
 have H : ((gran_kept.f k a0_0 a0_1 l0_2 l0_3 a1).bind fun bt2079 => (some (decide ((bt2079.1.length : Int) > 0)))) = some r := h
 clear h
 replace H := Option.bind_eq_some_iff.mp H
 obtain ⟨⟨t2079, t2082, t2083⟩, A30, H⟩ := H
 try dsimp only at H
 have A3 := am A30
 clear A30
 obtain rfl := Option.some.inj H
 go_enter Try.func94, Try.ntmps94
 go_wp2_with (first | ((with_reducible refine gate_dst (N := 2) rfl ?_); refine bx 2 28 #[.int .i64 a0_0, .int .i64 a0_1, .slice A0_2 l0_2.length c0_2, .slice A0_3 l0_3.length c0_3] ?_; intro gb2078 hg w4 hbox hb; have BK2078 := am (hbox); have GW2078 := am ((bz hg HB.out : w.heap.size ≤ gb2078)); have GE2078 := am ((bz hg HB.out : w.heap.size ≤ gb2078)); replace HB := am (below_step (bl HB.out) hb); clear hb hbox hg; have hcz5_0 : w4.cell? ⟨gb2078, 0, none⟩ = some (.int .i64 a0_0) := bc BK2078.out 0; have hcz5_1 : w4.cell? ⟨gb2078, 1, none⟩ = some (.int .i64 a0_1) := bc BK2078.out 1; have hcz5_2 : w4.cell? ⟨gb2078, 2, none⟩ = some (.slice A0_2 l0_2.length c0_2) := bc BK2078.out 2; have hcz5_3 : w4.cell? ⟨gb2078, 3, none⟩ = some (.slice A0_3 l0_3.length c0_3) := bc BK2078.out 3; have hfz5_0 := blk_frozen BK2078.out 0; have hfz5_1 := blk_frozen BK2078.out 1; have hfz5_2 := blk_frozen BK2078.out 2; have hfz5_3 := blk_frozen BK2078.out 3) | ((with_reducible refine gate_callee (f := 56) rfl ?_); refine goesL_ (some 11) rfl rfl Try.func56 (by kernel_rfl) rfl #[.agg #[.int .i64 a0_0, .int .i64 a0_1, .slice A0_2 l0_2.length c0_2, .slice A0_3 l0_3.length c0_3], .int .i64 a1] rfl ar ?_; (with_reducible refine (gran_kept.calls k a0_0 a0_1 (fun k_ => k_ < w.heap.size) _ _ l0_2 (fun k_ => k_ < w.heap.size) _ _ l0_3 a1 t2079 t2082 t2083 _ ?side1 ?side2 A3.out).mono ?_); (case side1 => exact Kd.V_mk HC0_2.out (Kd.F_below (Kd.C_F (Kd.heap_slice 23 k23_heap) HR0_2.out) (bl1 HB.out GE2078.out))); (case side2 => exact Kd.V_mk HC0_3.out (Kd.F_below (Kd.C_F k70_heap HR0_3.out) (bl1 HB.out GE2078.out))); rintro e w6 ⟨v2080, rfl, ho0, hb⟩; refine ⟨_, rfl, ?_⟩; have HO2081 := am (Kd.V_lower (Kd.V_mono (ok' := fun k_ => k_ ≠ gb2078) ho0 (fun k_ hk_ => Or.elim hk_ (fun hs_ => Or.elim hs_ (fun hs_ => fun e_ => Nat.not_le.2 hs_ (by rw [e_]; exact GW2078.out)) (fun hs_ => fun e_ => Nat.not_le.2 hs_ (by rw [e_]; exact GW2078.out))) (fun hn_ => (Kd.freshB (g := gb2078) (o := .cells #[.int .i64 a0_0, .int .i64 a0_1, .slice A0_2 l0_2.length c0_2, .slice A0_3 l0_3.length c0_3] 28 (0, 0)) (kp BK2078.out) k_ hn_)))) (below_size (bl1 HB.out GE2078.out))); replace BK2078 := am (blk_below (kp BK2078.out) hb); replace HB := am (below_step (bl1 HB.out GE2078.out) hb); (try clear hb); (try clear hb2); (try clear hk); (try clear hi); (try clear ho0); obtain ⟨Ao7, co7, eo7⟩ := Kd.V_slice HO2081.out; subst eo7))
 go_ret
 exact ⟨rt, bl1 HB.out GE2078.out⟩

end Go.Proofs.Ytmbmalkpmanaaaa.P

namespace Go.Proofs.Ytmbmalkpmanaaaa.P
open Go.RowKit Go.Proofs.YtmbmalkpmanaaaaW.PrintWords Go.Proofs.YtmbmalkpmanaaaaW.PrintLast Go.Proofs.YtmbmalkpmanaaaaW.PrintMore
attribute [local go_sem] max2_int min2_int max_two min_two max_three min_three max_four min_four   -- for this text's walks alone
set_option linter.unusedVariables false
set_option linter.unusedSimpArgs false

mutual
def gran_step.j0 : Nat → Int → Int → Bool → Int → Int → List (List (S23)) → List (S70) → Option (Int × Bool)
 | 0, _, _, _, _, _, _, _ => none
 | k + 1, x2, x8, x24, x2085000, x2085001, x2085002, x2085003 => if x24 = true then (gran_step.j1 k x2 (wrap64 (x8 - 1)) x2085000 x2085001 x2085002 x2085003) else (gran_step.j1 k x2 x8 x2085000 x2085001 x2085002 x2085003)
def gran_step.j1 : Nat → Int → Int → Int → Int → List (List (S23)) → List (S70) → Option (Int × Bool)
 | 0, _, _, _, _, _, _ => none
 | k + 1, x2, x8, x2085000, x2085001, x2085002, x2085003 => gran_step.l0 k x2 x8 x2085000 x2085001 x2085002 x2085003
def gran_step.l0 : Nat → Int → Int → Int → Int → List (List (S23)) → List (S70) → Option (Int × Bool)
 | 0, _, _, _, _, _, _ => none
 | k + 1, x2, x8, x2085000, x2085001, x2085002, x2085003 => if x8 ≥ 0 then (gran_step.j3 k x2 x8 (decide (x8 < (x2085003.length : Int))) x2085000 x2085001 x2085002 x2085003) else (gran_step.j3 k x2 x8 false x2085000 x2085001 x2085002 x2085003)
def gran_step.j3 : Nat → Int → Int → Bool → Int → Int → List (List (S23)) → List (S70) → Option (Int × Bool)
 | 0, _, _, _, _, _, _, _ => none
 | k + 1, x2, x8, x35, x2085000, x2085001, x2085002, x2085003 => if x35 = true then (if 0 ≤ x8 then (if x8 < (x2085003.length : Int) then (if (((rd_T70 x2085003 x8).f1).length : Int) > 0 then (some ((rd_T70 x2085003 x8).f0, true)) else (gran_step.l0 k x2 (wrap64 (x8 + x2)) x2085000 x2085001 x2085002 x2085003)) else (none)) else (none)) else (some (0, false))
def gran_step.l1 : Nat → Int → Int → Int → Int → List (List (S23)) → List (S70) → Option (Int × Bool)
 | 0, _, _, _, _, _, _ => none
 | k + 1, x2, x10, x2085000, x2085001, x2085002, x2085003 => (gran_inRange.f x10).bind fun t2090 => (if t2090 = true then ((gran_some.f k x2085000 x2085001 x2085002 x2085003 x10).bind fun t2091 => (if t2091 = true then (some (x10, true)) else (gran_step.l1 k x2 (wrap64 (x10 + x2)) x2085000 x2085001 x2085002 x2085003))) else (some (0, false)))
end
def gran_step.f (k : Nat) (a0_0 : Int) (a0_1 : Int) (l0_2 : List (List (S23))) (l0_3 : List (S70)) (a1 : Int) (a2 : Int) : Option (Int × Bool) := (gran_bare.f k a0_0 a0_1 l0_2 l0_3).bind fun t2085 => (if t2085 = true then ((gran_odd.f k a0_0 a0_1 l0_2 l0_3 a1).bind fun bt2086 => (if a2 < 0 then (gran_step.j0 k a2 bt2086.1 (!bt2086.2) a0_0 a0_1 l0_2 l0_3) else (gran_step.j0 k a2 bt2086.1 false a0_0 a0_1 l0_2 l0_3))) else (gran_step.l1 k a2 a1 a0_0 a0_1 l0_2 l0_3))
theorem gran_step.mono_l : ∀ k, (∀ y0 y1 y2 y3 y4 y5 y6, LeO (gran_step.j0 k y0 y1 y2 y3 y4 y5 y6) (gran_step.j0 (k + 1) y0 y1 y2 y3 y4 y5 y6)) ∧ (∀ y0 y1 y2 y3 y4 y5, LeO (gran_step.j1 k y0 y1 y2 y3 y4 y5) (gran_step.j1 (k + 1) y0 y1 y2 y3 y4 y5)) ∧ (∀ y0 y1 y2 y3 y4 y5, LeO (gran_step.l0 k y0 y1 y2 y3 y4 y5) (gran_step.l0 (k + 1) y0 y1 y2 y3 y4 y5)) ∧ (∀ y0 y1 y2 y3 y4 y5 y6, LeO (gran_step.j3 k y0 y1 y2 y3 y4 y5 y6) (gran_step.j3 (k + 1) y0 y1 y2 y3 y4 y5 y6)) ∧ (∀ y0 y1 y2 y3 y4 y5, LeO (gran_step.l1 k y0 y1 y2 y3 y4 y5) (gran_step.l1 (k + 1) y0 y1 y2 y3 y4 y5))
 | 0 => ⟨fun _ _ _ _ _ _ _ r h => by simp [gran_step.j0] at h, fun _ _ _ _ _ _ r h => by simp [gran_step.j1] at h, fun _ _ _ _ _ _ r h => by simp [gran_step.l0] at h, fun _ _ _ _ _ _ _ r h => by simp [gran_step.j3] at h, fun _ _ _ _ _ _ r h => by simp [gran_step.l1] at h⟩
 | k + 1 => by
  obtain ⟨ih0, ih1, ih2, ih3, ih4⟩ := gran_step.mono_l k
  refine ⟨?_, ?_, ?_, ?_, ?_⟩
  ·intro y0 y1 y2 y3 y4 y5 y6
   unfold gran_step.j0
   repeat' first
   | (with_reducible exact ih0 _ _ _ _ _ _ _)
   | (with_reducible exact ih1 _ _ _ _ _ _)
   | (with_reducible exact ih2 _ _ _ _ _ _)
   | (with_reducible exact ih3 _ _ _ _ _ _ _)
   | (with_reducible exact ih4 _ _ _ _ _ _)
   | (with_reducible exact gran_bare.mono _ _ _ _ _)
   | (with_reducible exact gran_odd.mono _ _ _ _ _ _)
   | (with_reducible exact gran_some.mono _ _ _ _ _ _)
   | (with_reducible exact LeO.refl _)
   | (with_reducible exact LeO.none _)
   | (with_reducible refine LeO.ite ?_ ?_)
   | (with_reducible refine LeO.bind ?_ (fun _ => ?_))
   | exact ih0 _ _ _ _ _ _ _
   | exact ih1 _ _ _ _ _ _
   | exact ih2 _ _ _ _ _ _
   | exact ih3 _ _ _ _ _ _ _
   | exact ih4 _ _ _ _ _ _
   | exact gran_bare.mono _ _ _ _ _
   | exact gran_odd.mono _ _ _ _ _ _
   | exact gran_some.mono _ _ _ _ _ _
   | exact LeO.none _
   | refine LeO.ite ?_ ?_
   | refine LeO.bind ?_ (fun _ => ?_)
  ·intro y0 y1 y2 y3 y4 y5
   unfold gran_step.j1
   repeat' first
   | (with_reducible exact ih0 _ _ _ _ _ _ _)
   | (with_reducible exact ih1 _ _ _ _ _ _)
   | (with_reducible exact ih2 _ _ _ _ _ _)
   | (with_reducible exact ih3 _ _ _ _ _ _ _)
   | (with_reducible exact ih4 _ _ _ _ _ _)
   | (with_reducible exact gran_bare.mono _ _ _ _ _)
   | (with_reducible exact gran_odd.mono _ _ _ _ _ _)
   | (with_reducible exact gran_some.mono _ _ _ _ _ _)
   | (with_reducible exact LeO.refl _)
   | (with_reducible exact LeO.none _)
   | (with_reducible refine LeO.ite ?_ ?_)
   | (with_reducible refine LeO.bind ?_ (fun _ => ?_))
   | exact ih0 _ _ _ _ _ _ _
   | exact ih1 _ _ _ _ _ _
   | exact ih2 _ _ _ _ _ _
   | exact ih3 _ _ _ _ _ _ _
   | exact ih4 _ _ _ _ _ _
   | exact gran_bare.mono _ _ _ _ _
   | exact gran_odd.mono _ _ _ _ _ _
   | exact gran_some.mono _ _ _ _ _ _
   | exact LeO.none _
   | refine LeO.ite ?_ ?_
   | refine LeO.bind ?_ (fun _ => ?_)
  ·intro y0 y1 y2 y3 y4 y5
   unfold gran_step.l0
   repeat' first
   | (with_reducible exact ih0 _ _ _ _ _ _ _)
   | (with_reducible exact ih1 _ _ _ _ _ _)
   | (with_reducible exact ih2 _ _ _ _ _ _)
   | (with_reducible exact ih3 _ _ _ _ _ _ _)
   | (with_reducible exact ih4 _ _ _ _ _ _)
   | (with_reducible exact gran_bare.mono _ _ _ _ _)
   | (with_reducible exact gran_odd.mono _ _ _ _ _ _)
   | (with_reducible exact gran_some.mono _ _ _ _ _ _)
   | (with_reducible exact LeO.refl _)
   | (with_reducible exact LeO.none _)
   | (with_reducible refine LeO.ite ?_ ?_)
   | (with_reducible refine LeO.bind ?_ (fun _ => ?_))
   | exact ih0 _ _ _ _ _ _ _
   | exact ih1 _ _ _ _ _ _
   | exact ih2 _ _ _ _ _ _
   | exact ih3 _ _ _ _ _ _ _
   | exact ih4 _ _ _ _ _ _
   | exact gran_bare.mono _ _ _ _ _
   | exact gran_odd.mono _ _ _ _ _ _
   | exact gran_some.mono _ _ _ _ _ _
   | exact LeO.none _
   | refine LeO.ite ?_ ?_
   | refine LeO.bind ?_ (fun _ => ?_)
  ·intro y0 y1 y2 y3 y4 y5 y6
   unfold gran_step.j3
   repeat' first
   | (with_reducible exact ih0 _ _ _ _ _ _ _)
   | (with_reducible exact ih1 _ _ _ _ _ _)
   | (with_reducible exact ih2 _ _ _ _ _ _)
   | (with_reducible exact ih3 _ _ _ _ _ _ _)
   | (with_reducible exact ih4 _ _ _ _ _ _)
   | (with_reducible exact gran_bare.mono _ _ _ _ _)
   | (with_reducible exact gran_odd.mono _ _ _ _ _ _)
   | (with_reducible exact gran_some.mono _ _ _ _ _ _)
   | (with_reducible exact LeO.refl _)
   | (with_reducible exact LeO.none _)
   | (with_reducible refine LeO.ite ?_ ?_)
   | (with_reducible refine LeO.bind ?_ (fun _ => ?_))
   | exact ih0 _ _ _ _ _ _ _
   | exact ih1 _ _ _ _ _ _
   | exact ih2 _ _ _ _ _ _
   | exact ih3 _ _ _ _ _ _ _
   | exact ih4 _ _ _ _ _ _
   | exact gran_bare.mono _ _ _ _ _
   | exact gran_odd.mono _ _ _ _ _ _
   | exact gran_some.mono _ _ _ _ _ _
   | exact LeO.none _
   | refine LeO.ite ?_ ?_
   | refine LeO.bind ?_ (fun _ => ?_)
  ·intro y0 y1 y2 y3 y4 y5
   unfold gran_step.l1
   repeat' first
   | (with_reducible exact ih0 _ _ _ _ _ _ _)
   | (with_reducible exact ih1 _ _ _ _ _ _)
   | (with_reducible exact ih2 _ _ _ _ _ _)
   | (with_reducible exact ih3 _ _ _ _ _ _ _)
   | (with_reducible exact ih4 _ _ _ _ _ _)
   | (with_reducible exact gran_bare.mono _ _ _ _ _)
   | (with_reducible exact gran_odd.mono _ _ _ _ _ _)
   | (with_reducible exact gran_some.mono _ _ _ _ _ _)
   | (with_reducible exact LeO.refl _)
   | (with_reducible exact LeO.none _)
   | (with_reducible refine LeO.ite ?_ ?_)
   | (with_reducible refine LeO.bind ?_ (fun _ => ?_))
   | exact ih0 _ _ _ _ _ _ _
   | exact ih1 _ _ _ _ _ _
   | exact ih2 _ _ _ _ _ _
   | exact ih3 _ _ _ _ _ _ _
   | exact ih4 _ _ _ _ _ _
   | exact gran_bare.mono _ _ _ _ _
   | exact gran_odd.mono _ _ _ _ _ _
   | exact gran_some.mono _ _ _ _ _ _
   | exact LeO.none _
   | refine LeO.ite ?_ ?_
   | refine LeO.bind ?_ (fun _ => ?_)
theorem gran_step.mono : ∀ a0 a1 a2 a3 a4 a5 k, LeO (gran_step.f k a0 a1 a2 a3 a4 a5) (gran_step.f (k + 1) a0 a1 a2 a3 a4 a5) := by
 intro a0 a1 a2 a3 a4 a5 k
 obtain ⟨ih0, ih1, ih2, ih3, ih4⟩ := gran_step.mono_l k
 unfold gran_step.f
 repeat' first
  | (with_reducible exact ih0 _ _ _ _ _ _ _)
  | (with_reducible exact ih1 _ _ _ _ _ _)
  | (with_reducible exact ih2 _ _ _ _ _ _)
  | (with_reducible exact ih3 _ _ _ _ _ _ _)
  | (with_reducible exact ih4 _ _ _ _ _ _)
  | (with_reducible exact gran_bare.mono _ _ _ _ _)
  | (with_reducible exact gran_odd.mono _ _ _ _ _ _)
  | (with_reducible exact gran_some.mono _ _ _ _ _ _)
  | (with_reducible exact LeO.refl _)
  | (with_reducible exact LeO.none _)
  | (with_reducible refine LeO.ite ?_ ?_)
  | (with_reducible refine LeO.bind ?_ (fun _ => ?_))
  | exact ih0 _ _ _ _ _ _ _
  | exact ih1 _ _ _ _ _ _
  | exact ih2 _ _ _ _ _ _
  | exact ih3 _ _ _ _ _ _ _
  | exact ih4 _ _ _ _ _ _
  | exact gran_bare.mono _ _ _ _ _
  | exact gran_odd.mono _ _ _ _ _ _
  | exact gran_some.mono _ _ _ _ _ _
  | exact LeO.none _
  | refine LeO.ite ?_ ?_
  | refine LeO.bind ?_ (fun _ => ?_)
set_option maxHeartbeats 8000000 in
set_option maxRecDepth 100000 in
theorem gran_step.calls (k : Nat) (a0_0 : Int) (a0_1 : Int) (A0_2 : Option Addr) (c0_2 : Nat) (l0_2 : List (List (S23))) (A0_3 : Option Addr) (c0_3 : Nat) (l0_3 : List (S70)) (a1 : Int) (a2 : Int) (r1 : Int) (r2 : Bool) (w : World) (hr0_2 : Kd.C (Kd.slice 23 k23) w A0_2 l0_2.length l0_2) (hc0_2 : l0_2.length ≤ c0_2) (hr0_3 : Kd.C k70 w A0_3 l0_3.length l0_3) (hc0_3 : l0_3.length ≤ c0_3) (h : gran_step.f k a0_0 a0_1 l0_2 l0_3 a1 a2 = some (r1, r2)) :
 Calls Try.prog 63 #[.agg #[.int .i64 a0_0, .int .i64 a0_1, .slice A0_2 l0_2.length c0_2, .slice A0_3 l0_3.length c0_3], .int .i64 a1, .int .i64 a2] w fun e w' => e = .returned (.tuple #[.int .i64 r1, .bool r2]) ∧ Below w.heap.size w w' := by
 have hu28 := Try.underlying28
 have HR0_2 := am hr0_2
 have HC0_2 := am hc0_2
 clear hr0_2 hc0_2
 have HR0_3 := am hr0_3
 have HC0_3 := am hc0_3
 clear hr0_3 hc0_3
 have HB := am (Below.refl w.heap.size w)
 have H : ((gran_bare.f k a0_0 a0_1 l0_2 l0_3).bind fun t2085 => (if t2085 = true then ((gran_odd.f k a0_0 a0_1 l0_2 l0_3 a1).bind fun bt2086 => (if a2 < 0 then (gran_step.j0 k a2 bt2086.1 (!bt2086.2) a0_0 a0_1 l0_2 l0_3) else (gran_step.j0 k a2 bt2086.1 false a0_0 a0_1 l0_2 l0_3))) else (gran_step.l1 k a2 a1 a0_0 a0_1 l0_2 l0_3))) = some (r1, r2) := h
 clear h
 replace H := Option.bind_eq_some_iff.mp H
 obtain ⟨t2085, A40, H⟩ := H
 try dsimp only at H
 have A4 := am A40
 clear A40
 by_cases c5 : t2085 = true
 ·subst c5
  have H1 : ((gran_odd.f k a0_0 a0_1 l0_2 l0_3 a1).bind fun bt2086 => (if a2 < 0 then (gran_step.j0 k a2 bt2086.1 (!bt2086.2) a0_0 a0_1 l0_2 l0_3) else (gran_step.j0 k a2 bt2086.1 false a0_0 a0_1 l0_2 l0_3))) = some (r1, r2) := by rw [if_pos rfl] at H; exact H
  clear H
  have H := H1
  clear H1
  replace H := Option.bind_eq_some_iff.mp H
  obtain ⟨⟨t2086, t2087⟩, A60, H⟩ := H
  try dsimp only at H
  have A6 := am A60
  clear A60
  have HC7 := am H
  clear H
  go_enter Try.func63, Try.ntmps63
  go_upto_region 3 with (first | ((with_reducible refine gate_dst (N := 3) rfl ?_); (try (refine gate_guard (by rfl) ?_; dsimp only)); refine bx 3 28 #[.int .i64 a0_0, .int .i64 a0_1, .slice A0_2 l0_2.length c0_2, .slice A0_3 l0_3.length c0_3] ?_; intro gb2084 hg w8 hbox hb; have BK2084 := am (hbox); have GW2084 := am ((bz hg HB.out : w.heap.size ≤ gb2084)); have GE2084 := am ((bz hg HB.out : w.heap.size ≤ gb2084)); replace HB := am (below_step (bl HB.out) hb); clear hb hbox hg; have hcz9_0 : w8.cell? ⟨gb2084, 0, none⟩ = some (.int .i64 a0_0) := bc BK2084.out 0; have hcz9_1 : w8.cell? ⟨gb2084, 1, none⟩ = some (.int .i64 a0_1) := bc BK2084.out 1; have hcz9_2 : w8.cell? ⟨gb2084, 2, none⟩ = some (.slice A0_2 l0_2.length c0_2) := bc BK2084.out 2; have hcz9_3 : w8.cell? ⟨gb2084, 3, none⟩ = some (.slice A0_3 l0_3.length c0_3) := bc BK2084.out 3; have hfz9_0 := blk_frozen BK2084.out 0; have hfz9_1 := blk_frozen BK2084.out 1; have hfz9_2 := blk_frozen BK2084.out 2; have hfz9_3 := blk_frozen BK2084.out 3) | ((with_reducible refine gate_callee (f := 93) rfl ?_); refine goesL_ (some 12) rfl rfl Try.func93 (by kernel_rfl) rfl #[.agg #[.int .i64 a0_0, .int .i64 a0_1, .slice A0_2 l0_2.length c0_2, .slice A0_3 l0_3.length c0_3]] rfl ar ?_; (with_reducible refine (gran_bare.calls k a0_0 a0_1 _ _ l0_2 _ _ l0_3 true _ ?side1 ?side2 ?side3 ?side4 A4.out).mono ?_); (case side1 => exact kc (Kd.C_below HR0_2.out HB.out)); (case side2 => exact HC0_2.out); (case side3 => exact kc (Kd.C_below HR0_3.out HB.out)); (case side4 => exact HC0_3.out); rintro e w10 ⟨rfl, hb⟩; refine ⟨_, rfl, ?_⟩; replace BK2084 := am (blk_below (kp BK2084.out) hb); replace HB := am (below_step (bl1 HB.out GE2084.out) hb); (try clear hb); (try clear hb2); (try clear hk); (try clear hi); have hcz11_0 : w10.cell? ⟨gb2084, 0, none⟩ = some (.int .i64 a0_0) := bc BK2084.out 0; have hcz11_1 : w10.cell? ⟨gb2084, 1, none⟩ = some (.int .i64 a0_1) := bc BK2084.out 1; have hcz11_2 : w10.cell? ⟨gb2084, 2, none⟩ = some (.slice A0_2 l0_2.length c0_2) := bc BK2084.out 2; have hcz11_3 : w10.cell? ⟨gb2084, 3, none⟩ = some (.slice A0_3 l0_3.length c0_3) := bc BK2084.out 3; have hfz11_0 := blk_frozen BK2084.out 0; have hfz11_1 := blk_frozen BK2084.out 1; have hfz11_2 := blk_frozen BK2084.out 2; have hfz11_3 := blk_frozen BK2084.out 3) | ((with_reducible refine gate_callee (f := 84) rfl ?_); refine goesL_ (some 16) rfl rfl Try.func84 (by kernel_rfl) rfl #[.agg #[.int .i64 a0_0, .int .i64 a0_1, .slice A0_2 l0_2.length c0_2, .slice A0_3 l0_3.length c0_3], .int .i64 a1] rfl ar ?_; (with_reducible refine (gran_odd.calls k a0_0 a0_1 _ _ l0_2 _ _ l0_3 a1 t2086 t2087 _ ?side1 ?side2 ?side3 ?side4 A6.out).mono ?_); (case side1 => exact kc (Kd.C_below HR0_2.out HB.out)); (case side2 => exact HC0_2.out); (case side3 => exact kc (Kd.C_below HR0_3.out HB.out)); (case side4 => exact HC0_3.out); rintro e w12 ⟨rfl, hb⟩; refine ⟨_, rfl, ?_⟩; replace BK2084 := am (blk_below (kp BK2084.out) hb); replace HB := am (below_step (bl1 HB.out GE2084.out) hb); (try clear hb); (try clear hb2); (try clear hk); (try clear hi)))
  (try simp only [Act.put, List.setIfInBounds_toArray, List.set_cons_zero, List.set_cons_succ])
  go_cut [24] (fun v24 wc => ∃ (kq : Nat) (x24_6 : Bool), v24 = .bool x24_6 ∧ Aside0 (gran_step.j0 kq a2 t2086 x24_6 a0_0 a0_1 l0_2 l0_3 = some (r1, r2)) ∧ Aside0 (kq ≤ k) ∧ Aside0 (wc.heap[gb2084]? = some (.cells #[.int .i64 a0_0, .int .i64 a0_1, (.slice A0_2 l0_2.length c0_2), (.slice A0_3 l0_3.length c0_3)] 28 (0, 0))) ∧ Aside0 (Below w.heap.size w wc))
  case first =>
   have H := HC7.out
   clear HC7
   by_cases c13 : a2 < 0
   ·rw [if_pos c13] at H
    have c13b0 : decide (a2 < 0) = true := decide_eq_true c13
    clear c13
    (first | rw [c13b0] | (simp only [i64_w, i32_w]; rw [c13b0]) | skip)
    have H' := am H
    clear H
    go_wp2
    go_meet
    case rel => exact ⟨_, (!t2087), sm, H', ⟨by first | omega | exact Nat.le_refl _⟩, ⟨kp BK2084.out⟩, ⟨bl1 HB.out GE2084.out⟩⟩
   ·rw [if_neg c13] at H
    have c13b0 : decide (a2 < 0) = false := decide_eq_false c13
    clear c13
    (first | rw [c13b0] | (simp only [i64_w, i32_w]; rw [c13b0]) | skip)
    have H' := am H
    clear H
    go_wp2
    go_meet
    case rel => exact ⟨_, (false), sm, H', ⟨by first | omega | exact Nat.le_refl _⟩, ⟨kp BK2084.out⟩, ⟨bl1 HB.out GE2084.out⟩⟩
  case rest =>
   clear HC7
   try clear c1
   try clear p2
   try clear c5
   try clear c6
   try clear c8
   try clear c9
   try clear c13
   try clear c13b0
   try clear hcz11_0
   try clear hcz11_1
   try clear hcz11_2
   try clear hcz11_3
   try clear hcz9_0
   try clear hcz9_1
   try clear hcz9_2
   try clear hcz9_3
   try clear hfz11_0
   try clear hfz11_1
   try clear hfz11_2
   try clear hfz11_3
   try clear hfz9_0
   try clear hfz9_1
   try clear hfz9_2
   try clear hfz9_3
   obtain ⟨kq, x24_6, rfl, HA, HJ6, BK2084, HB⟩ := hcut
   cases kq with
   | zero => exact absurd HA.out (by simp [gran_step.j0])
   | succ kj6 =>
    have H := HA.out
    clear HA
    simp only [gran_step.j0] at H
    have HC14 := am H
    clear H
    go_upto_if 24 with (fail)
    go_cut [8] (fun v8 wc => ∃ (kq : Nat) (x8_13 : Int), v8 = .int .i64 x8_13 ∧ Aside0 (gran_step.j1 kq a2 x8_13 a0_0 a0_1 l0_2 l0_3 = some (r1, r2)) ∧ Aside0 (kq ≤ kj6) ∧ Aside0 (wc.heap[gb2084]? = some (.cells #[.int .i64 a0_0, .int .i64 a0_1, (.slice A0_2 l0_2.length c0_2), (.slice A0_3 l0_3.length c0_3)] 28 (0, 0))) ∧ Aside0 (Below w.heap.size w wc))
    case first =>
     have H := HC14.out
     clear HC14
     by_cases c15 : x24_6 = true
     ·subst c15
      have H1 : (gran_step.j1 kj6 a2 (wrap64 (t2086 - 1)) a0_0 a0_1 l0_2 l0_3) = some (r1, r2) := by rw [if_pos rfl] at H; exact H
      clear H
      have H := H1
      clear H1
      have H' := am H
      clear H
      go_wp2
      go_meet
      case rel => exact ⟨_, (wrap64 (t2086 - 1)), sm, H', ⟨by have := HJ6.out; first | omega | exact Nat.le_refl _⟩, ⟨kp BK2084.out⟩, ⟨bl1 HB.out GE2084.out⟩⟩
     ·replace c15 := Bool.eq_false_iff.mpr c15
      subst c15
      have H1 : (gran_step.j1 kj6 a2 t2086 a0_0 a0_1 l0_2 l0_3) = some (r1, r2) := by rw [if_neg (show ¬ (false = true) by decide)] at H; exact H
      clear H
      have H := H1
      clear H1
      have H' := am H
      clear H
      go_wp2
      go_meet
      case rel => exact ⟨_, (t2086), sm, H', ⟨by have := HJ6.out; first | omega | exact Nat.le_refl _⟩, ⟨kp BK2084.out⟩, ⟨bl1 HB.out GE2084.out⟩⟩
    case rest =>
     clear HC14
     try clear c1
     try clear p2
     try clear c5
     try clear c6
     try clear p6
     try clear c8
     try clear c9
     try clear c13
     try clear c13b0
     try clear c15
     try clear hcz11_0
     try clear hcz11_1
     try clear hcz11_2
     try clear hcz11_3
     try clear hcz9_0
     try clear hcz9_1
     try clear hcz9_2
     try clear hcz9_3
     try clear hfz11_0
     try clear hfz11_1
     try clear hfz11_2
     try clear hfz11_3
     try clear hfz9_0
     try clear hfz9_1
     try clear hfz9_2
     try clear hfz9_3
     try clear p2
     obtain ⟨kq, x8_13, rfl, HA, HJ13, BK2084, HB⟩ := hcut
     cases kq with
     | zero => exact absurd HA.out (by simp [gran_step.j1])
     | succ kj13 =>
      have H := HA.out
      clear HA
      simp only [gran_step.j1] at H
      have H' := am H
      clear H
      go_wp2
      go_loopg [8] kj13 (fun kq v8 w' => ∃ (x8_3 : Int), v8 = .int .i64 x8_3 ∧ Aside0 (gran_step.l0 kq a2 x8_3 a0_0 a0_1 l0_2 l0_3 = some (r1, r2)) ∧ Aside0 (kq ≤ kj13) ∧ Aside0 (w'.heap[gb2084]? = some (.cells #[.int .i64 a0_0, .int .i64 a0_1, (.slice A0_2 l0_2.length c0_2), (.slice A0_3 l0_3.length c0_3)] 28 (0, 0))) ∧ Aside0 (Below w.heap.size w w'))
      case atStart => exact ⟨(x8_13), sm, H', ⟨Nat.le_refl _⟩, ⟨kp BK2084.out⟩, ⟨bl1 HB.out GE2084.out⟩⟩
      case round =>
       clear H'
       try clear c1
       try clear p2
       try clear c5
       try clear c6
       try clear p6
       try clear c8
       try clear c9
       try clear c13
       try clear c13b0
       try clear c15
       try clear hcz11_0
       try clear hcz11_1
       try clear hcz11_2
       try clear hcz11_3
       try clear hcz9_0
       try clear hcz9_1
       try clear hcz9_2
       try clear hcz9_3
       try clear hfz11_0
       try clear hfz11_1
       try clear hfz11_2
       try clear hfz11_3
       try clear hfz9_0
       try clear hfz9_1
       try clear hfz9_2
       try clear hfz9_3
       try clear p2
       try clear p6
       obtain ⟨x8_3, rfl, HA, HK3, BK2084, HB⟩ := hrel
       cases gk with
       | zero => exact absurd HA.out (by simp [gran_step.l0])
       | succ k3 =>
        have H := HA.out
        clear HA
        simp only [gran_step.l0] at H
        have HC16 := am H
        clear H
        go_upto_region 5 with (fail)
        go_cut [35] (fun v35 wc => ∃ (kq : Nat) (x35_15 : Bool), v35 = .bool x35_15 ∧ Aside0 (gran_step.j3 kq a2 x8_3 x35_15 a0_0 a0_1 l0_2 l0_3 = some (r1, r2)) ∧ Aside0 (kq ≤ k3) ∧ Aside0 (wc.heap[gb2084]? = some (.cells #[.int .i64 a0_0, .int .i64 a0_1, (.slice A0_2 l0_2.length c0_2), (.slice A0_3 l0_3.length c0_3)] 28 (0, 0))) ∧ Aside0 (Below w.heap.size w wc))
        case first =>
         have H := HC16.out
         clear HC16
         by_cases c17 : x8_3 ≥ 0
         ·rw [if_pos c17] at H
          have c17b0 : decide (0 ≤ x8_3) = true := decide_eq_true c17
          clear c17
          (first | rw [c17b0] | (simp only [i64_w, i32_w]; rw [c17b0]) | skip)
          have H' := am H
          clear H
          have hcz18_0 : wr.cell? ⟨gb2084, 0, none⟩ = some (.int .i64 a0_0) := bc BK2084.out 0
          have hcz18_1 : wr.cell? ⟨gb2084, 1, none⟩ = some (.int .i64 a0_1) := bc BK2084.out 1
          have hcz18_2 : wr.cell? ⟨gb2084, 2, none⟩ = some (.slice A0_2 l0_2.length c0_2) := bc BK2084.out 2
          have hcz18_3 : wr.cell? ⟨gb2084, 3, none⟩ = some (.slice A0_3 l0_3.length c0_3) := bc BK2084.out 3
          have hfz18_0 := blk_frozen BK2084.out 0
          have hfz18_1 := blk_frozen BK2084.out 1
          have hfz18_2 := blk_frozen BK2084.out 2
          have hfz18_3 := blk_frozen BK2084.out 3
          go_wp2
          go_meet
          case rel => exact ⟨_, (decide (x8_3 < (l0_3.length : Int))), sm, H', ⟨by have := HJ6.out; have := HJ13.out; have := HK3.out; first | omega | exact Nat.le_refl _⟩, ⟨kp BK2084.out⟩, ⟨bl1 HB.out GE2084.out⟩⟩
         ·rw [if_neg c17] at H
          have c17b0 : decide (0 ≤ x8_3) = false := decide_eq_false c17
          clear c17
          (first | rw [c17b0] | (simp only [i64_w, i32_w]; rw [c17b0]) | skip)
          have H' := am H
          clear H
          go_wp2
          go_meet
          case rel => exact ⟨_, (false), sm, H', ⟨by have := HJ6.out; have := HJ13.out; have := HK3.out; first | omega | exact Nat.le_refl _⟩, ⟨kp BK2084.out⟩, ⟨bl1 HB.out GE2084.out⟩⟩
        case rest =>
         clear HC16
         try clear c1
         try clear p2
         try clear c5
         try clear c6
         try clear p6
         try clear c8
         try clear c9
         try clear c13
         try clear c13b0
         try clear c15
         try clear c17
         try clear c17b0
         try clear hcz11_0
         try clear hcz11_1
         try clear hcz11_2
         try clear hcz11_3
         try clear hcz18_0
         try clear hcz18_1
         try clear hcz18_2
         try clear hcz18_3
         try clear hcz9_0
         try clear hcz9_1
         try clear hcz9_2
         try clear hcz9_3
         try clear hfz11_0
         try clear hfz11_1
         try clear hfz11_2
         try clear hfz11_3
         try clear hfz18_0
         try clear hfz18_1
         try clear hfz18_2
         try clear hfz18_3
         try clear hfz9_0
         try clear hfz9_1
         try clear hfz9_2
         try clear hfz9_3
         try clear p2
         try clear p6
         obtain ⟨kq, x35_15, rfl, HA, HJ15, BK2084, HB⟩ := hcut
         cases kq with
         | zero => exact absurd HA.out (by simp [gran_step.j3])
         | succ kj15 =>
          have H := HA.out
          clear HA
          simp only [gran_step.j3] at H
          by_cases c19 : x35_15 = true
          ·subst c19
           have H1 : (if 0 ≤ x8_3 then (if x8_3 < (l0_3.length : Int) then (if (((rd_T70 l0_3 x8_3).f1).length : Int) > 0 then (some ((rd_T70 l0_3 x8_3).f0, true)) else (gran_step.l0 kj15 a2 (wrap64 (x8_3 + a2)) a0_0 a0_1 l0_2 l0_3)) else (none)) else (none)) = some (r1, r2) := by rw [if_pos rfl] at H; exact H
           clear H
           have H := H1
           clear H1
           by_cases c20 : 0 ≤ x8_3
           ·rw [if_pos c20] at H
            have c20b0 : decide (0 ≤ x8_3) = true := decide_eq_true c20
            clear c20
            by_cases c21 : x8_3 < (l0_3.length : Int)
            ·rw [if_pos c21] at H
             have c21b0 : decide (x8_3 < (l0_3.length : Int)) = true := decide_eq_true c21
             clear c21
             by_cases c22 : (((rd_T70 l0_3 x8_3).f1).length : Int) > 0
             ·rw [if_pos c22] at H
              have c22b0 : decide (0 < (((rd_T70 l0_3 x8_3).f1).length : Int)) = true := decide_eq_true c22
              have c22b1 : decide (0 < ((rd_T70 l0_3 x8_3).f1).length) = true := decide_eq_true (by omega)
              clear c22
              simp only [Option.some.injEq, Prod.mk.injEq] at H
              obtain ⟨rfl, rfl⟩ := H
              have hcz23_0 : wc.cell? ⟨gb2084, 0, none⟩ = some (.int .i64 a0_0) := bc BK2084.out 0
              have hcz23_1 : wc.cell? ⟨gb2084, 1, none⟩ = some (.int .i64 a0_1) := bc BK2084.out 1
              have hcz23_2 : wc.cell? ⟨gb2084, 2, none⟩ = some (.slice A0_2 l0_2.length c0_2) := bc BK2084.out 2
              have hcz23_3 : wc.cell? ⟨gb2084, 3, none⟩ = some (.slice A0_3 l0_3.length c0_3) := bc BK2084.out 3
              have hfz23_0 := blk_frozen BK2084.out 0
              have hfz23_1 := blk_frozen BK2084.out 1
              have hfz23_2 := blk_frozen BK2084.out 2
              have hfz23_3 := blk_frozen BK2084.out 3
              have p2088 : 0 ≤ (x8_3 : Int) := of_decide_eq_true asm
              have q2088 : x8_3 < (l0_3.length : Int) := of_decide_eq_true asm
              obtain ⟨ad2088, A2088_1, c2088_1, e2088, hx2088_0, hx2088_1, hl2088_1, hi2088_1⟩ := at_T70 HR0_3.out x8_3 p2088 q2088
              cases e2088
              replace hx2088_0 := (HB.out.cell (World.block_lt_of_cell? w _ hx2088_0)).trans hx2088_0
              replace hx2088_1 := (HB.out.cell (World.block_lt_of_cell? w _ hx2088_1)).trans hx2088_1
              have HR2088_1 := am hi2088_1
              have HC2088_1 := am hl2088_1
              clear hi2088_1 hl2088_1
              replace p2088 := eq_true p2088
              replace q2088 := eq_true q2088
              have p2089 : 0 ≤ (x8_3 : Int) := of_decide_eq_true asm
              have q2089 : x8_3 < (l0_3.length : Int) := of_decide_eq_true asm
              obtain ⟨ad2089, A2089_1, c2089_1, e2089, hx2089_0, hx2089_1, hl2089_1, hi2089_1⟩ := at_T70 HR0_3.out x8_3 p2089 q2089
              obtain rfl : ad2088 = ad2089 := (by injection e2089)
              replace hx2089_0 := (HB.out.cell (World.block_lt_of_cell? w _ hx2089_0)).trans hx2089_0
              replace hx2089_1 := (HB.out.cell (World.block_lt_of_cell? w _ hx2089_1)).trans hx2089_1
              have HR2089_1 := am hi2089_1
              have HC2089_1 := am hl2089_1
              clear hi2089_1 hl2089_1
              replace p2089 := eq_true p2089
              replace q2089 := eq_true q2089
              have ea_ := Option.some.inj (hx2088_1.symm.trans hx2089_1)
              injection ea_ with ea_ en_ ec_
              subst ea_
              subst ec_
              clear en_
              go_wp2
              go_ret2
              exact ⟨rt, bl1 HB.out GE2084.out⟩
             ·rw [if_neg c22] at H
              have c22b0 : decide (0 < (((rd_T70 l0_3 x8_3).f1).length : Int)) = false := decide_eq_false c22
              have c22b1 : decide (0 < ((rd_T70 l0_3 x8_3).f1).length) = false := decide_eq_false (by omega)
              clear c22
              have H' := am H
              clear H
              have hcz24_0 : wc.cell? ⟨gb2084, 0, none⟩ = some (.int .i64 a0_0) := bc BK2084.out 0
              have hcz24_1 : wc.cell? ⟨gb2084, 1, none⟩ = some (.int .i64 a0_1) := bc BK2084.out 1
              have hcz24_2 : wc.cell? ⟨gb2084, 2, none⟩ = some (.slice A0_2 l0_2.length c0_2) := bc BK2084.out 2
              have hcz24_3 : wc.cell? ⟨gb2084, 3, none⟩ = some (.slice A0_3 l0_3.length c0_3) := bc BK2084.out 3
              have hfz24_0 := blk_frozen BK2084.out 0
              have hfz24_1 := blk_frozen BK2084.out 1
              have hfz24_2 := blk_frozen BK2084.out 2
              have hfz24_3 := blk_frozen BK2084.out 3
              have p2088 : 0 ≤ (x8_3 : Int) := of_decide_eq_true asm
              have q2088 : x8_3 < (l0_3.length : Int) := of_decide_eq_true asm
              obtain ⟨ad2088, A2088_1, c2088_1, e2088, hx2088_0, hx2088_1, hl2088_1, hi2088_1⟩ := at_T70 HR0_3.out x8_3 p2088 q2088
              cases e2088
              replace hx2088_0 := (HB.out.cell (World.block_lt_of_cell? w _ hx2088_0)).trans hx2088_0
              replace hx2088_1 := (HB.out.cell (World.block_lt_of_cell? w _ hx2088_1)).trans hx2088_1
              have HR2088_1 := am hi2088_1
              have HC2088_1 := am hl2088_1
              clear hi2088_1 hl2088_1
              replace p2088 := eq_true p2088
              replace q2088 := eq_true q2088
              go_wp2
              go_roundg kj15
              case measure => have := HJ6.out; have := HJ13.out; have := HK3.out; have := HJ15.out; omega
              case rel => exact ⟨(wrap64 (x8_3 + a2)), sm, H', ⟨by have := HJ6.out; have := HJ13.out; have := HK3.out; have := HJ15.out; omega⟩, ⟨kp BK2084.out⟩, ⟨bl1 HB.out GE2084.out⟩⟩
            ·rw [if_neg c21] at H
             exact absurd H (by simp)
           ·rw [if_neg c20] at H
            exact absurd H (by simp)
          ·replace c19 := Bool.eq_false_iff.mpr c19
           subst c19
           have H1 : (some (0, false)) = some (r1, r2) := by rw [if_neg (show ¬ (false = true) by decide)] at H; exact H
           clear H
           have H := H1
           clear H1
           simp only [Option.some.injEq, Prod.mk.injEq] at H
           obtain ⟨rfl, rfl⟩ := H
           go_wp2
           go_ret2
           exact ⟨rt, bl1 HB.out GE2084.out⟩
 ·replace c5 := Bool.eq_false_iff.mpr c5
  subst c5
  have H1 : (gran_step.l1 k a2 a1 a0_0 a0_1 l0_2 l0_3) = some (r1, r2) := by rw [if_neg (show ¬ (false = true) by decide)] at H; exact H
  clear H
  have H := H1
  clear H1
  have H' := am H
  clear H
  go_enter Try.func63, Try.ntmps63
  go_wp2_with (first | ((with_reducible refine gate_dst (N := 3) rfl ?_); (try (refine gate_guard (by rfl) ?_; dsimp only)); refine bx 3 28 #[.int .i64 a0_0, .int .i64 a0_1, .slice A0_2 l0_2.length c0_2, .slice A0_3 l0_3.length c0_3] ?_; intro gb2084 hg w25 hbox hb; have BK2084 := am (hbox); have GW2084 := am ((bz hg HB.out : w.heap.size ≤ gb2084)); have GE2084 := am ((bz hg HB.out : w.heap.size ≤ gb2084)); replace HB := am (below_step (bl HB.out) hb); clear hb hbox hg; have hcz26_0 : w25.cell? ⟨gb2084, 0, none⟩ = some (.int .i64 a0_0) := bc BK2084.out 0; have hcz26_1 : w25.cell? ⟨gb2084, 1, none⟩ = some (.int .i64 a0_1) := bc BK2084.out 1; have hcz26_2 : w25.cell? ⟨gb2084, 2, none⟩ = some (.slice A0_2 l0_2.length c0_2) := bc BK2084.out 2; have hcz26_3 : w25.cell? ⟨gb2084, 3, none⟩ = some (.slice A0_3 l0_3.length c0_3) := bc BK2084.out 3; have hfz26_0 := blk_frozen BK2084.out 0; have hfz26_1 := blk_frozen BK2084.out 1; have hfz26_2 := blk_frozen BK2084.out 2; have hfz26_3 := blk_frozen BK2084.out 3) | ((with_reducible refine gate_callee (f := 93) rfl ?_); refine goesL_ (some 12) rfl rfl Try.func93 (by kernel_rfl) rfl #[.agg #[.int .i64 a0_0, .int .i64 a0_1, .slice A0_2 l0_2.length c0_2, .slice A0_3 l0_3.length c0_3]] rfl ar ?_; (with_reducible refine (gran_bare.calls k a0_0 a0_1 _ _ l0_2 _ _ l0_3 false _ ?side1 ?side2 ?side3 ?side4 A4.out).mono ?_); (case side1 => exact kc (Kd.C_below HR0_2.out HB.out)); (case side2 => exact HC0_2.out); (case side3 => exact kc (Kd.C_below HR0_3.out HB.out)); (case side4 => exact HC0_3.out); rintro e w27 ⟨rfl, hb⟩; refine ⟨_, rfl, ?_⟩; replace BK2084 := am (blk_below (kp BK2084.out) hb); replace HB := am (below_step (bl1 HB.out GE2084.out) hb); (try clear hb); (try clear hb2); (try clear hk); (try clear hi)))
  go_loopg [10] k (fun kq v10 w' => ∃ (x10_1 : Int), v10 = .int .i64 x10_1 ∧ Aside0 (gran_step.l1 kq a2 x10_1 a0_0 a0_1 l0_2 l0_3 = some (r1, r2)) ∧ Aside0 (kq ≤ k) ∧ Aside0 (w'.heap[gb2084]? = some (.cells #[.int .i64 a0_0, .int .i64 a0_1, (.slice A0_2 l0_2.length c0_2), (.slice A0_3 l0_3.length c0_3)] 28 (0, 0))) ∧ Aside0 (Below w.heap.size w w'))
  case atStart => exact ⟨(a1), sm, H', ⟨Nat.le_refl _⟩, ⟨kp BK2084.out⟩, ⟨bl1 HB.out GE2084.out⟩⟩
  case round =>
   clear H'
   try clear c1
   try clear c2
   try clear p2
   try clear q2
   try clear hx2
   try clear c5
   try clear c6
   try clear p6
   try clear c8
   try clear c9
   try clear c13
   try clear c13b0
   try clear c15
   try clear c17
   try clear c17b0
   try clear c19
   try clear c20
   try clear c20b0
   try clear p20
   try clear q20
   try clear hx20
   try clear c21
   try clear c21b0
   try clear c22
   try clear c22b0
   try clear c22b1
   try clear hcz11_0
   try clear hcz11_1
   try clear hcz11_2
   try clear hcz11_3
   try clear hcz18_0
   try clear hcz18_1
   try clear hcz18_2
   try clear hcz18_3
   try clear hcz23_0
   try clear hcz23_1
   try clear hcz23_2
   try clear hcz23_3
   try clear hcz24_0
   try clear hcz24_1
   try clear hcz24_2
   try clear hcz24_3
   try clear hcz26_0
   try clear hcz26_1
   try clear hcz26_2
   try clear hcz26_3
   try clear hcz9_0
   try clear hcz9_1
   try clear hcz9_2
   try clear hcz9_3
   try clear hfz11_0
   try clear hfz11_1
   try clear hfz11_2
   try clear hfz11_3
   try clear hfz18_0
   try clear hfz18_1
   try clear hfz18_2
   try clear hfz18_3
   try clear hfz23_0
   try clear hfz23_1
   try clear hfz23_2
   try clear hfz23_3
   try clear hfz24_0
   try clear hfz24_1
   try clear hfz24_2
   try clear hfz24_3
   try clear hfz26_0
   try clear hfz26_1
   try clear hfz26_2
   try clear hfz26_3
   try clear hfz9_0
   try clear hfz9_1
   try clear hfz9_2
   try clear hfz9_3
   try clear hx2088_0
   try clear hx2088_1
   try clear hx2089_0
   try clear hx2089_1
   try clear p2
   try clear p2088
   try clear p2089
   try clear p6
   try clear q2088
   try clear q2089
   obtain ⟨x10_1, rfl, HA, HK1, BK2084, HB⟩ := hrel
   cases gk with
   | zero => exact absurd HA.out (by simp [gran_step.l1])
   | succ k1 =>
    have H := HA.out
    clear HA
    simp only [gran_step.l1] at H
    replace H := Option.bind_eq_some_iff.mp H
    obtain ⟨t2090, A280, H⟩ := H
    try dsimp only at H
    have A28 := am A280
    clear A280
    by_cases c29 : t2090 = true
    ·subst c29
     have H1 : ((gran_some.f k1 a0_0 a0_1 l0_2 l0_3 x10_1).bind fun t2091 => (if t2091 = true then (some (x10_1, true)) else (gran_step.l1 k1 a2 (wrap64 (x10_1 + a2)) a0_0 a0_1 l0_2 l0_3))) = some (r1, r2) := by rw [if_pos rfl] at H; exact H
     clear H
     have H := H1
     clear H1
     replace H := Option.bind_eq_some_iff.mp H
     obtain ⟨t2091, A300, H⟩ := H
     try dsimp only at H
     have A30 := am A300
     clear A300
     by_cases c31 : t2091 = true
     ·subst c31
      have H1 : (some (x10_1, true)) = some (r1, r2) := by rw [if_pos rfl] at H; exact H
      clear H
      have H := H1
      clear H1
      simp only [Option.some.injEq, Prod.mk.injEq] at H
      obtain ⟨rfl, rfl⟩ := H
      go_wp2_with (first | ((with_reducible refine gate_callee (f := 55) rfl ?_); refine goesL_ (some 55) rfl rfl Try.func55 (by kernel_rfl) rfl #[.int .i64 x10_1] rfl ar ?_; (with_reducible refine (gran_inRange.calls x10_1 true _ A28.out).mono ?_); rintro e w' ⟨rfl, ⟨nd, rfl⟩⟩; refine ⟨_, rfl, ?_⟩; have hcz32_0 : wr.cell? ⟨gb2084, 0, none⟩ = some (.int .i64 a0_0) := bc BK2084.out 0; have hcz32_1 : wr.cell? ⟨gb2084, 1, none⟩ = some (.int .i64 a0_1) := bc BK2084.out 1; have hcz32_2 : wr.cell? ⟨gb2084, 2, none⟩ = some (.slice A0_2 l0_2.length c0_2) := bc BK2084.out 2; have hcz32_3 : wr.cell? ⟨gb2084, 3, none⟩ = some (.slice A0_3 l0_3.length c0_3) := bc BK2084.out 3; have hfz32_0 := blk_frozen BK2084.out 0; have hfz32_1 := blk_frozen BK2084.out 1; have hfz32_2 := blk_frozen BK2084.out 2; have hfz32_3 := blk_frozen BK2084.out 3) | ((with_reducible refine gate_callee (f := 94) rfl ?_); refine goesL_ (some 61) rfl rfl Try.func94 (by kernel_rfl) rfl #[.agg #[.int .i64 a0_0, .int .i64 a0_1, .slice A0_2 l0_2.length c0_2, .slice A0_3 l0_3.length c0_3], .int .i64 x10_1] rfl ar ?_; (with_reducible refine (gran_some.calls k1 a0_0 a0_1 _ _ l0_2 _ _ l0_3 x10_1 true _ ?side1 ?side2 ?side3 ?side4 A30.out).mono ?_); (case side1 => exact kc (Kd.C_below HR0_2.out (bl1 HB.out GE2084.out))); (case side2 => exact HC0_2.out); (case side3 => exact kc (Kd.C_below HR0_3.out (bl1 HB.out GE2084.out))); (case side4 => exact HC0_3.out); rintro e w33 ⟨rfl, hb⟩; refine ⟨_, rfl, ?_⟩; replace BK2084 := am (blk_below (kp BK2084.out) hb); replace HB := am (below_step (bl1 HB.out GE2084.out) hb); (try clear hb); (try clear hb2); (try clear hk); (try clear hi)))
      go_ret2
      exact ⟨rt, bl1 HB.out GE2084.out⟩
     ·replace c31 := Bool.eq_false_iff.mpr c31
      subst c31
      have H1 : (gran_step.l1 k1 a2 (wrap64 (x10_1 + a2)) a0_0 a0_1 l0_2 l0_3) = some (r1, r2) := by rw [if_neg (show ¬ (false = true) by decide)] at H; exact H
      clear H
      have H := H1
      clear H1
      have H' := am H
      clear H
      go_wp2_with (first | ((with_reducible refine gate_callee (f := 55) rfl ?_); refine goesL_ (some 55) rfl rfl Try.func55 (by kernel_rfl) rfl #[.int .i64 x10_1] rfl ar ?_; (with_reducible refine (gran_inRange.calls x10_1 true _ A28.out).mono ?_); rintro e w' ⟨rfl, ⟨nd, rfl⟩⟩; refine ⟨_, rfl, ?_⟩; have hcz34_0 : wr.cell? ⟨gb2084, 0, none⟩ = some (.int .i64 a0_0) := bc BK2084.out 0; have hcz34_1 : wr.cell? ⟨gb2084, 1, none⟩ = some (.int .i64 a0_1) := bc BK2084.out 1; have hcz34_2 : wr.cell? ⟨gb2084, 2, none⟩ = some (.slice A0_2 l0_2.length c0_2) := bc BK2084.out 2; have hcz34_3 : wr.cell? ⟨gb2084, 3, none⟩ = some (.slice A0_3 l0_3.length c0_3) := bc BK2084.out 3; have hfz34_0 := blk_frozen BK2084.out 0; have hfz34_1 := blk_frozen BK2084.out 1; have hfz34_2 := blk_frozen BK2084.out 2; have hfz34_3 := blk_frozen BK2084.out 3) | ((with_reducible refine gate_callee (f := 94) rfl ?_); refine goesL_ (some 61) rfl rfl Try.func94 (by kernel_rfl) rfl #[.agg #[.int .i64 a0_0, .int .i64 a0_1, .slice A0_2 l0_2.length c0_2, .slice A0_3 l0_3.length c0_3], .int .i64 x10_1] rfl ar ?_; (with_reducible refine (gran_some.calls k1 a0_0 a0_1 _ _ l0_2 _ _ l0_3 x10_1 false _ ?side1 ?side2 ?side3 ?side4 A30.out).mono ?_); (case side1 => exact kc (Kd.C_below HR0_2.out (bl1 HB.out GE2084.out))); (case side2 => exact HC0_2.out); (case side3 => exact kc (Kd.C_below HR0_3.out (bl1 HB.out GE2084.out))); (case side4 => exact HC0_3.out); rintro e w35 ⟨rfl, hb⟩; refine ⟨_, rfl, ?_⟩; replace BK2084 := am (blk_below (kp BK2084.out) hb); replace HB := am (below_step (bl1 HB.out GE2084.out) hb); (try clear hb); (try clear hb2); (try clear hk); (try clear hi)))
      go_roundg k1
      case measure => have := HK1.out; omega
      case rel => exact ⟨(wrap64 (x10_1 + a2)), sm, H', ⟨by have := HK1.out; omega⟩, ⟨kp BK2084.out⟩, ⟨bl1 HB.out GE2084.out⟩⟩
    ·replace c29 := Bool.eq_false_iff.mpr c29
     subst c29
     have H1 : (some (0, false)) = some (r1, r2) := by rw [if_neg (show ¬ (false = true) by decide)] at H; exact H
     clear H
     have H := H1
     clear H1
     simp only [Option.some.injEq, Prod.mk.injEq] at H
     obtain ⟨rfl, rfl⟩ := H
     go_wp2_with (first | ((with_reducible refine gate_callee (f := 55) rfl ?_); refine goesL_ (some 55) rfl rfl Try.func55 (by kernel_rfl) rfl #[.int .i64 x10_1] rfl ar ?_; (with_reducible refine (gran_inRange.calls x10_1 false _ A28.out).mono ?_); rintro e w' ⟨rfl, ⟨nd, rfl⟩⟩; refine ⟨_, rfl, ?_⟩))
     go_ret2
     exact ⟨rt, bl1 HB.out GE2084.out⟩

end Go.Proofs.Ytmbmalkpmanaaaa.P

namespace Go.Proofs.Ytmbmalkpmanaaaa.P
open Go.RowKit Go.Proofs.YtmbmalkpmanaaaaW.PrintWords Go.Proofs.YtmbmalkpmanaaaaW.PrintLast Go.Proofs.YtmbmalkpmanaaaaW.PrintMore
attribute [local go_sem] max2_int min2_int max_two min_two max_three min_three max_four min_four   -- for this text's walks alone
set_option linter.unusedVariables false
set_option linter.unusedSimpArgs false

def gran_Behind.f (k : Nat) (a0_0 : Int) (a0_1 : Int) (l0_2 : List (List (S23))) (l0_3 : List (S70)) (a1 : Int) : Option (Int × Bool) := if a1 ≥ 1099511627776 then (some (0, false)) else ((gran_step.f k a0_0 a0_1 l0_2 l0_3 (mx (wrap64 (a1 + 1)) (-1099511627776)) 1).bind fun bt2093 => (some (bt2093.1, bt2093.2)))
theorem gran_Behind.mono : ∀ a0 a1 a2 a3 a4 k, LeO (gran_Behind.f k a0 a1 a2 a3 a4) (gran_Behind.f (k + 1) a0 a1 a2 a3 a4) := by
 intro a0 a1 a2 a3 a4 k
 unfold gran_Behind.f
 repeat' first
  | (with_reducible exact gran_step.mono _ _ _ _ _ _ _)
  | (with_reducible exact LeO.refl _)
  | (with_reducible exact LeO.none _)
  | (with_reducible refine LeO.ite ?_ ?_)
  | (with_reducible refine LeO.bind ?_ (fun _ => ?_))
  | exact gran_step.mono _ _ _ _ _ _ _
  | exact LeO.none _
  | refine LeO.ite ?_ ?_
  | refine LeO.bind ?_ (fun _ => ?_)
set_option maxHeartbeats 8000000 in
set_option maxRecDepth 100000 in
theorem gran_Behind.calls (k : Nat) (a0_0 : Int) (a0_1 : Int) (A0_2 : Option Addr) (c0_2 : Nat) (l0_2 : List (List (S23))) (A0_3 : Option Addr) (c0_3 : Nat) (l0_3 : List (S70)) (a1 : Int) (r1 : Int) (r2 : Bool) (w : World) (hr0_2 : Kd.C (Kd.slice 23 k23) w A0_2 l0_2.length l0_2) (hc0_2 : l0_2.length ≤ c0_2) (hr0_3 : Kd.C k70 w A0_3 l0_3.length l0_3) (hc0_3 : l0_3.length ≤ c0_3) (h : gran_Behind.f k a0_0 a0_1 l0_2 l0_3 a1 = some (r1, r2)) :
 Calls Try.prog 25 #[.agg #[.int .i64 a0_0, .int .i64 a0_1, .slice A0_2 l0_2.length c0_2, .slice A0_3 l0_3.length c0_3], .int .i64 a1] w fun e w' => e = .returned (.tuple #[.int .i64 r1, .bool r2]) ∧ Below w.heap.size w w' := by
 have hu28 := Try.underlying28
 have HR0_2 := am hr0_2
 have HC0_2 := am hc0_2
 clear hr0_2 hc0_2
 have HR0_3 := am hr0_3
 have HC0_3 := am hc0_3
 clear hr0_3 hc0_3
 have HB := am (Below.refl w.heap.size w)
 have H : (if a1 ≥ 1099511627776 then (some (0, false)) else ((gran_step.f k a0_0 a0_1 l0_2 l0_3 (mx (wrap64 (a1 + 1)) (-1099511627776)) 1).bind fun bt2093 => (some (bt2093.1, bt2093.2)))) = some (r1, r2) := h
 clear h
 by_cases c3 : a1 ≥ 1099511627776
 ·rw [if_pos c3] at H
  have c3b0 : decide (1099511627776 ≤ a1) = true := decide_eq_true c3
  clear c3
  simp only [Option.some.injEq, Prod.mk.injEq] at H
  obtain ⟨rfl, rfl⟩ := H
  go_enter Try.func25, Try.ntmps25
  go_wp2_with (first | ((with_reducible refine gate_dst (N := 2) rfl ?_); refine bx 2 28 #[.int .i64 a0_0, .int .i64 a0_1, .slice A0_2 l0_2.length c0_2, .slice A0_3 l0_3.length c0_3] ?_; intro gb2092 hg w4 hbox hb; have BK2092 := am (hbox); have GW2092 := am ((bz hg HB.out : w.heap.size ≤ gb2092)); have GE2092 := am ((bz hg HB.out : w.heap.size ≤ gb2092)); replace HB := am (below_step (bl HB.out) hb); clear hb hbox hg))
  go_ret2
  exact ⟨rt, bl1 HB.out GE2092.out⟩
 ·rw [if_neg c3] at H
  have c3b0 : decide (1099511627776 ≤ a1) = false := decide_eq_false c3
  clear c3
  obtain ⟨ji5, hji5⟩ : ∃ j_ : Int, (mx (wrap64 (a1 + 1)) (-1099511627776)) = j_ := ⟨_, rfl⟩
  replace H : ((gran_step.f k a0_0 a0_1 l0_2 l0_3 (ji5) 1).bind fun bt2093 => (some (bt2093.1, bt2093.2))) = some (r1, r2) := by first | (rw [hji5] at H; exact H) | (simp only [hji5] at H ⊢; exact H)
  have hji5_ : (if (wrap64 (a1 + 1)) < (-1099511627776) then (-1099511627776) else (wrap64 (a1 + 1))) = ji5 := hji5
  replace H := Option.bind_eq_some_iff.mp H
  obtain ⟨⟨t2093, t2094⟩, A60, H⟩ := H
  try dsimp only at H
  have A6 := am A60
  clear A60
  simp only [Option.some.injEq, Prod.mk.injEq] at H
  obtain ⟨rfl, rfl⟩ := H
  go_enter Try.func25, Try.ntmps25
  go_wp2_with (first | ((with_reducible refine gate_dst (N := 2) rfl ?_); refine bx 2 28 #[.int .i64 a0_0, .int .i64 a0_1, .slice A0_2 l0_2.length c0_2, .slice A0_3 l0_3.length c0_3] ?_; intro gb2092 hg w7 hbox hb; have BK2092 := am (hbox); have GW2092 := am ((bz hg HB.out : w.heap.size ≤ gb2092)); have GE2092 := am ((bz hg HB.out : w.heap.size ≤ gb2092)); replace HB := am (below_step (bl HB.out) hb); clear hb hbox hg; have hcz8_0 : w7.cell? ⟨gb2092, 0, none⟩ = some (.int .i64 a0_0) := bc BK2092.out 0; have hcz8_1 : w7.cell? ⟨gb2092, 1, none⟩ = some (.int .i64 a0_1) := bc BK2092.out 1; have hcz8_2 : w7.cell? ⟨gb2092, 2, none⟩ = some (.slice A0_2 l0_2.length c0_2) := bc BK2092.out 2; have hcz8_3 : w7.cell? ⟨gb2092, 3, none⟩ = some (.slice A0_3 l0_3.length c0_3) := bc BK2092.out 3; have hfz8_0 := blk_frozen BK2092.out 0; have hfz8_1 := blk_frozen BK2092.out 1; have hfz8_2 := blk_frozen BK2092.out 2; have hfz8_3 := blk_frozen BK2092.out 3) | ((with_reducible refine gate_callee (f := 63) rfl ?_); refine goesL_ (some 12) rfl rfl Try.func63 (by kernel_rfl) rfl #[.agg #[.int .i64 a0_0, .int .i64 a0_1, .slice A0_2 l0_2.length c0_2, .slice A0_3 l0_3.length c0_3], .int .i64 ji5, .int .i64 1] rfl (by (try simp only [List.map_toArray, List.map_cons, List.map_nil]); first | done | (simp only [hji5]; rfl) | rfl | (simp only [List.length_drop, List.length_take]; rfl)) ?_; (with_reducible refine (gran_step.calls k a0_0 a0_1 _ _ l0_2 _ _ l0_3 ji5 1 t2093 t2094 _ ?side1 ?side2 ?side3 ?side4 A6.out).mono ?_); (case side1 => exact kc (Kd.C_below HR0_2.out HB.out)); (case side2 => exact HC0_2.out); (case side3 => exact kc (Kd.C_below HR0_3.out HB.out)); (case side4 => exact HC0_3.out); rintro e w9 ⟨rfl, hb⟩; refine ⟨_, rfl, ?_⟩; replace BK2092 := am (blk_below (kp BK2092.out) hb); replace HB := am (below_step (bl1 HB.out GE2092.out) hb); (try clear hb); (try clear hb2); (try clear hk); (try clear hi)))
  go_ret2
  exact ⟨by first | rfl | (simp [errW_none, errW_some] <;> rfl) | (simp only [← hji5]; first | rfl | (simp [errW_none, errW_some] <;> rfl)) | (simp [*, errW_none, errW_some] <;> rfl), bl1 HB.out GE2092.out⟩

end Go.Proofs.Ytmbmalkpmanaaaa.P


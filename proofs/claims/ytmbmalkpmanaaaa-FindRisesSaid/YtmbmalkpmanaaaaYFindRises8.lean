/- Lemmas for the law FindRises: what the functions that it reaches compute. No condition of its own. -/
import Derived.Test.YtmbmalkpmanaaaaYFindRises7
import Derived.Test.YtmbmalkpmanaaaaYFindRises5
import Derived.Test.YtmbmalkpmanaaaaYFindRises6
import Derived.Test.YtmbmalkpmanaaaaYFindRises2
import Derived.Deep.Slices
import Derived.Test.YtmbmalkpmanaaaaYFindRises4
namespace Go.Proofs.Ytmbmalkpmanaaaa.P
set_option linter.unusedVariables false
set_option linter.unusedSimpArgs false
open Go.RowKit Go.Proofs.YtmbmalkpmanaaaaW.PrintWords

variable {p c : Int} {core : List (List Sp)} {odd : List Gn}
theorem rdL (l : List (List Sp)) (j : Nat) (hj : j < l.length) : rd_L2 l (j : Int) = l[j] := by simp [rd_L2, hj]
theorem rdG' (l : List Gn) (x : Int) (hj : x.toNat < l.length) : rd_T70 l x = l[x.toNat] := by simp [rd_T70, hj]
theorem rdL' (l : List (List Sp)) (x : Int) (hj : x.toNat < l.length) : rd_L2 l x = l[x.toNat] := by simp [rd_L2, hj]
def keptV (p c : Int) (core : List (List Sp)) (odd : List Gn) (i : Int) : List Sp × Int × Int :=
  match oddOf odd i with | some l => (l, 0, 0) | none => if c = 0 then ([], 0, 0) else (coreAt c core i, mulV (i / c) p)
theorem keptV_fst (i : Int) : (keptV p c core odd i).1 = fs c core odd i := by
  unfold keptV fs
  cases oddOf odd i with
  | some l => rfl
  | none => by_cases hc : c = 0
            · simp [hc, coreAt]
            · simp [hc]
theorem kept_ev (h : SF p c core odd) (i : Int) (hi : -4611686018427387904 ≤ i ∧ i ≤ 4611686018427387904) : Ev (fun k => gran_kept.f k p c core odd i) (keptV p c core odd i) := by
  obtain ⟨r, r1, r2⟩ := oddat_ev h i
  have hc0 := h.hc
  have hl0 := h.hl
  refine Ev.congr (fun k => by unfold gran_kept.f; rfl) (Ev.bind r1 ?_)
  by_cases hr : r.2 = true
  · obtain ⟨hj, he⟩ := r2.is hr
    have e1 : (r.1.toNat : Int) = r.1 := Int.toNat_of_nonneg r2.low
    have hv : keptV p c core odd i = (odd[r.1.toNat].f1, 0, 0) := by
      unfold keptV; rw [← he, oddOf_mem h.hup (List.getElem_mem hj)]
    rw [hv]
    refine Ev.congr (f := fun _ => some (odd[r.1.toNat].f1, 0, 0)) (fun k => ?_) (Ev.now _)
    rw [if_pos hr, if_pos r2.low, if_pos (by omega), rdG' odd _ hj]
  · have hr' : r.2 = false := by simpa using hr
    have hno := r2.no hr'
    by_cases hc : c = 0
    · have hv : keptV p c core odd i = ([], 0, 0) := by unfold keptV; rw [hno]; simp [hc]
      rw [hv]
      refine Ev.congr (f := fun _ => some ([], 0, 0)) (fun k => ?_) (Ev.now _)
      rw [if_neg hr, if_pos hc]
    · have hv : keptV p c core odd i = (coreAt c core i, mulV (i / c) p) := by unfold keptV; rw [hno]; simp [hc]
      rw [hv]
      refine Ev.congr (fun k => by rw [if_neg hr, if_neg hc]) (Ev.bind (floor_ev i c hi (by omega)) ?_)
      have h1 := Int.emod_nonneg i hc
      have h2 := Int.emod_lt_of_pos i (show 0 < c by omega)
      have hq : -4611686018427387904 ≤ i / c ∧ i / c ≤ 4611686018427387904 := by
        have h3 := Int.mul_ediv_add_emod i c
        constructor
        · rcases iLt (i / c) (-4611686018427387904) with g | g
          · exfalso
            have : c * (i / c) ≤ 1 * (i / c) := Int.mul_le_mul_of_nonpos_right (by omega) (by omega)
            rw [Int.one_mul] at this
            by_cases hc1 : c = 1
            · subst hc1; omega
            · have : c * (i / c) ≤ 2 * (i / c) := Int.mul_le_mul_of_nonpos_right (by omega) (by omega)
              omega
          · exact g
        · rcases iLt 4611686018427387904 (i / c) with g | g
          · exfalso
            have : 1 * (i / c) ≤ c * (i / c) := Int.mul_le_mul_of_nonneg_right (by omega) (by omega)
            rw [Int.one_mul] at this; omega
          · exact g
      have hp0 := h.hp0
      have hp1 := h.hp1
      refine Ev.bind (mul_ev (i / c) p (by omega) (by omega)) ?_
      refine Ev.congr (f := fun _ => some (coreAt c core i, mulV (i / c) p)) (fun k => ?_) (Ev.now _)
      simp only
      have e1 : ((i % c).toNat : Int) = i % c := Int.toNat_of_nonneg h1
      have h4 : (i % c).toNat < core.length := by omega
      have e2 : coreAt c core i = core[(i % c).toNat] := by unfold coreAt; rw [if_neg hc, List.getD_eq_getElem?_getD, List.getElem?_eq_getElem h4]; rfl
      rw [if_pos h1, if_pos (by omega), e2, rdL' core _ h4]
def getV (p c : Int) (core : List (List Sp)) (odd : List Gn) (i : Int) : List Sp × Int :=
  if inR i then (if fs c core odd i = [] then ([], 0) else moveS (fb p c odd i) (fs c core odd i)) else ([], 20)
theorem inRange_f (i : Int) : gran_inRange.f i = some (decide (inR i)) := by
  unfold gran_inRange.f inR
  by_cases h : i ≥ -1099511627776
  · have h2 : -1099511627776 ≤ i := h
    rw [if_pos h]; simp [h2]
  · have h2 : ¬ -1099511627776 ≤ i := h
    rw [if_neg h]; simp [h2]
theorem get_ev (h : SF p c core odd) (i : Int) : Ev (fun k => gran_Get.f k p c core odd i) (getV p c core odd i) := by
  unfold gran_Get.f getV
  by_cases hi : inR i
  · simp only [inRange_f, Option.bind_some, hi, decide_true, if_true]
    have hi' := hi
    unfold inR at hi'
    refine Ev.bind (kept_ev h i (by omega)) ?_
    have hk := keptV_fst (p := p) (c := c) (core := core) (odd := odd) i
    have hSL := h.fs_SL i
    by_cases hz : fs c core odd i = []
    · rw [if_pos hz]
      refine Ev.congr (f := fun _ => some ([], 0)) (fun k => ?_) (Ev.now _)
      rw [hk, hz]; rfl
    · rw [if_neg hz]
      have hlen : ¬ ((fs c core odd i).length : Int) = 0 := by
        intro e; exact hz (List.eq_nil_of_length_eq_zero (by omega))
      simp only [hk, if_neg hlen]
      have hends := hSL.ends hz
      by_cases he : (keptV p c core odd i).2.2 = 0
      · simp only [if_pos he]
        have hb : (keptV p c core odd i).2.1 = fb p c odd i ∧ -9223372036854775808 ≤ fb p c odd i ∧ fb p c odd i ≤ 9223372036854775807 := by
          unfold keptV at he ⊢
          unfold fb
          cases ho : oddOf odd i with
          | some l => simp
          | none =>
            simp only [ho] at he ⊢
            by_cases hc : c = 0
            · subst hc; simp
            · simp only [if_neg hc, mulV] at he ⊢
              split at he
              · rename_i hm; simp only [if_pos hm]; exact ⟨trivial, hm⟩
              · simp at he
        simp only [hb.1]
        refine Ev.congr (fun k => rfl) (Ev.bind (f := fun _ a => some (a.1, a.2)) (move_ev _ _ hSL hb.2) (Ev.now _))
      · simp only [if_neg he]
        have hb : fb p c odd i < -9223372036854775808 ∨ 9223372036854775807 < fb p c odd i := by
          unfold keptV at he
          unfold fb
          cases ho : oddOf odd i with
          | some l => simp [ho] at he
          | none =>
            simp only [ho] at he ⊢
            by_cases hc : c = 0
            · simp [hc] at he
            · simp only [if_neg hc, mulV] at he
              split at he
              · simp at he
              · omega
        have hm : moveS (fb p c odd i) (fs c core odd i) = ([], 20) := by
          unfold moveS
          rw [if_neg]
          rw [hSL.moved_iff hz]
          omega
        rw [hm]
        exact Ev.now _
  · simp only [inRange_f, Option.bind_some, hi, decide_false]
    exact Ev.now _
theorem some_ev (h : SF p c core odd) (i : Int) (hi : inR i) : Ev (fun k => gran_some.f k p c core odd i) (decide (fs c core odd i ≠ [])) := by
  unfold inR at hi
  refine Ev.congr (fun k => by unfold gran_some.f; rfl) (Ev.bind (kept_ev h i (by omega)) ?_)
  refine Ev.congr (f := fun _ => some (decide (fs c core odd i ≠ []))) (fun k => ?_) (Ev.now _)
  rw [keptV_fst]
  congr 1
  cases fs c core odd i with
  | nil => simp
  | cons s r => simp
theorem bare_ev (h : SF p c core odd) : ∃ b, Ev (fun k => gran_bare.f k p c core odd) b ∧ (b = true ↔ ∀ l ∈ core, l = []) := by
  have hl0 := h.hl
  have key : ∀ (rest pre : List (List Sp)), core = pre ++ rest → (∀ l ∈ pre, l = []) → ∃ r : Int, Ev (fun k => slices_IndexFunc_Span.l0 k core (core.length : Int) (pre.length : Int)) r ∧ (r < 0 ↔ ∀ l ∈ core, l = []) := by
    intro rest
    induction rest with
    | nil =>
      intro pre hp he
      refine ⟨-1, Ev.step (f := fun _ => some (-1)) (fun k => ?_) (Ev.now _), ?_⟩
      · rw [slices_IndexFunc_Span.l0, if_neg (by rw [hp]; simp)]
      · simp only [List.append_nil] at hp
        subst hp
        exact ⟨fun _ => he, fun _ => by omega⟩
    | cons l r ih =>
      intro pre hp he
      have hlen : pre.length + 1 ≤ core.length := by rw [hp]; simp
      have hrd : rd_L2 core (pre.length : Int) = l := by rw [hp]; simp [rd_L2]
      have c1 : (pre.length : Int) < (core.length : Int) := by omega
      by_cases hz : l = []
      · obtain ⟨x, x1, x2⟩ := ih (pre ++ [l]) (by rw [hp]; simp) (fun y hy => by rcases List.mem_append.1 hy with hy | hy; exact he y hy; simp at hy; rw [hy]; exact hz)
        refine ⟨x, Ev.step (fun k => ?_) x1, x2⟩
        have hw : wrap64 ((pre.length : Int) + 1) = ((pre ++ [l]).length : Int) := by rw [wrap_ok (by omega) (by omega)]; simp
        rw [slices_IndexFunc_Span.l0, if_pos c1, if_pos (by omega), if_pos c1, hrd, hw, hz]
        rfl
      · refine ⟨(pre.length : Int), Ev.step (f := fun _ => some (pre.length : Int)) (fun k => ?_) (Ev.now _), ?_⟩
        · rw [slices_IndexFunc_Span.l0, if_pos c1, if_pos (by omega), if_pos c1, hrd]
          cases l with
          | nil => exact absurd rfl hz
          | cons s t => simp [gran_bare_1.f]
        · constructor
          · intro e; omega
          · intro e; exact absurd (e l (by rw [hp]; simp)) hz
  obtain ⟨r, r1, r2⟩ := key core [] rfl (by simp)
  refine ⟨decide (r < 0), ?_, by simpa using r2⟩
  unfold gran_bare.f slices_ContainsFunc_Span.f slices_IndexFunc_Span.f
  refine Ev.bind (a := decide (r ≥ 0)) (Ev.bind r1 (Ev.now _)) ?_
  have : (!decide (r ≥ 0)) = decide (r < 0) := by by_cases g : r < 0 <;> simp [g] <;> omega
  rw [this]; exact Ev.now _

def UpSpec (c : Int) (core : List (List Sp)) (odd : List Gn) (a : Int) (r : Int × Bool) : Prop :=
  (r.2 = true → a ≤ r.1 ∧ inR r.1 ∧ fs c core odd r.1 ≠ [] ∧ ∀ m, a ≤ m → m < r.1 → fs c core odd m = []) ∧ (r.2 = false → r.1 = 0 ∧ ∀ m, a ≤ m → inR m → fs c core odd m = [])
def DnSpec (c : Int) (core : List (List Sp)) (odd : List Gn) (a : Int) (r : Int × Bool) : Prop :=
  (r.2 = true → r.1 ≤ a ∧ inR r.1 ∧ fs c core odd r.1 ≠ [] ∧ ∀ m, m ≤ a → r.1 < m → fs c core odd m = []) ∧ (r.2 = false → r.1 = 0 ∧ ∀ m, m ≤ a → inR m → fs c core odd m = [])
theorem bare_fs (h : SF p c core odd) (hb : ∀ l ∈ core, l = []) {m : Int} (hm : fs c core odd m ≠ []) : ∃ j, ∃ hj : j < odd.length, odd[j].f0 = m ∧ odd[j].f1 ≠ [] := by
  unfold fs at hm
  cases ho : oddOf odd m with
  | some l =>
    obtain ⟨g, hg, e1, e2⟩ := oddOf_some ho
    obtain ⟨j, hj, rfl⟩ := List.getElem_of_mem hg
    exact ⟨j, hj, e1, by rw [ho] at hm; rw [e2]; exact hm⟩
  | none =>
    rw [ho] at hm
    by_cases hc : c = 0
    · exact absurd (by simp [coreAt, hc]) hm
    · exact absurd (hb _ (h.coreAt_mem m hc)) hm
theorem odd_fs (h : SF p c core odd) {j : Nat} (hj : j < odd.length) : fs c core odd odd[j].f0 = odd[j].f1 := by
  unfold fs; rw [oddOf_mem h.hup (List.getElem_mem hj)]
theorem step_up_ev (h : SF p c core odd) (a : Int) (ha : -1099511627776 ≤ a ∧ a ≤ 1099511627777) : ∃ r, Ev (fun k => gran_step.f k p c core odd a 1) r ∧ UpSpec c core odd a r := by
  have hlo := h.hlo
  obtain ⟨b, b1, b2⟩ := bare_ev h
  by_cases hb : b = true
  · have hbare := b2.1 hb
    obtain ⟨r, r1, r2⟩ := oddat_ev h a
    have key : ∀ (d n : Nat), odd.length - n = d → n ≤ odd.length → (∀ j (hj : j < odd.length), j < n → odd[j].f0 < a ∨ odd[j].f1 = []) → (∀ j (hj : j < odd.length), n ≤ j → a ≤ odd[j].f0) →
        ∃ x, Ev (fun k => gran_step.l0 k 1 (n : Int) p c core odd) x ∧ UpSpec c core odd a x := by
      intro d
      induction d with
      | zero =>
        intro n hd hn h1 h2
        have hnn : n = odd.length := by omega
        refine ⟨(0, false), Ev.step (f := fun k => gran_step.j3 k 1 (n : Int) false p c core odd) (fun k => ?_) (Ev.step (f := fun _ => some (0, false)) (fun k => ?_) (Ev.now _)), (fun e => by cases e), fun _ => ⟨rfl, fun m hm _ => ?_⟩⟩
        · rw [gran_step.l0, if_pos (by omega)]
          have : decide ((n : Int) < (odd.length : Int)) = false := by simp; omega
          rw [this]
        · rw [gran_step.j3, if_neg (by simp)]
        · refine Classical.byContradiction fun hne => ?_
          obtain ⟨j, hj, e1, e2⟩ := bare_fs h hbare hne
          rcases h1 j hj (by omega) with g | g
          · omega
          · exact e2 g
      | succ d ih =>
        intro n hd hn h1 h2
        have hlt : n < odd.length := by omega
        have hdec : decide ((n : Int) < (odd.length : Int)) = true := by simp; omega
        by_cases hz : odd[n].f1 = []
        · obtain ⟨x, x1, x2⟩ := ih (n + 1) (by omega) (by omega) (fun j hj hjn => by
            rcases Nat.lt_or_ge j n with g | g
            · exact h1 j hj g
            · have : j = n := by omega
              subst this; exact .inr hz) (fun j hj hjn => h2 j hj (by omega))
          refine ⟨x, Ev.step (f := fun k => gran_step.j3 k 1 (n : Int) true p c core odd) (fun k => ?_) (Ev.step (fun k => ?_) x1), x2⟩
          · rw [gran_step.l0, if_pos (by omega), hdec]
          · have hw : wrap64 ((n : Int) + 1) = ((n + 1 : Nat) : Int) := by rw [wrap_ok (by omega) (by omega)]; simp
            rw [gran_step.j3, if_pos rfl, if_pos (by omega), if_pos (by omega), rdG odd n hlt, if_neg (by rw [hz]; simp), hw]
        · refine ⟨(odd[n].f0, true), Ev.step (f := fun k => gran_step.j3 k 1 (n : Int) true p c core odd) (fun k => ?_) (Ev.step (f := fun _ => some (odd[n].f0, true)) (fun k => ?_) (Ev.now _)), fun _ => ⟨h2 n hlt (Nat.le_refl _), h.hidx _ (List.getElem_mem hlt), by rw [odd_fs h hlt]; exact hz, fun m hm1 hm2 => ?_⟩, (fun e => by cases e)⟩
          · rw [gran_step.l0, if_pos (by omega), hdec]
          · have : 0 < odd[n].f1.length := List.length_pos_iff.2 hz
            rw [gran_step.j3, if_pos rfl, if_pos (by omega), if_pos (by omega), rdG odd n hlt, if_pos (by omega)]
          · refine Classical.byContradiction fun hne => ?_
            obtain ⟨j, hj, e1, e2⟩ := bare_fs h hbare hne
            rcases Nat.lt_or_ge j n with g | g
            · rcases h1 j hj g with g2 | g2
              · omega
              · exact e2 g2
            · rcases Nat.lt_or_ge n j with g2 | g2
              · have := pw_lt h.hup hj g2; simp only at hm2; omega
              · have : j = n := by omega
                subst this; simp only at hm2; omega
    have e1 : (r.1.toNat : Int) = r.1 := Int.toNat_of_nonneg r2.low
    have hhi := r2.high
    obtain ⟨x, x1, x2⟩ := key _ r.1.toNat rfl (by omega) (fun j hj hjn => .inl (r2.below j hj (by omega))) (fun j hj hjn => r2.above j hj (by omega))
    rw [e1] at x1
    refine ⟨x, ?_, x2⟩
    unfold gran_step.f
    refine Ev.bind b1 ?_
    refine Ev.congr (fun k => by rw [if_pos hb]) (Ev.bind r1 ?_)
    refine Ev.congr (fun k => by rw [if_neg (by omega)]) ?_
    refine Ev.step (f := fun k => gran_step.j1 k 1 r.1 p c core odd) (fun k => by rw [gran_step.j0, if_neg (by simp)]) ?_
    exact Ev.step (fun k => by rw [gran_step.j1]) x1
  · have key : ∀ (d : Nat) (i : Int), (1099511627777 - i).toNat = d → a ≤ i → i ≤ 1099511627777 → (∀ m, a ≤ m → m < i → fs c core odd m = []) → ∃ x, Ev (fun k => gran_step.l1 k 1 i p c core odd) x ∧ UpSpec c core odd a x := by
      intro d
      induction d with
      | zero =>
        intro i hd h1 h2 h3
        have hi : ¬ inR i := by unfold inR; omega
        refine ⟨(0, false), Ev.step (f := fun _ => some (0, false)) (fun k => ?_) (Ev.now _), (fun e => by cases e), fun _ => ⟨rfl, fun m hm hr => h3 m hm (by unfold inR at hr; omega)⟩⟩
        rw [gran_step.l1, inRange_f]; simp [hi]
      | succ d ih =>
        intro i hd h1 h2 h3
        have hi : inR i := by unfold inR; omega
        by_cases hz : fs c core odd i = []
        · obtain ⟨x, x1, x2⟩ := ih (i + 1) (by omega) (by omega) (by omega) (fun m hm1 hm2 => by
            rcases iLt m i with g | g
            · exact h3 m hm1 g
            · have : m = i := by omega
              subst this; exact hz)
          refine ⟨x, ?_, x2⟩
          refine Ev.step (f := fun k => (gran_some.f k p c core odd i).bind fun t => if t = true then some (i, true) else gran_step.l1 k 1 (wrap64 (i + 1)) p c core odd) (fun k => by rw [gran_step.l1, inRange_f]; simp [hi]) ?_
          refine Ev.bind (some_ev h i hi) ?_
          refine Ev.congr (fun k => ?_) x1
          rw [if_neg (by simp [hz]), wrap_ok (by omega) (by omega)]
        · refine ⟨(i, true), ?_, fun _ => ⟨h1, hi, hz, h3⟩, (fun e => by cases e)⟩
          refine Ev.step (f := fun k => (gran_some.f k p c core odd i).bind fun t => if t = true then some (i, true) else gran_step.l1 k 1 (wrap64 (i + 1)) p c core odd) (fun k => by rw [gran_step.l1, inRange_f]; simp [hi]) ?_
          refine Ev.bind (some_ev h i hi) ?_
          exact Ev.congr (fun k => by rw [if_pos (by simp [hz])]) (Ev.now _)
    obtain ⟨x, x1, x2⟩ := key _ a rfl (Int.le_refl _) ha.2 (fun m h1 h2 => by omega)
    refine ⟨x, ?_, x2⟩
    unfold gran_step.f
    exact Ev.bind b1 (Ev.congr (fun k => by rw [if_neg hb]) x1)
end Go.Proofs.Ytmbmalkpmanaaaa.P

namespace Go.Proofs.Ytmbmalkpmanaaaa.P
set_option linter.unusedVariables false
set_option linter.unusedSimpArgs false
open Go.RowKit Go.Proofs.YtmbmalkpmanaaaaW.PrintWords Go.Proofs.YtmbmalkpmanaaaaW.PrintMore

variable {p c : Int} {core : List (List Sp)} {odd : List Gn}
theorem mn_eq (a b : Int) : mn a b = min a b := by unfold mn; split <;> omega
theorem mx_eq (a b : Int) : mx a b = max a b := by unfold mx; split <;> omega
theorem SL.len {lo hi : Int} : ∀ {l : List Sp} {lo : Int}, SL lo hi l → (l.length : Int) ≤ max 0 (hi - lo + 1)
  | [], _, _ => by simp; omega
  | s :: r, lo, ⟨h1, h2, h3, h4⟩ => by
    have := SL.len (lo := lo) h4
    simp only [List.length_cons]
    omega
theorem SL.len40 {l : List Sp} (h : SL (-1099511627776) 1099511627776 l) : l.length ≤ 4611686018427387903 := by have := SL.len (lo := 0) h; omega
theorem lst_last : ∀ (l : List Sp), l ≠ [] → ∃ z, l.getLast? = some z ∧ z.f1 = lstT l
  | [], h => absurd rfl h
  | [s], _ => ⟨s, rfl, rfl⟩
  | s :: t :: r, _ => by
    obtain ⟨z, h1, h2⟩ := lst_last (t :: r) (by simp)
    exact ⟨z, by rw [List.getLast?_cons_cons]; exact h1, h2⟩
theorem ahead_iff (a b : List Sp) : aheadS a b = true ↔ (a ≠ [] → b ≠ [] → lstT a < fstT b) := by
  by_cases ha : a = []
  · subst ha; simp [aheadS]
  · obtain ⟨z, h1, h2⟩ := lst_last a ha
    cases b with
    | nil => unfold aheadS; rw [h1]; simp
    | cons s r => unfold aheadS; rw [h1]; simp [fstT, h2, ha]
theorem hull_iff (l : List Sp) : hullS l = if l = [] then (0, 0, false) else (fstT l, lstT l, true) := by
  by_cases ha : l = []
  · subst ha; rfl
  · obtain ⟨z, h1, h2⟩ := lst_last l ha
    rw [if_neg ha]
    cases l with
    | nil => exact absurd rfl ha
    | cons s r => unfold hullS; rw [h1]; simp [fstT, h2]

theorem step_dn_ev (h : SF p c core odd) (a : Int) (ha : -1099511627777 ≤ a ∧ a ≤ 1099511627776) : ∃ r, Ev (fun k => gran_step.f k p c core odd a (-1)) r ∧ DnSpec c core odd a r := by
  have hlo := h.hlo
  obtain ⟨b, b1, b2⟩ := bare_ev h
  by_cases hb : b = true
  · have hbare := b2.1 hb
    obtain ⟨r, r1, r2⟩ := oddat_ev h a
    have key : ∀ (n : Nat), n ≤ odd.length → (∀ j (hj : j < odd.length), n ≤ j → a < odd[j].f0 ∨ odd[j].f1 = []) → (∀ j (hj : j < odd.length), j < n → odd[j].f0 ≤ a) →
        ∃ x, Ev (fun k => gran_step.l0 k (-1) ((n : Int) - 1) p c core odd) x ∧ DnSpec c core odd a x := by
      intro n
      induction n with
      | zero =>
        intro hn h1 h2
        refine ⟨(0, false), Ev.step (f := fun k => gran_step.j3 k (-1) ((0 : Nat) - 1 : Int) false p c core odd) (fun k => ?_) (Ev.step (f := fun _ => some (0, false)) (fun k => ?_) (Ev.now _)), (fun e => by cases e), fun _ => ⟨rfl, fun m hm _ => ?_⟩⟩
        · rw [gran_step.l0, if_neg (by omega)]
        · rw [gran_step.j3, if_neg (by simp)]
        · refine Classical.byContradiction fun hne => ?_
          obtain ⟨j, hj, e1, e2⟩ := bare_fs h hbare hne
          rcases h1 j hj (by omega) with g | g
          · omega
          · exact e2 g
      | succ n ih =>
        intro hn h1 h2
        have hlt : n < odd.length := by omega
        have en : ((n + 1 : Nat) : Int) - 1 = (n : Int) := by omega
        have hdec : decide ((n : Int) < (odd.length : Int)) = true := by simp; omega
        rw [en]
        by_cases hz : odd[n].f1 = []
        · obtain ⟨x, x1, x2⟩ := ih (by omega) (fun j hj hjn => by
            rcases Nat.lt_or_ge n j with g | g
            · exact h1 j hj g
            · have : j = n := by omega
              subst this; exact .inr hz) (fun j hj hjn => h2 j hj (by omega))
          refine ⟨x, Ev.step (f := fun k => gran_step.j3 k (-1) (n : Int) true p c core odd) (fun k => ?_) (Ev.step (fun k => ?_) x1), x2⟩
          · rw [gran_step.l0, if_pos (by omega), hdec]
          · have hw : wrap64 ((n : Int) + -1) = (n : Int) - 1 := by rw [wrap_ok (by omega) (by omega)]; omega
            rw [gran_step.j3, if_pos rfl, if_pos (by omega), if_pos (by omega), rdG odd n hlt, if_neg (by rw [hz]; simp), hw]
        · refine ⟨(odd[n].f0, true), Ev.step (f := fun k => gran_step.j3 k (-1) (n : Int) true p c core odd) (fun k => ?_) (Ev.step (f := fun _ => some (odd[n].f0, true)) (fun k => ?_) (Ev.now _)), fun _ => ⟨h2 n hlt (by omega), h.hidx _ (List.getElem_mem hlt), by rw [odd_fs h hlt]; exact hz, fun m hm1 hm2 => ?_⟩, (fun e => by cases e)⟩
          · rw [gran_step.l0, if_pos (by omega), hdec]
          · have : 0 < odd[n].f1.length := List.length_pos_iff.2 hz
            rw [gran_step.j3, if_pos rfl, if_pos (by omega), if_pos (by omega), rdG odd n hlt, if_pos (by omega)]
          · refine Classical.byContradiction fun hne => ?_
            obtain ⟨j, hj, e1, e2⟩ := bare_fs h hbare hne
            rcases Nat.lt_or_ge n j with g | g
            · rcases h1 j hj g with g2 | g2
              · omega
              · exact e2 g2
            · rcases Nat.lt_or_ge j n with g2 | g2
              · have := pw_lt h.hup hlt g2; simp only at hm2; omega
              · have : j = n := by omega
                subst this; simp only at hm2; omega
    have e1 : (r.1.toNat : Int) = r.1 := Int.toNat_of_nonneg r2.low
    have hhi := r2.high
    have hend : ∃ x, Ev (fun k => gran_step.j0 k (-1) r.1 (!r.2) p c core odd) x ∧ DnSpec c core odd a x := by
      by_cases hr : r.2 = true
      · obtain ⟨hj, he⟩ := r2.is hr
        obtain ⟨x, x1, x2⟩ := key (r.1.toNat + 1) (by omega) (fun j hj2 hjn => .inl (by have := pw_lt h.hup hj2 (show r.1.toNat < j by omega); omega)) (fun j hj2 hjn => by
          rcases Nat.lt_or_ge j r.1.toNat with g | g
          · have := pw_lt h.hup hj g; omega
          · have : j = r.1.toNat := by omega
            subst this; omega)
        have en : ((r.1.toNat + 1 : Nat) : Int) - 1 = r.1 := by omega
        rw [en] at x1
        refine ⟨x, Ev.step (f := fun k => gran_step.j1 k (-1) r.1 p c core odd) (fun k => ?_) (Ev.step (fun k => by rw [gran_step.j1]) x1), x2⟩
        rw [gran_step.j0, if_neg (by rw [hr]; simp)]
      · have hr' : r.2 = false := by simpa using hr
        have hno := oddOf_none.1 (r2.no hr')
        obtain ⟨x, x1, x2⟩ := key r.1.toNat (by omega) (fun j hj2 hjn => .inl (by have := r2.above j hj2 (by omega); have := hno _ (List.getElem_mem hj2); omega)) (fun j hj2 hjn => by have := r2.below j hj2 (by omega); omega)
        have en : ((r.1.toNat : Nat) : Int) - 1 = r.1 - 1 := by omega
        rw [en] at x1
        refine ⟨x, Ev.step (f := fun k => gran_step.j1 k (-1) (r.1 - 1) p c core odd) (fun k => ?_) (Ev.step (fun k => by rw [gran_step.j1]) x1), x2⟩
        rw [gran_step.j0, if_pos (by rw [hr']; rfl), wrap_ok (by have := r2.low; omega) (by omega)]
    obtain ⟨x, x1, x2⟩ := hend
    refine ⟨x, ?_, x2⟩
    unfold gran_step.f
    refine Ev.bind b1 ?_
    refine Ev.congr (fun k => by rw [if_pos hb]) (Ev.bind r1 ?_)
    exact Ev.congr (fun k => by rw [if_pos (by omega)]) x1
  · have key : ∀ (d : Nat) (i : Int), (i + 1099511627777).toNat = d → i ≤ a → -1099511627777 ≤ i → (∀ m, m ≤ a → i < m → fs c core odd m = []) → ∃ x, Ev (fun k => gran_step.l1 k (-1) i p c core odd) x ∧ DnSpec c core odd a x := by
      intro d
      induction d with
      | zero =>
        intro i hd h1 h2 h3
        have hi : ¬ inR i := by unfold inR; omega
        refine ⟨(0, false), Ev.step (f := fun _ => some (0, false)) (fun k => ?_) (Ev.now _), (fun e => by cases e), fun _ => ⟨rfl, fun m hm hr => h3 m hm (by unfold inR at hr; omega)⟩⟩
        rw [gran_step.l1, inRange_f]; simp [hi]
      | succ d ih =>
        intro i hd h1 h2 h3
        have hi : inR i := by unfold inR; omega
        by_cases hz : fs c core odd i = []
        · obtain ⟨x, x1, x2⟩ := ih (i - 1) (by omega) (by omega) (by omega) (fun m hm1 hm2 => by
            rcases iLt i m with g | g
            · exact h3 m hm1 g
            · have : m = i := by omega
              subst this; exact hz)
          refine ⟨x, ?_, x2⟩
          refine Ev.step (f := fun k => (gran_some.f k p c core odd i).bind fun t => if t = true then some (i, true) else gran_step.l1 k (-1) (wrap64 (i + -1)) p c core odd) (fun k => by rw [gran_step.l1, inRange_f]; simp [hi]) ?_
          refine Ev.bind (some_ev h i hi) ?_
          refine Ev.congr (fun k => ?_) x1
          rw [if_neg (by simp [hz]), wrap_ok (by omega) (by omega)]
          rfl
        · refine ⟨(i, true), ?_, fun _ => ⟨h1, hi, hz, h3⟩, (fun e => by cases e)⟩
          refine Ev.step (f := fun k => (gran_some.f k p c core odd i).bind fun t => if t = true then some (i, true) else gran_step.l1 k (-1) (wrap64 (i + -1)) p c core odd) (fun k => by rw [gran_step.l1, inRange_f]; simp [hi]) ?_
          refine Ev.bind (some_ev h i hi) ?_
          exact Ev.congr (fun k => by rw [if_pos (by simp [hz])]) (Ev.now _)
    obtain ⟨x, x1, x2⟩ := key _ a rfl (Int.le_refl _) ha.1 (fun m h1 h2 => by omega)
    refine ⟨x, ?_, x2⟩
    unfold gran_step.f
    exact Ev.bind b1 (Ev.congr (fun k => by rw [if_neg hb]) x1)

theorem behind_ev (h : SF p c core odd) (i : Int) (hi : -9223372036854775808 ≤ i ∧ i ≤ 9223372036854775807) : ∃ r, Ev (fun k => gran_Behind.f k p c core odd i) r ∧ UpSpec c core odd (max (i + 1) (-1099511627776)) r := by
  unfold gran_Behind.f
  by_cases hm : i ≥ 1099511627776
  · refine ⟨(0, false), Ev.congr (f := fun _ => some (0, false)) (fun k => by rw [if_pos hm]) (Ev.now _), (fun e => by cases e), fun _ => ⟨rfl, fun m h1 h2 => by unfold inR at h2; omega⟩⟩
  · have hw : wrap64 (i + 1) = i + 1 := wrap_ok (by omega) (by omega)
    obtain ⟨r, r1, r2⟩ := step_up_ev h (max (i + 1) (-1099511627776)) (by omega)
    refine ⟨r, Ev.congr (fun k => by rw [if_neg hm, hw, mx_eq]) (Ev.bind (f := fun _ a => some (a.1, a.2)) r1 (Ev.now _)), r2⟩
theorem before_ev (h : SF p c core odd) (i : Int) (hi : -9223372036854775808 ≤ i ∧ i ≤ 9223372036854775807) : ∃ r, Ev (fun k => gran_Before.f k p c core odd i) r ∧ DnSpec c core odd (min (i - 1) 1099511627776) r := by
  unfold gran_Before.f
  by_cases hm : i ≤ -1099511627776
  · refine ⟨(0, false), Ev.congr (f := fun _ => some (0, false)) (fun k => by rw [if_pos hm]) (Ev.now _), (fun e => by cases e), fun _ => ⟨rfl, fun m h1 h2 => by unfold inR at h2; omega⟩⟩
  · have hw : wrap64 (i - 1) = i - 1 := wrap_ok (by omega) (by omega)
    obtain ⟨r, r1, r2⟩ := step_dn_ev h (min (i - 1) 1099511627776) (by omega)
    refine ⟨r, Ev.congr (fun k => by rw [if_neg hm, hw, mn_eq]) (Ev.bind (f := fun _ a => some (a.1, a.2)) r1 (Ev.now _)), r2⟩
end Go.Proofs.Ytmbmalkpmanaaaa.P

namespace Go.Proofs.Ytmbmalkpmanaaaa.P
set_option linter.unusedVariables false
set_option linter.unusedSimpArgs false
open Go.RowKit Go.Proofs.YtmbmalkpmanaaaaW.PrintWords Go.Proofs.YtmbmalkpmanaaaaW.PrintMore

variable {p c : Int} {core : List (List Sp)} {odd : List Gn}
structure MF (core : List (List Sp)) (odd : List Gn) : Prop where
  mc : ∀ l ∈ core, l.length ≤ 9223372036854775807
  mo : ∀ g ∈ odd, g.f1.length ≤ 9223372036854775807

theorem shape_ev (m : MF core odd) (hl : core.length ≤ 6000) (hlo : odd.length ≤ 6000) : ∃ b, Ev (fun k => gran_shape.f k p c core odd) b ∧ (b = true → SF p c core odd) := by
  have k1 : ∀ (rest pre : List Gn), odd = pre ++ rest → (∀ g ∈ pre, SL (-1099511627776) 1099511627776 g.f1 ∧ inR g.f0) → pre.Pairwise (fun a b => a.f0 < b.f0) →
      ∃ b, Ev (fun k => gran_shape.l1 k odd (odd.length : Int) (pre.length : Int) p c core odd) b ∧ (b = true → (∀ g ∈ odd, SL (-1099511627776) 1099511627776 g.f1 ∧ inR g.f0) ∧ odd.Pairwise (fun a b => a.f0 < b.f0)) := by
    intro rest
    induction rest with
    | nil =>
      intro pre hp h1 h2
      refine ⟨true, Ev.step (f := fun _ => some true) (fun k => ?_) (Ev.now _), fun _ => ?_⟩
      · rw [gran_shape.l1, if_neg (by rw [hp]; simp)]
      · rw [List.append_nil] at hp; subst hp; exact ⟨h1, h2⟩
    | cons g r ih =>
      intro pre hp h1 h2
      have hlen : pre.length + 1 ≤ odd.length := by rw [hp]; simp
      have hrd : rd_T70 odd (pre.length : Int) = g := by rw [hp]; simp [rd_T70]
      have c1 : (pre.length : Int) < (odd.length : Int) := by omega
      have hgm : g ∈ odd := by rw [hp]; simp
      have hr := right_ev g.f1 (m.mo g hgm)
      by_cases hs : slB (-1099511627776) g.f1 = true
      · by_cases hi : inR g.f0
        · have hw : wrap64 ((pre.length : Int) + 1) = ((pre ++ [g]).length : Int) := by rw [wrap_ok (by omega) (by omega)]; simp
          by_cases ho : ∀ a ∈ pre, a.f0 < g.f0
          · obtain ⟨b, b1, b2⟩ := ih (pre ++ [g]) (by rw [hp]; simp) (fun a ha => by
              rcases List.mem_append.1 ha with ha | ha
              · exact h1 a ha
              · simp at ha; subst ha; exact ⟨slB_iff.1 hs, hi⟩) (List.pairwise_append.2 ⟨h2, by simp, fun a ha b hb => by simp at hb; subst hb; exact ho a ha⟩)
            refine ⟨b, ?_, b2⟩
            refine Ev.step (f := fun k => (spans_Right.f k g.f1).bind fun t => if t = true then (if (pre.length : Int) > 0 then (if 0 ≤ wrap64 ((pre.length : Int) - 1) then (if wrap64 ((pre.length : Int) - 1) < (odd.length : Int) then (if g.f0 ≤ (rd_T70 odd (wrap64 ((pre.length : Int) - 1))).f0 then some false else gran_shape.l1 k odd (odd.length : Int) (wrap64 ((pre.length : Int) + 1)) p c core odd) else none) else none) else gran_shape.l1 k odd (odd.length : Int) (wrap64 ((pre.length : Int) + 1)) p c core odd) else some false) (fun k => ?_) ?_
            · rw [gran_shape.l1, if_pos c1, if_pos (by omega), if_pos c1, hrd, inRange_f]; simp [hi]
            · refine Ev.bind hr (Ev.congr (fun k => ?_) b1)
              rw [if_pos hs, hw]
              by_cases hz : (pre.length : Int) > 0
              · have hw2 : wrap64 ((pre.length : Int) - 1) = ((pre.length - 1 : Nat) : Int) := by rw [wrap_ok (by omega) (by omega)]; omega
                have hpl : pre.length - 1 < pre.length := by omega
                have hrd2 : rd_T70 odd ((pre.length - 1 : Nat) : Int) = pre[pre.length - 1] := by
                  rw [rdG odd (pre.length - 1) (by omega)]; simp only [hp]; rw [List.getElem_append_left hpl]
                have := ho _ (List.getElem_mem hpl)
                rw [if_pos hz, hw2, if_pos (by omega), if_pos (by omega), hrd2, if_neg (by omega)]
              · rw [if_neg hz]
          · refine ⟨false, ?_, fun e => by cases e⟩
            have hz : 0 < pre.length := by
              cases pre with
              | nil => exact absurd (by simp) ho
              | cons a r => simp
            have hpl : pre.length - 1 < pre.length := by omega
            have hbad : g.f0 ≤ pre[pre.length - 1].f0 := by
              refine Classical.byContradiction fun hx => ho fun a ha => ?_
              obtain ⟨j, hj, rfl⟩ := List.getElem_of_mem ha
              rcases Nat.lt_or_ge j (pre.length - 1) with q | q
              · have := List.pairwise_iff_getElem.1 h2 j (pre.length - 1) hj hpl q; omega
              · have : j = pre.length - 1 := by omega
                subst this; omega
            refine Ev.step (f := fun k => (spans_Right.f k g.f1).bind fun t => if t = true then (some false) else some false) (fun k => ?_) ?_
            · have hw2 : wrap64 ((pre.length : Int) - 1) = ((pre.length - 1 : Nat) : Int) := by rw [wrap_ok (by omega) (by omega)]; omega
              have hrd2 : rd_T70 odd ((pre.length - 1 : Nat) : Int) = pre[pre.length - 1] := by
                rw [rdG odd (pre.length - 1) (by omega)]; simp only [hp]; rw [List.getElem_append_left hpl]
              rw [gran_shape.l1, if_pos c1, if_pos (by omega), if_pos c1, hrd, inRange_f, hw2, hrd2]
              have q1 : (pre.length : Int) > 0 := by omega
              have q2 : (0 : Int) ≤ ((pre.length - 1 : Nat) : Int) := by omega
              have q3 : ((pre.length - 1 : Nat) : Int) < (odd.length : Int) := by omega
              simp only [Option.bind_some, hi, decide_true, if_true, if_pos q1, if_pos q2, if_pos q3, if_pos hbad]
            · exact Ev.bind hr (Ev.congr (fun k => by simp) (Ev.now _))
        · refine ⟨false, ?_, fun e => by cases e⟩
          refine Ev.step (f := fun k => (spans_Right.f k g.f1).bind fun t => if t = true then (some false) else some false) (fun k => ?_) (Ev.bind hr (Ev.congr (fun k => by simp) (Ev.now _)))
          rw [gran_shape.l1, if_pos c1, if_pos (by omega), if_pos c1, hrd, inRange_f]; simp [hi]
      · refine ⟨false, ?_, fun e => by cases e⟩
        refine Ev.step (fun k => by rw [gran_shape.l1, if_pos c1, if_pos (by omega), if_pos c1, hrd]) (Ev.bind hr (Ev.congr (fun k => by rw [if_neg hs]) (Ev.now _)))
  have k0 : ∀ (rest pre : List (List Sp)), core = pre ++ rest → (∀ l ∈ pre, SL (-1099511627776) 1099511627776 l) →
      ∃ b, Ev (fun k => gran_shape.l0 k core (core.length : Int) (pre.length : Int) p c core odd) b ∧ (b = true → (∀ l ∈ core, SL (-1099511627776) 1099511627776 l) ∧ (∀ g ∈ odd, SL (-1099511627776) 1099511627776 g.f1 ∧ inR g.f0) ∧ odd.Pairwise (fun a b => a.f0 < b.f0)) := by
    intro rest
    induction rest with
    | nil =>
      intro pre hp h1
      obtain ⟨b, b1, b2⟩ := k1 odd [] rfl (by simp) List.Pairwise.nil
      refine ⟨b, Ev.step (fun k => ?_) b1, fun e => ?_⟩
      · rw [gran_shape.l0, if_neg (by rw [hp]; simp)]; rfl
      · rw [List.append_nil] at hp; subst hp; exact ⟨h1, b2 e⟩
    | cons l r ih =>
      intro pre hp h1
      have hlen : pre.length + 1 ≤ core.length := by rw [hp]; simp
      have hrd : rd_L2 core (pre.length : Int) = l := by rw [hp]; simp [rd_L2]
      have c1 : (pre.length : Int) < (core.length : Int) := by omega
      have hr := right_ev l (m.mc l (by rw [hp]; simp))
      by_cases hs : slB (-1099511627776) l = true
      · obtain ⟨b, b1, b2⟩ := ih (pre ++ [l]) (by rw [hp]; simp) (fun a ha => by
          rcases List.mem_append.1 ha with ha | ha
          · exact h1 a ha
          · simp at ha; subst ha; exact slB_iff.1 hs)
        refine ⟨b, ?_, b2⟩
        have hw : wrap64 ((pre.length : Int) + 1) = ((pre ++ [l]).length : Int) := by rw [wrap_ok (by omega) (by omega)]; simp
        exact Ev.step (fun k => by rw [gran_shape.l0, if_pos c1, if_pos (by omega), if_pos c1, hrd]) (Ev.bind hr (Ev.congr (fun k => by rw [if_pos hs, hw]) b1))
      · refine ⟨false, ?_, fun e => by cases e⟩
        exact Ev.step (fun k => by rw [gran_shape.l0, if_pos c1, if_pos (by omega), if_pos c1, hrd]) (Ev.bind hr (Ev.congr (fun k => by rw [if_neg hs]) (Ev.now _)))
  have bad : ∃ b, Ev (fun k => gran_shape.j0 k true p c core odd) b ∧ (b = true → SF p c core odd) :=
    ⟨false, Ev.step (f := fun _ => some false) (fun k => by rw [gran_shape.j0, if_pos rfl]) (Ev.now _), fun e => by cases e⟩
  unfold gran_shape.f
  by_cases hc : c = (core.length : Int)
  · by_cases hz : ((c == 0) != (p == 0)) = true
    · obtain ⟨b, b1, b2⟩ := bad
      exact ⟨b, Ev.congr (fun k => by rw [if_pos hc, if_pos hz]) b1, b2⟩
    · by_cases hp0 : p < 0
      · obtain ⟨b, b1, b2⟩ := bad
        exact ⟨b, Ev.congr (fun k => by rw [if_pos hc, if_neg hz, if_pos hp0]) b1, b2⟩
      · by_cases hp1 : p > 1099511627776
        · obtain ⟨b, b1, b2⟩ := bad
          exact ⟨b, Ev.congr (fun k => by rw [if_pos hc, if_neg hz, if_neg hp0, decide_eq_true hp1]) b1, b2⟩
        · obtain ⟨b, b1, b2⟩ := k0 core [] rfl (by simp)
          refine ⟨b, Ev.congr (fun k => by rw [if_pos hc, if_neg hz, if_neg hp0, decide_eq_false hp1]) (Ev.step (fun k => ?_) b1), fun e => ?_⟩
          · rw [gran_shape.j0, if_neg (by simp)]; rfl
          · obtain ⟨x1, x2, x3⟩ := b2 e
            refine ⟨hc, by omega, by omega, ?_, x1, fun g hg => (x2 g hg).1, fun g hg => (x2 g hg).2, x3, hl, hlo⟩
            have hz' : (c == 0) = (p == 0) := by simpa using hz
            constructor
            · intro e0; rw [e0] at hz'; simpa using hz'.symm
            · intro e0; rw [e0] at hz'; simpa using hz'
  · obtain ⟨b, b1, b2⟩ := bad
    exact ⟨b, Ev.congr (fun k => by rw [if_neg hc]) b1, b2⟩
end Go.Proofs.Ytmbmalkpmanaaaa.P

namespace Go.Proofs.Ytmbmalkpmanaaaa.P
set_option linter.unusedVariables false
set_option linter.unusedSimpArgs false
open Go.RowKit Go.Proofs.YtmbmalkpmanaaaaW.PrintWords Go.Proofs.YtmbmalkpmanaaaaW.PrintMore

variable {p c : Int} {core : List (List Sp)} {odd : List Gn}
def neL (l : List (List Sp)) : List (List Sp) := l.filter (fun x => decide (x ≠ []))
theorem neL_mem {l : List (List Sp)} {x : List Sp} : x ∈ neL l ↔ x ∈ l ∧ x ≠ [] := by simp [neL]
theorem neL_snoc (l : List (List Sp)) (x : List Sp) : neL (l ++ [x]) = if x = [] then neL l else neL l ++ [x] := by
  unfold neL
  rw [List.filter_append]
  by_cases h : x = []
  · simp [h]
  · simp [h]
theorem rd_lst (x : List Sp) (hx : x ≠ []) (hl : x.length ≤ 4611686018427387903) : wrap64 ((x.length : Int) - 1) = (x.length : Int) - 1 ∧ 0 ≤ (x.length : Int) - 1 ∧ (rd_T23 x ((x.length : Int) - 1)).f1 = lstT x := by
  rcases List.eq_nil_or_concat x with rfl | ⟨o, z, rfl⟩
  · exact absurd rfl hx
  · rw [List.concat_eq_append] at *
    have e : ((o ++ [z]).length : Int) - 1 = (o.length : Int) := by simp
    refine ⟨wrap_ok (by simp only [List.length_append, List.length_singleton]; omega) (by omega), by rw [e]; omega, ?_⟩
    rw [e, lstT_snoc]
    have := rd_mid o [] z
    rw [this]
theorem rd_fst (x : List Sp) (hx : x ≠ []) : 0 < x.length ∧ (rd_T23 x 0).f0 = fstT x := by
  cases x with
  | nil => exact absurd rfl hx
  | cons s r => exact ⟨by simp, rfl⟩

theorem turns_ev (h : SF p c core odd) : ∃ b, Ev (fun k => gran_turns.f k p c core odd) b ∧ (b = true → TF p core) := by
  have hl := h.hl
  have hp0 := h.hp0
  have hp1 := h.hp1
  obtain ⟨ne, hne⟩ : ∃ ne, neL core = ne := ⟨_, rfl⟩
  have hmem : ∀ x ∈ ne, x ∈ core ∧ x ≠ [] := fun x hx => neL_mem.1 (by rw [hne]; exact hx)
  have hnl : ne.length ≤ 6000 := by rw [← hne]; exact Nat.le_trans (List.length_filter_le _ _) hl
  obtain ⟨g, hg⟩ : ∃ g : Nat → List Sp, g = fun j => ne.getD j [] := ⟨_, rfl⟩
  have hgm : ∀ j, j < ne.length → g j ∈ core ∧ g j ≠ [] := fun j hj => by
    rw [hg]; simp only; rw [List.getD_eq_getElem?_getD, List.getElem?_eq_getElem hj]; exact hmem _ (List.getElem_mem hj)
  have hgr : ∀ j : Nat, rd_L2 ne (j : Int) = g j := fun j => by rw [hg]; simp [rd_L2]
  obtain ⟨Q, hQ⟩ : ∃ Q : Nat → Prop, Q = fun j => lstT (g j) < fstT (g ((j + 1) % ne.length)) + (if j + 1 = ne.length then p else 0) := ⟨_, rfl⟩
  have k1 : ∀ (d n : Nat), ne.length - n = d → n ≤ ne.length → (∀ j, j < n → Q j) →
      ∃ b, Ev (fun k => gran_turns.l1 k ne ne (ne.length : Int) (n : Int) p c core odd) b ∧ (b = true → ∀ j, j < ne.length → Q j) := by
    intro d
    induction d with
    | zero =>
      intro n hd hn h1
      refine ⟨true, Ev.step (f := fun _ => some true) (fun k => ?_) (Ev.now _), fun _ j hj => h1 j (by omega)⟩
      rw [gran_turns.l1, if_neg (by omega)]
    | succ d ih =>
      intro n hd hn h1
      have hlt : n < ne.length := by omega
      obtain ⟨m, hm0⟩ : ∃ m, (n + 1) % ne.length = m := ⟨_, rfl⟩
      have hm : m < ne.length := by rw [← hm0]; exact Nat.mod_lt _ (by omega)
      have q1 : (n : Int) < (ne.length : Int) := by clear hm0; omega
      have q2 : (0 : Int) ≤ (n : Int) := by clear hm0; omega
      have q3 : ¬ (ne.length : Int) = 0 := by clear hm0; omega
      have q4 : (0 : Int) ≤ (m : Int) := by clear hm0; omega
      have q5 : (m : Int) < (ne.length : Int) := by clear hm0; omega
      obtain ⟨x, hx0⟩ : ∃ x, g n = x := ⟨_, rfl⟩
      obtain ⟨y, hy0⟩ : ∃ y, g m = y := ⟨_, rfl⟩
      have hx := hgm n hlt
      have hy := hgm m hm
      rw [hx0] at hx
      rw [hy0] at hy
      have hSx := h.hcore _ hx.1
      have hSy := h.hcore _ hy.1
      have eny := hSy.ends hy.2
      have main : ∀ (X : Int), X = (if n + 1 = ne.length then p else 0) → 0 ≤ X → X ≤ p → ∃ b, Ev (fun k => if (lstT x) ≥ (wrap64 (fstT y + X)) then some false else gran_turns.l1 k ne ne (ne.length : Int) (((n + 1 : Nat) : Int)) p c core odd) b ∧ (b = true → ∀ j, j < ne.length → Q j) := by
        intro X hX hX0 hX1
        have hw : wrap64 (fstT y + X) = fstT y + X := wrap_ok (by omega) (by omega)
        rw [hw]
        by_cases hb : lstT x ≥ fstT y + X
        · exact ⟨false, Ev.congr (fun k => by rw [if_pos hb]) (Ev.now _), fun e => by cases e⟩
        · obtain ⟨b, b1, b2⟩ := ih (n + 1) (by omega) (by omega) (fun j hjn => by
            rcases Nat.lt_or_ge j n with q | q
            · exact h1 j q
            · have : j = n := by omega
              subst this; rw [hQ]; simp only; rw [hm0, hx0, hy0, ← hX]; omega)
          exact ⟨b, Ev.congr (fun k => by rw [if_neg hb]) b1, b2⟩
      obtain ⟨l1, l2, l3⟩ := rd_lst _ hx.2 hSx.len40
      obtain ⟨f1, f2⟩ := rd_fst _ hy.2
      have e0 : wrap64 ((n : Int) + 1) = ((n + 1 : Nat) : Int) := by clear l1 l2 l3 f2; rw [wrap_ok (by omega) (by omega)]; simp
      have e1 : Int.tmod ((n + 1 : Nat) : Int) (ne.length : Int) = (m : Int) := by
        have e2 : (((n + 1) % ne.length : Nat) : Int) = ((n + 1 : Nat) : Int) % (ne.length : Int) := Int.natCast_emod _ _
        rw [hm0] at e2
        exact (Int.tmod_eq_emod_of_nonneg (Int.natCast_nonneg _)).trans e2.symm
      have r1 : rd_L2 ne (n : Int) = x := by rw [hgr, hx0]
      have r2 : rd_L2 ne (m : Int) = y := by rw [hgr, hy0]
      have q7 : ((x.length : Int) - 1) < (x.length : Int) := Int.sub_lt_self _ (by decide)
      have q8 : (0 : Int) < (y.length : Int) := Int.ofNat_lt.mpr f1
      by_cases hlast : n + 1 = ne.length
      · have q6 : ((n + 1 : Nat) : Int) = (ne.length : Int) := by rw [hlast]
        obtain ⟨b, b1, b2⟩ := main p (by rw [if_pos hlast]) hp0 (Int.le_refl _)
        refine ⟨b, Ev.step (fun k => ?_) b1, b2⟩
        rw [gran_turns.l1, if_pos q1, if_pos q2, if_pos q1, if_neg q3, e0, e1, if_pos q4, if_pos q5, if_pos q6, r1, r2, l1, if_pos l2, if_pos q7, if_pos q8, l3, f2]
      · obtain ⟨b, b1, b2⟩ := main 0 (by rw [if_neg hlast]) (Int.le_refl _) hp0
        refine ⟨b, Ev.step (fun k => ?_) b1, b2⟩
        have q6 : ¬ ((n + 1 : Nat) : Int) = (ne.length : Int) := fun e => hlast (Int.ofNat.inj e)
        rw [gran_turns.l1, if_pos q1, if_pos q2, if_pos q1, if_neg q3, e0, e1, if_pos q4, if_pos q5, if_neg q6, r1, r2, l1, if_pos l2, if_pos q7, if_pos q8, l3, f2]
  have fin : (∀ j, j < ne.length → Q j) → TF p core := by
    intro hj
    rw [hQ] at hj
    simp only at hj
    have hends : ∀ j, j < ne.length → fstT (g j) ≤ lstT (g j) := fun j hj2 => ((h.hcore _ (hgm j hj2).1).ends (hgm j hj2).2).2.1
    have hadj : ∀ j, j + 1 < ne.length → lstT (g j) < fstT (g (j + 1)) := fun j hj1 => by
      have := hj j (by omega)
      rw [Nat.mod_eq_of_lt hj1, if_neg (by omega)] at this; omega
    have hord : ∀ (d i j : Nat), j < ne.length → j - i = d → i < j → lstT (g i) < fstT (g j) := by
      intro d
      induction d with
      | zero => intro i j hj2 hd hij; omega
      | succ d ih =>
        intro i j hj2 hd hij
        by_cases hadj1 : i + 1 = j
        · subst hadj1; exact hadj i hj2
        · have a1 := hadj i (by omega)
          have a2 := ih (i + 1) j hj2 (by omega) (by omega)
          have a3 := hends (i + 1) (by omega)
          omega
    have hmono : ∀ i j, j < ne.length → i ≤ j → fstT (g i) ≤ fstT (g j) ∧ lstT (g i) ≤ lstT (g j) := by
      intro i j hj2 hij
      rcases Nat.lt_or_ge i j with q | q
      · have a1 := hord _ i j hj2 rfl q
        have a2 := hends i (by omega)
        have a3 := hends j hj2
        omega
      · have : i = j := by omega
        subst this; omega
    have hget : ∀ j (hj2 : j < ne.length), ne[j] = g j := fun j hj2 => by rw [hg]; simp only; rw [List.getD_eq_getElem?_getD, List.getElem?_eq_getElem hj2]; rfl
    constructor
    · have hpw : ne.Pairwise (fun a b => lstT a < fstT b) := List.pairwise_iff_getElem.2 (fun i j hi hj2 hij => by rw [hget i hi, hget j hj2]; exact hord _ i j hj2 rfl hij)
      rw [← hne] at hpw
      unfold neL at hpw
      rw [List.pairwise_filter] at hpw
      exact hpw.imp (fun hx ha hb => hx (by simpa using ha) (by simpa using hb))
    · intro a ha b hb hna hnb
      obtain ⟨i, hi, rfl⟩ := List.getElem_of_mem (show a ∈ ne by rw [← hne]; exact neL_mem.2 ⟨ha, hna⟩)
      obtain ⟨j, hj2, rfl⟩ := List.getElem_of_mem (show b ∈ ne by rw [← hne]; exact neL_mem.2 ⟨hb, hnb⟩)
      rw [hget i hi, hget j hj2]
      have hz := hj (ne.length - 1) (by omega)
      have e : (ne.length - 1 + 1) % ne.length = 0 := by rw [Nat.sub_add_cancel (by omega)]; exact Nat.mod_self _
      rw [e, if_pos (by omega)] at hz
      have a1 := (hmono i (ne.length - 1) (by omega) (by omega)).2
      have a2 := (hmono 0 j hj2 (by omega)).1
      omega
  have k0 : ∀ (rest pre : List (List Sp)), core = pre ++ rest → ∃ b, Ev (fun k => gran_turns.l0 k (neL pre) core (core.length : Int) (pre.length : Int) p c core odd) b ∧ (b = true → TF p core) := by
    intro rest
    induction rest with
    | nil =>
      intro pre hp
      obtain ⟨b, b1, b2⟩ := k1 _ 0 rfl (by omega) (fun j hj => by omega)
      rw [List.append_nil] at hp
      refine ⟨b, Ev.step (fun k => ?_) b1, fun e => fin (b2 e)⟩
      rw [gran_turns.l0, if_neg (by rw [hp]; omega), ← hp, hne]
      rfl
    | cons l r ih =>
      intro pre hp
      have hlen : pre.length + 1 ≤ core.length := by rw [hp]; simp
      have hrd : rd_L2 core (pre.length : Int) = l := by rw [hp]; simp [rd_L2]
      have c1 : (pre.length : Int) < (core.length : Int) := by omega
      have hw : wrap64 ((pre.length : Int) + 1) = ((pre ++ [l]).length : Int) := by rw [wrap_ok (by omega) (by omega)]; simp
      obtain ⟨b, b1, b2⟩ := ih (pre ++ [l]) (by rw [hp]; simp)
      refine ⟨b, Ev.step (fun k => ?_) b1, b2⟩
      have hnp : (neL pre).length ≤ pre.length := List.length_filter_le _ _
      rw [gran_turns.l0, if_pos c1, if_pos (by omega), if_pos c1, hrd, hw, neL_snoc]
      by_cases hz : l = []
      · rw [if_pos hz, hz]; simp
      · have : 0 < l.length := List.length_pos_iff.2 hz
        rw [if_neg hz, if_pos (by omega), if_pos (by omega)]
  exact k0 core [] rfl

theorem beside_ev (h : SF p c core odd) (i : Int) (hi : inR i) : ∃ b, Ev (fun k => gran_beside.f k p c core odd i) b ∧ (b = true → (getV p c core odd i).2 = 0 ∧
    (∀ k, i < k → inR k → fs c core odd k ≠ [] → gap c core odd i k → (getV p c core odd k).2 = 0 ∧ aheadS (getV p c core odd i).1 (getV p c core odd k).1 = true) ∧
    (∀ k, k < i → inR k → fs c core odd k ≠ [] → gap c core odd k i → (getV p c core odd k).2 = 0 ∧ aheadS (getV p c core odd k).1 (getV p c core odd i).1 = true)) := by
  have hi' := hi
  unfold inR at hi'
  obtain ⟨lo, lo1, lo2⟩ := before_ev h i (by omega)
  obtain ⟨up, up1, up2⟩ := behind_ev h i (by omega)
  have hlen : ∀ j, (getV p c core odd j).1.length ≤ 4611686018427387904 := by
    intro j
    have hs := (h.fs_SL j).len40
    unfold getV
    split
    · split
      · simp
      · unfold moveS; split
        · simp; omega
        · simp
    · simp
  have hah : ∀ j m, spans_Ahead.f (getV p c core odd j).1 (getV p c core odd m).1 = some (aheadS (getV p c core odd j).1 (getV p c core odd m).1) := fun j m => ahead_f _ _ (hlen j)
  have hah0 : ∀ m : List Sp, spans_Ahead.f ([] : List Sp) m = some true := fun m => by rw [ahead_f _ _ (by simp)]; simp [aheadS]
  have hah1 : ∀ j, spans_Ahead.f (getV p c core odd j).1 ([] : List Sp) = some true := fun j => by rw [ahead_f _ _ (hlen j)]; congr 1; unfold aheadS; cases (getV p c core odd j).1.getLast? <;> rfl
  have hup : up.2 = true → ∀ k, i < k → inR k → fs c core odd k ≠ [] → gap c core odd i k → k = up.1 := by
    intro e k h1 h2 h3 h4
    obtain ⟨a1, a2, a3, a4⟩ := up2.1 e
    unfold inR at h2 a2
    rcases Int.lt_trichotomy k up.1 with g | g | g
    · exact absurd (a4 k (by omega) g) h3
    · exact g
    · exact absurd (h4 up.1 (by omega) g) a3
  have hup0 : up.2 = false → ∀ k, i < k → inR k → fs c core odd k ≠ [] → False := by
    intro e k h1 h2 h3
    obtain ⟨_, a4⟩ := up2.2 e
    have h2' := h2
    unfold inR at h2'
    exact h3 (a4 k (by omega) h2)
  have hdn : lo.2 = true → ∀ k, k < i → inR k → fs c core odd k ≠ [] → gap c core odd k i → k = lo.1 := by
    intro e k h1 h2 h3 h4
    obtain ⟨a1, a2, a3, a4⟩ := lo2.1 e
    unfold inR at h2 a2
    rcases Int.lt_trichotomy k lo.1 with g | g | g
    · exact absurd (h4 lo.1 g (by omega)) a3
    · exact g
    · exact absurd (a4 k (by omega) g) h3
  have hdn0 : lo.2 = false → ∀ k, k < i → inR k → fs c core odd k ≠ [] → False := by
    intro e k h1 h2 h3
    obtain ⟨_, a4⟩ := lo2.2 e
    have h2' := h2
    unfold inR at h2'
    exact h3 (a4 k (by omega) h2)
  have wrong : ∀ {P : Prop}, false = true → P := fun e => by cases e
  have S0 : (getV p c core odd i).2 = 0 → ∀ {b : Bool}, Ev (fun k => if lo.2 = true then ((gran_Get.f k p c core odd lo.1).bind fun bt2161 => (if bt2161.2 = 0 then (gran_beside.j0 k (getV p c core odd i).1 up.1 up.2 bt2161.1 ([] : List Sp) p c core odd) else (some false))) else (gran_beside.j0 k (getV p c core odd i).1 up.1 up.2 ([] : List Sp) ([] : List Sp) p c core odd)) b → Ev (fun k => gran_beside.f k p c core odd i) b := by
    intro h0 b hb
    unfold gran_beside.f
    refine Ev.bind (get_ev h i) ?_
    refine Ev.congr (fun k => by rw [if_pos h0]) ?_
    refine Ev.bind lo1 ?_
    exact Ev.bind up1 hb
  have S1 : (getV p c core odd i).2 = 0 → lo.2 = true → (getV p c core odd lo.1).2 = 0 → ∀ {b : Bool}, Ev (fun k => gran_beside.j0 k (getV p c core odd i).1 up.1 up.2 (getV p c core odd lo.1).1 ([] : List Sp) p c core odd) b → Ev (fun k => gran_beside.f k p c core odd i) b := by
    intro h0 hl h1 b hb
    refine S0 h0 ?_
    refine Ev.congr (fun k => by rw [if_pos hl]) ?_
    refine Ev.bind (get_ev h lo.1) ?_
    exact Ev.congr (fun k => by rw [if_pos h1]) hb
  have S2 : (getV p c core odd i).2 = 0 → lo.2 ≠ true → ∀ {b : Bool}, Ev (fun k => gran_beside.j0 k (getV p c core odd i).1 up.1 up.2 ([] : List Sp) ([] : List Sp) p c core odd) b → Ev (fun k => gran_beside.f k p c core odd i) b := by
    intro h0 hl b hb
    exact S0 h0 (Ev.congr (fun k => by rw [if_neg hl]) hb)
  have J1 : up.2 = true → (getV p c core odd up.1).2 = 0 → ∀ (l : List Sp) {b : Bool}, ((spans_Ahead.f l (getV p c core odd i).1).bind fun t2169 => (if t2169 = true then ((spans_Ahead.f (getV p c core odd i).1 (getV p c core odd up.1).1).bind fun t2170 => (if t2170 = true then ((spans_Ahead.f l (getV p c core odd up.1).1).bind fun t2171 => (some t2171)) else (some false))) else (some false))) = some b → Ev (fun k => gran_beside.j0 k (getV p c core odd i).1 up.1 up.2 l ([] : List Sp) p c core odd) b := by
    intro hu h2 l b hb
    refine Ev.step (fun k => by rw [gran_beside.j0, if_pos hu]) ?_
    refine Ev.bind (get_ev h up.1) ?_
    refine Ev.congr (fun k => by rw [if_pos h2]) ?_
    rw [hb]; exact Ev.now _
  have J2 : up.2 = true → ¬ (getV p c core odd up.1).2 = 0 → ∀ (l : List Sp), Ev (fun k => gran_beside.j0 k (getV p c core odd i).1 up.1 up.2 l ([] : List Sp) p c core odd) false := by
    intro hu h2 l
    refine Ev.step (fun k => by rw [gran_beside.j0, if_pos hu]) ?_
    refine Ev.bind (get_ev h up.1) ?_
    exact Ev.congr (fun k => by rw [if_neg h2]) (Ev.now _)
  have J3 : ¬ up.2 = true → ∀ (l : List Sp) {b : Bool}, ((spans_Ahead.f l (getV p c core odd i).1).bind fun t2172 => (if t2172 = true then ((spans_Ahead.f (getV p c core odd i).1 ([] : List Sp)).bind fun t2173 => (if t2173 = true then ((spans_Ahead.f l ([] : List Sp)).bind fun t2174 => (some t2174)) else (some false))) else (some false))) = some b → Ev (fun k => gran_beside.j0 k (getV p c core odd i).1 up.1 up.2 l ([] : List Sp) p c core odd) b := by
    intro hu l b hb
    refine Ev.step (f := fun _ => some b) (fun k => ?_) (Ev.now _)
    rw [gran_beside.j0, if_neg hu, hb]
  by_cases h0 : (getV p c core odd i).2 = 0
  · by_cases hlo : lo.2 = true
    · by_cases h1 : (getV p c core odd lo.1).2 = 0
      · by_cases hu : up.2 = true
        · by_cases h2 : (getV p c core odd up.1).2 = 0
          · refine ⟨aheadS (getV p c core odd lo.1).1 (getV p c core odd i).1 && (aheadS (getV p c core odd i).1 (getV p c core odd up.1).1 && aheadS (getV p c core odd lo.1).1 (getV p c core odd up.1).1), S1 h0 hlo h1 (J1 hu h2 _ ?_), fun e => ?_⟩
            · rw [hah, hah, hah]
              cases aheadS (getV p c core odd lo.1).1 (getV p c core odd i).1 <;> cases aheadS (getV p c core odd i).1 (getV p c core odd up.1).1 <;> simp
            · simp only [Bool.and_eq_true] at e
              exact ⟨h0, fun k a b c' d => by have := hup hu k a b c' d; subst this; exact ⟨h2, e.2.1⟩, fun k a b c' d => by have := hdn hlo k a b c' d; subst this; exact ⟨h1, e.1⟩⟩
          · exact ⟨false, S1 h0 hlo h1 (J2 hu h2 _), wrong⟩
        · refine ⟨aheadS (getV p c core odd lo.1).1 (getV p c core odd i).1, S1 h0 hlo h1 (J3 hu _ ?_), fun e => ⟨h0, fun k a b c' d => (hup0 (by simpa using hu) k a b c').elim, fun k a b c' d => by have := hdn hlo k a b c' d; subst this; exact ⟨h1, e⟩⟩⟩
          rw [hah, hah1, hah1]
          cases aheadS (getV p c core odd lo.1).1 (getV p c core odd i).1 <;> simp
      · refine ⟨false, S0 h0 ?_, wrong⟩
        refine Ev.congr (fun k => by rw [if_pos hlo]) ?_
        refine Ev.bind (get_ev h lo.1) ?_
        exact Ev.congr (fun k => by rw [if_neg h1]) (Ev.now _)
    · by_cases hu : up.2 = true
      · by_cases h2 : (getV p c core odd up.1).2 = 0
        · refine ⟨aheadS (getV p c core odd i).1 (getV p c core odd up.1).1, S2 h0 hlo (J1 hu h2 _ ?_), fun e => ⟨h0, fun k a b c' d => by have := hup hu k a b c' d; subst this; exact ⟨h2, e⟩, fun k a b c' d => (hdn0 (by simpa using hlo) k a b c').elim⟩⟩
          rw [hah0, hah, hah0]
          cases aheadS (getV p c core odd i).1 (getV p c core odd up.1).1 <;> simp
        · exact ⟨false, S2 h0 hlo (J2 hu h2 _), wrong⟩
      · refine ⟨true, S2 h0 hlo (J3 hu _ ?_), fun e => ⟨h0, fun k a b c' d => (hup0 (by simpa using hu) k a b c').elim, fun k a b c' d => (hdn0 (by simpa using hlo) k a b c').elim⟩⟩
        rw [hah0, hah1, hah0]; simp
  · refine ⟨false, ?_, wrong⟩
    unfold gran_beside.f
    refine Ev.bind (get_ev h i) ?_
    exact Ev.congr (fun k => by rw [if_neg h0]) (Ev.now _)
end Go.Proofs.Ytmbmalkpmanaaaa.P

namespace Go.Proofs.Ytmbmalkpmanaaaa.P
set_option linter.unusedVariables false
set_option linter.unusedSimpArgs false
open Go.RowKit Go.Proofs.YtmbmalkpmanaaaaW.PrintWords Go.Proofs.YtmbmalkpmanaaaaW.PrintMore

variable {p c : Int} {core : List (List Sp)} {odd : List Gn}
structure Ex (p c : Int) (core : List (List Sp)) (odd : List Gn) (i : Int) : Prop where
  r : inR i
  n : fs c core odd i ≠ []
  lo : -1099511627776 ≤ gLo p c core odd i
  hi : gHi p c core odd i ≤ 1099511627776
def gT (p c : Int) (core : List (List Sp)) (odd : List Gn) (i : Int) : List Sp := (fs c core odd i).map (shiftS (fb p c odd i))
theorem SF.getV_ex (h : SF p c core odd) {i : Int} (e : Ex p c core odd i) : getV p c core odd i = (gT p c core odd i, 0) := by
  unfold getV
  rw [if_pos e.r, if_neg e.n]
  unfold moveS
  have e1 := e.lo
  have e2 := e.hi
  rw [if_pos (((h.fs_SL i).moved_iff e.n).2 ⟨e1, e2⟩)]
  rfl
theorem SF.getV_no (h : SF p c core odd) {i : Int} (hn : fs c core odd i ≠ []) (e : ¬ Ex p c core odd i) : getV p c core odd i = ([], 20) := by
  unfold getV
  by_cases hr : inR i
  · rw [if_pos hr, if_neg hn]
    unfold moveS
    rw [if_neg]
    intro ha
    have := ((h.fs_SL i).moved_iff hn).1 ha
    exact e ⟨hr, hn, this.1, this.2⟩
  · rw [if_neg hr]
theorem SF.getV_ok (h : SF p c core odd) {i : Int} (hr : inR i) (hn : fs c core odd i ≠ []) (e : (getV p c core odd i).2 = 0) : Ex p c core odd i := by
  refine Classical.byContradiction fun hx => ?_
  rw [h.getV_no hn hx] at e; cases e
theorem gT_fst {i : Int} (hn : fs c core odd i ≠ []) : gT p c core odd i ≠ [] ∧ fstT (gT p c core odd i) = gLo p c core odd i ∧ lstT (gT p c core odd i) = gHi p c core odd i :=
  ⟨by unfold gT; simpa using hn, fstT_shift _ _ hn, lstT_shift _ _ hn⟩
theorem size_ev (hl : core.length ≤ 6000 ∧ odd.length ≤ 6000) : ∃ n, Ev (fun k => gran_Size.f k p c core odd) n := by
  have k1 : ∀ (d : Nat) (n : Nat) (x : Int), odd.length - n = d → n ≤ odd.length → odd.length ≤ 4611686018427387903 → ∃ r, Ev (fun k => gran_Size.l1 k x odd (odd.length : Int) (n : Int)) r := by
    intro d
    induction d with
    | zero =>
      intro n x hd hn hl
      exact ⟨x, Ev.step (f := fun _ => some x) (fun k => by rw [gran_Size.l1, if_neg (by omega)]) (Ev.now _)⟩
    | succ d ih =>
      intro n x hd hn hl
      have hlt : n < odd.length := by omega
      obtain ⟨r, r1⟩ := ih (n + 1) (wrap64 (x + ((odd[n].f1).length : Int))) (by omega) (by omega) hl
      have hw : wrap64 ((n : Int) + 1) = ((n + 1 : Nat) : Int) := by rw [wrap_ok (by omega) (by omega)]; simp
      exact ⟨r, Ev.step (fun k => by rw [gran_Size.l1, if_pos (by omega), if_pos (by omega), if_pos (by omega), rdG odd n hlt, hw]) r1⟩
  have k0 : ∀ (d : Nat) (n : Nat) (x : Int), core.length - n = d → n ≤ core.length → core.length ≤ 4611686018427387903 → odd.length ≤ 4611686018427387903 → ∃ r, Ev (fun k => gran_Size.l0 k x core (core.length : Int) (n : Int) p c core odd) r := by
    intro d
    induction d with
    | zero =>
      intro n x hd hn hl hlo
      obtain ⟨r, r1⟩ := k1 _ 0 x rfl (by omega) hlo
      exact ⟨r, Ev.step (fun k => by rw [gran_Size.l0, if_neg (by omega)]; rfl) r1⟩
    | succ d ih =>
      intro n x hd hn hl hlo
      have hlt : n < core.length := by omega
      obtain ⟨r, r1⟩ := ih (n + 1) (wrap64 (x + ((core[n]).length : Int))) (by omega) (by omega) hl hlo
      have hw : wrap64 ((n : Int) + 1) = ((n + 1 : Nat) : Int) := by rw [wrap_ok (by omega) (by omega)]; simp
      exact ⟨r, Ev.step (fun k => by rw [gran_Size.l0, if_pos (by omega), if_pos (by omega), if_pos (by omega), rdL core n hlt, hw]) r1⟩
  obtain ⟨r, r1⟩ := k0 _ 0 0 rfl (by omega) (by omega) (by omega)
  exact ⟨r, r1⟩

theorem gright_ev (m : MF core odd) (hl : core.length ≤ 6000) (hlo : odd.length ≤ 6000) : ∃ e, Ev (fun k => gran_Right.f k p c core odd) e ∧ (e = 0 → FOK p c core odd) := by
  obtain ⟨n, n1⟩ := size_ev (p := p) (c := c) (core := core) (odd := odd) ⟨hl, hlo⟩
  obtain ⟨sh, sh1, sh2⟩ := shape_ev (p := p) (c := c) m hl hlo
  have start : ∀ {e : Int}, Ev (fun k => gran_Right.j0 k (decide (n > 60000)) p c core odd) e → Ev (fun k => gran_Right.f k p c core odd) e := by
    intro e he
    unfold gran_Right.f
    refine Ev.congr (fun k => by rw [if_neg (by omega), if_neg (by omega)]) ?_
    exact Ev.bind n1 he
  by_cases hn : n > 60000
  · refine ⟨3, start ?_, fun e => by omega⟩
    rw [decide_eq_true hn]
    exact Ev.step (f := fun _ => some 3) (fun k => by rw [gran_Right.j0, if_pos rfl]) (Ev.now _)
  rw [decide_eq_false hn] at start
  have bad : Ev (fun k => gran_Right.j1 k true p c core odd) 50 := Ev.step (f := fun _ => some 50) (fun k => by rw [gran_Right.j1, if_pos rfl]) (Ev.now _)
  by_cases hs : sh = true
  · have hSF := sh2 hs
    obtain ⟨tu, tu1, tu2⟩ := turns_ev hSF
    have st2 : ∀ {e : Int}, Ev (fun k => gran_Right.j1 k (!tu) p c core odd) e → Ev (fun k => gran_Right.f k p c core odd) e := by
      intro e he
      refine start ?_
      refine Ev.step (fun k => by rw [gran_Right.j0, if_neg (by simp)]) ?_
      refine Ev.bind sh1 ?_
      refine Ev.congr (fun k => by rw [if_pos hs]) ?_
      exact Ev.bind tu1 he
    by_cases ht : tu = true
    · have hTF := tu2 ht
      have loop : ∀ (d n : Nat), odd.length - n = d → n ≤ odd.length → (∀ j (hj : j < odd.length), j < n → ((getV p c core odd odd[j].f0).2 = 0 ∧
          (∀ k, odd[j].f0 < k → inR k → fs c core odd k ≠ [] → gap c core odd odd[j].f0 k → (getV p c core odd k).2 = 0 ∧ aheadS (getV p c core odd odd[j].f0).1 (getV p c core odd k).1 = true) ∧
          (∀ k, k < odd[j].f0 → inR k → fs c core odd k ≠ [] → gap c core odd k odd[j].f0 → (getV p c core odd k).2 = 0 ∧ aheadS (getV p c core odd k).1 (getV p c core odd odd[j].f0).1 = true))) →
          ∃ e, Ev (fun k => gran_Right.l0 k odd (odd.length : Int) (n : Int) p c core odd) e ∧ (e = 0 → FOK p c core odd) := by
        intro d
        induction d with
        | zero =>
          intro n hd hnn h1
          refine ⟨0, Ev.step (f := fun _ => some 0) (fun k => by rw [gran_Right.l0, if_neg (by omega)]) (Ev.now _), fun _ => FOK.of hSF hTF ⟨?_, ?_⟩⟩
          · intro g hg hgn k hk rk nk gk
            obtain ⟨j, hj, rfl⟩ := List.getElem_of_mem hg
            obtain ⟨a1, a2, a3⟩ := h1 j hj (by omega)
            obtain ⟨b1, b2⟩ := a2 k hk rk nk gk
            have hn0 : fs c core odd odd[j].f0 ≠ [] := by rw [odd_fs hSF hj]; exact hgn
            have e1 := hSF.getV_ok (hSF.hidx _ (List.getElem_mem hj)) hn0 a1
            have e2 := hSF.getV_ok rk nk b1
            rw [hSF.getV_ex e1, hSF.getV_ex e2, ahead_iff] at b2
            have g1 := gT_fst (p := p) hn0
            have g2 := gT_fst (p := p) nk
            have := b2 g1.1 g2.1
            rw [g1.2.2, g2.2.1] at this
            exact this
          · intro g hg hgn k hk rk nk gk
            obtain ⟨j, hj, rfl⟩ := List.getElem_of_mem hg
            obtain ⟨a1, a2, a3⟩ := h1 j hj (by omega)
            obtain ⟨b1, b2⟩ := a3 k hk rk nk gk
            have hn0 : fs c core odd odd[j].f0 ≠ [] := by rw [odd_fs hSF hj]; exact hgn
            have e1 := hSF.getV_ok (hSF.hidx _ (List.getElem_mem hj)) hn0 a1
            have e2 := hSF.getV_ok rk nk b1
            rw [hSF.getV_ex e1, hSF.getV_ex e2, ahead_iff] at b2
            have g1 := gT_fst (p := p) hn0
            have g2 := gT_fst (p := p) nk
            have := b2 g2.1 g1.1
            rw [g2.2.2, g1.2.1] at this
            exact this
        | succ d ih =>
          intro n hd hnn h1
          have hlt : n < odd.length := by omega
          obtain ⟨b, b1, b2⟩ := beside_ev hSF odd[n].f0 (hSF.hidx _ (List.getElem_mem hlt))
          have hw : wrap64 ((n : Int) + 1) = ((n + 1 : Nat) : Int) := by rw [wrap_ok (by omega) (by omega)]; simp
          have st3 : ∀ {e : Int}, Ev (fun k => if b = true then gran_Right.l0 k odd (odd.length : Int) ((n + 1 : Nat) : Int) p c core odd else some 50) e → Ev (fun k => gran_Right.l0 k odd (odd.length : Int) (n : Int) p c core odd) e := by
            intro e he
            refine Ev.step (fun k => by rw [gran_Right.l0, if_pos (by omega), if_pos (by omega), if_pos (by omega), rdG odd n hlt, hw]) ?_
            exact Ev.bind b1 he
          by_cases hb : b = true
          · obtain ⟨e, e1, e2⟩ := ih (n + 1) (by omega) (by omega) (fun j hj hjn => by
              rcases Nat.lt_or_ge j n with q | q
              · exact h1 j hj q
              · have : j = n := by omega
                subst this; exact b2 hb)
            exact ⟨e, st3 (Ev.congr (fun k => by rw [if_pos hb]) e1), e2⟩
          · exact ⟨50, st3 (Ev.congr (fun k => by rw [if_neg hb]) (Ev.now _)), fun e => by omega⟩
      obtain ⟨e, e1, e2⟩ := loop _ 0 rfl (by omega) (fun j hj hjn => by omega)
      refine ⟨e, st2 ?_, e2⟩
      rw [ht]
      exact Ev.step (fun k => by rw [gran_Right.j1, if_neg (by simp)]; rfl) e1
    · refine ⟨50, st2 ?_, fun e => by omega⟩
      have : (!tu) = true := by simpa using ht
      rw [this]; exact bad
  · refine ⟨50, start ?_, fun e => by omega⟩
    refine Ev.step (fun k => by rw [gran_Right.j0, if_neg (by simp)]) ?_
    refine Ev.bind sh1 ?_
    exact Ev.congr (fun k => by rw [if_neg hs]) bad
theorem right7_ev (m : MF core odd) : ∃ b, Ev (fun k => epactlaw07_right.f k p c core odd) b ∧ (b = true → FOK p c core odd ∧ core.length ≤ 12 ∧ odd.length ≤ 8) := by
  unfold epactlaw07_right.f
  by_cases hl : (core.length : Int) ≤ 12
  · by_cases hlo : (odd.length : Int) ≤ 8
    · obtain ⟨n, n1⟩ := size_ev (p := p) (c := c) (core := core) (odd := odd) ⟨by omega, by omega⟩
      obtain ⟨e, e1, e2⟩ := gright_ev (p := p) (c := c) m (by omega) (by omega)
      have hs : Ev (fun k => epactlaw05_Small.f k p c core odd) (decide (n ≤ 60)) := by
        unfold epactlaw05_Small.f
        refine Ev.congr (fun k => by rw [if_pos hl, if_pos hlo]) ?_
        exact Ev.bind n1 (Ev.now _)
      by_cases hn : n ≤ 60
      · rw [decide_eq_true hn] at hs
        refine ⟨e == 0, ?_, fun he => ⟨e2 (by simpa using he), by omega, by omega⟩⟩
        refine Ev.bind hs ?_
        refine Ev.congr (fun k => by rw [if_pos rfl]) ?_
        exact Ev.bind e1 (Ev.now _)
      · rw [decide_eq_false hn] at hs
        refine ⟨false, ?_, fun he => by cases he⟩
        refine Ev.bind hs ?_
        exact Ev.congr (fun k => by rw [if_neg (by simp)]) (Ev.now _)
    · refine ⟨false, ?_, fun he => by cases he⟩
      refine Ev.bind (a := false) (f := fun k t => if t = true then (gran_Right.f k p c core odd).bind fun t306 => some (t306 == 0) else some false) ?_ (Ev.congr (fun k => by rw [if_neg (by simp)]) (Ev.now _))
      unfold epactlaw05_Small.f
      exact Ev.congr (fun k => by rw [if_pos hl, if_neg hlo]) (Ev.now _)
  · refine ⟨false, ?_, fun he => by cases he⟩
    refine Ev.bind (a := false) (f := fun k t => if t = true then (gran_Right.f k p c core odd).bind fun t306 => some (t306 == 0) else some false) ?_ (Ev.congr (fun k => by rw [if_neg (by simp)]) (Ev.now _))
    unfold epactlaw05_Small.f
    exact Ev.congr (fun k => by rw [if_neg hl]) (Ev.now _)
end Go.Proofs.Ytmbmalkpmanaaaa.P

namespace Go.Proofs.Ytmbmalkpmanaaaa.P
set_option linter.unusedVariables false
set_option linter.unusedSimpArgs false
open Go.RowKit Go.Proofs.YtmbmalkpmanaaaaW.PrintWords Go.Proofs.YtmbmalkpmanaaaaW.PrintMore

variable {p c : Int} {core : List (List Sp)} {odd : List Gn}
theorem div_bd (a p A : Int) (hp : 0 < p) (h1 : -A ≤ a) (h2 : a ≤ A) (hA : 0 ≤ A) : -A ≤ a / p ∧ a / p ≤ A := by
  have h3 : A * 1 ≤ A * p := Int.mul_le_mul_of_nonneg_left (by omega) hA
  rw [Int.mul_one] at h3
  exact ⟨Int.le_ediv_of_mul_le hp (by rw [Int.neg_mul]; omega), Int.ediv_le_of_le_mul hp (by omega)⟩
theorem mul_bd2 (q c A C : Int) (h1 : -A ≤ q) (h2 : q ≤ A) (hc : 0 ≤ c) (hC : c ≤ C) (hA : 0 ≤ A) : -(A * C) ≤ q * c ∧ q * c ≤ A * C := by
  have a1 : q * c ≤ A * c := Int.mul_le_mul_of_nonneg_right h2 hc
  have a2 : (-A) * c ≤ q * c := Int.mul_le_mul_of_nonneg_right h1 hc
  have a3 : A * c ≤ A * C := Int.mul_le_mul_of_nonneg_left hC hA
  rw [Int.neg_mul] at a2
  omega
theorem qr_at (q c r : Int) (h0 : 0 ≤ r) (h1 : r < c) : (q * c + r) / c = q ∧ (q * c + r) % c = r := by
  have hc : c ≠ 0 := by omega
  constructor
  · rw [Int.add_comm, Int.add_mul_ediv_right _ _ hc, Int.ediv_eq_zero_of_lt h0 h1]; omega
  · rw [Int.add_comm, Int.add_mul_emod_self_right, Int.emod_eq_of_lt h0 h1]
theorem coreAt_qr (h : SF p c core odd) (q : Int) (j : Nat) (hj : j < core.length) : coreAt c core (q * c + j) = core[j] ∧ (q * c + j) / c = q := by
  have h0 := h.hc
  obtain ⟨e1, e2⟩ := qr_at q c j (by omega) (by omega)
  refine ⟨?_, e1⟩
  unfold coreAt
  rw [if_neg (by omega), e2, List.getD_eq_getElem?_getD, Int.toNat_natCast, List.getElem?_eq_getElem hj]; rfl
theorem coreAt_c (h : SF p c core odd) {m : Int} (hm : coreAt c core m ≠ []) : 0 < c ∧ 0 < p ∧ ∃ j : Nat, ∃ hj : j < core.length, m % c = (j : Int) ∧ coreAt c core m = core[j] := by
  have hc : c ≠ 0 := by intro e; apply hm; unfold coreAt; rw [if_pos e]
  have h0 := h.hc
  have h1 : 0 ≤ m % c := Int.emod_nonneg _ hc
  have h2 : m % c < c := Int.emod_lt_of_pos _ (by omega)
  have h3 : (m % c).toNat < core.length := by omega
  have hp : p ≠ 0 := fun e => hc (h.hz.2 e)
  have hp0 := h.hp0
  refine ⟨by omega, by omega, (m % c).toNat, h3, by omega, ?_⟩
  unfold coreAt
  rw [if_neg hc, List.getD_eq_getElem?_getD, List.getElem?_eq_getElem h3]; rfl

def upI (T p c : Int) (l : List Sp) (j : Int) : Int := -((lstT l - T) / p) * c + j
theorem up_iff (h : SF p c core odd) (T : Int) {m : Int} (hm : coreAt c core m ≠ []) : T ≤ gHi p c core [] m ↔ upI T p c (coreAt c core m) (m % c) ≤ m := by
  obtain ⟨hc, hp, _⟩ := coreAt_c h hm
  have e := Int.mul_ediv_add_emod m c
  have e1 : gHi p c core [] m = lstT (coreAt c core m) + m / c * p := rfl
  rw [e1]
  unfold upI
  generalize lstT (coreAt c core m) = L
  generalize m / c = q at *
  generalize m % c = r at *
  subst e
  have k1 : -q ≤ (L - T) / p ↔ -q * p ≤ L - T := Int.le_ediv_iff_mul_le hp
  generalize (L - T) / p = z at *
  have k2 : -z * c ≤ q * c ↔ -z ≤ q := by
    constructor
    · intro g; exact Int.le_of_mul_le_mul_right g hc
    · intro g; exact Int.mul_le_mul_of_nonneg_right g (by omega)
  have k3 : -q * p = -(q * p) := Int.neg_mul _ _
  have k4 : c * q = q * c := Int.mul_comm _ _
  rw [k4]
  rw [k3] at k1
  constructor
  · intro g
    have := k1.2 (by omega)
    have := k2.2 (by omega)
    omega
  · intro g
    have := k2.1 (by omega)
    have := k1.1 (by omega)
    omega
theorem upI_bd (h : SF p c core odd) (T : Int) (hT : -1099511627777 ≤ T ∧ T ≤ 1099511627777) {j : Nat} (hj : j < core.length) (hn : core[j] ≠ []) :
    -2199023255554 ≤ -((lstT core[j] - T) / p) ∧ -((lstT core[j] - T) / p) ≤ 2199023255554 ∧ -13194139533330000 ≤ -((lstT core[j] - T) / p) * c ∧ -((lstT core[j] - T) / p) * c ≤ 13194139533330000 := by
  have h0 := h.hc
  have hl := h.hl
  have hp : p ≠ 0 := fun e => by have := h.hz.2 e; omega
  have hp0 := h.hp0
  have := (h.hcore _ (List.getElem_mem hj)).ends hn
  obtain ⟨a, b⟩ := div_bd (lstT core[j] - T) p 2199023255554 (by omega) (by omega) (by omega) (by omega)
  generalize (lstT core[j] - T) / p = z at *
  obtain ⟨a1, b1⟩ := mul_bd2 (-z) c 2199023255554 6000 (by omega) (by omega) (by omega) (by omega) (by omega)
  exact ⟨by omega, by omega, by omega, by omega⟩
theorem up1_ev (x b T p : Int) (hT : -1099511627777 ≤ T ∧ T ≤ 1099511627777) (hb : -1099511627776 ≤ b ∧ b ≤ 1099511627776) (hp : 0 < p ∧ p ≤ 1099511627776) : Ev (fun k => find_up_1.f k x b T p) (-((b - T) / p)) := by
  unfold find_up_1.f
  obtain ⟨a1, a2⟩ := div_bd (b - T) p 2199023255554 (by omega) (by omega) (by omega) (by omega)
  rw [wrap_ok (n := b - T) (by omega) (by omega)]
  refine Ev.bind (floor_ev (b - T) p (by omega) (by omega)) ?_
  rw [wrap_ok (by omega) (by omega)]
  exact Ev.now _

structure PlU (p c : Int) (core : List (List Sp)) (T : Int) (r : Int × Bool) : Prop where
  y : r.2 = true → coreAt c core r.1 ≠ [] ∧ T ≤ gHi p c core [] r.1 ∧ ∀ m, coreAt c core m ≠ [] → T ≤ gHi p c core [] m → r.1 ≤ m
  n : r.2 = false → ∀ m, coreAt c core m = []
  lo : -4611686018427387904 ≤ r.1
  hi : r.1 ≤ 4611686018427387904
theorem place_up_ev (h : SF p c core odd) (T : Int) (hT : -1099511627777 ≤ T ∧ T ≤ 1099511627777) : ∃ r, Ev (fun k => find_place_up.f k p c core odd T) r ∧ PlU p c core T r := by
  have hc := h.hc
  have hl := h.hl
  have loop : ∀ (d n : Nat) (a : Int) (ok : Bool), core.length - n = d → n ≤ core.length →
      (ok = true → ∃ j, ∃ hj : j < core.length, core[j] ≠ [] ∧ a = upI T p c core[j] j) → (ok = true → ∀ j (hj : j < core.length), j < n → core[j] ≠ [] → a ≤ upI T p c core[j] j) → (ok = false → a = 0 ∧ ∀ j (hj : j < core.length), j < n → core[j] = []) →
      ∃ r, Ev (fun k => find_place_up.l0 k T a ok core (core.length : Int) (n : Int) p c core odd 1) r ∧ PlU p c core T r := by
    intro d
    induction d with
    | zero =>
      intro n a ok hd hn i1 i2 i3
      refine ⟨(a, ok), Ev.step (f := fun _ => some (a, ok)) (fun k => by rw [find_place_up.l0, if_neg (by omega)]) (Ev.now _), ?_⟩
      cases ok with
      | true =>
        obtain ⟨j, hj, hne, rfl⟩ := i1 rfl
        obtain ⟨e1, e2⟩ := coreAt_qr h (-((lstT core[j] - T) / p)) j hj
        have hne' : coreAt c core (upI T p c core[j] j) ≠ [] := by unfold upI; rw [e1]; exact hne
        obtain ⟨b1, b2, b3, b4⟩ := upI_bd h T hT hj hne
        have e3 : upI T p c core[j] j % c = j := (qr_at _ c j (by omega) (by omega)).2
        have e4 : coreAt c core (upI T p c core[j] j) = core[j] := e1
        refine ⟨fun _ => ⟨hne', (up_iff h T hne').2 ?_, fun m hm hTm => ?_⟩, (fun e => by cases e), (by simp only [upI]; omega), (by simp only [upI]; omega)⟩
        · simp only [e3, e4]; exact Int.le_refl _
        · obtain ⟨_, _, i, hi, f1, f2⟩ := coreAt_c h hm
          have g1 := (up_iff h T hm).1 hTm
          rw [f1, f2] at g1
          have := i2 rfl i hi (by omega) (by rw [← f2]; exact hm)
          simp only; omega
      | false =>
        obtain ⟨rfl, hz⟩ := i3 rfl
        refine ⟨(fun e => by cases e), (fun _ m => Classical.byContradiction fun hm => ?_), by simp, by simp⟩
        obtain ⟨_, _, i, hi, f1, f2⟩ := coreAt_c h hm
        exact hm (by rw [f2]; exact hz i hi (by omega))
    | succ d ih =>
      intro n a ok hd hn i1 i2 i3
      have hlt : n < core.length := by omega
      have hw : wrap64 ((n : Int) + 1) = ((n + 1 : Nat) : Int) := by rw [wrap_ok (by omega) (by omega)]; simp
      have hSL := h.hcore _ (List.getElem_mem hlt)
      have hlen : core[n].length ≤ 4611686018427387904 := by have := hSL.len40; omega
      by_cases hz : core[n] = []
      · obtain ⟨r, r1, r2⟩ := ih (n + 1) a ok (by omega) (by omega) i1 (fun e j hj hjn hne => by
          rcases Nat.lt_or_ge j n with g | g
          · exact i2 e j hj g hne
          · have : j = n := by omega
            subst this; exact absurd hz hne) (fun e => ⟨(i3 e).1, fun j hj hjn => by
          rcases Nat.lt_or_ge j n with g | g
          · exact (i3 e).2 j hj g
          · have : j = n := by omega
            subst this; exact hz⟩)
        refine ⟨r, Ev.step (fun k => ?_) r1, r2⟩
        rw [find_place_up.l0, if_pos (by omega), if_pos (by omega), if_pos (by omega), rdL core n hlt, hull_f _ hlen, hull_iff, if_pos hz, Option.bind_some, if_neg (by simp), hw]
      · obtain ⟨b1, b2, b3, b4⟩ := upI_bd h T hT hlt hz
        have hends := hSL.ends hz
        have hp : p ≠ 0 := fun e => by have := h.hz.2 e; omega
        have hp0 := h.hp0
        have hp1 := h.hp1
        have ev1 := up1_ev (fstT core[n]) (lstT core[n]) T p hT (by omega) (by omega)
        have eu : -((lstT core[n] - T) / p) * c + n = upI T p c core[n] n := rfl
        generalize hz1 : -((lstT core[n] - T) / p) = z at *
        have w1 : wrap64 (z * c) = z * c := wrap_ok (by omega) (by omega)
        have w2 : wrap64 (z * c + n) = upI T p c core[n] n := by rw [← eu]; exact wrap_ok (by omega) (by omega)
        have hub : -13194139533336000 ≤ upI T p c core[n] n ∧ upI T p c core[n] n ≤ 13194139533336000 := by rw [← eu]; omega
        have take : (ok = true → upI T p c core[n] n ≤ a) → ∃ r, Ev (fun k => find_place_up.l0 k T (upI T p c core[n] n) true core (core.length : Int) ((n + 1 : Nat) : Int) p c core odd 1) r ∧ PlU p c core T r := fun hle => by
          refine ih (n + 1) _ true (by omega) (by omega) (fun _ => ⟨n, hlt, hz, rfl⟩) (fun _ j hj hjn hne => ?_) (fun e => by cases e)
          rcases Nat.lt_or_ge j n with g | g
          · cases ok with
            | true => have := i2 rfl j hj g hne; have := hle rfl; omega
            | false => exact absurd ((i3 rfl).2 j hj g) hne
          · have : j = n := by omega
            subst this; exact Int.le_refl _
        have start : ∀ {r : Int × Bool}, Ev (fun k => if ok = true then (if (wrap64 ((wrap64 ((wrap64 ((wrap64 (z * c)) + (n : Int))) - a)) * 1)) < 0 then (find_place_up.l0 k T (wrap64 ((wrap64 (z * c)) + (n : Int))) true core (core.length : Int) (wrap64 ((n : Int) + 1)) p c core odd 1) else (find_place_up.l0 k T a ok core (core.length : Int) (wrap64 ((n : Int) + 1)) p c core odd 1)) else (find_place_up.l0 k T (wrap64 ((wrap64 (z * c)) + (n : Int))) true core (core.length : Int) (wrap64 ((n : Int) + 1)) p c core odd 1)) r → Ev (fun k => find_place_up.l0 k T a ok core (core.length : Int) (n : Int) p c core odd 1) r := fun he => by
          refine Ev.step (fun k => ?_) (Ev.bind (f := fun k t => if ok = true then (if (wrap64 ((wrap64 ((wrap64 ((wrap64 (t * c)) + (n : Int))) - a)) * 1)) < 0 then (find_place_up.l0 k T (wrap64 ((wrap64 (t * c)) + (n : Int))) true core (core.length : Int) (wrap64 ((n : Int) + 1)) p c core odd 1) else (find_place_up.l0 k T a ok core (core.length : Int) (wrap64 ((n : Int) + 1)) p c core odd 1)) else (find_place_up.l0 k T (wrap64 ((wrap64 (t * c)) + (n : Int))) true core (core.length : Int) (wrap64 ((n : Int) + 1)) p c core odd 1)) ev1 he)
          rw [find_place_up.l0, if_pos (by omega), if_pos (by omega), if_pos (by omega), rdL core n hlt, hull_f _ hlen, hull_iff, if_neg hz, Option.bind_some, if_pos rfl]
        rw [w1, w2, hw] at start
        by_cases hok : ok = true
        · obtain ⟨j, hj, hne, ea⟩ := i1 hok
          have hab : -13194139533336000 ≤ a ∧ a ≤ 13194139533336000 := by
            obtain ⟨c1, c2, c3, c4⟩ := upI_bd h T hT hj hne
            rw [ea]; unfold upI; omega
          have w3 : wrap64 (wrap64 (upI T p c core[n] n - a) * 1) = upI T p c core[n] n - a := by rw [Int.mul_one, wrap_ok (n := upI T p c core[n] n - a) (by omega) (by omega), wrap_ok (by omega) (by omega)]
          by_cases hlt2 : upI T p c core[n] n - a < 0
          · obtain ⟨r, r1, r2⟩ := take (fun _ => by omega)
            exact ⟨r, start (Ev.congr (fun k => by rw [if_pos hok, w3, if_pos hlt2]) r1), r2⟩
          · obtain ⟨r, r1, r2⟩ := ih (n + 1) a ok (by omega) (by omega) i1 (fun e j hj hjn hne => by
              rcases Nat.lt_or_ge j n with g | g
              · exact i2 e j hj g hne
              · have : j = n := by omega
                subst this; omega) (fun e => by rw [hok] at e; cases e)
            exact ⟨r, start (Ev.congr (fun k => by rw [if_pos hok, w3, if_neg hlt2]) r1), r2⟩
        · obtain ⟨r, r1, r2⟩ := take (fun e => absurd e hok)
          exact ⟨r, start (Ev.congr (fun k => by rw [if_neg hok]) r1), r2⟩
  obtain ⟨r, r1, r2⟩ := loop _ 0 0 false rfl (by omega) (fun e => by cases e) (fun e => by cases e) (fun _ => ⟨rfl, fun j hj hjn => by omega⟩)
  exact ⟨r, r1, r2⟩
end Go.Proofs.Ytmbmalkpmanaaaa.P

namespace Go.Proofs.Ytmbmalkpmanaaaa.P
set_option linter.unusedVariables false
set_option linter.unusedSimpArgs false
open Go.RowKit Go.Proofs.YtmbmalkpmanaaaaW.PrintWords Go.Proofs.YtmbmalkpmanaaaaW.PrintMore

variable {p c : Int} {core : List (List Sp)} {odd : List Gn}
theorem fits_in {i : Int} (h : -9223372036854775808 ≤ i) (h2 : i ≤ 9223372036854775807) : fitsB i = true := by unfold fitsB; simp; omega
theorem cnt_odd (i : Int) : cntI (oddsI odd) i = 0 ↔ oddOf odd i = none := by
  rw [cntI_zero, oddOf_none]
  unfold oddsI
  simp
theorem SF.guard (h : SF p c core odd) : odd.length < 1000000000 ∧ odd.all (fun g => fitsB g.f0) = true := by
  have := h.hlo
  refine ⟨by omega, ?_⟩
  rw [List.all_eq_true]
  intro g hg
  have := h.hidx g hg
  unfold inR at this
  exact fits_in (by omega) (by omega)
theorem c_ord (h : SF p c core odd) (t : TF p core) {i k : Int} (hik : i < k) (hi : coreAt c core i ≠ []) (hk : coreAt c core k ≠ []) : gHi p c core [] i < gLo p c core [] k := core_ord h t hik hi hk
theorem c_lh (h : SF p c core odd) {i : Int} (hi : coreAt c core i ≠ []) : gLo p c core [] i ≤ gHi p c core [] i := h.nil_odd.lo_le_hi hi

structure PnU (p c : Int) (core : List (List Sp)) (odd : List Gn) (T : Int) (r : Int × Bool) : Prop where
  y : r.2 = true → Ex p c core [] r.1 ∧ oddOf odd r.1 = none ∧ T ≤ gHi p c core [] r.1 ∧ ∀ m, Ex p c core [] m → oddOf odd m = none → T ≤ gHi p c core [] m → r.1 ≤ m
  n : r.2 = false → r.1 = 0 ∧ ∀ m, Ex p c core [] m → oddOf odd m = none → ¬ T ≤ gHi p c core [] m
theorem plain_up_loop (h : SF p c core odd) (t : TF p core) (T : Int) (hT : -1099511627777 ≤ T) : ∀ (d : Nat) (i : Int) (ok : Bool) (b : Int),
    (ok = true → (1099511627777 - i).toNat ≤ d) → (ok = true → inR i ∧ coreAt c core i ≠ [] ∧ T ≤ gHi p c core [] i) →
    (∀ m, Ex p c core [] m → oddOf odd m = none → T ≤ gHi p c core [] m → ok = true ∧ i ≤ m) → 0 ≤ b → b ≤ 2 →
    (1 ≤ b → ok = true → ∀ m, i ≤ m → coreAt c core m ≠ [] → -1099511627776 ≤ gLo p c core [] m) →
    (2 ≤ b → ok = true → ∀ m, i ≤ m → coreAt c core m ≠ [] → 1099511627776 < gLo p c core [] m) →
    ∃ r, Ev (fun k => find_plain_up.l1 k i ok b p c core odd) r ∧ PnU p c core odd T r := by
  intro d
  induction d with
  | zero =>
    intro i ok b hd hA hB h0 h2 hC hD
    have hok : ok = false := by
      cases ok with
      | true => have := hA rfl; have := this.1; unfold inR at this; have := hd rfl; omega
      | false => rfl
    subst hok
    exact ⟨(0, false), Ev.step (f := fun _ => some (0, false)) (fun k => by rw [find_plain_up.l1, if_neg (by simp)]) (Ev.now _), ⟨(fun e => by cases e), fun _ => ⟨rfl, fun m m1 m2 m3 => by cases (hB m m1 m2 m3).1⟩⟩⟩
  | succ d ih =>
    intro i ok b hd hA hB h0 h2 hC hD
    cases ok with
    | false => exact ⟨(0, false), Ev.step (f := fun _ => some (0, false)) (fun k => by rw [find_plain_up.l1, if_neg (by simp)]) (Ev.now _), ⟨(fun e => by cases e), fun _ => ⟨rfl, fun m m1 m2 m3 => by cases (hB m m1 m2 m3).1⟩⟩⟩
    | true =>
      obtain ⟨a1, a2, a3⟩ := hA rfl
      have hd := hd rfl
      by_cases hb : b < 2
      · obtain ⟨n, n1, n2⟩ := behind_ev h.nil_odd i (by unfold inR at a1; omega)
        have gev := get_ev h.nil_odd i
        have next : ∀ (b' : Int), 0 ≤ b' → b' ≤ 2 → (∀ m, Ex p c core [] m → oddOf odd m = none → m ≠ i) →
            (1 ≤ b' → ∀ m, i < m → coreAt c core m ≠ [] → -1099511627776 ≤ gLo p c core [] m) → (2 ≤ b' → ∀ m, i < m → coreAt c core m ≠ [] → 1099511627776 < gLo p c core [] m) →
            ∃ r, Ev (fun k => find_plain_up.l1 k n.1 n.2 b' p c core odd) r ∧ PnU p c core odd T r := by
          intro b' g0 g2 gi gC gD
          unfold inR at a1
          refine ih n.1 n.2 b' (fun e => ?_) (fun e => ?_) (fun m m1 m2 m3 => ?_) g0 g2 (fun e1 e2 m hm => ?_) (fun e1 e2 m hm => ?_)
          · have := (n2.1 e).1; omega
          · obtain ⟨q1, q2, q3, q4⟩ := n2.1 e
            have := c_ord h t (i := i) (k := n.1) (by omega) a2 q3
            have := c_lh h q3
            exact ⟨q2, q3, by omega⟩
          · have g3 := (hB m m1 m2 m3).2
            have g4 := gi m m1 m2
            have g5 := m1.r
            cases hn : n.2 with
            | true =>
              refine ⟨rfl, Classical.byContradiction fun hx => ?_⟩
              unfold inR at g5
              exact m1.n ((n2.1 hn).2.2.2 m (by omega) (by omega))
            | false =>
              exact absurd ((n2.2 hn).2 m (by unfold inR at g5; omega) g5) m1.n
          · have := (n2.1 e2).1; exact gC e1 m (by omega)
          · have := (n2.1 e2).1; exact gD e1 m (by omega)
        by_cases hx : Ex p c core [] i
        · rw [h.nil_odd.getV_ex hx] at gev
          by_cases ho : oddOf odd i = none
          · refine ⟨(i, true), Ev.step (fun k => by rw [find_plain_up.l1, if_pos rfl, if_pos hb]) (Ev.bind gev (Ev.congr (fun k => by rw [if_pos rfl, if_pos (fits_in (by unfold inR at a1; omega) (by unfold inR at a1; omega)), if_pos ((cnt_odd i).2 ho)]) (Ev.now _))), ⟨fun _ => ⟨hx, ho, a3, fun m m1 m2 m3 => (hB m m1 m2 m3).2⟩, fun e => by cases e⟩⟩
          · obtain ⟨r, r1, r2⟩ := next b h0 h2 (fun m _ m2 e => ho (by rw [← e]; exact m2)) (fun e m hm => hC e rfl m (by omega)) (fun e m hm => hD e rfl m (by omega))
            refine ⟨r, Ev.step (fun k => by rw [find_plain_up.l1, if_pos rfl, if_pos hb]) (Ev.bind gev (Ev.congr (fun k => by rw [if_pos rfl, if_pos (fits_in (by unfold inR at a1; omega) (by unfold inR at a1; omega)), if_neg (fun e => ho ((cnt_odd i).1 e))]) (Ev.bind n1 r1))), r2⟩
        · rw [h.nil_odd.getV_no a2 hx] at gev
          have hw : wrap64 (b + 1) = b + 1 := wrap_ok (by omega) (by omega)
          obtain ⟨r, r1, r2⟩ := next (b + 1) (by omega) (by omega) (fun m m1 _ e => hx (by rw [← e]; exact m1)) (fun _ m hm hmn => by
              have := c_ord h t hm a2 hmn
              omega) (fun e m hm hmn => by
              have q1 := c_ord h t hm a2 hmn
              have q2 := hC (by omega) rfl i (Int.le_refl _) a2
              refine Classical.byContradiction fun hq => hx ⟨a1, a2, q2, ?_⟩
              omega)
          refine ⟨r, Ev.step (fun k => by rw [find_plain_up.l1, if_pos rfl, if_pos hb]) (Ev.bind gev (Ev.congr (fun k => by rw [if_neg (by simp), hw]) (Ev.bind n1 r1))), r2⟩
      · refine ⟨(0, false), Ev.step (f := fun _ => some (0, false)) (fun k => by rw [find_plain_up.l1, if_pos rfl, if_neg hb]) (Ev.now _), ⟨(fun e => by cases e), fun _ => ⟨rfl, fun m m1 m2 m3 => ?_⟩⟩⟩
        have q1 := hD (by omega) rfl m (hB m m1 m2 m3).2 m1.n
        have q2 := c_lh h m1.n
        have := m1.hi
        omega
theorem plain_up_ev (h : SF p c core odd) (t : TF p core) (T : Int) (hT : -1099511627777 ≤ T ∧ T ≤ 1099511627777) : ∃ r, Ev (fun k => find_plain_up.f k p c core odd T) r ∧ PnU p c core odd T r := by
  obtain ⟨a, a1, a2⟩ := place_up_ev h T hT
  have start : ∀ {r : Int × Bool}, Ev (fun k => if a.2 = true then (gran_Behind.f k p c core [] (wrap64 (a.1 - 1))).bind fun n => find_plain_up.l1 k n.1 n.2 0 p c core odd else some (0, false)) r → Ev (fun k => find_plain_up.f k p c core odd T) r := fun he => by
    refine Ev.congr (fun k => by rw [find_plain_up.f, if_pos h.guard]) ?_
    exact Ev.bind a1 he
  have b1 := a2.lo
  have b2 := a2.hi
  cases ha : a.2 with
  | false => exact ⟨(0, false), start (Ev.congr (fun k => by rw [ha, if_neg (by simp)]) (Ev.now _)), ⟨(fun e => by cases e), fun _ => ⟨rfl, fun m m1 _ _ => m1.n (a2.n ha m)⟩⟩⟩
  | true =>
    obtain ⟨q1, q2, q3⟩ := a2.y ha
    have hw : wrap64 (a.1 - 1) = a.1 - 1 := wrap_ok (by omega) (by omega)
    obtain ⟨n, n1, n2⟩ := behind_ev h.nil_odd (a.1 - 1) (by omega)
    obtain ⟨r, r1, r2⟩ := plain_up_loop h t T hT.1 (1099511627777 - n.1).toNat n.1 n.2 0 (fun _ => Nat.le_refl _) (fun e => by
      obtain ⟨g1, g2, g3, g4⟩ := n2.1 e
      refine ⟨g2, g3, ?_⟩
      rcases Int.lt_trichotomy a.1 n.1 with g | g | g
      · have := c_ord h t g q1 g3
        have := c_lh h g3
        omega
      · rw [← g]; exact q2
      · omega) (fun m m1 m2 m3 => by
      have g3 := q3 m m1.n m3
      have g5 := m1.r
      cases hn : n.2 with
      | true =>
        refine ⟨rfl, Classical.byContradiction fun hx => ?_⟩
        unfold inR at g5
        exact m1.n ((n2.1 hn).2.2.2 m (by omega) (by omega))
      | false => exact absurd ((n2.2 hn).2 m (by unfold inR at g5; omega) g5) m1.n) (by omega) (by omega) (fun e => by omega) (fun e => by omega)
    exact ⟨r, start (Ev.congr (fun k => by rw [ha, if_pos rfl, hw]) (Ev.bind n1 r1)), r2⟩

theorem fs_none {m : Int} (ho : oddOf odd m = none) : fs c core odd m = coreAt c core m ∧ gLo p c core odd m = gLo p c core [] m ∧ gHi p c core odd m = gHi p c core [] m := by
  have e1 : fs c core odd m = coreAt c core m := by unfold fs; rw [ho]
  have e2 : fb p c odd m = m / c * p := by unfold fb; rw [ho]
  refine ⟨e1, ?_, ?_⟩
  · unfold gLo; rw [e1, e2]; rfl
  · unfold gHi; rw [e1, e2]; rfl
theorem ex_none {m : Int} (ho : oddOf odd m = none) : Ex p c core odd m ↔ Ex p c core [] m := by
  obtain ⟨e1, e2, e3⟩ := fs_none (p := p) (c := c) (core := core) ho
  constructor
  · intro g; exact ⟨g.r, by rw [show fs c core [] m = coreAt c core m from rfl, ← e1]; exact g.n, by rw [← e2]; exact g.lo, by rw [← e3]; exact g.hi⟩
  · intro g; exact ⟨g.r, by rw [e1]; exact g.n, by rw [e2]; exact g.lo, by rw [e3]; exact g.hi⟩
theorem odd_at (h : SF p c core odd) {j : Nat} (hj : j < odd.length) : fs c core odd odd[j].f0 = odd[j].f1 ∧ gLo p c core odd odd[j].f0 = fstT odd[j].f1 ∧ gHi p c core odd odd[j].f0 = lstT odd[j].f1 := by
  have e1 := odd_fs h hj
  have e2 : fb p c odd odd[j].f0 = 0 := by unfold fb; rw [oddOf_mem h.hup (List.getElem_mem hj)]
  refine ⟨e1, ?_, ?_⟩
  · unfold gLo; rw [e1, e2]; omega
  · unfold gHi; rw [e1, e2]; omega
theorem odd_ex (h : SF p c core odd) {j : Nat} (hj : j < odd.length) (hn : odd[j].f1 ≠ []) : Ex p c core odd odd[j].f0 := by
  obtain ⟨e1, e2, e3⟩ := odd_at h hj
  have := (h.hodd _ (List.getElem_mem hj)).ends hn
  exact ⟨h.hidx _ (List.getElem_mem hj), by rw [e1]; exact hn, by rw [e2]; omega, by rw [e3]; omega⟩
theorem odd_or {m : Int} : oddOf odd m = none ∨ ∃ j, ∃ hj : j < odd.length, odd[j].f0 = m := by
  cases ho : oddOf odd m with
  | none => exact .inl rfl
  | some l =>
    obtain ⟨g, hg, e1, e2⟩ := oddOf_some ho
    obtain ⟨j, hj, rfl⟩ := List.getElem_of_mem hg
    exact .inr ⟨j, hj, e1⟩

structure FrU (p c : Int) (core : List (List Sp)) (odd : List Gn) (T : Int) (r : Int × Bool) : Prop where
  y : r.2 = true → Ex p c core odd r.1 ∧ T ≤ gHi p c core odd r.1 ∧ ∀ m, Ex p c core odd m → T ≤ gHi p c core odd m → r.1 ≤ m
  n : r.2 = false → r.1 = 0 ∧ ∀ m, Ex p c core odd m → ¬ T ≤ gHi p c core odd m
theorem nearest_up_loop (h : SF p c core odd) (T : Int) : ∀ (d n : Nat) (a : Int) (ok : Bool), odd.length - n = d → n ≤ odd.length →
    (ok = true → Ex p c core odd a ∧ T ≤ gHi p c core odd a) → (∀ m, Ex p c core odd m → T ≤ gHi p c core odd m → (oddOf odd m = none ∨ ∃ j, ∃ hj : j < odd.length, j < n ∧ odd[j].f0 = m) → ok = true ∧ a ≤ m) → (ok = false → a = 0) →
    ∃ r, Ev (fun k => find_nearest_up.l0 k T a ok odd (odd.length : Int) (n : Int) 1) r ∧ FrU p c core odd T r := by
  have hlo := h.hlo
  intro d
  induction d with
  | zero =>
    intro n a ok hd hn i1 i2 i3
    refine ⟨(a, ok), Ev.step (f := fun _ => some (a, ok)) (fun k => by rw [find_nearest_up.l0, if_neg (by omega)]) (Ev.now _), ?_⟩
    have all : ∀ m, oddOf odd m = none ∨ ∃ j, ∃ hj : j < odd.length, j < n ∧ odd[j].f0 = m := fun m => by
      rcases odd_or (odd := odd) (m := m) with g | ⟨j, hj, g⟩
      · exact .inl g
      · exact .inr ⟨j, hj, by omega, g⟩
    cases ok with
    | true => exact ⟨fun _ => ⟨(i1 rfl).1, (i1 rfl).2, fun m m1 m2 => (i2 m m1 m2 (all m)).2⟩, fun e => by cases e⟩
    | false => exact ⟨(fun e => by cases e), fun _ => ⟨i3 rfl, fun m m1 m2 => by cases (i2 m m1 m2 (all m)).1⟩⟩
  | succ d ih =>
    intro n a ok hd hn i1 i2 i3
    have hlt : n < odd.length := by omega
    have hw : wrap64 ((n : Int) + 1) = ((n + 1 : Nat) : Int) := by rw [wrap_ok (by omega) (by omega)]; simp
    have hSL := h.hodd _ (List.getElem_mem hlt)
    have hlen : odd[n].f1.length ≤ 4611686018427387904 := by have := hSL.len40; omega
    obtain ⟨e1, e2, e3⟩ := odd_at h hlt
    have skip : (odd[n].f1 = [] ∨ ¬ T ≤ lstT odd[n].f1 ∨ ok = true ∧ a ≤ odd[n].f0) → ∃ r, Ev (fun k => find_nearest_up.l0 k T a ok odd (odd.length : Int) ((n + 1 : Nat) : Int) 1) r ∧ FrU p c core odd T r := fun hs => by
      refine ih (n + 1) a ok (by omega) (by omega) i1 (fun m m1 m2 m3 => ?_) i3
      rcases m3 with g | ⟨j, hj, g, g2⟩
      · exact i2 m m1 m2 (.inl g)
      · rcases Nat.lt_or_ge j n with g3 | g3
        · exact i2 m m1 m2 (.inr ⟨j, hj, g3, g2⟩)
        · have : j = n := by omega
          subst this
          subst g2
          rcases hs with hs | hs | hs
          · exact absurd (by rw [e1]; exact hs) m1.n
          · exact absurd (by rw [← e3]; exact m2) hs
          · exact hs
    by_cases hz : odd[n].f1 = []
    · obtain ⟨r, r1, r2⟩ := skip (.inl hz)
      refine ⟨r, Ev.step (fun k => ?_) r1, r2⟩
      rw [find_nearest_up.l0, if_pos (by omega), if_pos (by omega), if_pos (by omega), rdG odd n hlt, hull_f _ hlen, hull_iff, if_pos hz, Option.bind_some, if_neg (by simp), hw]
    · by_cases hso : T ≤ lstT odd[n].f1
      · have take : (ok = true → odd[n].f0 ≤ a) → ∃ r, Ev (fun k => find_nearest_up.l0 k T odd[n].f0 true odd (odd.length : Int) ((n + 1 : Nat) : Int) 1) r ∧ FrU p c core odd T r := fun hle => by
          refine ih (n + 1) odd[n].f0 true (by omega) (by omega) (fun _ => ⟨odd_ex h hlt hz, by rw [e3]; exact hso⟩) (fun m m1 m2 m3 => ⟨rfl, ?_⟩) (fun e => by cases e)
          rcases m3 with g | ⟨j, hj, g, g2⟩
          · obtain ⟨q1, q2⟩ := i2 m m1 m2 (.inl g); have := hle q1; omega
          · rcases Nat.lt_or_ge j n with g3 | g3
            · obtain ⟨q1, q2⟩ := i2 m m1 m2 (.inr ⟨j, hj, g3, g2⟩); have := hle q1; omega
            · have : j = n := by omega
              subst this; subst g2; exact Int.le_refl _
        have hd : decide (lstT odd[n].f1 ≥ T) = true := decide_eq_true hso
        by_cases hok : ok = true
        · have hr1 := (i1 hok).1.r
          have hr2 := h.hidx _ (List.getElem_mem hlt)
          unfold inR at hr1 hr2
          have w3 : wrap64 (wrap64 (odd[n].f0 - a) * 1) = odd[n].f0 - a := by rw [Int.mul_one, wrap_ok (n := odd[n].f0 - a) (by omega) (by omega), wrap_ok (by omega) (by omega)]
          by_cases hlt2 : odd[n].f0 - a < 0
          · obtain ⟨r, r1, r2⟩ := take (fun _ => by omega)
            refine ⟨r, Ev.step (fun k => ?_) r1, r2⟩
            rw [find_nearest_up.l0, if_pos (by omega), if_pos (by omega), if_pos (by omega), rdG odd n hlt, hull_f _ hlen, hull_iff, if_neg hz, Option.bind_some, if_pos rfl, find_up_2.f, Option.bind_some, if_pos hd, if_pos hok, w3, if_pos hlt2, hw]
          · obtain ⟨r, r1, r2⟩ := skip (.inr (.inr ⟨hok, by omega⟩))
            refine ⟨r, Ev.step (fun k => ?_) r1, r2⟩
            rw [find_nearest_up.l0, if_pos (by omega), if_pos (by omega), if_pos (by omega), rdG odd n hlt, hull_f _ hlen, hull_iff, if_neg hz, Option.bind_some, if_pos rfl, find_up_2.f, Option.bind_some, if_pos hd, if_pos hok, w3, if_neg hlt2, hw]
        · obtain ⟨r, r1, r2⟩ := take (fun e => absurd e hok)
          refine ⟨r, Ev.step (fun k => ?_) r1, r2⟩
          rw [find_nearest_up.l0, if_pos (by omega), if_pos (by omega), if_pos (by omega), rdG odd n hlt, hull_f _ hlen, hull_iff, if_neg hz, Option.bind_some, if_pos rfl, find_up_2.f, Option.bind_some, if_pos hd, if_neg hok, hw]
      · obtain ⟨r, r1, r2⟩ := skip (.inr (.inl hso))
        refine ⟨r, Ev.step (fun k => ?_) r1, r2⟩
        have hd : ¬ decide (lstT odd[n].f1 ≥ T) = true := by simp; omega
        rw [find_nearest_up.l0, if_pos (by omega), if_pos (by omega), if_pos (by omega), rdG odd n hlt, hull_f _ hlen, hull_iff, if_neg hz, Option.bind_some, if_pos rfl, find_up_2.f, Option.bind_some, if_neg hd, hw]
def cl (t : Int) : Int := mx (mn t 1099511627777) (-1099511627777)
theorem cl_eq (t : Int) : cl t = max (min t 1099511627777) (-1099511627777) := by unfold cl; rw [mx_eq, mn_eq]
theorem from_ev (h : FOK p c core odd) (t : Int) : ∃ r, Ev (fun k => find_From.f k p c core odd t) r ∧ FrU p c core odd t r := by
  have hcl := cl_eq t
  obtain ⟨a, a1, a2⟩ := plain_up_ev h.s h.t (cl t) (by omega)
  obtain ⟨r, r1, r2⟩ := nearest_up_loop h.s (cl t) _ 0 a.1 a.2 rfl (by omega) (fun e => by
    obtain ⟨q1, q2, q3, q4⟩ := a2.y e
    exact ⟨(ex_none q2).2 q1, by rw [(fs_none q2).2.2]; exact q3⟩) (fun m m1 m2 m3 => by
    rcases m3 with g | ⟨j, hj, g, _⟩
    · have m2' := m2
      rw [(fs_none g).2.2] at m2'
      cases ha : a.2 with
      | true => exact ⟨rfl, (a2.y ha).2.2.2 m ((ex_none g).1 m1) g m2'⟩
      | false => exact absurd m2' ((a2.n ha).2 m ((ex_none g).1 m1) g)
    · omega) (fun e => (a2.n e).1)
  have tr : ∀ m, Ex p c core odd m → (t ≤ gHi p c core odd m ↔ cl t ≤ gHi p c core odd m) := fun m e => by
    have := e.lo
    have := e.hi
    have := h.s.lo_le_hi e.n
    omega
  refine ⟨r, ?_, ⟨fun e => ?_, fun e => ⟨(r2.n e).1, fun m m1 m2 => (r2.n e).2 m m1 ((tr m m1).1 m2)⟩⟩⟩
  · unfold find_From.f
    refine Ev.bind (Ev.val rfl) ?_
    refine Ev.bind (a := (r.1, r.2)) ?_ (Ev.now _)
    unfold find_nearest_up.f
    exact Ev.bind a1 r1
  · obtain ⟨q1, q2, q3⟩ := r2.y e
    exact ⟨q1, (tr _ q1).2 q2, fun m m1 m2 => q3 m m1 ((tr m m1).1 m2)⟩
end Go.Proofs.Ytmbmalkpmanaaaa.P

namespace Go.Proofs.Ytmbmalkpmanaaaa.P
set_option linter.unusedVariables false
set_option linter.unusedSimpArgs false
open Go.RowKit Go.Proofs.YtmbmalkpmanaaaaW.PrintWords Go.Proofs.YtmbmalkpmanaaaaW.PrintMore

variable {p c : Int} {core : List (List Sp)} {odd : List Gn}
def dnI (T p c : Int) (l : List Sp) (j : Int) : Int := (T - fstT l) / p * c + j
theorem dn_iff (h : SF p c core odd) (T : Int) {m : Int} (hm : coreAt c core m ≠ []) : gLo p c core [] m ≤ T ↔ m ≤ dnI T p c (coreAt c core m) (m % c) := by
  obtain ⟨hc, hp, _⟩ := coreAt_c h hm
  have e := Int.mul_ediv_add_emod m c
  have e1 : gLo p c core [] m = fstT (coreAt c core m) + m / c * p := rfl
  rw [e1]
  unfold dnI
  generalize fstT (coreAt c core m) = L
  generalize m / c = q at *
  generalize m % c = r at *
  subst e
  have k1 : q ≤ (T - L) / p ↔ q * p ≤ T - L := Int.le_ediv_iff_mul_le hp
  generalize (T - L) / p = z at *
  have k2 : q * c ≤ z * c ↔ q ≤ z := by
    constructor
    · intro g; exact Int.le_of_mul_le_mul_right g hc
    · intro g; exact Int.mul_le_mul_of_nonneg_right g (by omega)
  have k4 : c * q = q * c := Int.mul_comm _ _
  rw [k4]
  constructor
  · intro g
    have := k1.2 (by omega)
    have := k2.2 (by omega)
    omega
  · intro g
    have := k2.1 (by omega)
    have := k1.1 (by omega)
    omega
theorem dnI_bd (h : SF p c core odd) (T : Int) (hT : -1099511627777 ≤ T ∧ T ≤ 1099511627777) {j : Nat} (hj : j < core.length) (hn : core[j] ≠ []) :
    -2199023255554 ≤ (T - fstT core[j]) / p ∧ (T - fstT core[j]) / p ≤ 2199023255554 ∧ -13194139533330000 ≤ (T - fstT core[j]) / p * c ∧ (T - fstT core[j]) / p * c ≤ 13194139533330000 := by
  have h0 := h.hc
  have hl := h.hl
  have hp : p ≠ 0 := fun e => by have := h.hz.2 e; omega
  have hp0 := h.hp0
  have := (h.hcore _ (List.getElem_mem hj)).ends hn
  obtain ⟨a, b⟩ := div_bd (T - fstT core[j]) p 2199023255554 (by omega) (by omega) (by omega) (by omega)
  generalize (T - fstT core[j]) / p = z at *
  obtain ⟨a1, b1⟩ := mul_bd2 z c 2199023255554 6000 (by omega) (by omega) (by omega) (by omega) (by omega)
  exact ⟨by omega, by omega, by omega, by omega⟩
theorem dn1_ev (b x T p : Int) (hT : -1099511627777 ≤ T ∧ T ≤ 1099511627777) (hb : -1099511627776 ≤ b ∧ b ≤ 1099511627776) (hp : 0 < p ∧ p ≤ 1099511627776) : Ev (fun k => find_down_1.f k b x T p) ((T - b) / p) := by
  unfold find_down_1.f
  rw [wrap_ok (n := T - b) (by omega) (by omega)]
  exact Ev.bind (floor_ev (T - b) p (by omega) (by omega)) (Ev.now _)

structure PlD (p c : Int) (core : List (List Sp)) (T : Int) (r : Int × Bool) : Prop where
  y : r.2 = true → coreAt c core r.1 ≠ [] ∧ gLo p c core [] r.1 ≤ T ∧ ∀ m, coreAt c core m ≠ [] → gLo p c core [] m ≤ T → m ≤ r.1
  n : r.2 = false → ∀ m, coreAt c core m = []
  lo : -4611686018427387904 ≤ r.1
  hi : r.1 ≤ 4611686018427387904
theorem place_dn_ev (h : SF p c core odd) (T : Int) (hT : -1099511627777 ≤ T ∧ T ≤ 1099511627777) : ∃ r, Ev (fun k => find_place_dn.f k p c core odd T) r ∧ PlD p c core T r := by
  have hc := h.hc
  have hl := h.hl
  have loop : ∀ (d n : Nat) (a : Int) (ok : Bool), core.length - n = d → n ≤ core.length →
      (ok = true → ∃ j, ∃ hj : j < core.length, core[j] ≠ [] ∧ a = dnI T p c core[j] j) → (ok = true → ∀ j (hj : j < core.length), j < n → core[j] ≠ [] → dnI T p c core[j] j ≤ a) → (ok = false → a = 0 ∧ ∀ j (hj : j < core.length), j < n → core[j] = []) →
      ∃ r, Ev (fun k => find_place_dn.l0 k T a ok core (core.length : Int) (n : Int) p c core odd (-1)) r ∧ PlD p c core T r := by
    intro d
    induction d with
    | zero =>
      intro n a ok hd hn i1 i2 i3
      refine ⟨(a, ok), Ev.step (f := fun _ => some (a, ok)) (fun k => by rw [find_place_dn.l0, if_neg (by omega)]) (Ev.now _), ?_⟩
      cases ok with
      | true =>
        obtain ⟨j, hj, hne, rfl⟩ := i1 rfl
        obtain ⟨e1, e2⟩ := coreAt_qr h (((T - fstT core[j]) / p)) j hj
        have hne' : coreAt c core (dnI T p c core[j] j) ≠ [] := by unfold dnI; rw [e1]; exact hne
        obtain ⟨b1, b2, b3, b4⟩ := dnI_bd h T hT hj hne
        have e3 : dnI T p c core[j] j % c = j := (qr_at _ c j (by omega) (by omega)).2
        have e4 : coreAt c core (dnI T p c core[j] j) = core[j] := e1
        refine ⟨fun _ => ⟨hne', (dn_iff h T hne').2 ?_, fun m hm hTm => ?_⟩, (fun e => by cases e), (by simp only [dnI]; omega), (by simp only [dnI]; omega)⟩
        · simp only [e3, e4]; exact Int.le_refl _
        · obtain ⟨_, _, i, hi, f1, f2⟩ := coreAt_c h hm
          have g1 := (dn_iff h T hm).1 hTm
          rw [f1, f2] at g1
          have := i2 rfl i hi (by omega) (by rw [← f2]; exact hm)
          simp only; omega
      | false =>
        obtain ⟨rfl, hz⟩ := i3 rfl
        refine ⟨(fun e => by cases e), (fun _ m => Classical.byContradiction fun hm => ?_), by simp, by simp⟩
        obtain ⟨_, _, i, hi, f1, f2⟩ := coreAt_c h hm
        exact hm (by rw [f2]; exact hz i hi (by omega))
    | succ d ih =>
      intro n a ok hd hn i1 i2 i3
      have hlt : n < core.length := by omega
      have hw : wrap64 ((n : Int) + 1) = ((n + 1 : Nat) : Int) := by rw [wrap_ok (by omega) (by omega)]; simp
      have hSL := h.hcore _ (List.getElem_mem hlt)
      have hlen : core[n].length ≤ 4611686018427387904 := by have := hSL.len40; omega
      by_cases hz : core[n] = []
      · obtain ⟨r, r1, r2⟩ := ih (n + 1) a ok (by omega) (by omega) i1 (fun e j hj hjn hne => by
          rcases Nat.lt_or_ge j n with g | g
          · exact i2 e j hj g hne
          · have : j = n := by omega
            subst this; exact absurd hz hne) (fun e => ⟨(i3 e).1, fun j hj hjn => by
          rcases Nat.lt_or_ge j n with g | g
          · exact (i3 e).2 j hj g
          · have : j = n := by omega
            subst this; exact hz⟩)
        refine ⟨r, Ev.step (fun k => ?_) r1, r2⟩
        rw [find_place_dn.l0, if_pos (by omega), if_pos (by omega), if_pos (by omega), rdL core n hlt, hull_f _ hlen, hull_iff, if_pos hz, Option.bind_some, if_neg (by simp), hw]
      · obtain ⟨b1, b2, b3, b4⟩ := dnI_bd h T hT hlt hz
        have hends := hSL.ends hz
        have hp : p ≠ 0 := fun e => by have := h.hz.2 e; omega
        have hp0 := h.hp0
        have hp1 := h.hp1
        have ev1 := dn1_ev (fstT core[n]) (lstT core[n]) T p hT (by omega) (by omega)
        have eu : (T - fstT core[n]) / p * c + n = dnI T p c core[n] n := rfl
        generalize hz1 : (T - fstT core[n]) / p = z at *
        have w1 : wrap64 (z * c) = z * c := wrap_ok (by omega) (by omega)
        have w2 : wrap64 (z * c + n) = dnI T p c core[n] n := by rw [← eu]; exact wrap_ok (by omega) (by omega)
        have hub : -13194139533336000 ≤ dnI T p c core[n] n ∧ dnI T p c core[n] n ≤ 13194139533336000 := by rw [← eu]; omega
        have take : (ok = true → a ≤ dnI T p c core[n] n) → ∃ r, Ev (fun k => find_place_dn.l0 k T (dnI T p c core[n] n) true core (core.length : Int) ((n + 1 : Nat) : Int) p c core odd (-1)) r ∧ PlD p c core T r := fun hle => by
          refine ih (n + 1) _ true (by omega) (by omega) (fun _ => ⟨n, hlt, hz, rfl⟩) (fun _ j hj hjn hne => ?_) (fun e => by cases e)
          rcases Nat.lt_or_ge j n with g | g
          · cases ok with
            | true => have := i2 rfl j hj g hne; have := hle rfl; omega
            | false => exact absurd ((i3 rfl).2 j hj g) hne
          · have : j = n := by omega
            subst this; exact Int.le_refl _
        have start : ∀ {r : Int × Bool}, Ev (fun k => if ok = true then (if (wrap64 ((wrap64 ((wrap64 ((wrap64 (z * c)) + (n : Int))) - a)) * (-1))) < 0 then (find_place_dn.l0 k T (wrap64 ((wrap64 (z * c)) + (n : Int))) true core (core.length : Int) (wrap64 ((n : Int) + 1)) p c core odd (-1)) else (find_place_dn.l0 k T a ok core (core.length : Int) (wrap64 ((n : Int) + 1)) p c core odd (-1))) else (find_place_dn.l0 k T (wrap64 ((wrap64 (z * c)) + (n : Int))) true core (core.length : Int) (wrap64 ((n : Int) + 1)) p c core odd (-1))) r → Ev (fun k => find_place_dn.l0 k T a ok core (core.length : Int) (n : Int) p c core odd (-1)) r := fun he => by
          refine Ev.step (fun k => ?_) (Ev.bind (f := fun k t => if ok = true then (if (wrap64 ((wrap64 ((wrap64 ((wrap64 (t * c)) + (n : Int))) - a)) * (-1))) < 0 then (find_place_dn.l0 k T (wrap64 ((wrap64 (t * c)) + (n : Int))) true core (core.length : Int) (wrap64 ((n : Int) + 1)) p c core odd (-1)) else (find_place_dn.l0 k T a ok core (core.length : Int) (wrap64 ((n : Int) + 1)) p c core odd (-1))) else (find_place_dn.l0 k T (wrap64 ((wrap64 (t * c)) + (n : Int))) true core (core.length : Int) (wrap64 ((n : Int) + 1)) p c core odd (-1))) ev1 he)
          rw [find_place_dn.l0, if_pos (by omega), if_pos (by omega), if_pos (by omega), rdL core n hlt, hull_f _ hlen, hull_iff, if_neg hz, Option.bind_some, if_pos rfl]
        rw [w1, w2, hw] at start
        by_cases hok : ok = true
        · obtain ⟨j, hj, hne, ea⟩ := i1 hok
          have hab : -13194139533336000 ≤ a ∧ a ≤ 13194139533336000 := by
            obtain ⟨c1, c2, c3, c4⟩ := dnI_bd h T hT hj hne
            rw [ea]; unfold dnI; omega
          have w3 : wrap64 (wrap64 (dnI T p c core[n] n - a) * (-1)) = a - dnI T p c core[n] n := by rw [wrap_ok (n := dnI T p c core[n] n - a) (by omega) (by omega), wrap_ok (by omega) (by omega)]; omega
          by_cases hlt2 : a - dnI T p c core[n] n < 0
          · obtain ⟨r, r1, r2⟩ := take (fun _ => by omega)
            exact ⟨r, start (Ev.congr (fun k => by rw [if_pos hok, w3, if_pos hlt2]) r1), r2⟩
          · obtain ⟨r, r1, r2⟩ := ih (n + 1) a ok (by omega) (by omega) i1 (fun e j hj hjn hne => by
              rcases Nat.lt_or_ge j n with g | g
              · exact i2 e j hj g hne
              · have : j = n := by omega
                subst this; omega) (fun e => by rw [hok] at e; cases e)
            exact ⟨r, start (Ev.congr (fun k => by rw [if_pos hok, w3, if_neg hlt2]) r1), r2⟩
        · obtain ⟨r, r1, r2⟩ := take (fun e => absurd e hok)
          exact ⟨r, start (Ev.congr (fun k => by rw [if_neg hok]) r1), r2⟩
  obtain ⟨r, r1, r2⟩ := loop _ 0 0 false rfl (by omega) (fun e => by cases e) (fun e => by cases e) (fun _ => ⟨rfl, fun j hj hjn => by omega⟩)
  exact ⟨r, r1, r2⟩
structure PnD (p c : Int) (core : List (List Sp)) (odd : List Gn) (T : Int) (r : Int × Bool) : Prop where
  y : r.2 = true → Ex p c core [] r.1 ∧ oddOf odd r.1 = none ∧ gLo p c core [] r.1 ≤ T ∧ ∀ m, Ex p c core [] m → oddOf odd m = none → gLo p c core [] m ≤ T → m ≤ r.1
  n : r.2 = false → r.1 = 0 ∧ ∀ m, Ex p c core [] m → oddOf odd m = none → ¬ gLo p c core [] m ≤ T
theorem plain_dn_loop (h : SF p c core odd) (t : TF p core) (T : Int) (hT : T ≤ 1099511627777) : ∀ (d : Nat) (i : Int) (ok : Bool) (b : Int),
    (ok = true → (i + 1099511627777).toNat ≤ d) → (ok = true → inR i ∧ coreAt c core i ≠ [] ∧ gLo p c core [] i ≤ T) →
    (∀ m, Ex p c core [] m → oddOf odd m = none → gLo p c core [] m ≤ T → ok = true ∧ m ≤ i) → 0 ≤ b → b ≤ 2 →
    (1 ≤ b → ok = true → ∀ m, m ≤ i → coreAt c core m ≠ [] → gHi p c core [] m ≤ 1099511627776) →
    (2 ≤ b → ok = true → ∀ m, m ≤ i → coreAt c core m ≠ [] → gHi p c core [] m < -1099511627776) →
    ∃ r, Ev (fun k => find_plain_dn.l1 k i ok b p c core odd) r ∧ PnD p c core odd T r := by
  intro d
  induction d with
  | zero =>
    intro i ok b hd hA hB h0 h2 hC hD
    have hok : ok = false := by
      cases ok with
      | true => have := hA rfl; have := this.1; unfold inR at this; have := hd rfl; omega
      | false => rfl
    subst hok
    exact ⟨(0, false), Ev.step (f := fun _ => some (0, false)) (fun k => by rw [find_plain_dn.l1, if_neg (by simp)]) (Ev.now _), ⟨(fun e => by cases e), fun _ => ⟨rfl, fun m m1 m2 m3 => by cases (hB m m1 m2 m3).1⟩⟩⟩
  | succ d ih =>
    intro i ok b hd hA hB h0 h2 hC hD
    cases ok with
    | false => exact ⟨(0, false), Ev.step (f := fun _ => some (0, false)) (fun k => by rw [find_plain_dn.l1, if_neg (by simp)]) (Ev.now _), ⟨(fun e => by cases e), fun _ => ⟨rfl, fun m m1 m2 m3 => by cases (hB m m1 m2 m3).1⟩⟩⟩
    | true =>
      obtain ⟨a1, a2, a3⟩ := hA rfl
      have hd := hd rfl
      by_cases hb : b < 2
      · obtain ⟨n, n1, n2⟩ := before_ev h.nil_odd i (by unfold inR at a1; omega)
        have gev := get_ev h.nil_odd i
        have next : ∀ (b' : Int), 0 ≤ b' → b' ≤ 2 → (∀ m, Ex p c core [] m → oddOf odd m = none → m ≠ i) →
            (1 ≤ b' → ∀ m, m < i → coreAt c core m ≠ [] → gHi p c core [] m ≤ 1099511627776) → (2 ≤ b' → ∀ m, m < i → coreAt c core m ≠ [] → gHi p c core [] m < -1099511627776) →
            ∃ r, Ev (fun k => find_plain_dn.l1 k n.1 n.2 b' p c core odd) r ∧ PnD p c core odd T r := by
          intro b' g0 g2 gi gC gD
          unfold inR at a1
          refine ih n.1 n.2 b' (fun e => ?_) (fun e => ?_) (fun m m1 m2 m3 => ?_) g0 g2 (fun e1 e2 m hm => ?_) (fun e1 e2 m hm => ?_)
          · have := (n2.1 e).1; omega
          · obtain ⟨q1, q2, q3, q4⟩ := n2.1 e
            have := c_ord h t (i := n.1) (k := i) (by omega) q3 a2
            have := c_lh h q3
            exact ⟨q2, q3, by omega⟩
          · have g3 := (hB m m1 m2 m3).2
            have g4 := gi m m1 m2
            have g5 := m1.r
            cases hn : n.2 with
            | true =>
              refine ⟨rfl, Classical.byContradiction fun hx => ?_⟩
              unfold inR at g5
              exact m1.n ((n2.1 hn).2.2.2 m (by omega) (by omega))
            | false =>
              exact absurd ((n2.2 hn).2 m (by unfold inR at g5; omega) g5) m1.n
          · have := (n2.1 e2).1; exact gC e1 m (by omega)
          · have := (n2.1 e2).1; exact gD e1 m (by omega)
        by_cases hx : Ex p c core [] i
        · rw [h.nil_odd.getV_ex hx] at gev
          by_cases ho : oddOf odd i = none
          · refine ⟨(i, true), Ev.step (fun k => by rw [find_plain_dn.l1, if_pos rfl, if_pos hb]) (Ev.bind gev (Ev.congr (fun k => by rw [if_pos rfl, if_pos (fits_in (by unfold inR at a1; omega) (by unfold inR at a1; omega)), if_pos ((cnt_odd i).2 ho)]) (Ev.now _))), ⟨fun _ => ⟨hx, ho, a3, fun m m1 m2 m3 => (hB m m1 m2 m3).2⟩, fun e => by cases e⟩⟩
          · obtain ⟨r, r1, r2⟩ := next b h0 h2 (fun m _ m2 e => ho (by rw [← e]; exact m2)) (fun e m hm => hC e rfl m (by omega)) (fun e m hm => hD e rfl m (by omega))
            refine ⟨r, Ev.step (fun k => by rw [find_plain_dn.l1, if_pos rfl, if_pos hb]) (Ev.bind gev (Ev.congr (fun k => by rw [if_pos rfl, if_pos (fits_in (by unfold inR at a1; omega) (by unfold inR at a1; omega)), if_neg (fun e => ho ((cnt_odd i).1 e))]) (Ev.bind n1 r1))), r2⟩
        · rw [h.nil_odd.getV_no a2 hx] at gev
          have hw : wrap64 (b + 1) = b + 1 := wrap_ok (by omega) (by omega)
          obtain ⟨r, r1, r2⟩ := next (b + 1) (by omega) (by omega) (fun m m1 _ e => hx (by rw [← e]; exact m1)) (fun _ m hm hmn => by
              have := c_ord h t hm hmn a2
              omega) (fun e m hm hmn => by
              have q1 := c_ord h t hm hmn a2
              have q2 := hC (by omega) rfl i (Int.le_refl _) a2
              refine Classical.byContradiction fun hq => hx ⟨a1, a2, ?_, q2⟩
              omega)
          refine ⟨r, Ev.step (fun k => by rw [find_plain_dn.l1, if_pos rfl, if_pos hb]) (Ev.bind gev (Ev.congr (fun k => by rw [if_neg (by simp), hw]) (Ev.bind n1 r1))), r2⟩
      · refine ⟨(0, false), Ev.step (f := fun _ => some (0, false)) (fun k => by rw [find_plain_dn.l1, if_pos rfl, if_neg hb]) (Ev.now _), ⟨(fun e => by cases e), fun _ => ⟨rfl, fun m m1 m2 m3 => ?_⟩⟩⟩
        have q1 := hD (by omega) rfl m (hB m m1 m2 m3).2 m1.n
        have q2 := c_lh h m1.n
        have := m1.lo
        omega
theorem plain_dn_ev (h : SF p c core odd) (t : TF p core) (T : Int) (hT : -1099511627777 ≤ T ∧ T ≤ 1099511627777) : ∃ r, Ev (fun k => find_plain_dn.f k p c core odd T) r ∧ PnD p c core odd T r := by
  obtain ⟨a, a1, a2⟩ := place_dn_ev h T hT
  have start : ∀ {r : Int × Bool}, Ev (fun k => if a.2 = true then (gran_Before.f k p c core [] (wrap64 (a.1 - (-1)))).bind fun n => find_plain_dn.l1 k n.1 n.2 0 p c core odd else some (0, false)) r → Ev (fun k => find_plain_dn.f k p c core odd T) r := fun he => by
    refine Ev.congr (fun k => by rw [find_plain_dn.f, if_pos h.guard]) ?_
    exact Ev.bind a1 he
  have b1 := a2.lo
  have b2 := a2.hi
  cases ha : a.2 with
  | false => exact ⟨(0, false), start (Ev.congr (fun k => by rw [ha, if_neg (by simp)]) (Ev.now _)), ⟨(fun e => by cases e), fun _ => ⟨rfl, fun m m1 _ _ => m1.n (a2.n ha m)⟩⟩⟩
  | true =>
    obtain ⟨q1, q2, q3⟩ := a2.y ha
    have hw : wrap64 (a.1 - (-1)) = a.1 + 1 := by rw [wrap_ok (by omega) (by omega)]; omega
    obtain ⟨n, n1, n2⟩ := before_ev h.nil_odd (a.1 + 1) (by omega)
    obtain ⟨r, r1, r2⟩ := plain_dn_loop h t T hT.2 (n.1 + 1099511627777).toNat n.1 n.2 0 (fun _ => Nat.le_refl _) (fun e => by
      obtain ⟨g1, g2, g3, g4⟩ := n2.1 e
      refine ⟨g2, g3, ?_⟩
      rcases Int.lt_trichotomy a.1 n.1 with g | g | g
      · omega
      · rw [← g]; exact q2
      · have := c_ord h t g g3 q1
        have := c_lh h g3
        omega) (fun m m1 m2 m3 => by
      have g3 := q3 m m1.n m3
      have g5 := m1.r
      cases hn : n.2 with
      | true =>
        refine ⟨rfl, Classical.byContradiction fun hx => ?_⟩
        unfold inR at g5
        exact m1.n ((n2.1 hn).2.2.2 m (by omega) (by omega))
      | false => exact absurd ((n2.2 hn).2 m (by unfold inR at g5; omega) g5) m1.n) (by omega) (by omega) (fun e => by omega) (fun e => by omega)
    exact ⟨r, start (Ev.congr (fun k => by rw [ha, if_pos rfl, hw]) (Ev.bind n1 r1)), r2⟩

structure TlD (p c : Int) (core : List (List Sp)) (odd : List Gn) (T : Int) (r : Int × Bool) : Prop where
  y : r.2 = true → Ex p c core odd r.1 ∧ gLo p c core odd r.1 ≤ T ∧ ∀ m, Ex p c core odd m → gLo p c core odd m ≤ T → m ≤ r.1
  n : r.2 = false → r.1 = 0 ∧ ∀ m, Ex p c core odd m → ¬ gLo p c core odd m ≤ T
theorem nearest_dn_loop (h : SF p c core odd) (T : Int) : ∀ (d n : Nat) (a : Int) (ok : Bool), odd.length - n = d → n ≤ odd.length →
    (ok = true → Ex p c core odd a ∧ gLo p c core odd a ≤ T) → (∀ m, Ex p c core odd m → gLo p c core odd m ≤ T → (oddOf odd m = none ∨ ∃ j, ∃ hj : j < odd.length, j < n ∧ odd[j].f0 = m) → ok = true ∧ m ≤ a) → (ok = false → a = 0) →
    ∃ r, Ev (fun k => find_nearest_dn.l0 k T a ok odd (odd.length : Int) (n : Int) (-1)) r ∧ TlD p c core odd T r := by
  have hlo := h.hlo
  intro d
  induction d with
  | zero =>
    intro n a ok hd hn i1 i2 i3
    refine ⟨(a, ok), Ev.step (f := fun _ => some (a, ok)) (fun k => by rw [find_nearest_dn.l0, if_neg (by omega)]) (Ev.now _), ?_⟩
    have all : ∀ m, oddOf odd m = none ∨ ∃ j, ∃ hj : j < odd.length, j < n ∧ odd[j].f0 = m := fun m => by
      rcases odd_or (odd := odd) (m := m) with g | ⟨j, hj, g⟩
      · exact .inl g
      · exact .inr ⟨j, hj, by omega, g⟩
    cases ok with
    | true => exact ⟨fun _ => ⟨(i1 rfl).1, (i1 rfl).2, fun m m1 m2 => (i2 m m1 m2 (all m)).2⟩, fun e => by cases e⟩
    | false => exact ⟨(fun e => by cases e), fun _ => ⟨i3 rfl, fun m m1 m2 => by cases (i2 m m1 m2 (all m)).1⟩⟩
  | succ d ih =>
    intro n a ok hd hn i1 i2 i3
    have hlt : n < odd.length := by omega
    have hw : wrap64 ((n : Int) + 1) = ((n + 1 : Nat) : Int) := by rw [wrap_ok (by omega) (by omega)]; simp
    have hSL := h.hodd _ (List.getElem_mem hlt)
    have hlen : odd[n].f1.length ≤ 4611686018427387904 := by have := hSL.len40; omega
    obtain ⟨e1, e2, e3⟩ := odd_at h hlt
    have skip : (odd[n].f1 = [] ∨ ¬ fstT odd[n].f1 ≤ T ∨ ok = true ∧ odd[n].f0 ≤ a) → ∃ r, Ev (fun k => find_nearest_dn.l0 k T a ok odd (odd.length : Int) ((n + 1 : Nat) : Int) (-1)) r ∧ TlD p c core odd T r := fun hs => by
      refine ih (n + 1) a ok (by omega) (by omega) i1 (fun m m1 m2 m3 => ?_) i3
      rcases m3 with g | ⟨j, hj, g, g2⟩
      · exact i2 m m1 m2 (.inl g)
      · rcases Nat.lt_or_ge j n with g3 | g3
        · exact i2 m m1 m2 (.inr ⟨j, hj, g3, g2⟩)
        · have : j = n := by omega
          subst this
          subst g2
          rcases hs with hs | hs | hs
          · exact absurd (by rw [e1]; exact hs) m1.n
          · exact absurd (by rw [← e2]; exact m2) hs
          · exact hs
    by_cases hz : odd[n].f1 = []
    · obtain ⟨r, r1, r2⟩ := skip (.inl hz)
      refine ⟨r, Ev.step (fun k => ?_) r1, r2⟩
      rw [find_nearest_dn.l0, if_pos (by omega), if_pos (by omega), if_pos (by omega), rdG odd n hlt, hull_f _ hlen, hull_iff, if_pos hz, Option.bind_some, if_neg (by simp), hw]
    · by_cases hso : fstT odd[n].f1 ≤ T
      · have take : (ok = true → a ≤ odd[n].f0) → ∃ r, Ev (fun k => find_nearest_dn.l0 k T odd[n].f0 true odd (odd.length : Int) ((n + 1 : Nat) : Int) (-1)) r ∧ TlD p c core odd T r := fun hle => by
          refine ih (n + 1) odd[n].f0 true (by omega) (by omega) (fun _ => ⟨odd_ex h hlt hz, by rw [e2]; exact hso⟩) (fun m m1 m2 m3 => ⟨rfl, ?_⟩) (fun e => by cases e)
          rcases m3 with g | ⟨j, hj, g, g2⟩
          · obtain ⟨q1, q2⟩ := i2 m m1 m2 (.inl g); have := hle q1; omega
          · rcases Nat.lt_or_ge j n with g3 | g3
            · obtain ⟨q1, q2⟩ := i2 m m1 m2 (.inr ⟨j, hj, g3, g2⟩); have := hle q1; omega
            · have : j = n := by omega
              subst this; subst g2; exact Int.le_refl _
        have hd : decide (fstT odd[n].f1 ≤ T) = true := decide_eq_true hso
        by_cases hok : ok = true
        · have hr1 := (i1 hok).1.r
          have hr2 := h.hidx _ (List.getElem_mem hlt)
          unfold inR at hr1 hr2
          have w3 : wrap64 (wrap64 (odd[n].f0 - a) * (-1)) = a - odd[n].f0 := by rw [wrap_ok (n := odd[n].f0 - a) (by omega) (by omega), wrap_ok (by omega) (by omega)]; omega
          by_cases hlt2 : a - odd[n].f0 < 0
          · obtain ⟨r, r1, r2⟩ := take (fun _ => by omega)
            refine ⟨r, Ev.step (fun k => ?_) r1, r2⟩
            rw [find_nearest_dn.l0, if_pos (by omega), if_pos (by omega), if_pos (by omega), rdG odd n hlt, hull_f _ hlen, hull_iff, if_neg hz, Option.bind_some, if_pos rfl, find_down_2.f, Option.bind_some, if_pos hd, if_pos hok, w3, if_pos hlt2, hw]
          · obtain ⟨r, r1, r2⟩ := skip (.inr (.inr ⟨hok, by omega⟩))
            refine ⟨r, Ev.step (fun k => ?_) r1, r2⟩
            rw [find_nearest_dn.l0, if_pos (by omega), if_pos (by omega), if_pos (by omega), rdG odd n hlt, hull_f _ hlen, hull_iff, if_neg hz, Option.bind_some, if_pos rfl, find_down_2.f, Option.bind_some, if_pos hd, if_pos hok, w3, if_neg hlt2, hw]
        · obtain ⟨r, r1, r2⟩ := take (fun e => absurd e hok)
          refine ⟨r, Ev.step (fun k => ?_) r1, r2⟩
          rw [find_nearest_dn.l0, if_pos (by omega), if_pos (by omega), if_pos (by omega), rdG odd n hlt, hull_f _ hlen, hull_iff, if_neg hz, Option.bind_some, if_pos rfl, find_down_2.f, Option.bind_some, if_pos hd, if_neg hok, hw]
      · obtain ⟨r, r1, r2⟩ := skip (.inr (.inl hso))
        refine ⟨r, Ev.step (fun k => ?_) r1, r2⟩
        have hd : ¬ decide (fstT odd[n].f1 ≤ T) = true := by simp; omega
        rw [find_nearest_dn.l0, if_pos (by omega), if_pos (by omega), if_pos (by omega), rdG odd n hlt, hull_f _ hlen, hull_iff, if_neg hz, Option.bind_some, if_pos rfl, find_down_2.f, Option.bind_some, if_neg hd, hw]
theorem till_ev (h : FOK p c core odd) (t : Int) : ∃ r, Ev (fun k => find_Till.f k p c core odd t) r ∧ TlD p c core odd t r := by
  have hcl := cl_eq t
  obtain ⟨a, a1, a2⟩ := plain_dn_ev h.s h.t (cl t) (by omega)
  obtain ⟨r, r1, r2⟩ := nearest_dn_loop h.s (cl t) _ 0 a.1 a.2 rfl (by omega) (fun e => by
    obtain ⟨q1, q2, q3, q4⟩ := a2.y e
    exact ⟨(ex_none q2).2 q1, by rw [(fs_none q2).2.1]; exact q3⟩) (fun m m1 m2 m3 => by
    rcases m3 with g | ⟨j, hj, g, _⟩
    · have m2' := m2
      rw [(fs_none g).2.1] at m2'
      cases ha : a.2 with
      | true => exact ⟨rfl, (a2.y ha).2.2.2 m ((ex_none g).1 m1) g m2'⟩
      | false => exact absurd m2' ((a2.n ha).2 m ((ex_none g).1 m1) g)
    · omega) (fun e => (a2.n e).1)
  have tr : ∀ m, Ex p c core odd m → (gLo p c core odd m ≤ t ↔ gLo p c core odd m ≤ cl t) := fun m e => by
    have := e.lo
    have := e.hi
    have := h.s.lo_le_hi e.n
    omega
  refine ⟨r, ?_, ⟨fun e => ?_, fun e => ⟨(r2.n e).1, fun m m1 m2 => (r2.n e).2 m m1 ((tr m m1).1 m2)⟩⟩⟩
  · unfold find_Till.f
    refine Ev.bind (Ev.val rfl) ?_
    refine Ev.bind (a := (r.1, r.2)) ?_ (Ev.now _)
    unfold find_nearest_dn.f
    exact Ev.bind a1 r1
  · obtain ⟨q1, q2, q3⟩ := r2.y e
    exact ⟨q1, (tr _ q1).2 q2, fun m m1 m2 => q3 m m1 ((tr m m1).1 m2)⟩
end Go.Proofs.Ytmbmalkpmanaaaa.P

namespace Go.Proofs.Ytmbmalkpmanaaaa.P
set_option linter.unusedVariables false
set_option linter.unusedSimpArgs false
open Go.RowKit Go.Shelf Go.Proofs.YtmbmalkpmanaaaaW.PrintWords Go.Proofs.YtmbmalkpmanaaaaW.PrintLast Go.Proofs.YtmbmalkpmanaaaaW.PrintMore

def weekL : List (List S23) := [[⟨0, 4⟩]]
theorem ex_cut1 : spans_Cut.f [⟨0, 4⟩] [⟨3, 8⟩] = some [⟨3, 4⟩] := by
  obtain ⟨h1, h2⟩ := keptL_spec (fun a b => a && b) rfl (lo := 0) (hi := 100) (by omega) (by omega) (a := [⟨0, 4⟩]) (b := [⟨3, 8⟩]) (by simp [SL]) (by simp [SL])
  have : keptL (fun a b => a && b) [⟨0, 4⟩] [⟨3, 8⟩] = [⟨3, 4⟩] := SL.uniq h1 (show SL 0 100 _ by simp [SL]) (fun x => by
    rw [h2, Bool.eq_iff_iff]; simp [hasL]; omega)
  unfold spans_Cut.f; rw [if_pos (by simp [many]), this]
theorem ex_cut2 : spans_Cut.f [⟨7, 11⟩] [⟨3, 8⟩] = some [⟨7, 8⟩] := by
  obtain ⟨h1, h2⟩ := keptL_spec (fun a b => a && b) rfl (lo := 0) (hi := 100) (by omega) (by omega) (a := [⟨7, 11⟩]) (b := [⟨3, 8⟩]) (by simp [SL]) (by simp [SL])
  have : keptL (fun a b => a && b) [⟨7, 11⟩] [⟨3, 8⟩] = [⟨7, 8⟩] := SL.uniq h1 (show SL 0 100 _ by simp [SL]) (fun x => by
    rw [h2, Bool.eq_iff_iff]; simp [hasL]; omega)
  unfold spans_Cut.f; rw [if_pos (by simp [many]), this]
theorem ex_over1 : find_Over.f 60 7 1 weekL [] [⟨3, 8⟩] = some ([0, 1], 0) := by
  have h : find_between.f 60 7 1 weekL [] 3 8 = some [(0, [⟨0, 4⟩]), (1, [⟨7, 11⟩])] := by with_unfolding_all rfl
  have hr : spans_Right.f 60 [⟨3, 8⟩] = some true := by with_unfolding_all rfl
  have hh : spans_Hull.f [⟨3, 8⟩] = some (3, 8, true) := by with_unfolding_all rfl
  simp only [find_Over.f, hr, hh, h, Option.bind_some, if_true, find_Over.l, spans_Meet.f, ex_cut1, ex_cut2]
  rfl
theorem ex_over2 : find_Over.f 60 7 1 weekL [] [⟨5, 6⟩] = some ([], 0) := by
  have h : find_between.f 60 7 1 weekL [] 5 6 = some [] := by with_unfolding_all rfl
  have hr : spans_Right.f 60 [⟨5, 6⟩] = some true := by with_unfolding_all rfl
  have hh : spans_Hull.f [⟨5, 6⟩] = some (5, 6, true) := by with_unfolding_all rfl
  simp only [find_Over.f, hr, hh, h, Option.bind_some, if_true, find_Over.l]

theorem ex_at1 : find_At.f 60 7 1 weekL [] 9 = some (1, true) := by with_unfolding_all rfl
theorem ex_at2 : find_At.f 60 7 1 weekL [] 5 = some (0, false) := by with_unfolding_all rfl
theorem ex_from1 : find_From.f 60 7 1 weekL [] 5 = some (1, true) := by with_unfolding_all rfl
theorem ex_till1 : find_Till.f 60 7 1 weekL [] 5 = some (0, true) := by with_unfolding_all rfl
theorem ex_ints : epactlaw07_ints.f 60 [0, 1] [0, 1] = some true := by with_unfolding_all rfl
theorem ex_from2 : find_From.f 60 0 0 [] [⟨3, [⟨5, 6⟩]⟩] 7 = some (0, false) := by with_unfolding_all rfl
theorem ex_till2 : find_Till.f 60 0 0 [] [⟨3, [⟨5, 6⟩]⟩] 100 = some (3, true) := by with_unfolding_all rfl
theorem awake7_at : epactlaw07_awake.f 60 = some true := by
  unfold epactlaw07_awake.f epactlaw05_Weeks.f
  rw [Option.bind_some, Option.bind_some]
  dsimp only
  rw [show ([[⟨0, 4⟩]] : List (List S23)) = weekL from rfl]
  rw [ex_over1, Option.bind_some, ex_over2, Option.bind_some]
  rw [show epactlaw07_is.f 1 true = some 0 from rfl, Option.bind_some, ex_at1, Option.bind_some]
  rw [show epactlaw07_is_1.f 1 true 1 true = some true from rfl, Option.bind_some, if_pos rfl]
  rw [show epactlaw07_is.f 0 false = some 0 from rfl, Option.bind_some, ex_at2, Option.bind_some]
  rw [show epactlaw07_is_1.f 0 false 0 false = some true from rfl, Option.bind_some, if_pos rfl]
  rw [Option.bind_some, ex_from1, Option.bind_some]
  rw [show epactlaw07_is_1.f 1 true 1 true = some true from rfl, Option.bind_some, if_pos rfl]
  rw [show epactlaw07_is.f 0 true = some 0 from rfl, Option.bind_some, ex_till1, Option.bind_some]
  rw [show epactlaw07_is_1.f 0 true 0 true = some true from rfl, Option.bind_some, if_pos rfl]
  rw [if_pos rfl, if_pos rfl, ex_ints, Option.bind_some, if_pos rfl]
  rw [show ((([], 0) : List Int × Int).1.length : Int) = 0 from rfl, if_pos rfl]
  rw [Option.bind_some, ex_from2, Option.bind_some]
  rw [show epactlaw07_is_1.f 0 false 0 false = some true from rfl, Option.bind_some, if_pos rfl]
  rw [show epactlaw07_is.f 3 true = some 0 from rfl, Option.bind_some, ex_till2, Option.bind_some]
  rfl
theorem awake7_ev : Ev (fun k => epactlaw07_awake.f k) true := Ev.of epactlaw07_awake.mono awake7_at
end Go.Proofs.Ytmbmalkpmanaaaa.P

namespace Go.Proofs.Ytmbmalkpmanaaaa.P
set_option linter.unusedVariables false
set_option linter.unusedSimpArgs false
open Go.RowKit Go.ChangeShapes Go.WideShapes Go.Deep Go.Proofs.YtmbmalkpmanaaaaW.PrintWords Go.Proofs.YtmbmalkpmanaaaaW.PrintMore

theorem two_of {cs : List Value} (h : cs.length = 2) : ∃ a b, cs = [a, b] := by
  match cs, h with
  | [a, b], _ => exact ⟨a, b, rfl⟩
theorem four_of {cs : List Value} (h : cs.length = 4) : ∃ a b c d, cs = [a, b, c, d] := by
  match cs, h with
  | [a, b, c, d], _ => exact ⟨a, b, c, d, rfl⟩
theorem open_kd {T : Type} (k : Kd T) {H : Type} {enc : TypeId × Value → H} {w : World} {base : Nat} {held : Bool} {t e : TypeId} {fuel : Nat} {cs : List Value} {x : DataW H × List MemPlace}
    (ht : Try.prog.underlying t = some (.slice e)) (hn : Try.prog.cellsOf e = k.sz) (Q : T → Prop)
    (op : ∀ fuel cs x, DataW.trod enc Try.prog w base (fun _ => true) held fuel e cs = some x → ∃ v, k.K w v cs ∧ Q v)
    (h : DataW.trod enc Try.prog w base (fun _ => true) held fuel t cs = some x) :
    ∃ (a : Option Addr) (cap : Nat) (l : List T), cs = [.slice a l.length cap] ∧ l.length ≤ cap ∧ Kd.C k w a l.length l ∧ (∀ s ∈ l, Q s) ∧ l.length ≤ 9223372036854775807 := by
  rcases open_slice ht h with ⟨hc, _⟩ | ⟨a, len, cap, m, n, D, Pl, hc, hb, hl, hm, hmm, hx, hi⟩
  · exact ⟨none, 0, [], by rw [hc]; rfl, Nat.le_refl _, ⟨rfl, by simp, fun h => absurd h (by simp)⟩, by simp, by simp⟩
  · have hlm : len ≤ m := by rw [hmm]; simpa using hl
    have hk : ∀ i, i < len → ∃ v cs', k.K w v cs' ∧ Q v ∧ ∀ j u, cs'[j]? = some u → w.cell? (a.add (i * k.sz + j)) = some u := by
      intro i hi'
      obtain ⟨cs', h1, h2⟩ := hi i (by omega)
      rw [hn] at h1
      obtain ⟨_, hlen, hcell⟩ := World.cells?_some h1
      obtain ⟨v, v1, v2⟩ := op _ _ _ h2
      refine ⟨v, cs', v1, v2, fun j u hu => ?_⟩
      have hj : j < k.sz := by rw [← hlen]; exact (List.getElem?_eq_some_iff.1 hu).1
      have := hcell j hj
      rw [Deep.add_add] at this
      rw [this, hu]
    have hmax : len ≤ 9223372036854775807 := by unfold maxLen at hm; omega
    suffices key : ∀ q, q ≤ len → ∃ l : List T, l.length = q ∧ (∀ j s, l[j]? = some s → ∃ cs', k.K w s cs' ∧ ∀ i u, cs'[i]? = some u → w.cell? (a.add (j * k.sz + i)) = some u) ∧ ∀ s ∈ l, Q s by
      obtain ⟨l, rfl, hl2, hfit⟩ := key len (Nat.le_refl _)
      refine ⟨some a, cap, l, hc, hl, ⟨rfl, hmax, fun _ => ⟨a, rfl, fun j s hj => ?_⟩⟩, hfit, hmax⟩
      obtain ⟨cs', g1, g2⟩ := hl2 j s hj
      exact ⟨cs', k.K_len g1, g1, g2⟩
    intro q
    induction q with
    | zero => exact fun _ => ⟨[], rfl, fun j s h => by simp at h, by simp⟩
    | succ q ih =>
      intro hk'
      obtain ⟨l, hl1, hl2, hl3⟩ := ih (by omega)
      obtain ⟨s, cs', h0, h1, h2⟩ := hk q (by omega)
      refine ⟨l ++ [s], by simp [hl1], fun j t hj => ?_, fun t ht => ?_⟩
      · by_cases hjk : j < l.length
        · rw [List.getElem?_append_left hjk] at hj; exact hl2 j t hj
        · rw [List.getElem?_append_right (by omega)] at hj
          have : j - l.length = 0 := by
            by_cases e : j - l.length = 0
            · exact e
            · rw [List.getElem?_eq_none (by simp; omega)] at hj; cases hj
          rw [this] at hj
          simp at hj
          subst hj
          have : j = q := by omega
          subst this
          exact ⟨cs', h0, h2⟩
      · simp at ht
        rcases ht with ht | rfl
        · exact hl3 t ht
        · exact h1

section
variable {H : Type} {enc : TypeId × Value → H} {w : World} {base : Nat} {held : Bool} {fuel : Nat} {cs : List Value} {x : DataW H × List MemPlace}
theorem open_int1 (h : DataW.trod enc Try.prog w base (fun _ => true) held fuel 3 cs = some x) : ∃ n, cs = [.int .i64 n] ∧ fits n := by
  obtain ⟨n, e0, _, w0⟩ := DataW.trod_int Try.underlying3 h
  exact ⟨n, e0, w0⟩
theorem open_sp (h : DataW.trod enc Try.prog w base (fun _ => true) held fuel 23 cs = some x) : ∃ s : Sp, k23.K w s cs ∧ spFits s := by
  obtain ⟨xs, n, _, _, hl, hxs, hf⟩ := DataW.trod_struct Try.underlying23 h
  have e9 : Try.prog.cellsOf 23 = 2 := by kernel_rfl
  rw [e9] at hl
  have hl2 : cs.length = 2 := hl
  clear hl e9
  obtain ⟨v0, v1, rfl⟩ := two_of hl2
  have g0 : DataW.trod enc Try.prog w base (fun _ => true) held n 3 (List.take (Try.prog.cellsOf 3) (List.drop 0 [v0, v1])) = xs[0]? := hf 0 _ rfl
  rw [show Try.prog.cellsOf 3 = 1 by kernel_rfl] at g0
  have g1 : DataW.trod enc Try.prog w base (fun _ => true) held n 3 (List.take (Try.prog.cellsOf 3) (List.drop 1 [v0, v1])) = xs[1]? := hf 1 _ rfl
  rw [show Try.prog.cellsOf 3 = 1 by kernel_rfl] at g1
  cases hx0 : xs[0]? with
  | none => have := List.getElem?_eq_none_iff.1 hx0; rw [hxs] at this; exact absurd this (by decide)
  | some y0 =>
    cases hx1 : xs[1]? with
    | none => have := List.getElem?_eq_none_iff.1 hx1; rw [hxs] at this; exact absurd this (by decide)
    | some y1 =>
      rw [hx0] at g0
      rw [hx1] at g1
      obtain ⟨a, ea, wa⟩ := open_int1 g0
      obtain ⟨b, eb, wb⟩ := open_int1 g1
      have ea' : [v0] = [.int .i64 a] := ea
      have eb' : [v1] = [.int .i64 b] := eb
      injection ea' with ea'
      injection eb' with eb'
      subst ea' eb'
      exact ⟨⟨a, b⟩, k23_mk w ⟨a, b⟩, wa, wb⟩
theorem open_spl (h : DataW.trod enc Try.prog w base (fun _ => true) held fuel 24 cs = some x) : ∃ (a : Option Addr) (cap : Nat) (l : List Sp), cs = [.slice a l.length cap] ∧ l.length ≤ cap ∧ Kd.C k23 w a l.length l ∧ (∀ s ∈ l, spFits s) ∧ l.length ≤ 9223372036854775807 :=
  open_kd k23 Try.underlying24 (by kernel_rfl) spFits (fun _ _ _ g => open_sp g) h
theorem open_splE (h : DataW.trod enc Try.prog w base (fun _ => true) held fuel 24 cs = some x) : ∃ l : List Sp, (Kd.slice 23 k23).K w l cs ∧ ((∀ s ∈ l, spFits s) ∧ l.length ≤ 9223372036854775807) := by
  obtain ⟨a, cap, l, rfl, h1, h2, h3, h4⟩ := open_spl h
  exact ⟨l, ⟨a, cap, rfl, h1, h2⟩, h3, h4⟩
theorem open_core (h : DataW.trod enc Try.prog w base (fun _ => true) held fuel 25 cs = some x) : ∃ (a : Option Addr) (cap : Nat) (l : List (List Sp)), cs = [.slice a l.length cap] ∧ l.length ≤ cap ∧ Kd.C (Kd.slice 23 k23) w a l.length l ∧ (∀ s ∈ l, (∀ z ∈ s, spFits z) ∧ s.length ≤ 9223372036854775807) ∧ l.length ≤ 9223372036854775807 :=
  open_kd (Kd.slice 23 k23) Try.underlying25 (by kernel_rfl) _ (fun _ _ _ g => open_splE g) h
def grFits (g : S70) : Prop := fits g.f0 ∧ (∀ z ∈ g.f1, spFits z) ∧ g.f1.length ≤ 9223372036854775807
theorem open_gr (h : DataW.trod enc Try.prog w base (fun _ => true) held fuel 70 cs = some x) : ∃ g : S70, k70.K w g cs ∧ grFits g := by
  obtain ⟨xs, n, _, _, hl, hxs, hf⟩ := DataW.trod_struct Try.underlying70 h
  have e9 : Try.prog.cellsOf 70 = 2 := by kernel_rfl
  rw [e9] at hl
  have hl2 : cs.length = 2 := hl
  clear hl e9
  obtain ⟨v0, v1, rfl⟩ := two_of hl2
  have g0 : DataW.trod enc Try.prog w base (fun _ => true) held n 3 (List.take (Try.prog.cellsOf 3) (List.drop 0 [v0, v1])) = xs[0]? := hf 0 _ rfl
  rw [show Try.prog.cellsOf 3 = 1 by kernel_rfl] at g0
  have g1 : DataW.trod enc Try.prog w base (fun _ => true) held n 24 (List.take (Try.prog.cellsOf 24) (List.drop 1 [v0, v1])) = xs[1]? := hf 1 _ rfl
  rw [show Try.prog.cellsOf 24 = 1 by kernel_rfl] at g1
  cases hx0 : xs[0]? with
  | none => have := List.getElem?_eq_none_iff.1 hx0; rw [hxs] at this; exact absurd this (by decide)
  | some y0 =>
    cases hx1 : xs[1]? with
    | none => have := List.getElem?_eq_none_iff.1 hx1; rw [hxs] at this; exact absurd this (by decide)
    | some y1 =>
      rw [hx0] at g0
      rw [hx1] at g1
      obtain ⟨a, ea, wa⟩ := open_int1 g0
      obtain ⟨b, cap, l, eb, l1, l2, l3, l4⟩ := open_spl g1
      have ea' : [v0] = [.int .i64 a] := ea
      have eb' : [v1] = [.slice b l.length cap] := eb
      injection ea' with ea'
      injection eb' with eb'
      subst ea' eb'
      exact ⟨⟨a, l⟩, k70_mk w ⟨a, l⟩ l1 l2, wa, l3, l4⟩
theorem open_odd (h : DataW.trod enc Try.prog w base (fun _ => true) held fuel 26 cs = some x) : ∃ (a : Option Addr) (cap : Nat) (l : List S70), cs = [.slice a l.length cap] ∧ l.length ≤ cap ∧ Kd.C k70 w a l.length l ∧ (∀ s ∈ l, grFits s) ∧ l.length ≤ 9223372036854775807 :=
  open_kd k70 Try.underlying26 (by kernel_rfl) grFits (fun _ _ _ g => open_gr g) h
structure FFits (p c : Int) (core : List (List Sp)) (odd : List S70) : Prop where
  fp : fits p
  fc : fits c
  fcore : ∀ l ∈ core, (∀ z ∈ l, spFits z) ∧ l.length ≤ 9223372036854775807
  fodd : ∀ g ∈ odd, grFits g
  lc : core.length ≤ 9223372036854775807
  lo : odd.length ≤ 9223372036854775807
set_option maxRecDepth 200000 in
theorem open_form {b0 : Nat} {v : Value} {d : DataW H} {ps : List MemPlace} (hv : Value.okWide Try.prog w .any b0 28 v) (h : DataW.Trod enc Try.prog w base (fun _ => true) held 28 v d ps) :
    ∃ (p c : Int) (A2 : Option Addr) (c2 : Nat) (core : List (List Sp)) (A3 : Option Addr) (c3 : Nat) (odd : List S70), v = .agg #[.int .i64 p, .int .i64 c, .slice A2 core.length c2, .slice A3 odd.length c3] ∧
      Kd.C (Kd.slice 23 k23) w A2 core.length core ∧ core.length ≤ c2 ∧ Kd.C k70 w A3 odd.length odd ∧ odd.length ≤ c3 ∧ FFits p c core odd := by
  have hq := okWide_struct (P := Try.prog) (w := w) (r := .any) (base := b0) (t := 28) (v := v) Try.underlying28
  have hq2 := hq hv
  obtain ⟨cs, rfl, hsz⟩ := hq2
  obtain ⟨fuel, h⟩ := h
  obtain ⟨xs, n, _, _, hl, hxs, hf⟩ := DataW.trod_struct Try.underlying28 h
  have e9 : Try.prog.cellsOf 28 = 4 := by kernel_rfl
  rw [e9] at hl
  have hl2 : cs.toList.length = 4 := hl
  clear hl e9
  obtain ⟨l⟩ := cs
  obtain ⟨v0, v1, v2, v3, rfl⟩ := four_of hl2
  have g0 : DataW.trod enc Try.prog w base (fun _ => true) held n 3 (List.take (Try.prog.cellsOf 3) (List.drop 0 [v0, v1, v2, v3])) = xs[0]? := hf 0 _ rfl
  rw [show Try.prog.cellsOf 3 = 1 by kernel_rfl] at g0
  have g1 : DataW.trod enc Try.prog w base (fun _ => true) held n 3 (List.take (Try.prog.cellsOf 3) (List.drop 1 [v0, v1, v2, v3])) = xs[1]? := hf 1 _ rfl
  rw [show Try.prog.cellsOf 3 = 1 by kernel_rfl] at g1
  have g2 : DataW.trod enc Try.prog w base (fun _ => true) held n 25 (List.take (Try.prog.cellsOf 25) (List.drop 2 [v0, v1, v2, v3])) = xs[2]? := hf 2 _ rfl
  rw [show Try.prog.cellsOf 25 = 1 by kernel_rfl] at g2
  have g3 : DataW.trod enc Try.prog w base (fun _ => true) held n 26 (List.take (Try.prog.cellsOf 26) (List.drop 3 [v0, v1, v2, v3])) = xs[3]? := hf 3 _ rfl
  rw [show Try.prog.cellsOf 26 = 1 by kernel_rfl] at g3
  have hx : ∀ j, j < 4 → ∃ y, xs[j]? = some y := fun j hj => ⟨_, List.getElem?_eq_getElem (by rw [hxs]; exact hj)⟩
  obtain ⟨y0, e0⟩ := hx 0 (by omega)
  obtain ⟨y1, e1⟩ := hx 1 (by omega)
  obtain ⟨y2, e2⟩ := hx 2 (by omega)
  obtain ⟨y3, e3⟩ := hx 3 (by omega)
  rw [e0] at g0
  rw [e1] at g1
  rw [e2] at g2
  rw [e3] at g3
  obtain ⟨p, ep, wp⟩ := open_int1 g0
  obtain ⟨c, ec, wc⟩ := open_int1 g1
  obtain ⟨A2, c2, core, e2', l1, l2, l3, l4⟩ := open_core g2
  obtain ⟨A3, c3, odd, e3', m1, m2, m3, m4⟩ := open_odd g3
  have ep' : [v0] = [.int .i64 p] := ep
  have ec' : [v1] = [.int .i64 c] := ec
  have e2'' : [v2] = [.slice A2 core.length c2] := e2'
  have e3'' : [v3] = [.slice A3 odd.length c3] := e3'
  injection ep' with ep'
  injection ec' with ec'
  injection e2'' with e2''
  injection e3'' with e3''
  subst ep' ec' e2'' e3''
  exact ⟨p, c, A2, c2, core, A3, c3, odd, rfl, l2, l1, m2, m1, ⟨wp, wc, l3, m3, l4, m4⟩⟩
end
end Go.Proofs.Ytmbmalkpmanaaaa.P

namespace Go.Proofs.Ytmbmalkpmanaaaa.P
open Go.RowKit Go.Proofs.YtmbmalkpmanaaaaW.PrintWords Go.Proofs.YtmbmalkpmanaaaaW.PrintLast Go.Proofs.YtmbmalkpmanaaaaW.PrintMore
attribute [local go_sem] max2_int min2_int max_two min_two max_three min_three max_four min_four   -- for this text's walks alone
set_option linter.unusedVariables false
set_option linter.unusedSimpArgs false

end Go.Proofs.Ytmbmalkpmanaaaa.P

namespace Go.Proofs.Ytmbmalkpmanaaaa.P
set_option linter.unusedVariables false
set_option linter.unusedSimpArgs false
open Go.RowKit Go.Proofs.YtmbmalkpmanaaaaW.PrintWords Go.Proofs.YtmbmalkpmanaaaaW.PrintMore

variable {p c : Int} {core : List (List Sp)} {odd : List Gn}
theorem FFits.mf (f : FFits p c core odd) : MF core odd := ⟨fun l hl => (f.fcore l hl).2, fun g hg => (f.fodd g hg).2.2⟩
structure AtS (p c : Int) (core : List (List Sp)) (odd : List Gn) (t : Int) (r : Int × Bool) : Prop where
  y : r.2 = true → Ex p c core odd r.1 ∧ hasL (gT p c core odd r.1) t = true
  n : r.2 = false → r.1 = 0 ∧ ∀ m, Ex p c core odd m → hasL (gT p c core odd m) t = false
end Go.Proofs.Ytmbmalkpmanaaaa.P


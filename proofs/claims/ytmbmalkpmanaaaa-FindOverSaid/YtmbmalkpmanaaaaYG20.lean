/- Lemmas for laws of chapter 7: what the functions that they reach compute. No condition of its own. -/
import Derived.Test.YtmbmalkpmanaaaaYG19
import Derived.Test.YtmbmalkpmanaaaaYG16
import Derived.Test.YtmbmalkpmanaaaaYG7
import Derived.Test.YtmbmalkpmanaaaaYG8
namespace Go.Proofs.Ytmbmalkpmanaaaa.P
set_option linter.unusedVariables false
set_option linter.unusedSimpArgs false
open Go.RowKit Go.Proofs.YtmbmalkpmanaaaaW.aK
variable {p c : Int} {core : List (List Sp)} {odd : List Gn}
theorem rdL (l : List (List Sp)) (j : Nat) (hj : j < l.length) : dZ l (j : Int) = l[j] := by simp [dZ, hj]
theorem aC0 (l : List Gn) (x : Int) (hj : x.toNat < l.length) : aU l x = l[x.toNat] := by simp [aU, hj]
theorem aC1 (l : List (List Sp)) (x : Int) (hj : x.toNat < l.length) : dZ l x = l[x.toNat] := by simp [dZ, hj]
def aaO (p c : Int) (core : List (List Sp)) (odd : List Gn) (i : Int) : List Sp × Int × Int :=
  match lW odd i with | some l => (l, 0, 0) | none => if c = 0 then ([], 0, 0) else (gG c core i, afu (i / c) p)
theorem afg (i : Int) : (aaO p c core odd i).1 = fs c core odd i := by
  unfold aaO fs
  cases lW odd i with
  | some l => rfl
  | none => by_cases hc : c = 0
            · simp [hc, gG]
            · simp [hc]
theorem alr (h : SF p c core odd) (i : Int) (hi : -4611686018427387904 ≤ i ∧ i ≤ 4611686018427387904) : Ev (fun k => jl.f k p c core odd i) (aaO p c core odd i) := by
  obtain ⟨r, r1, r2⟩ := aem h i
  have hc0 := h.hc
  have hl0 := h.hl
  refine Ev.congr (fun k => by unfold jl.f; rfl) (Ev.bind r1 ?_)
  by_cases hr : r.2 = true
  · obtain ⟨hj, he⟩ := r2.is hr
    have e1 : (r.1.toNat : Int) = r.1 := Int.toNat_of_nonneg r2.low
    have hv : aaO p c core odd i = (odd[r.1.toNat].f1, 0, 0) := by
      unfold aaO; rw [← he, acz h.hup (List.getElem_mem hj)]
    rw [hv]
    refine Ev.congr (f := fun _ => some (odd[r.1.toNat].f1, 0, 0)) (fun k => ?_) (Ev.now _)
    rw [if_pos hr, if_pos r2.low, if_pos (by omega), aC0 odd _ hj]
  · have hr' : r.2 = false := by simpa using hr
    have hno := r2.no hr'
    by_cases hc : c = 0
    · have hv : aaO p c core odd i = ([], 0, 0) := by unfold aaO; rw [hno]; simp [hc]
      rw [hv]
      refine Ev.congr (f := fun _ => some ([], 0, 0)) (fun k => ?_) (Ev.now _)
      rw [if_neg hr, if_pos hc]
    · have hv : aaO p c core odd i = (gG c core i, afu (i / c) p) := by unfold aaO; rw [hno]; simp [hc]
      rw [hv]
      refine Ev.congr (fun k => by rw [if_neg hr, if_neg hc]) (Ev.bind (aen i c hi (by omega)) ?_)
      have h1 := Int.emod_nonneg i hc
      have h2 := Int.emod_lt_of_pos i (show 0 < c by omega)
      have hq : -4611686018427387904 ≤ i / c ∧ i / c ≤ 4611686018427387904 := by
        have h3 := Int.mul_ediv_add_emod i c
        constructor
        · rcases iLt (i / c) (-4611686018427387904) with g | g
          · exfalso
            have : c * (i / c) ≤ 1 * (i / c) := Int.mul_le_mul_of_nonpos_right (by omega) (by omega)
            rw [Int.one_mul] at this
            by_cases hc1 : c = 1
            · subst hc1; omega
            · have : c * (i / c) ≤ 2 * (i / c) := Int.mul_le_mul_of_nonpos_right (by omega) (by omega)
              omega
          · exact g
        · rcases iLt 4611686018427387904 (i / c) with g | g
          · exfalso
            have : 1 * (i / c) ≤ c * (i / c) := Int.mul_le_mul_of_nonneg_right (by omega) (by omega)
            rw [Int.one_mul] at this; omega
          · exact g
      have hp0 := h.hp0
      have hp1 := h.hp1
      refine Ev.bind (aud (i / c) p (by omega) (by omega)) ?_
      refine Ev.congr (f := fun _ => some (gG c core i, afu (i / c) p)) (fun k => ?_) (Ev.now _)
      simp only
      have e1 : ((i % c).toNat : Int) = i % c := Int.toNat_of_nonneg h1
      have h4 : (i % c).toNat < core.length := by omega
      have e2 : gG c core i = core[(i % c).toNat] := by unfold gG; rw [if_neg hc, List.getD_eq_getElem?_getD, List.getElem?_eq_getElem h4]; rfl
      rw [if_pos h1, if_pos (by omega), e2, aC1 core _ h4]
def nu (p c : Int) (core : List (List Sp)) (odd : List Gn) (i : Int) : List Sp × Int :=
  if inR i then (if fs c core odd i = [] then ([], 0) else acy (fb p c odd i) (fs c core odd i)) else ([], 20)
theorem nQ (i : Int) : gI.f i = some (decide (inR i)) := by
  unfold gI.f inR
  by_cases h : i ≥ -1099511627776
  · have h2 : -1099511627776 ≤ i := h
    rw [if_pos h]; simp [h2]
  · have h2 : ¬ -1099511627776 ≤ i := h
    rw [if_neg h]; simp [h2]
theorem uF (h : SF p c core odd) (i : Int) : Ev (fun k => eO.f k p c core odd i) (nu p c core odd i) := by
  unfold eO.f nu
  by_cases hi : inR i
  · simp only [nQ, Option.bind_some, hi, decide_true, if_true]
    have hi' := hi
    unfold inR at hi'
    refine Ev.bind (alr h i (by omega)) ?_
    have hk := afg (p := p) (c := c) (core := core) (odd := odd) i
    have hSL := h.ahm i
    by_cases hz : fs c core odd i = []
    · rw [if_pos hz]
      refine Ev.congr (f := fun _ => some ([], 0)) (fun k => ?_) (Ev.now _)
      rw [hk, hz]; rfl
    · rw [if_neg hz]
      have hlen : ¬ ((fs c core odd i).length : Int) = 0 := by
        intro e; exact hz (List.eq_nil_of_length_eq_zero (by omega))
      simp only [hk, if_neg hlen]
      have ai0 := hSL.ends hz
      by_cases he : (aaO p c core odd i).2.2 = 0
      · simp only [if_pos he]
        have hb : (aaO p c core odd i).2.1 = fb p c odd i ∧ -9223372036854775808 ≤ fb p c odd i ∧ fb p c odd i ≤ 9223372036854775807 := by
          unfold aaO at he ⊢
          unfold fb
          cases ho : lW odd i with
          | some l => simp
          | none =>
            simp only [ho] at he ⊢
            by_cases hc : c = 0
            · subst hc; simp
            · simp only [if_neg hc, afu] at he ⊢
              split at he
              · rename_i hm; simp only [if_pos hm]; exact ⟨trivial, hm⟩
              · simp at he
        simp only [hb.1]
        refine Ev.congr (fun k => rfl) (Ev.bind (f := fun _ a => some (a.1, a.2)) (aru _ _ hSL hb.2) (Ev.now _))
      · simp only [if_neg he]
        have hb : fb p c odd i < -9223372036854775808 ∨ 9223372036854775807 < fb p c odd i := by
          unfold aaO at he
          unfold fb
          cases ho : lW odd i with
          | some l => simp [ho] at he
          | none =>
            simp only [ho] at he ⊢
            by_cases hc : c = 0
            · simp [hc] at he
            · simp only [if_neg hc, afu] at he
              split at he
              · simp at he
              · omega
        have hm : acy (fb p c odd i) (fs c core odd i) = ([], 20) := by
          unfold acy
          rw [if_neg]
          rw [hSL.aak hz]
          omega
        rw [hm]
        exact Ev.now _
  · simp only [nQ, Option.bind_some, hi, decide_false]
    exact Ev.now _
theorem aeo (h : SF p c core odd) (i : Int) (hi : inR i) : Ev (fun k => gZ.f k p c core odd i) (decide (fs c core odd i ≠ [])) := by
  unfold inR at hi
  refine Ev.congr (fun k => by unfold gZ.f; rfl) (Ev.bind (alr h i (by omega)) ?_)
  refine Ev.congr (f := fun _ => some (decide (fs c core odd i ≠ []))) (fun k => ?_) (Ev.now _)
  rw [afg]
  congr 1
  cases fs c core odd i with
  | nil => simp
  | cons s r => simp
theorem als (h : SF p c core odd) : ∃ b, Ev (fun k => iU.f k p c core odd) b ∧ (b = true ↔ ∀ l ∈ core, l = []) := by
  have hl0 := h.hl
  have key : ∀ (rest pre : List (List Sp)), core = pre ++ rest → (∀ l ∈ pre, l = []) → ∃ r : Int, Ev (fun k => bG.l0 k core (core.length : Int) (pre.length : Int)) r ∧ (r < 0 ↔ ∀ l ∈ core, l = []) := by
    intro rest
    induction rest with
    | nil =>
      intro pre hp he
      refine ⟨-1, Ev.step (f := fun _ => some (-1)) (fun k => ?_) (Ev.now _), ?_⟩
      · rw [bG.l0, if_neg (by rw [hp]; simp)]
      · simp only [List.append_nil] at hp
        subst hp
        exact ⟨fun _ => he, fun _ => by omega⟩
    | cons l r ih =>
      intro pre hp he
      have hlen : pre.length + 1 ≤ core.length := by rw [hp]; simp
      have hrd : dZ core (pre.length : Int) = l := by rw [hp]; simp [dZ]
      have c1 : (pre.length : Int) < (core.length : Int) := by omega
      by_cases hz : l = []
      · obtain ⟨x, x1, x2⟩ := ih (pre ++ [l]) (by rw [hp]; simp) (fun y hy => by rcases List.mem_append.1 hy with hy | hy; exact he y hy; simp at hy; rw [hy]; exact hz)
        refine ⟨x, Ev.step (fun k => ?_) x1, x2⟩
        have hw : wrap64 ((pre.length : Int) + 1) = ((pre ++ [l]).length : Int) := by rw [eH (by omega) (by omega)]; simp
        rw [bG.l0, if_pos c1, if_pos (by omega), if_pos c1, hrd, hw, hz]
        rfl
      · refine ⟨(pre.length : Int), Ev.step (f := fun _ => some (pre.length : Int)) (fun k => ?_) (Ev.now _), ?_⟩
        · rw [bG.l0, if_pos c1, if_pos (by omega), if_pos c1, hrd]
          cases l with
          | nil => exact absurd rfl hz
          | cons s t => simp [qp.f]
        · constructor
          · intro e; omega
          · intro e; exact absurd (e l (by rw [hp]; simp)) hz
  obtain ⟨r, r1, r2⟩ := key core [] rfl (by simp)
  refine ⟨decide (r < 0), ?_, by simpa using r2⟩
  unfold iU.f eX.f bG.f
  refine Ev.bind (a := decide (r ≥ 0)) (Ev.bind r1 (Ev.now _)) ?_
  have : (!decide (r ≥ 0)) = decide (r < 0) := by by_cases g : r < 0 <;> simp [g] <;> omega
  rw [this]; exact Ev.now _
def aip (c : Int) (core : List (List Sp)) (odd : List Gn) (a : Int) (r : Int × Bool) : Prop :=
  (r.2 = true → a ≤ r.1 ∧ inR r.1 ∧ fs c core odd r.1 ≠ [] ∧ ∀ m, a ≤ m → m < r.1 → fs c core odd m = []) ∧ (r.2 = false → r.1 = 0 ∧ ∀ m, a ≤ m → inR m → fs c core odd m = [])
def afh (c : Int) (core : List (List Sp)) (odd : List Gn) (a : Int) (r : Int × Bool) : Prop :=
  (r.2 = true → r.1 ≤ a ∧ inR r.1 ∧ fs c core odd r.1 ≠ [] ∧ ∀ m, m ≤ a → r.1 < m → fs c core odd m = []) ∧ (r.2 = false → r.1 = 0 ∧ ∀ m, m ≤ a → inR m → fs c core odd m = [])
theorem aep (h : SF p c core odd) (hb : ∀ l ∈ core, l = []) {m : Int} (hm : fs c core odd m ≠ []) : ∃ j, ∃ hj : j < odd.length, odd[j].f0 = m ∧ odd[j].f1 ≠ [] := by
  unfold fs at hm
  cases ho : lW odd m with
  | some l =>
    obtain ⟨g, hg, e1, e2⟩ := vk ho
    obtain ⟨j, hj, rfl⟩ := List.getElem_of_mem hg
    exact ⟨j, hj, e1, by rw [ho] at hm; rw [e2]; exact hm⟩
  | none =>
    rw [ho] at hm
    by_cases hc : c = 0
    · exact absurd (by simp [gG, hc]) hm
    · exact absurd (hb _ (h.yc m hc)) hm
theorem afi (h : SF p c core odd) {j : Nat} (hj : j < odd.length) : fs c core odd odd[j].f0 = odd[j].f1 := by
  unfold fs; rw [acz h.hup (List.getElem_mem hj)]
theorem ai1 (h : SF p c core odd) (a : Int) (ha : -1099511627776 ≤ a ∧ a ≤ 1099511627777) : ∃ r, Ev (fun k => aV.f k p c core odd a 1) r ∧ aip c core odd a r := by
  have hlo := h.hlo
  obtain ⟨b, b1, b2⟩ := als h
  by_cases hb : b = true
  · have hbare := b2.1 hb
    obtain ⟨r, r1, r2⟩ := aem h a
    have key : ∀ (d n : Nat), odd.length - n = d → n ≤ odd.length → (∀ j (hj : j < odd.length), j < n → odd[j].f0 < a ∨ odd[j].f1 = []) → (∀ j (hj : j < odd.length), n ≤ j → a ≤ odd[j].f0) →
        ∃ x, Ev (fun k => aV.l0 k 1 (n : Int) p c core odd) x ∧ aip c core odd a x := by
      intro d
      induction d with
      | zero =>
        intro n hd hn h1 h2
        have hnn : n = odd.length := by omega
        refine ⟨(0, false), Ev.step (f := fun k => aV.j3 k 1 (n : Int) false p c core odd) (fun k => ?_) (Ev.step (f := fun _ => some (0, false)) (fun k => ?_) (Ev.now _)), (fun e => by cases e), fun _ => ⟨rfl, fun m hm _ => ?_⟩⟩
        · rw [aV.l0, if_pos (by omega)]
          have : decide ((n : Int) < (odd.length : Int)) = false := by simp; omega
          rw [this]
        · rw [aV.j3, if_neg (by simp)]
        · refine Classical.byContradiction fun hne => ?_
          obtain ⟨j, hj, e1, e2⟩ := aep h hbare hne
          rcases h1 j hj (by omega) with g | g
          · omega
          · exact e2 g
      | succ d ih =>
        intro n hd hn h1 h2
        have hlt : n < odd.length := by omega
        have hdec : decide ((n : Int) < (odd.length : Int)) = true := by simp; omega
        by_cases hz : odd[n].f1 = []
        · obtain ⟨x, x1, x2⟩ := ih (n + 1) (by omega) (by omega) (fun j hj hjn => by
            rcases Nat.lt_or_ge j n with g | g
            · exact h1 j hj g
            · have : j = n := by omega
              subst this; exact .inr hz) (fun j hj hjn => h2 j hj (by omega))
          refine ⟨x, Ev.step (f := fun k => aV.j3 k 1 (n : Int) true p c core odd) (fun k => ?_) (Ev.step (fun k => ?_) x1), x2⟩
          · rw [aV.l0, if_pos (by omega), hdec]
          · have hw : wrap64 ((n : Int) + 1) = ((n + 1 : Nat) : Int) := by rw [eH (by omega) (by omega)]; simp
            rw [aV.j3, if_pos rfl, if_pos (by omega), if_pos (by omega), rdG odd n hlt, if_neg (by rw [hz]; simp), hw]
        · refine ⟨(odd[n].f0, true), Ev.step (f := fun k => aV.j3 k 1 (n : Int) true p c core odd) (fun k => ?_) (Ev.step (f := fun _ => some (odd[n].f0, true)) (fun k => ?_) (Ev.now _)), fun _ => ⟨h2 n hlt (Nat.le_refl _), h.hidx _ (List.getElem_mem hlt), by rw [afi h hlt]; exact hz, fun m hm1 hm2 => ?_⟩, (fun e => by cases e)⟩
          · rw [aV.l0, if_pos (by omega), hdec]
          · have : 0 < odd[n].f1.length := List.length_pos_iff.2 hz
            rw [aV.j3, if_pos rfl, if_pos (by omega), if_pos (by omega), rdG odd n hlt, if_pos (by omega)]
          · refine Classical.byContradiction fun hne => ?_
            obtain ⟨j, hj, e1, e2⟩ := aep h hbare hne
            rcases Nat.lt_or_ge j n with g | g
            · rcases h1 j hj g with g2 | g2
              · omega
              · exact e2 g2
            · rcases Nat.lt_or_ge n j with g2 | g2
              · have := ahn h.hup hj g2; simp only at hm2; omega
              · have : j = n := by omega
                subst this; simp only at hm2; omega
    have e1 : (r.1.toNat : Int) = r.1 := Int.toNat_of_nonneg r2.low
    have hhi := r2.high
    obtain ⟨x, x1, x2⟩ := key _ r.1.toNat rfl (by omega) (fun j hj hjn => .inl (r2.below j hj (by omega))) (fun j hj hjn => r2.above j hj (by omega))
    rw [e1] at x1
    refine ⟨x, ?_, x2⟩
    unfold aV.f
    refine Ev.bind b1 ?_
    refine Ev.congr (fun k => by rw [if_pos hb]) (Ev.bind r1 ?_)
    refine Ev.congr (fun k => by rw [if_neg (by omega)]) ?_
    refine Ev.step (f := fun k => aV.j1 k 1 r.1 p c core odd) (fun k => by rw [aV.j0, if_neg (by simp)]) ?_
    exact Ev.step (fun k => by rw [aV.j1]) x1
  · have key : ∀ (d : Nat) (i : Int), (1099511627777 - i).toNat = d → a ≤ i → i ≤ 1099511627777 → (∀ m, a ≤ m → m < i → fs c core odd m = []) → ∃ x, Ev (fun k => aV.l1 k 1 i p c core odd) x ∧ aip c core odd a x := by
      intro d
      induction d with
      | zero =>
        intro i hd h1 h2 h3
        have hi : ¬ inR i := by unfold inR; omega
        refine ⟨(0, false), Ev.step (f := fun _ => some (0, false)) (fun k => ?_) (Ev.now _), (fun e => by cases e), fun _ => ⟨rfl, fun m hm hr => h3 m hm (by unfold inR at hr; omega)⟩⟩
        rw [aV.l1, nQ]; simp [hi]
      | succ d ih =>
        intro i hd h1 h2 h3
        have hi : inR i := by unfold inR; omega
        by_cases hz : fs c core odd i = []
        · obtain ⟨x, x1, x2⟩ := ih (i + 1) (by omega) (by omega) (by omega) (fun m hm1 hm2 => by
            rcases iLt m i with g | g
            · exact h3 m hm1 g
            · have : m = i := by omega
              subst this; exact hz)
          refine ⟨x, ?_, x2⟩
          refine Ev.step (f := fun k => (gZ.f k p c core odd i).bind fun t => if t = true then some (i, true) else aV.l1 k 1 (wrap64 (i + 1)) p c core odd) (fun k => by rw [aV.l1, nQ]; simp [hi]) ?_
          refine Ev.bind (aeo h i hi) ?_
          refine Ev.congr (fun k => ?_) x1
          rw [if_neg (by simp [hz]), eH (by omega) (by omega)]
        · refine ⟨(i, true), ?_, fun _ => ⟨h1, hi, hz, h3⟩, (fun e => by cases e)⟩
          refine Ev.step (f := fun k => (gZ.f k p c core odd i).bind fun t => if t = true then some (i, true) else aV.l1 k 1 (wrap64 (i + 1)) p c core odd) (fun k => by rw [aV.l1, nQ]; simp [hi]) ?_
          refine Ev.bind (aeo h i hi) ?_
          exact Ev.congr (fun k => by rw [if_pos (by simp [hz])]) (Ev.now _)
    obtain ⟨x, x1, x2⟩ := key _ a rfl (Int.le_refl _) ha.2 (fun m h1 h2 => by omega)
    refine ⟨x, ?_, x2⟩
    unfold aV.f
    exact Ev.bind b1 (Ev.congr (fun k => by rw [if_neg hb]) x1)
end Go.Proofs.Ytmbmalkpmanaaaa.P
namespace Go.Proofs.Ytmbmalkpmanaaaa.P
set_option linter.unusedVariables false
set_option linter.unusedSimpArgs false
open Go.RowKit Go.Proofs.YtmbmalkpmanaaaaW.aK Go.Proofs.YtmbmalkpmanaaaaW.bM
variable {p c : Int} {core : List (List Sp)} {odd : List Gn}
theorem arx (a b : Int) : mn a b = min a b := by unfold mn; split <;> omega
theorem arz (a b : Int) : mx a b = max a b := by unfold mx; split <;> omega
theorem SL.len {lo hi : Int} : ∀ {l : List Sp} {lo : Int}, SL lo hi l → (l.length : Int) ≤ max 0 (hi - lo + 1)
  | [], _, _ => by simp; omega
  | s :: r, lo, ⟨h1, h2, h3, h4⟩ => by
    have := SL.len (lo := lo) h4
    simp only [List.length_cons]
    omega
theorem SL.ac3 {l : List Sp} (h : SL (-1099511627776) 1099511627776 l) : l.length ≤ 4611686018427387903 := by have := SL.len (lo := 0) h; omega
theorem aer : ∀ (l : List Sp), l ≠ [] → ∃ z, l.getLast? = some z ∧ z.f1 = qH l
  | [], h => absurd rfl h
  | [s], _ => ⟨s, rfl, rfl⟩
  | s :: t :: r, _ => by
    obtain ⟨z, h1, h2⟩ := aer (t :: r) (by simp)
    exact ⟨z, by rw [List.getLast?_cons_cons]; exact h1, h2⟩
theorem afj (a b : List Sp) : nG a b = true ↔ (a ≠ [] → b ≠ [] → qH a < qF b) := by
  by_cases ha : a = []
  · subst ha; simp [nG]
  · obtain ⟨z, h1, h2⟩ := aer a ha
    cases b with
    | nil => unfold nG; rw [h1]; simp
    | cons s r => unfold nG; rw [h1]; simp [qF, h2, ha]
theorem mO (l : List Sp) : ali l = if l = [] then (0, 0, false) else (qF l, qH l, true) := by
  by_cases ha : l = []
  · subst ha; rfl
  · obtain ⟨z, h1, h2⟩ := aer l ha
    rw [if_neg ha]
    cases l with
    | nil => exact absurd rfl ha
    | cons s r => unfold ali; rw [h1]; simp [qF, h2]
theorem ai2 (h : SF p c core odd) (a : Int) (ha : -1099511627777 ≤ a ∧ a ≤ 1099511627776) : ∃ r, Ev (fun k => aV.f k p c core odd a (-1)) r ∧ afh c core odd a r := by
  have hlo := h.hlo
  obtain ⟨b, b1, b2⟩ := als h
  by_cases hb : b = true
  · have hbare := b2.1 hb
    obtain ⟨r, r1, r2⟩ := aem h a
    have key : ∀ (n : Nat), n ≤ odd.length → (∀ j (hj : j < odd.length), n ≤ j → a < odd[j].f0 ∨ odd[j].f1 = []) → (∀ j (hj : j < odd.length), j < n → odd[j].f0 ≤ a) →
        ∃ x, Ev (fun k => aV.l0 k (-1) ((n : Int) - 1) p c core odd) x ∧ afh c core odd a x := by
      intro n
      induction n with
      | zero =>
        intro hn h1 h2
        refine ⟨(0, false), Ev.step (f := fun k => aV.j3 k (-1) ((0 : Nat) - 1 : Int) false p c core odd) (fun k => ?_) (Ev.step (f := fun _ => some (0, false)) (fun k => ?_) (Ev.now _)), (fun e => by cases e), fun _ => ⟨rfl, fun m hm _ => ?_⟩⟩
        · rw [aV.l0, if_neg (by omega)]
        · rw [aV.j3, if_neg (by simp)]
        · refine Classical.byContradiction fun hne => ?_
          obtain ⟨j, hj, e1, e2⟩ := aep h hbare hne
          rcases h1 j hj (by omega) with g | g
          · omega
          · exact e2 g
      | succ n ih =>
        intro hn h1 h2
        have hlt : n < odd.length := by omega
        have en : ((n + 1 : Nat) : Int) - 1 = (n : Int) := by omega
        have hdec : decide ((n : Int) < (odd.length : Int)) = true := by simp; omega
        rw [en]
        by_cases hz : odd[n].f1 = []
        · obtain ⟨x, x1, x2⟩ := ih (by omega) (fun j hj hjn => by
            rcases Nat.lt_or_ge n j with g | g
            · exact h1 j hj g
            · have : j = n := by omega
              subst this; exact .inr hz) (fun j hj hjn => h2 j hj (by omega))
          refine ⟨x, Ev.step (f := fun k => aV.j3 k (-1) (n : Int) true p c core odd) (fun k => ?_) (Ev.step (fun k => ?_) x1), x2⟩
          · rw [aV.l0, if_pos (by omega), hdec]
          · have hw : wrap64 ((n : Int) + -1) = (n : Int) - 1 := by rw [eH (by omega) (by omega)]; omega
            rw [aV.j3, if_pos rfl, if_pos (by omega), if_pos (by omega), rdG odd n hlt, if_neg (by rw [hz]; simp), hw]
        · refine ⟨(odd[n].f0, true), Ev.step (f := fun k => aV.j3 k (-1) (n : Int) true p c core odd) (fun k => ?_) (Ev.step (f := fun _ => some (odd[n].f0, true)) (fun k => ?_) (Ev.now _)), fun _ => ⟨h2 n hlt (by omega), h.hidx _ (List.getElem_mem hlt), by rw [afi h hlt]; exact hz, fun m hm1 hm2 => ?_⟩, (fun e => by cases e)⟩
          · rw [aV.l0, if_pos (by omega), hdec]
          · have : 0 < odd[n].f1.length := List.length_pos_iff.2 hz
            rw [aV.j3, if_pos rfl, if_pos (by omega), if_pos (by omega), rdG odd n hlt, if_pos (by omega)]
          · refine Classical.byContradiction fun hne => ?_
            obtain ⟨j, hj, e1, e2⟩ := aep h hbare hne
            rcases Nat.lt_or_ge n j with g | g
            · rcases h1 j hj g with g2 | g2
              · omega
              · exact e2 g2
            · rcases Nat.lt_or_ge j n with g2 | g2
              · have := ahn h.hup hlt g2; simp only at hm2; omega
              · have : j = n := by omega
                subst this; simp only at hm2; omega
    have e1 : (r.1.toNat : Int) = r.1 := Int.toNat_of_nonneg r2.low
    have hhi := r2.high
    have hend : ∃ x, Ev (fun k => aV.j0 k (-1) r.1 (!r.2) p c core odd) x ∧ afh c core odd a x := by
      by_cases hr : r.2 = true
      · obtain ⟨hj, he⟩ := r2.is hr
        obtain ⟨x, x1, x2⟩ := key (r.1.toNat + 1) (by omega) (fun j hj2 hjn => .inl (by have := ahn h.hup hj2 (show r.1.toNat < j by omega); omega)) (fun j hj2 hjn => by
          rcases Nat.lt_or_ge j r.1.toNat with g | g
          · have := ahn h.hup hj g; omega
          · have : j = r.1.toNat := by omega
            subst this; omega)
        have en : ((r.1.toNat + 1 : Nat) : Int) - 1 = r.1 := by omega
        rw [en] at x1
        refine ⟨x, Ev.step (f := fun k => aV.j1 k (-1) r.1 p c core odd) (fun k => ?_) (Ev.step (fun k => by rw [aV.j1]) x1), x2⟩
        rw [aV.j0, if_neg (by rw [hr]; simp)]
      · have hr' : r.2 = false := by simpa using hr
        have hno := xZ.1 (r2.no hr')
        obtain ⟨x, x1, x2⟩ := key r.1.toNat (by omega) (fun j hj2 hjn => .inl (by have := r2.above j hj2 (by omega); have := hno _ (List.getElem_mem hj2); omega)) (fun j hj2 hjn => by have := r2.below j hj2 (by omega); omega)
        have en : ((r.1.toNat : Nat) : Int) - 1 = r.1 - 1 := by omega
        rw [en] at x1
        refine ⟨x, Ev.step (f := fun k => aV.j1 k (-1) (r.1 - 1) p c core odd) (fun k => ?_) (Ev.step (fun k => by rw [aV.j1]) x1), x2⟩
        rw [aV.j0, if_pos (by rw [hr']; rfl), eH (by have := r2.low; omega) (by omega)]
    obtain ⟨x, x1, x2⟩ := hend
    refine ⟨x, ?_, x2⟩
    unfold aV.f
    refine Ev.bind b1 ?_
    refine Ev.congr (fun k => by rw [if_pos hb]) (Ev.bind r1 ?_)
    exact Ev.congr (fun k => by rw [if_pos (by omega)]) x1
  · have key : ∀ (d : Nat) (i : Int), (i + 1099511627777).toNat = d → i ≤ a → -1099511627777 ≤ i → (∀ m, m ≤ a → i < m → fs c core odd m = []) → ∃ x, Ev (fun k => aV.l1 k (-1) i p c core odd) x ∧ afh c core odd a x := by
      intro d
      induction d with
      | zero =>
        intro i hd h1 h2 h3
        have hi : ¬ inR i := by unfold inR; omega
        refine ⟨(0, false), Ev.step (f := fun _ => some (0, false)) (fun k => ?_) (Ev.now _), (fun e => by cases e), fun _ => ⟨rfl, fun m hm hr => h3 m hm (by unfold inR at hr; omega)⟩⟩
        rw [aV.l1, nQ]; simp [hi]
      | succ d ih =>
        intro i hd h1 h2 h3
        have hi : inR i := by unfold inR; omega
        by_cases hz : fs c core odd i = []
        · obtain ⟨x, x1, x2⟩ := ih (i - 1) (by omega) (by omega) (by omega) (fun m hm1 hm2 => by
            rcases iLt i m with g | g
            · exact h3 m hm1 g
            · have : m = i := by omega
              subst this; exact hz)
          refine ⟨x, ?_, x2⟩
          refine Ev.step (f := fun k => (gZ.f k p c core odd i).bind fun t => if t = true then some (i, true) else aV.l1 k (-1) (wrap64 (i + -1)) p c core odd) (fun k => by rw [aV.l1, nQ]; simp [hi]) ?_
          refine Ev.bind (aeo h i hi) ?_
          refine Ev.congr (fun k => ?_) x1
          rw [if_neg (by simp [hz]), eH (by omega) (by omega)]
          rfl
        · refine ⟨(i, true), ?_, fun _ => ⟨h1, hi, hz, h3⟩, (fun e => by cases e)⟩
          refine Ev.step (f := fun k => (gZ.f k p c core odd i).bind fun t => if t = true then some (i, true) else aV.l1 k (-1) (wrap64 (i + -1)) p c core odd) (fun k => by rw [aV.l1, nQ]; simp [hi]) ?_
          refine Ev.bind (aeo h i hi) ?_
          exact Ev.congr (fun k => by rw [if_pos (by simp [hz])]) (Ev.now _)
    obtain ⟨x, x1, x2⟩ := key _ a rfl (Int.le_refl _) ha.1 (fun m h1 h2 => by omega)
    refine ⟨x, ?_, x2⟩
    unfold aV.f
    exact Ev.bind b1 (Ev.congr (fun k => by rw [if_neg hb]) x1)
theorem xQ (h : SF p c core odd) (i : Int) (hi : -9223372036854775808 ≤ i ∧ i ≤ 9223372036854775807) : ∃ r, Ev (fun k => fT.f k p c core odd i) r ∧ aip c core odd (max (i + 1) (-1099511627776)) r := by
  unfold fT.f
  by_cases hm : i ≥ 1099511627776
  · refine ⟨(0, false), Ev.congr (f := fun _ => some (0, false)) (fun k => by rw [if_pos hm]) (Ev.now _), (fun e => by cases e), fun _ => ⟨rfl, fun m h1 h2 => by unfold inR at h2; omega⟩⟩
  · have hw : wrap64 (i + 1) = i + 1 := eH (by omega) (by omega)
    obtain ⟨r, r1, r2⟩ := ai1 h (max (i + 1) (-1099511627776)) (by omega)
    refine ⟨r, Ev.congr (fun k => by rw [if_neg hm, hw, arz]) (Ev.bind (f := fun _ a => some (a.1, a.2)) r1 (Ev.now _)), r2⟩
theorem acA (h : SF p c core odd) (i : Int) (hi : -9223372036854775808 ≤ i ∧ i ≤ 9223372036854775807) : ∃ r, Ev (fun k => iD.f k p c core odd i) r ∧ afh c core odd (min (i - 1) 1099511627776) r := by
  unfold iD.f
  by_cases hm : i ≤ -1099511627776
  · refine ⟨(0, false), Ev.congr (f := fun _ => some (0, false)) (fun k => by rw [if_pos hm]) (Ev.now _), (fun e => by cases e), fun _ => ⟨rfl, fun m h1 h2 => by unfold inR at h2; omega⟩⟩
  · have hw : wrap64 (i - 1) = i - 1 := eH (by omega) (by omega)
    obtain ⟨r, r1, r2⟩ := ai2 h (min (i - 1) 1099511627776) (by omega)
    refine ⟨r, Ev.congr (fun k => by rw [if_neg hm, hw, arx]) (Ev.bind (f := fun _ a => some (a.1, a.2)) r1 (Ev.now _)), r2⟩
end Go.Proofs.Ytmbmalkpmanaaaa.P
namespace Go.Proofs.Ytmbmalkpmanaaaa.P
set_option linter.unusedVariables false
set_option linter.unusedSimpArgs false
open Go.RowKit Go.Proofs.YtmbmalkpmanaaaaW.aK Go.Proofs.YtmbmalkpmanaaaaW.bM
variable {p c : Int} {core : List (List Sp)} {odd : List Gn}
structure MF (core : List (List Sp)) (odd : List Gn) : Prop where
  mc : ∀ l ∈ core, l.length ≤ 9223372036854775807
  mo : ∀ g ∈ odd, g.f1.length ≤ 9223372036854775807
theorem ank (m : MF core odd) (hl : core.length ≤ 6000) (hlo : odd.length ≤ 6000) : ∃ b, Ev (fun k => bJ.f k p c core odd) b ∧ (b = true → SF p c core odd) := by
  have k1 : ∀ (rest pre : List Gn), odd = pre ++ rest → (∀ g ∈ pre, SL (-1099511627776) 1099511627776 g.f1 ∧ inR g.f0) → pre.Pairwise (fun a b => a.f0 < b.f0) →
      ∃ b, Ev (fun k => bJ.l1 k odd (odd.length : Int) (pre.length : Int) p c core odd) b ∧ (b = true → (∀ g ∈ odd, SL (-1099511627776) 1099511627776 g.f1 ∧ inR g.f0) ∧ odd.Pairwise (fun a b => a.f0 < b.f0)) := by
    intro rest
    induction rest with
    | nil =>
      intro pre hp h1 h2
      refine ⟨true, Ev.step (f := fun _ => some true) (fun k => ?_) (Ev.now _), fun _ => ?_⟩
      · rw [bJ.l1, if_neg (by rw [hp]; simp)]
      · rw [List.append_nil] at hp; subst hp; exact ⟨h1, h2⟩
    | cons g r ih =>
      intro pre hp h1 h2
      have hlen : pre.length + 1 ≤ odd.length := by rw [hp]; simp
      have hrd : aU odd (pre.length : Int) = g := by rw [hp]; simp [aU]
      have c1 : (pre.length : Int) < (odd.length : Int) := by omega
      have hgm : g ∈ odd := by rw [hp]; simp
      have hr := ael g.f1 (m.mo g hgm)
      by_cases hs : slB (-1099511627776) g.f1 = true
      · by_cases hi : inR g.f0
        · have hw : wrap64 ((pre.length : Int) + 1) = ((pre ++ [g]).length : Int) := by rw [eH (by omega) (by omega)]; simp
          by_cases ho : ∀ a ∈ pre, a.f0 < g.f0
          · obtain ⟨b, b1, b2⟩ := ih (pre ++ [g]) (by rw [hp]; simp) (fun a ha => by
              rcases List.mem_append.1 ha with ha | ha
              · exact h1 a ha
              · simp at ha; subst ha; exact ⟨acw.1 hs, hi⟩) (List.pairwise_append.2 ⟨h2, by simp, fun a ha b hb => by simp at hb; subst hb; exact ho a ha⟩)
            refine ⟨b, ?_, b2⟩
            refine Ev.step (f := fun k => (bE.f k g.f1).bind fun t => if t = true then (if (pre.length : Int) > 0 then (if 0 ≤ wrap64 ((pre.length : Int) - 1) then (if wrap64 ((pre.length : Int) - 1) < (odd.length : Int) then (if g.f0 ≤ (aU odd (wrap64 ((pre.length : Int) - 1))).f0 then some false else bJ.l1 k odd (odd.length : Int) (wrap64 ((pre.length : Int) + 1)) p c core odd) else none) else none) else bJ.l1 k odd (odd.length : Int) (wrap64 ((pre.length : Int) + 1)) p c core odd) else some false) (fun k => ?_) ?_
            · rw [bJ.l1, if_pos c1, if_pos (by omega), if_pos c1, hrd, nQ]; simp [hi]
            · refine Ev.bind hr (Ev.congr (fun k => ?_) b1)
              rw [if_pos hs, hw]
              by_cases hz : (pre.length : Int) > 0
              · have hw2 : wrap64 ((pre.length : Int) - 1) = ((pre.length - 1 : Nat) : Int) := by rw [eH (by omega) (by omega)]; omega
                have hpl : pre.length - 1 < pre.length := by omega
                have azH : aU odd ((pre.length - 1 : Nat) : Int) = pre[pre.length - 1] := by
                  rw [rdG odd (pre.length - 1) (by omega)]; simp only [hp]; rw [List.getElem_append_left hpl]
                have := ho _ (List.getElem_mem hpl)
                rw [if_pos hz, hw2, if_pos (by omega), if_pos (by omega), azH, if_neg (by omega)]
              · rw [if_neg hz]
          · refine ⟨false, ?_, fun e => by cases e⟩
            have hz : 0 < pre.length := by
              cases pre with
              | nil => exact absurd (by simp) ho
              | cons a r => simp
            have hpl : pre.length - 1 < pre.length := by omega
            have hbad : g.f0 ≤ pre[pre.length - 1].f0 := by
              refine Classical.byContradiction fun hx => ho fun a ha => ?_
              obtain ⟨j, hj, rfl⟩ := List.getElem_of_mem ha
              rcases Nat.lt_or_ge j (pre.length - 1) with q | q
              · have := List.pairwise_iff_getElem.1 h2 j (pre.length - 1) hj hpl q; omega
              · have : j = pre.length - 1 := by omega
                subst this; omega
            refine Ev.step (f := fun k => (bE.f k g.f1).bind fun t => if t = true then (some false) else some false) (fun k => ?_) ?_
            · have hw2 : wrap64 ((pre.length : Int) - 1) = ((pre.length - 1 : Nat) : Int) := by rw [eH (by omega) (by omega)]; omega
              have azH : aU odd ((pre.length - 1 : Nat) : Int) = pre[pre.length - 1] := by
                rw [rdG odd (pre.length - 1) (by omega)]; simp only [hp]; rw [List.getElem_append_left hpl]
              rw [bJ.l1, if_pos c1, if_pos (by omega), if_pos c1, hrd, nQ, hw2, azH]
              have q1 : (pre.length : Int) > 0 := by omega
              have q2 : (0 : Int) ≤ ((pre.length - 1 : Nat) : Int) := by omega
              have q3 : ((pre.length - 1 : Nat) : Int) < (odd.length : Int) := by omega
              simp only [Option.bind_some, hi, decide_true, if_true, if_pos q1, if_pos q2, if_pos q3, if_pos hbad]
            · exact Ev.bind hr (Ev.congr (fun k => by simp) (Ev.now _))
        · refine ⟨false, ?_, fun e => by cases e⟩
          refine Ev.step (f := fun k => (bE.f k g.f1).bind fun t => if t = true then (some false) else some false) (fun k => ?_) (Ev.bind hr (Ev.congr (fun k => by simp) (Ev.now _)))
          rw [bJ.l1, if_pos c1, if_pos (by omega), if_pos c1, hrd, nQ]; simp [hi]
      · refine ⟨false, ?_, fun e => by cases e⟩
        refine Ev.step (fun k => by rw [bJ.l1, if_pos c1, if_pos (by omega), if_pos c1, hrd]) (Ev.bind hr (Ev.congr (fun k => by rw [if_neg hs]) (Ev.now _)))
  have k0 : ∀ (rest pre : List (List Sp)), core = pre ++ rest → (∀ l ∈ pre, SL (-1099511627776) 1099511627776 l) →
      ∃ b, Ev (fun k => bJ.l0 k core (core.length : Int) (pre.length : Int) p c core odd) b ∧ (b = true → (∀ l ∈ core, SL (-1099511627776) 1099511627776 l) ∧ (∀ g ∈ odd, SL (-1099511627776) 1099511627776 g.f1 ∧ inR g.f0) ∧ odd.Pairwise (fun a b => a.f0 < b.f0)) := by
    intro rest
    induction rest with
    | nil =>
      intro pre hp h1
      obtain ⟨b, b1, b2⟩ := k1 odd [] rfl (by simp) List.Pairwise.nil
      refine ⟨b, Ev.step (fun k => ?_) b1, fun e => ?_⟩
      · rw [bJ.l0, if_neg (by rw [hp]; simp)]; rfl
      · rw [List.append_nil] at hp; subst hp; exact ⟨h1, b2 e⟩
    | cons l r ih =>
      intro pre hp h1
      have hlen : pre.length + 1 ≤ core.length := by rw [hp]; simp
      have hrd : dZ core (pre.length : Int) = l := by rw [hp]; simp [dZ]
      have c1 : (pre.length : Int) < (core.length : Int) := by omega
      have hr := ael l (m.mc l (by rw [hp]; simp))
      by_cases hs : slB (-1099511627776) l = true
      · obtain ⟨b, b1, b2⟩ := ih (pre ++ [l]) (by rw [hp]; simp) (fun a ha => by
          rcases List.mem_append.1 ha with ha | ha
          · exact h1 a ha
          · simp at ha; subst ha; exact acw.1 hs)
        refine ⟨b, ?_, b2⟩
        have hw : wrap64 ((pre.length : Int) + 1) = ((pre ++ [l]).length : Int) := by rw [eH (by omega) (by omega)]; simp
        exact Ev.step (fun k => by rw [bJ.l0, if_pos c1, if_pos (by omega), if_pos c1, hrd]) (Ev.bind hr (Ev.congr (fun k => by rw [if_pos hs, hw]) b1))
      · refine ⟨false, ?_, fun e => by cases e⟩
        exact Ev.step (fun k => by rw [bJ.l0, if_pos c1, if_pos (by omega), if_pos c1, hrd]) (Ev.bind hr (Ev.congr (fun k => by rw [if_neg hs]) (Ev.now _)))
  have bad : ∃ b, Ev (fun k => bJ.j0 k true p c core odd) b ∧ (b = true → SF p c core odd) :=
    ⟨false, Ev.step (f := fun _ => some false) (fun k => by rw [bJ.j0, if_pos rfl]) (Ev.now _), fun e => by cases e⟩
  unfold bJ.f
  by_cases hc : c = (core.length : Int)
  · by_cases hz : ((c == 0) != (p == 0)) = true
    · obtain ⟨b, b1, b2⟩ := bad
      exact ⟨b, Ev.congr (fun k => by rw [if_pos hc, if_pos hz]) b1, b2⟩
    · by_cases hp0 : p < 0
      · obtain ⟨b, b1, b2⟩ := bad
        exact ⟨b, Ev.congr (fun k => by rw [if_pos hc, if_neg hz, if_pos hp0]) b1, b2⟩
      · by_cases hp1 : p > 1099511627776
        · obtain ⟨b, b1, b2⟩ := bad
          exact ⟨b, Ev.congr (fun k => by rw [if_pos hc, if_neg hz, if_neg hp0, decide_eq_true hp1]) b1, b2⟩
        · obtain ⟨b, b1, b2⟩ := k0 core [] rfl (by simp)
          refine ⟨b, Ev.congr (fun k => by rw [if_pos hc, if_neg hz, if_neg hp0, decide_eq_false hp1]) (Ev.step (fun k => ?_) b1), fun e => ?_⟩
          · rw [bJ.j0, if_neg (by simp)]; rfl
          · obtain ⟨x1, x2, x3⟩ := b2 e
            refine ⟨hc, by omega, by omega, ?_, x1, fun g hg => (x2 g hg).1, fun g hg => (x2 g hg).2, x3, hl, hlo⟩
            have hz' : (c == 0) = (p == 0) := by simpa using hz
            constructor
            · intro e0; rw [e0] at hz'; simpa using hz'.symm
            · intro e0; rw [e0] at hz'; simpa using hz'
  · obtain ⟨b, b1, b2⟩ := bad
    exact ⟨b, Ev.congr (fun k => by rw [if_neg hc]) b1, b2⟩
end Go.Proofs.Ytmbmalkpmanaaaa.P
namespace Go.Proofs.Ytmbmalkpmanaaaa.P
set_option linter.unusedVariables false
set_option linter.unusedSimpArgs false
open Go.RowKit Go.Proofs.YtmbmalkpmanaaaaW.aK Go.Proofs.YtmbmalkpmanaaaaW.bM
variable {p c : Int} {core : List (List Sp)} {odd : List Gn}
def neL (l : List (List Sp)) : List (List Sp) := l.filter (fun x => decide (x ≠ []))
theorem ahp {l : List (List Sp)} {x : List Sp} : x ∈ neL l ↔ x ∈ l ∧ x ≠ [] := by simp [neL]
theorem anl (l : List (List Sp)) (x : List Sp) : neL (l ++ [x]) = if x = [] then neL l else neL l ++ [x] := by
  unfold neL
  rw [List.filter_append]
  by_cases h : x = []
  · simp [h]
  · simp [h]
theorem an5 (x : List Sp) (hx : x ≠ []) (hl : x.length ≤ 4611686018427387903) : wrap64 ((x.length : Int) - 1) = (x.length : Int) - 1 ∧ 0 ≤ (x.length : Int) - 1 ∧ (aT x ((x.length : Int) - 1)).f1 = qH x := by
  rcases List.eq_nil_or_concat x with rfl | ⟨o, z, rfl⟩
  · exact absurd rfl hx
  · rw [List.concat_eq_append] at *
    have e : ((o ++ [z]).length : Int) - 1 = (o.length : Int) := by simp
    refine ⟨eH (by simp only [List.length_append, List.length_singleton]; omega) (by omega), by rw [e]; omega, ?_⟩
    rw [e, alo]
    have := aik o [] z
    rw [this]
theorem alu (x : List Sp) (hx : x ≠ []) : 0 < x.length ∧ (aT x 0).f0 = qF x := by
  cases x with
  | nil => exact absurd rfl hx
  | cons s r => exact ⟨by simp, rfl⟩
theorem anm (h : SF p c core odd) : ∃ b, Ev (fun k => fD.f k p c core odd) b ∧ (b = true → TF p core) := by
  have hl := h.hl
  have hp0 := h.hp0
  have hp1 := h.hp1
  obtain ⟨ne, hne⟩ : ∃ ne, neL core = ne := ⟨_, rfl⟩
  have hmem : ∀ x ∈ ne, x ∈ core ∧ x ≠ [] := fun x hx => ahp.1 (by rw [hne]; exact hx)
  have hnl : ne.length ≤ 6000 := by rw [← hne]; exact Nat.le_trans (List.length_filter_le _ _) hl
  obtain ⟨g, hg⟩ : ∃ g : Nat → List Sp, g = fun j => ne.getD j [] := ⟨_, rfl⟩
  have hgm : ∀ j, j < ne.length → g j ∈ core ∧ g j ≠ [] := fun j hj => by
    rw [hg]; simp only; rw [List.getD_eq_getElem?_getD, List.getElem?_eq_getElem hj]; exact hmem _ (List.getElem_mem hj)
  have hgr : ∀ j : Nat, dZ ne (j : Int) = g j := fun j => by rw [hg]; simp [dZ]
  obtain ⟨Q, hQ⟩ : ∃ Q : Nat → Prop, Q = fun j => qH (g j) < qF (g ((j + 1) % ne.length)) + (if j + 1 = ne.length then p else 0) := ⟨_, rfl⟩
  have k1 : ∀ (d n : Nat), ne.length - n = d → n ≤ ne.length → (∀ j, j < n → Q j) →
      ∃ b, Ev (fun k => fD.l1 k ne ne (ne.length : Int) (n : Int) p c core odd) b ∧ (b = true → ∀ j, j < ne.length → Q j) := by
    intro d
    induction d with
    | zero =>
      intro n hd hn h1
      refine ⟨true, Ev.step (f := fun _ => some true) (fun k => ?_) (Ev.now _), fun _ j hj => h1 j (by omega)⟩
      rw [fD.l1, if_neg (by omega)]
    | succ d ih =>
      intro n hd hn h1
      have hlt : n < ne.length := by omega
      obtain ⟨m, hm0⟩ : ∃ m, (n + 1) % ne.length = m := ⟨_, rfl⟩
      have hm : m < ne.length := by rw [← hm0]; exact Nat.mod_lt _ (by omega)
      have q1 : (n : Int) < (ne.length : Int) := by clear hm0; omega
      have q2 : (0 : Int) ≤ (n : Int) := by clear hm0; omega
      have q3 : ¬ (ne.length : Int) = 0 := by clear hm0; omega
      have q4 : (0 : Int) ≤ (m : Int) := by clear hm0; omega
      have q5 : (m : Int) < (ne.length : Int) := by clear hm0; omega
      obtain ⟨x, hx0⟩ : ∃ x, g n = x := ⟨_, rfl⟩
      obtain ⟨y, hy0⟩ : ∃ y, g m = y := ⟨_, rfl⟩
      have hx := hgm n hlt
      have hy := hgm m hm
      rw [hx0] at hx
      rw [hy0] at hy
      have hSx := h.hcore _ hx.1
      have hSy := h.hcore _ hy.1
      have eny := hSy.ends hy.2
      have main : ∀ (X : Int), X = (if n + 1 = ne.length then p else 0) → 0 ≤ X → X ≤ p → ∃ b, Ev (fun k => if (qH x) ≥ (wrap64 (qF y + X)) then some false else fD.l1 k ne ne (ne.length : Int) (((n + 1 : Nat) : Int)) p c core odd) b ∧ (b = true → ∀ j, j < ne.length → Q j) := by
        intro X hX hX0 hX1
        have hw : wrap64 (qF y + X) = qF y + X := eH (by omega) (by omega)
        rw [hw]
        by_cases hb : qH x ≥ qF y + X
        · exact ⟨false, Ev.congr (fun k => by rw [if_pos hb]) (Ev.now _), fun e => by cases e⟩
        · obtain ⟨b, b1, b2⟩ := ih (n + 1) (by omega) (by omega) (fun j hjn => by
            rcases Nat.lt_or_ge j n with q | q
            · exact h1 j q
            · have : j = n := by omega
              subst this; rw [hQ]; simp only; rw [hm0, hx0, hy0, ← hX]; omega)
          exact ⟨b, Ev.congr (fun k => by rw [if_neg hb]) b1, b2⟩
      obtain ⟨l1, l2, l3⟩ := an5 _ hx.2 hSx.ac3
      obtain ⟨f1, f2⟩ := alu _ hy.2
      have e0 : wrap64 ((n : Int) + 1) = ((n + 1 : Nat) : Int) := by clear l1 l2 l3 f2; rw [eH (by omega) (by omega)]; simp
      have e1 : Int.tmod ((n + 1 : Nat) : Int) (ne.length : Int) = (m : Int) := by
        have e2 : (((n + 1) % ne.length : Nat) : Int) = ((n + 1 : Nat) : Int) % (ne.length : Int) := Int.natCast_emod _ _
        rw [hm0] at e2
        exact (Int.tmod_eq_emod_of_nonneg (Int.natCast_nonneg _)).trans e2.symm
      have r1 : dZ ne (n : Int) = x := by rw [hgr, hx0]
      have r2 : dZ ne (m : Int) = y := by rw [hgr, hy0]
      have q7 : ((x.length : Int) - 1) < (x.length : Int) := Int.sub_lt_self _ (by decide)
      have q8 : (0 : Int) < (y.length : Int) := Int.ofNat_lt.mpr f1
      by_cases hlast : n + 1 = ne.length
      · have q6 : ((n + 1 : Nat) : Int) = (ne.length : Int) := by rw [hlast]
        obtain ⟨b, b1, b2⟩ := main p (by rw [if_pos hlast]) hp0 (Int.le_refl _)
        refine ⟨b, Ev.step (fun k => ?_) b1, b2⟩
        rw [fD.l1, if_pos q1, if_pos q2, if_pos q1, if_neg q3, e0, e1, if_pos q4, if_pos q5, if_pos q6, r1, r2, l1, if_pos l2, if_pos q7, if_pos q8, l3, f2]
      · obtain ⟨b, b1, b2⟩ := main 0 (by rw [if_neg hlast]) (Int.le_refl _) hp0
        refine ⟨b, Ev.step (fun k => ?_) b1, b2⟩
        have q6 : ¬ ((n + 1 : Nat) : Int) = (ne.length : Int) := fun e => hlast (Int.ofNat.inj e)
        rw [fD.l1, if_pos q1, if_pos q2, if_pos q1, if_neg q3, e0, e1, if_pos q4, if_pos q5, if_neg q6, r1, r2, l1, if_pos l2, if_pos q7, if_pos q8, l3, f2]
  have fin : (∀ j, j < ne.length → Q j) → TF p core := by
    intro hj
    rw [hQ] at hj
    simp only at hj
    have ai0 : ∀ j, j < ne.length → qF (g j) ≤ qH (g j) := fun j hj2 => ((h.hcore _ (hgm j hj2).1).ends (hgm j hj2).2).2.1
    have aBk : ∀ j, j + 1 < ne.length → qH (g j) < qF (g (j + 1)) := fun j hj1 => by
      have := hj j (by omega)
      rw [Nat.mod_eq_of_lt hj1, if_neg (by omega)] at this; omega
    have aBl : ∀ (d i j : Nat), j < ne.length → j - i = d → i < j → qH (g i) < qF (g j) := by
      intro d
      induction d with
      | zero => intro i j hj2 hd hij; omega
      | succ d ih =>
        intro i j hj2 hd hij
        by_cases azI : i + 1 = j
        · subst azI; exact aBk i hj2
        · have a1 := aBk i (by omega)
          have a2 := ih (i + 1) j hj2 (by omega) (by omega)
          have a3 := ai0 (i + 1) (by omega)
          omega
    have hmono : ∀ i j, j < ne.length → i ≤ j → qF (g i) ≤ qF (g j) ∧ qH (g i) ≤ qH (g j) := by
      intro i j hj2 hij
      rcases Nat.lt_or_ge i j with q | q
      · have a1 := aBl _ i j hj2 rfl q
        have a2 := ai0 i (by omega)
        have a3 := ai0 j hj2
        omega
      · have : i = j := by omega
        subst this; omega
    have hget : ∀ j (hj2 : j < ne.length), ne[j] = g j := fun j hj2 => by rw [hg]; simp only; rw [List.getD_eq_getElem?_getD, List.getElem?_eq_getElem hj2]; rfl
    constructor
    · have hpw : ne.Pairwise (fun a b => qH a < qF b) := List.pairwise_iff_getElem.2 (fun i j hi hj2 hij => by rw [hget i hi, hget j hj2]; exact aBl _ i j hj2 rfl hij)
      rw [← hne] at hpw
      unfold neL at hpw
      rw [List.pairwise_filter] at hpw
      exact hpw.imp (fun hx ha hb => hx (by simpa using ha) (by simpa using hb))
    · intro a ha b hb hna hnb
      obtain ⟨i, hi, rfl⟩ := List.getElem_of_mem (show a ∈ ne by rw [← hne]; exact ahp.2 ⟨ha, hna⟩)
      obtain ⟨j, hj2, rfl⟩ := List.getElem_of_mem (show b ∈ ne by rw [← hne]; exact ahp.2 ⟨hb, hnb⟩)
      rw [hget i hi, hget j hj2]
      have hz := hj (ne.length - 1) (by omega)
      have e : (ne.length - 1 + 1) % ne.length = 0 := by rw [Nat.sub_add_cancel (by omega)]; exact Nat.mod_self _
      rw [e, if_pos (by omega)] at hz
      have a1 := (hmono i (ne.length - 1) (by omega) (by omega)).2
      have a2 := (hmono 0 j hj2 (by omega)).1
      omega
  have k0 : ∀ (rest pre : List (List Sp)), core = pre ++ rest → ∃ b, Ev (fun k => fD.l0 k (neL pre) core (core.length : Int) (pre.length : Int) p c core odd) b ∧ (b = true → TF p core) := by
    intro rest
    induction rest with
    | nil =>
      intro pre hp
      obtain ⟨b, b1, b2⟩ := k1 _ 0 rfl (by omega) (fun j hj => by omega)
      rw [List.append_nil] at hp
      refine ⟨b, Ev.step (fun k => ?_) b1, fun e => fin (b2 e)⟩
      rw [fD.l0, if_neg (by rw [hp]; omega), ← hp, hne]
      rfl
    | cons l r ih =>
      intro pre hp
      have hlen : pre.length + 1 ≤ core.length := by rw [hp]; simp
      have hrd : dZ core (pre.length : Int) = l := by rw [hp]; simp [dZ]
      have c1 : (pre.length : Int) < (core.length : Int) := by omega
      have hw : wrap64 ((pre.length : Int) + 1) = ((pre ++ [l]).length : Int) := by rw [eH (by omega) (by omega)]; simp
      obtain ⟨b, b1, b2⟩ := ih (pre ++ [l]) (by rw [hp]; simp)
      refine ⟨b, Ev.step (fun k => ?_) b1, b2⟩
      have hnp : (neL pre).length ≤ pre.length := List.length_filter_le _ _
      rw [fD.l0, if_pos c1, if_pos (by omega), if_pos c1, hrd, hw, anl]
      by_cases hz : l = []
      · rw [if_pos hz, hz]; simp
      · have : 0 < l.length := List.length_pos_iff.2 hz
        rw [if_neg hz, if_pos (by omega), if_pos (by omega)]
  exact k0 core [] rfl
theorem alv (h : SF p c core odd) (i : Int) (hi : inR i) : ∃ b, Ev (fun k => fu.f k p c core odd i) b ∧ (b = true → (nu p c core odd i).2 = 0 ∧
    (∀ k, i < k → inR k → fs c core odd k ≠ [] → gap c core odd i k → (nu p c core odd k).2 = 0 ∧ nG (nu p c core odd i).1 (nu p c core odd k).1 = true) ∧
    (∀ k, k < i → inR k → fs c core odd k ≠ [] → gap c core odd k i → (nu p c core odd k).2 = 0 ∧ nG (nu p c core odd k).1 (nu p c core odd i).1 = true)) := by
  have hi' := hi
  unfold inR at hi'
  obtain ⟨lo, lo1, lo2⟩ := acA h i (by omega)
  obtain ⟨up, up1, up2⟩ := xQ h i (by omega)
  have hlen : ∀ j, (nu p c core odd j).1.length ≤ 4611686018427387904 := by
    intro j
    have hs := (h.ahm j).ac3
    unfold nu
    split
    · split
      · simp
      · unfold acy; split
        · simp; omega
        · simp
    · simp
  have hah : ∀ j m, dF.f (nu p c core odd j).1 (nu p c core odd m).1 = some (nG (nu p c core odd j).1 (nu p c core odd m).1) := fun j m => ahk _ _ (hlen j)
  have avA : ∀ m : List Sp, dF.f ([] : List Sp) m = some true := fun m => by rw [ahk _ _ (by simp)]; simp [nG]
  have azJ : ∀ j, dF.f (nu p c core odd j).1 ([] : List Sp) = some true := fun j => by rw [ahk _ _ (hlen j)]; congr 1; unfold nG; cases (nu p c core odd j).1.getLast? <;> rfl
  have hup : up.2 = true → ∀ k, i < k → inR k → fs c core odd k ≠ [] → gap c core odd i k → k = up.1 := by
    intro e k h1 h2 h3 h4
    obtain ⟨a1, a2, a3, a4⟩ := up2.1 e
    unfold inR at h2 a2
    rcases Int.lt_trichotomy k up.1 with g | g | g
    · exact absurd (a4 k (by omega) g) h3
    · exact g
    · exact absurd (h4 up.1 (by omega) g) a3
  have aBm : up.2 = false → ∀ k, i < k → inR k → fs c core odd k ≠ [] → False := by
    intro e k h1 h2 h3
    obtain ⟨_, a4⟩ := up2.2 e
    have h2' := h2
    unfold inR at h2'
    exact h3 (a4 k (by omega) h2)
  have hdn : lo.2 = true → ∀ k, k < i → inR k → fs c core odd k ≠ [] → gap c core odd k i → k = lo.1 := by
    intro e k h1 h2 h3 h4
    obtain ⟨a1, a2, a3, a4⟩ := lo2.1 e
    unfold inR at h2 a2
    rcases Int.lt_trichotomy k lo.1 with g | g | g
    · exact absurd (h4 lo.1 g (by omega)) a3
    · exact g
    · exact absurd (a4 k (by omega) g) h3
  have aBn : lo.2 = false → ∀ k, k < i → inR k → fs c core odd k ≠ [] → False := by
    intro e k h1 h2 h3
    obtain ⟨_, a4⟩ := lo2.2 e
    have h2' := h2
    unfold inR at h2'
    exact h3 (a4 k (by omega) h2)
  have wrong : ∀ {P : Prop}, false = true → P := fun e => by cases e
  have S0 : (nu p c core odd i).2 = 0 → ∀ {b : Bool}, Ev (fun k => if lo.2 = true then ((eO.f k p c core odd lo.1).bind fun xI => (if xI.2 = 0 then (fu.j0 k (nu p c core odd i).1 up.1 up.2 xI.1 ([] : List Sp) p c core odd) else (some false))) else (fu.j0 k (nu p c core odd i).1 up.1 up.2 ([] : List Sp) ([] : List Sp) p c core odd)) b → Ev (fun k => fu.f k p c core odd i) b := by
    intro h0 b hb
    unfold fu.f
    refine Ev.bind (uF h i) ?_
    refine Ev.congr (fun k => by rw [if_pos h0]) ?_
    refine Ev.bind lo1 ?_
    exact Ev.bind up1 hb
  have S1 : (nu p c core odd i).2 = 0 → lo.2 = true → (nu p c core odd lo.1).2 = 0 → ∀ {b : Bool}, Ev (fun k => fu.j0 k (nu p c core odd i).1 up.1 up.2 (nu p c core odd lo.1).1 ([] : List Sp) p c core odd) b → Ev (fun k => fu.f k p c core odd i) b := by
    intro h0 hl h1 b hb
    refine S0 h0 ?_
    refine Ev.congr (fun k => by rw [if_pos hl]) ?_
    refine Ev.bind (uF h lo.1) ?_
    exact Ev.congr (fun k => by rw [if_pos h1]) hb
  have S2 : (nu p c core odd i).2 = 0 → lo.2 ≠ true → ∀ {b : Bool}, Ev (fun k => fu.j0 k (nu p c core odd i).1 up.1 up.2 ([] : List Sp) ([] : List Sp) p c core odd) b → Ev (fun k => fu.f k p c core odd i) b := by
    intro h0 hl b hb
    exact S0 h0 (Ev.congr (fun k => by rw [if_neg hl]) hb)
  have J1 : up.2 = true → (nu p c core odd up.1).2 = 0 → ∀ (l : List Sp) {b : Bool}, ((dF.f l (nu p c core odd i).1).bind fun agP => (if agP = true then ((dF.f (nu p c core odd i).1 (nu p c core odd up.1).1).bind fun ad2 => (if ad2 = true then ((dF.f l (nu p c core odd up.1).1).bind fun ab7 => (some ab7)) else (some false))) else (some false))) = some b → Ev (fun k => fu.j0 k (nu p c core odd i).1 up.1 up.2 l ([] : List Sp) p c core odd) b := by
    intro hu h2 l b hb
    refine Ev.step (fun k => by rw [fu.j0, if_pos hu]) ?_
    refine Ev.bind (uF h up.1) ?_
    refine Ev.congr (fun k => by rw [if_pos h2]) ?_
    rw [hb]; exact Ev.now _
  have J2 : up.2 = true → ¬ (nu p c core odd up.1).2 = 0 → ∀ (l : List Sp), Ev (fun k => fu.j0 k (nu p c core odd i).1 up.1 up.2 l ([] : List Sp) p c core odd) false := by
    intro hu h2 l
    refine Ev.step (fun k => by rw [fu.j0, if_pos hu]) ?_
    refine Ev.bind (uF h up.1) ?_
    exact Ev.congr (fun k => by rw [if_neg h2]) (Ev.now _)
  have J3 : ¬ up.2 = true → ∀ (l : List Sp) {b : Bool}, ((dF.f l (nu p c core odd i).1).bind fun agQ => (if agQ = true then ((dF.f (nu p c core odd i).1 ([] : List Sp)).bind fun ad3 => (if ad3 = true then ((dF.f l ([] : List Sp)).bind fun ab8 => (some ab8)) else (some false))) else (some false))) = some b → Ev (fun k => fu.j0 k (nu p c core odd i).1 up.1 up.2 l ([] : List Sp) p c core odd) b := by
    intro hu l b hb
    refine Ev.step (f := fun _ => some b) (fun k => ?_) (Ev.now _)
    rw [fu.j0, if_neg hu, hb]
  by_cases h0 : (nu p c core odd i).2 = 0
  · by_cases hlo : lo.2 = true
    · by_cases h1 : (nu p c core odd lo.1).2 = 0
      · by_cases hu : up.2 = true
        · by_cases h2 : (nu p c core odd up.1).2 = 0
          · refine ⟨nG (nu p c core odd lo.1).1 (nu p c core odd i).1 && (nG (nu p c core odd i).1 (nu p c core odd up.1).1 && nG (nu p c core odd lo.1).1 (nu p c core odd up.1).1), S1 h0 hlo h1 (J1 hu h2 _ ?_), fun e => ?_⟩
            · rw [hah, hah, hah]
              cases nG (nu p c core odd lo.1).1 (nu p c core odd i).1 <;> cases nG (nu p c core odd i).1 (nu p c core odd up.1).1 <;> simp
            · simp only [Bool.and_eq_true] at e
              exact ⟨h0, fun k a b c' d => by have := hup hu k a b c' d; subst this; exact ⟨h2, e.2.1⟩, fun k a b c' d => by have := hdn hlo k a b c' d; subst this; exact ⟨h1, e.1⟩⟩
          · exact ⟨false, S1 h0 hlo h1 (J2 hu h2 _), wrong⟩
        · refine ⟨nG (nu p c core odd lo.1).1 (nu p c core odd i).1, S1 h0 hlo h1 (J3 hu _ ?_), fun e => ⟨h0, fun k a b c' d => (aBm (by simpa using hu) k a b c').elim, fun k a b c' d => by have := hdn hlo k a b c' d; subst this; exact ⟨h1, e⟩⟩⟩
          rw [hah, azJ, azJ]
          cases nG (nu p c core odd lo.1).1 (nu p c core odd i).1 <;> simp
      · refine ⟨false, S0 h0 ?_, wrong⟩
        refine Ev.congr (fun k => by rw [if_pos hlo]) ?_
        refine Ev.bind (uF h lo.1) ?_
        exact Ev.congr (fun k => by rw [if_neg h1]) (Ev.now _)
    · by_cases hu : up.2 = true
      · by_cases h2 : (nu p c core odd up.1).2 = 0
        · refine ⟨nG (nu p c core odd i).1 (nu p c core odd up.1).1, S2 h0 hlo (J1 hu h2 _ ?_), fun e => ⟨h0, fun k a b c' d => by have := hup hu k a b c' d; subst this; exact ⟨h2, e⟩, fun k a b c' d => (aBn (by simpa using hlo) k a b c').elim⟩⟩
          rw [avA, hah, avA]
          cases nG (nu p c core odd i).1 (nu p c core odd up.1).1 <;> simp
        · exact ⟨false, S2 h0 hlo (J2 hu h2 _), wrong⟩
      · refine ⟨true, S2 h0 hlo (J3 hu _ ?_), fun e => ⟨h0, fun k a b c' d => (aBm (by simpa using hu) k a b c').elim, fun k a b c' d => (aBn (by simpa using hlo) k a b c').elim⟩⟩
        rw [avA, azJ, avA]; simp
  · refine ⟨false, ?_, wrong⟩
    unfold fu.f
    refine Ev.bind (uF h i) ?_
    exact Ev.congr (fun k => by rw [if_neg h0]) (Ev.now _)
end Go.Proofs.Ytmbmalkpmanaaaa.P
namespace Go.Proofs.Ytmbmalkpmanaaaa.P
set_option linter.unusedVariables false
set_option linter.unusedSimpArgs false
open Go.RowKit Go.Proofs.YtmbmalkpmanaaaaW.aK Go.Proofs.YtmbmalkpmanaaaaW.bM
variable {p c : Int} {core : List (List Sp)} {odd : List Gn}
structure Ex (p c : Int) (core : List (List Sp)) (odd : List Gn) (i : Int) : Prop where
  r : inR i
  n : fs c core odd i ≠ []
  lo : -1099511627776 ≤ gLo p c core odd i
  hi : gHi p c core odd i ≤ 1099511627776
def gT (p c : Int) (core : List (List Sp)) (odd : List Gn) (i : Int) : List Sp := (fs c core odd i).map (qX (fb p c odd i))
theorem SF.qP (h : SF p c core odd) {i : Int} (e : Ex p c core odd i) : nu p c core odd i = (gT p c core odd i, 0) := by
  unfold nu
  rw [if_pos e.r, if_neg e.n]
  unfold acy
  have e1 := e.lo
  have e2 := e.hi
  rw [if_pos (((h.ahm i).aak e.n).2 ⟨e1, e2⟩)]
  rfl
theorem SF.aes (h : SF p c core odd) {i : Int} (hn : fs c core odd i ≠ []) (e : ¬ Ex p c core odd i) : nu p c core odd i = ([], 20) := by
  unfold nu
  by_cases hr : inR i
  · rw [if_pos hr, if_neg hn]
    unfold acy
    rw [if_neg]
    intro ha
    have := ((h.ahm i).aak hn).1 ha
    exact e ⟨hr, hn, this.1, this.2⟩
  · rw [if_neg hr]
theorem SF.acB (h : SF p c core odd) {i : Int} (hr : inR i) (hn : fs c core odd i ≠ []) (e : (nu p c core odd i).2 = 0) : Ex p c core odd i := by
  refine Classical.byContradiction fun hx => ?_
  rw [h.aes hn hx] at e; cases e
theorem aal {i : Int} (hn : fs c core odd i ≠ []) : gT p c core odd i ≠ [] ∧ qF (gT p c core odd i) = gLo p c core odd i ∧ qH (gT p c core odd i) = gHi p c core odd i :=
  ⟨by unfold gT; simpa using hn, ade _ _ hn, aaN _ _ hn⟩
theorem SF.alx (h : SF p c core odd) {i : Int} (e : Ex p c core odd i) : SL (-1099511627776) 1099511627776 (gT p c core odd i) := (h.ahm i).moved (((h.ahm i).aak e.n).2 ⟨e.lo, e.hi⟩)
theorem aly (hl : core.length ≤ 6000 ∧ odd.length ≤ 6000) : ∃ n, Ev (fun k => iq.f k p c core odd) n := by
  have k1 : ∀ (d : Nat) (n : Nat) (x : Int), odd.length - n = d → n ≤ odd.length → odd.length ≤ 4611686018427387903 → ∃ r, Ev (fun k => iq.l1 k x odd (odd.length : Int) (n : Int)) r := by
    intro d
    induction d with
    | zero =>
      intro n x hd hn hl
      exact ⟨x, Ev.step (f := fun _ => some x) (fun k => by rw [iq.l1, if_neg (by omega)]) (Ev.now _)⟩
    | succ d ih =>
      intro n x hd hn hl
      have hlt : n < odd.length := by omega
      obtain ⟨r, r1⟩ := ih (n + 1) (wrap64 (x + ((odd[n].f1).length : Int))) (by omega) (by omega) hl
      have hw : wrap64 ((n : Int) + 1) = ((n + 1 : Nat) : Int) := by rw [eH (by omega) (by omega)]; simp
      exact ⟨r, Ev.step (fun k => by rw [iq.l1, if_pos (by omega), if_pos (by omega), if_pos (by omega), rdG odd n hlt, hw]) r1⟩
  have k0 : ∀ (d : Nat) (n : Nat) (x : Int), core.length - n = d → n ≤ core.length → core.length ≤ 4611686018427387903 → odd.length ≤ 4611686018427387903 → ∃ r, Ev (fun k => iq.l0 k x core (core.length : Int) (n : Int) p c core odd) r := by
    intro d
    induction d with
    | zero =>
      intro n x hd hn hl hlo
      obtain ⟨r, r1⟩ := k1 _ 0 x rfl (by omega) hlo
      exact ⟨r, Ev.step (fun k => by rw [iq.l0, if_neg (by omega)]; rfl) r1⟩
    | succ d ih =>
      intro n x hd hn hl hlo
      have hlt : n < core.length := by omega
      obtain ⟨r, r1⟩ := ih (n + 1) (wrap64 (x + ((core[n]).length : Int))) (by omega) (by omega) hl hlo
      have hw : wrap64 ((n : Int) + 1) = ((n + 1 : Nat) : Int) := by rw [eH (by omega) (by omega)]; simp
      exact ⟨r, Ev.step (fun k => by rw [iq.l0, if_pos (by omega), if_pos (by omega), if_pos (by omega), rdL core n hlt, hw]) r1⟩
  obtain ⟨r, r1⟩ := k0 _ 0 0 rfl (by omega) (by omega) (by omega)
  exact ⟨r, r1⟩
theorem alz (m : MF core odd) (hl : core.length ≤ 6000) (hlo : odd.length ≤ 6000) : ∃ e, Ev (fun k => dw.f k p c core odd) e ∧ (e = 0 → FOK p c core odd) := by
  obtain ⟨n, n1⟩ := aly (p := p) (c := c) (core := core) (odd := odd) ⟨hl, hlo⟩
  obtain ⟨sh, sh1, sh2⟩ := ank (p := p) (c := c) m hl hlo
  have start : ∀ {e : Int}, Ev (fun k => dw.j0 k (decide (n > 60000)) p c core odd) e → Ev (fun k => dw.f k p c core odd) e := by
    intro e he
    unfold dw.f
    refine Ev.congr (fun k => by rw [if_neg (by omega), if_neg (by omega)]) ?_
    exact Ev.bind n1 he
  by_cases hn : n > 60000
  · refine ⟨3, start ?_, fun e => by omega⟩
    rw [decide_eq_true hn]
    exact Ev.step (f := fun _ => some 3) (fun k => by rw [dw.j0, if_pos rfl]) (Ev.now _)
  rw [decide_eq_false hn] at start
  have bad : Ev (fun k => dw.j1 k true p c core odd) 50 := Ev.step (f := fun _ => some 50) (fun k => by rw [dw.j1, if_pos rfl]) (Ev.now _)
  by_cases hs : sh = true
  · have hSF := sh2 hs
    obtain ⟨tu, tu1, tu2⟩ := anm hSF
    have st2 : ∀ {e : Int}, Ev (fun k => dw.j1 k (!tu) p c core odd) e → Ev (fun k => dw.f k p c core odd) e := by
      intro e he
      refine start ?_
      refine Ev.step (fun k => by rw [dw.j0, if_neg (by simp)]) ?_
      refine Ev.bind sh1 ?_
      refine Ev.congr (fun k => by rw [if_pos hs]) ?_
      exact Ev.bind tu1 he
    by_cases ht : tu = true
    · have hTF := tu2 ht
      have loop : ∀ (d n : Nat), odd.length - n = d → n ≤ odd.length → (∀ j (hj : j < odd.length), j < n → ((nu p c core odd odd[j].f0).2 = 0 ∧
          (∀ k, odd[j].f0 < k → inR k → fs c core odd k ≠ [] → gap c core odd odd[j].f0 k → (nu p c core odd k).2 = 0 ∧ nG (nu p c core odd odd[j].f0).1 (nu p c core odd k).1 = true) ∧
          (∀ k, k < odd[j].f0 → inR k → fs c core odd k ≠ [] → gap c core odd k odd[j].f0 → (nu p c core odd k).2 = 0 ∧ nG (nu p c core odd k).1 (nu p c core odd odd[j].f0).1 = true))) →
          ∃ e, Ev (fun k => dw.l0 k odd (odd.length : Int) (n : Int) p c core odd) e ∧ (e = 0 → FOK p c core odd) := by
        intro d
        induction d with
        | zero =>
          intro n hd hnn h1
          refine ⟨0, Ev.step (f := fun _ => some 0) (fun k => by rw [dw.l0, if_neg (by omega)]) (Ev.now _), fun _ => FOK.of hSF hTF ⟨?_, ?_⟩⟩
          · intro g hg hgn k hk rk nk gk
            obtain ⟨j, hj, rfl⟩ := List.getElem_of_mem hg
            obtain ⟨a1, a2, a3⟩ := h1 j hj (by omega)
            obtain ⟨b1, b2⟩ := a2 k hk rk nk gk
            have hn0 : fs c core odd odd[j].f0 ≠ [] := by rw [afi hSF hj]; exact hgn
            have e1 := hSF.acB (hSF.hidx _ (List.getElem_mem hj)) hn0 a1
            have e2 := hSF.acB rk nk b1
            rw [hSF.qP e1, hSF.qP e2, afj] at b2
            have g1 := aal (p := p) hn0
            have g2 := aal (p := p) nk
            have := b2 g1.1 g2.1
            rw [g1.2.2, g2.2.1] at this
            exact this
          · intro g hg hgn k hk rk nk gk
            obtain ⟨j, hj, rfl⟩ := List.getElem_of_mem hg
            obtain ⟨a1, a2, a3⟩ := h1 j hj (by omega)
            obtain ⟨b1, b2⟩ := a3 k hk rk nk gk
            have hn0 : fs c core odd odd[j].f0 ≠ [] := by rw [afi hSF hj]; exact hgn
            have e1 := hSF.acB (hSF.hidx _ (List.getElem_mem hj)) hn0 a1
            have e2 := hSF.acB rk nk b1
            rw [hSF.qP e1, hSF.qP e2, afj] at b2
            have g1 := aal (p := p) hn0
            have g2 := aal (p := p) nk
            have := b2 g2.1 g1.1
            rw [g2.2.2, g1.2.1] at this
            exact this
        | succ d ih =>
          intro n hd hnn h1
          have hlt : n < odd.length := by omega
          obtain ⟨b, b1, b2⟩ := alv hSF odd[n].f0 (hSF.hidx _ (List.getElem_mem hlt))
          have hw : wrap64 ((n : Int) + 1) = ((n + 1 : Nat) : Int) := by rw [eH (by omega) (by omega)]; simp
          have st3 : ∀ {e : Int}, Ev (fun k => if b = true then dw.l0 k odd (odd.length : Int) ((n + 1 : Nat) : Int) p c core odd else some 50) e → Ev (fun k => dw.l0 k odd (odd.length : Int) (n : Int) p c core odd) e := by
            intro e he
            refine Ev.step (fun k => by rw [dw.l0, if_pos (by omega), if_pos (by omega), if_pos (by omega), rdG odd n hlt, hw]) ?_
            exact Ev.bind b1 he
          by_cases hb : b = true
          · obtain ⟨e, e1, e2⟩ := ih (n + 1) (by omega) (by omega) (fun j hj hjn => by
              rcases Nat.lt_or_ge j n with q | q
              · exact h1 j hj q
              · have : j = n := by omega
                subst this; exact b2 hb)
            exact ⟨e, st3 (Ev.congr (fun k => by rw [if_pos hb]) e1), e2⟩
          · exact ⟨50, st3 (Ev.congr (fun k => by rw [if_neg hb]) (Ev.now _)), fun e => by omega⟩
      obtain ⟨e, e1, e2⟩ := loop _ 0 rfl (by omega) (fun j hj hjn => by omega)
      refine ⟨e, st2 ?_, e2⟩
      rw [ht]
      exact Ev.step (fun k => by rw [dw.j1, if_neg (by simp)]; rfl) e1
    · refine ⟨50, st2 ?_, fun e => by omega⟩
      have : (!tu) = true := by simpa using ht
      rw [this]; exact bad
  · refine ⟨50, start ?_, fun e => by omega⟩
    refine Ev.step (fun k => by rw [dw.j0, if_neg (by simp)]) ?_
    refine Ev.bind sh1 ?_
    exact Ev.congr (fun k => by rw [if_neg hs]) bad
theorem acC (m : MF core odd) : ∃ b, Ev (fun k => fP.f k p c core odd) b ∧ (b = true → FOK p c core odd ∧ core.length ≤ 12 ∧ odd.length ≤ 8) := by
  unfold fP.f
  by_cases hl : (core.length : Int) ≤ 12
  · by_cases hlo : (odd.length : Int) ≤ 8
    · obtain ⟨n, n1⟩ := aly (p := p) (c := c) (core := core) (odd := odd) ⟨by omega, by omega⟩
      obtain ⟨e, e1, e2⟩ := alz (p := p) (c := c) m (by omega) (by omega)
      have hs : Ev (fun k => jf.f k p c core odd) (decide (n ≤ 60)) := by
        unfold jf.f
        refine Ev.congr (fun k => by rw [if_pos hl, if_pos hlo]) ?_
        exact Ev.bind n1 (Ev.now _)
      by_cases hn : n ≤ 60
      · rw [decide_eq_true hn] at hs
        refine ⟨e == 0, ?_, fun he => ⟨e2 (by simpa using he), by omega, by omega⟩⟩
        refine Ev.bind hs ?_
        refine Ev.congr (fun k => by rw [if_pos rfl]) ?_
        exact Ev.bind e1 (Ev.now _)
      · rw [decide_eq_false hn] at hs
        refine ⟨false, ?_, fun he => by cases he⟩
        refine Ev.bind hs ?_
        exact Ev.congr (fun k => by rw [if_neg (by simp)]) (Ev.now _)
    · refine ⟨false, ?_, fun he => by cases he⟩
      refine Ev.bind (a := false) (f := fun k t => if t = true then (dw.f k p c core odd).bind fun alh => some (alh == 0) else some false) ?_ (Ev.congr (fun k => by rw [if_neg (by simp)]) (Ev.now _))
      unfold jf.f
      exact Ev.congr (fun k => by rw [if_pos hl, if_neg hlo]) (Ev.now _)
  · refine ⟨false, ?_, fun he => by cases he⟩
    refine Ev.bind (a := false) (f := fun k t => if t = true then (dw.f k p c core odd).bind fun alh => some (alh == 0) else some false) ?_ (Ev.congr (fun k => by rw [if_neg (by simp)]) (Ev.now _))
    unfold jf.f
    exact Ev.congr (fun k => by rw [if_neg hl]) (Ev.now _)
end Go.Proofs.Ytmbmalkpmanaaaa.P
namespace Go.Proofs.Ytmbmalkpmanaaaa.P
set_option linter.unusedVariables false
set_option linter.unusedSimpArgs false
open Go.RowKit Go.Proofs.YtmbmalkpmanaaaaW.aK Go.Proofs.YtmbmalkpmanaaaaW.bM
variable {p c : Int} {core : List (List Sp)} {odd : List Gn}
theorem alA (a p A : Int) (hp : 0 < p) (h1 : -A ≤ a) (h2 : a ≤ A) (hA : 0 ≤ A) : -A ≤ a / p ∧ a / p ≤ A := by
  have h3 : A * 1 ≤ A * p := Int.mul_le_mul_of_nonneg_left (by omega) hA
  rw [Int.mul_one] at h3
  exact ⟨Int.le_ediv_of_mul_le hp (by rw [Int.neg_mul]; omega), Int.ediv_le_of_le_mul hp (by omega)⟩
theorem alB (q c A C : Int) (h1 : -A ≤ q) (h2 : q ≤ A) (hc : 0 ≤ c) (hC : c ≤ C) (hA : 0 ≤ A) : -(A * C) ≤ q * c ∧ q * c ≤ A * C := by
  have a1 : q * c ≤ A * c := Int.mul_le_mul_of_nonneg_right h2 hc
  have a2 : (-A) * c ≤ q * c := Int.mul_le_mul_of_nonneg_right h1 hc
  have a3 : A * c ≤ A * C := Int.mul_le_mul_of_nonneg_left hC hA
  rw [Int.neg_mul] at a2
  omega
theorem arA (q c r : Int) (h0 : 0 ≤ r) (h1 : r < c) : (q * c + r) / c = q ∧ (q * c + r) % c = r := by
  have hc : c ≠ 0 := by omega
  constructor
  · rw [Int.add_comm, Int.add_mul_ediv_right _ _ hc, Int.ediv_eq_zero_of_lt h0 h1]; omega
  · rw [Int.add_comm, Int.add_mul_emod_self_right, Int.emod_eq_of_lt h0 h1]
theorem afk (h : SF p c core odd) (q : Int) (j : Nat) (hj : j < core.length) : gG c core (q * c + j) = core[j] ∧ (q * c + j) / c = q := by
  have h0 := h.hc
  obtain ⟨e1, e2⟩ := arA q c j (by omega) (by omega)
  refine ⟨?_, e1⟩
  unfold gG
  rw [if_neg (by omega), e2, List.getD_eq_getElem?_getD, Int.toNat_natCast, List.getElem?_eq_getElem hj]; rfl
theorem yg (h : SF p c core odd) {m : Int} (hm : gG c core m ≠ []) : 0 < c ∧ 0 < p ∧ ∃ j : Nat, ∃ hj : j < core.length, m % c = (j : Int) ∧ gG c core m = core[j] := by
  have hc : c ≠ 0 := by intro e; apply hm; unfold gG; rw [if_pos e]
  have h0 := h.hc
  have h1 : 0 ≤ m % c := Int.emod_nonneg _ hc
  have h2 : m % c < c := Int.emod_lt_of_pos _ (by omega)
  have h3 : (m % c).toNat < core.length := by omega
  have hp : p ≠ 0 := fun e => hc (h.hz.2 e)
  have hp0 := h.hp0
  refine ⟨by omega, by omega, (m % c).toNat, h3, by omega, ?_⟩
  unfold gG
  rw [if_neg hc, List.getD_eq_getElem?_getD, List.getElem?_eq_getElem h3]; rfl
def upI (T p c : Int) (l : List Sp) (j : Int) : Int := -((qH l - T) / p) * c + j
theorem an6 (h : SF p c core odd) (T : Int) {m : Int} (hm : gG c core m ≠ []) : T ≤ gHi p c core [] m ↔ upI T p c (gG c core m) (m % c) ≤ m := by
  obtain ⟨hc, hp, _⟩ := yg h hm
  have e := Int.mul_ediv_add_emod m c
  have e1 : gHi p c core [] m = qH (gG c core m) + m / c * p := rfl
  rw [e1]
  unfold upI
  generalize qH (gG c core m) = L
  generalize m / c = q at *
  generalize m % c = r at *
  subst e
  have k1 : -q ≤ (L - T) / p ↔ -q * p ≤ L - T := Int.le_ediv_iff_mul_le hp
  generalize (L - T) / p = z at *
  have k2 : -z * c ≤ q * c ↔ -z ≤ q := by
    constructor
    · intro g; exact Int.le_of_mul_le_mul_right g hc
    · intro g; exact Int.mul_le_mul_of_nonneg_right g (by omega)
  have k3 : -q * p = -(q * p) := Int.neg_mul _ _
  have k4 : c * q = q * c := Int.mul_comm _ _
  rw [k4]
  rw [k3] at k1
  constructor
  · intro g
    have := k1.2 (by omega)
    have := k2.2 (by omega)
    omega
  · intro g
    have := k2.1 (by omega)
    have := k1.1 (by omega)
    omega
theorem alC (h : SF p c core odd) (T : Int) (hT : -1099511627777 ≤ T ∧ T ≤ 1099511627777) {j : Nat} (hj : j < core.length) (hn : core[j] ≠ []) :
    -2199023255554 ≤ -((qH core[j] - T) / p) ∧ -((qH core[j] - T) / p) ≤ 2199023255554 ∧ -13194139533330000 ≤ -((qH core[j] - T) / p) * c ∧ -((qH core[j] - T) / p) * c ≤ 13194139533330000 := by
  have h0 := h.hc
  have hl := h.hl
  have hp : p ≠ 0 := fun e => by have := h.hz.2 e; omega
  have hp0 := h.hp0
  have := (h.hcore _ (List.getElem_mem hj)).ends hn
  obtain ⟨a, b⟩ := alA (qH core[j] - T) p 2199023255554 (by omega) (by omega) (by omega) (by omega)
  generalize (qH core[j] - T) / p = z at *
  obtain ⟨a1, b1⟩ := alB (-z) c 2199023255554 6000 (by omega) (by omega) (by omega) (by omega) (by omega)
  exact ⟨by omega, by omega, by omega, by omega⟩
theorem aue (x b T p : Int) (hT : -1099511627777 ≤ T ∧ T ≤ 1099511627777) (hb : -1099511627776 ≤ b ∧ b ≤ 1099511627776) (hp : 0 < p ∧ p ≤ 1099511627776) : Ev (fun k => jX.f k x b T p) (-((b - T) / p)) := by
  unfold jX.f
  obtain ⟨a1, a2⟩ := alA (b - T) p 2199023255554 (by omega) (by omega) (by omega) (by omega)
  rw [eH (n := b - T) (by omega) (by omega)]
  refine Ev.bind (aen (b - T) p (by omega) (by omega)) ?_
  rw [eH (by omega) (by omega)]
  exact Ev.now _
structure PlU (p c : Int) (core : List (List Sp)) (T : Int) (r : Int × Bool) : Prop where
  y : r.2 = true → gG c core r.1 ≠ [] ∧ T ≤ gHi p c core [] r.1 ∧ ∀ m, gG c core m ≠ [] → T ≤ gHi p c core [] m → r.1 ≤ m
  n : r.2 = false → ∀ m, gG c core m = []
  lo : -4611686018427387904 ≤ r.1
  hi : r.1 ≤ 4611686018427387904
theorem ahq (h : SF p c core odd) (T : Int) (hT : -1099511627777 ≤ T ∧ T ≤ 1099511627777) : ∃ r, Ev (fun k => bC.f k p c core odd T) r ∧ PlU p c core T r := by
  have hc := h.hc
  have hl := h.hl
  have loop : ∀ (d n : Nat) (a : Int) (ok : Bool), core.length - n = d → n ≤ core.length →
      (ok = true → ∃ j, ∃ hj : j < core.length, core[j] ≠ [] ∧ a = upI T p c core[j] j) → (ok = true → ∀ j (hj : j < core.length), j < n → core[j] ≠ [] → a ≤ upI T p c core[j] j) → (ok = false → a = 0 ∧ ∀ j (hj : j < core.length), j < n → core[j] = []) →
      ∃ r, Ev (fun k => bC.l0 k T a ok core (core.length : Int) (n : Int) p c core odd 1) r ∧ PlU p c core T r := by
    intro d
    induction d with
    | zero =>
      intro n a ok hd hn i1 i2 i3
      refine ⟨(a, ok), Ev.step (f := fun _ => some (a, ok)) (fun k => by rw [bC.l0, if_neg (by omega)]) (Ev.now _), ?_⟩
      cases ok with
      | true =>
        obtain ⟨j, hj, hne, rfl⟩ := i1 rfl
        obtain ⟨e1, e2⟩ := afk h (-((qH core[j] - T) / p)) j hj
        have hne' : gG c core (upI T p c core[j] j) ≠ [] := by unfold upI; rw [e1]; exact hne
        obtain ⟨b1, b2, b3, b4⟩ := alC h T hT hj hne
        have e3 : upI T p c core[j] j % c = j := (arA _ c j (by omega) (by omega)).2
        have e4 : gG c core (upI T p c core[j] j) = core[j] := e1
        refine ⟨fun _ => ⟨hne', (an6 h T hne').2 ?_, fun m hm hTm => ?_⟩, (fun e => by cases e), (by simp only [upI]; omega), (by simp only [upI]; omega)⟩
        · simp only [e3, e4]; exact Int.le_refl _
        · obtain ⟨_, _, i, hi, f1, f2⟩ := yg h hm
          have g1 := (an6 h T hm).1 hTm
          rw [f1, f2] at g1
          have := i2 rfl i hi (by omega) (by rw [← f2]; exact hm)
          simp only; omega
      | false =>
        obtain ⟨rfl, hz⟩ := i3 rfl
        refine ⟨(fun e => by cases e), (fun _ m => Classical.byContradiction fun hm => ?_), by simp, by simp⟩
        obtain ⟨_, _, i, hi, f1, f2⟩ := yg h hm
        exact hm (by rw [f2]; exact hz i hi (by omega))
    | succ d ih =>
      intro n a ok hd hn i1 i2 i3
      have hlt : n < core.length := by omega
      have hw : wrap64 ((n : Int) + 1) = ((n + 1 : Nat) : Int) := by rw [eH (by omega) (by omega)]; simp
      have hSL := h.hcore _ (List.getElem_mem hlt)
      have hlen : core[n].length ≤ 4611686018427387904 := by have := hSL.ac3; omega
      by_cases hz : core[n] = []
      · obtain ⟨r, r1, r2⟩ := ih (n + 1) a ok (by omega) (by omega) i1 (fun e j hj hjn hne => by
          rcases Nat.lt_or_ge j n with g | g
          · exact i2 e j hj g hne
          · have : j = n := by omega
            subst this; exact absurd hz hne) (fun e => ⟨(i3 e).1, fun j hj hjn => by
          rcases Nat.lt_or_ge j n with g | g
          · exact (i3 e).2 j hj g
          · have : j = n := by omega
            subst this; exact hz⟩)
        refine ⟨r, Ev.step (fun k => ?_) r1, r2⟩
        rw [bC.l0, if_pos (by omega), if_pos (by omega), if_pos (by omega), rdL core n hlt, tN _ hlen, mO, if_pos hz, Option.bind_some, if_neg (by simp), hw]
      · obtain ⟨b1, b2, b3, b4⟩ := alC h T hT hlt hz
        have ai0 := hSL.ends hz
        have hp : p ≠ 0 := fun e => by have := h.hz.2 e; omega
        have hp0 := h.hp0
        have hp1 := h.hp1
        have ev1 := aue (qF core[n]) (qH core[n]) T p hT (by omega) (by omega)
        have eu : -((qH core[n] - T) / p) * c + n = upI T p c core[n] n := rfl
        generalize hz1 : -((qH core[n] - T) / p) = z at *
        have w1 : wrap64 (z * c) = z * c := eH (by omega) (by omega)
        have w2 : wrap64 (z * c + n) = upI T p c core[n] n := by rw [← eu]; exact eH (by omega) (by omega)
        have hub : -13194139533336000 ≤ upI T p c core[n] n ∧ upI T p c core[n] n ≤ 13194139533336000 := by rw [← eu]; omega
        have take : (ok = true → upI T p c core[n] n ≤ a) → ∃ r, Ev (fun k => bC.l0 k T (upI T p c core[n] n) true core (core.length : Int) ((n + 1 : Nat) : Int) p c core odd 1) r ∧ PlU p c core T r := fun hle => by
          refine ih (n + 1) _ true (by omega) (by omega) (fun _ => ⟨n, hlt, hz, rfl⟩) (fun _ j hj hjn hne => ?_) (fun e => by cases e)
          rcases Nat.lt_or_ge j n with g | g
          · cases ok with
            | true => have := i2 rfl j hj g hne; have := hle rfl; omega
            | false => exact absurd ((i3 rfl).2 j hj g) hne
          · have : j = n := by omega
            subst this; exact Int.le_refl _
        have start : ∀ {r : Int × Bool}, Ev (fun k => if ok = true then (if (wrap64 ((wrap64 ((wrap64 ((wrap64 (z * c)) + (n : Int))) - a)) * 1)) < 0 then (bC.l0 k T (wrap64 ((wrap64 (z * c)) + (n : Int))) true core (core.length : Int) (wrap64 ((n : Int) + 1)) p c core odd 1) else (bC.l0 k T a ok core (core.length : Int) (wrap64 ((n : Int) + 1)) p c core odd 1)) else (bC.l0 k T (wrap64 ((wrap64 (z * c)) + (n : Int))) true core (core.length : Int) (wrap64 ((n : Int) + 1)) p c core odd 1)) r → Ev (fun k => bC.l0 k T a ok core (core.length : Int) (n : Int) p c core odd 1) r := fun he => by
          refine Ev.step (fun k => ?_) (Ev.bind (f := fun k t => if ok = true then (if (wrap64 ((wrap64 ((wrap64 ((wrap64 (t * c)) + (n : Int))) - a)) * 1)) < 0 then (bC.l0 k T (wrap64 ((wrap64 (t * c)) + (n : Int))) true core (core.length : Int) (wrap64 ((n : Int) + 1)) p c core odd 1) else (bC.l0 k T a ok core (core.length : Int) (wrap64 ((n : Int) + 1)) p c core odd 1)) else (bC.l0 k T (wrap64 ((wrap64 (t * c)) + (n : Int))) true core (core.length : Int) (wrap64 ((n : Int) + 1)) p c core odd 1)) ev1 he)
          rw [bC.l0, if_pos (by omega), if_pos (by omega), if_pos (by omega), rdL core n hlt, tN _ hlen, mO, if_neg hz, Option.bind_some, if_pos rfl]
        rw [w1, w2, hw] at start
        by_cases hok : ok = true
        · obtain ⟨j, hj, hne, ea⟩ := i1 hok
          have hab : -13194139533336000 ≤ a ∧ a ≤ 13194139533336000 := by
            obtain ⟨c1, c2, c3, c4⟩ := alC h T hT hj hne
            rw [ea]; unfold upI; omega
          have w3 : wrap64 (wrap64 (upI T p c core[n] n - a) * 1) = upI T p c core[n] n - a := by rw [Int.mul_one, eH (n := upI T p c core[n] n - a) (by omega) (by omega), eH (by omega) (by omega)]
          by_cases hlt2 : upI T p c core[n] n - a < 0
          · obtain ⟨r, r1, r2⟩ := take (fun _ => by omega)
            exact ⟨r, start (Ev.congr (fun k => by rw [if_pos hok, w3, if_pos hlt2]) r1), r2⟩
          · obtain ⟨r, r1, r2⟩ := ih (n + 1) a ok (by omega) (by omega) i1 (fun e j hj hjn hne => by
              rcases Nat.lt_or_ge j n with g | g
              · exact i2 e j hj g hne
              · have : j = n := by omega
                subst this; omega) (fun e => by rw [hok] at e; cases e)
            exact ⟨r, start (Ev.congr (fun k => by rw [if_pos hok, w3, if_neg hlt2]) r1), r2⟩
        · obtain ⟨r, r1, r2⟩ := take (fun e => absurd e hok)
          exact ⟨r, start (Ev.congr (fun k => by rw [if_neg hok]) r1), r2⟩
  obtain ⟨r, r1, r2⟩ := loop _ 0 0 false rfl (by omega) (fun e => by cases e) (fun e => by cases e) (fun _ => ⟨rfl, fun j hj hjn => by omega⟩)
  exact ⟨r, r1, r2⟩
end Go.Proofs.Ytmbmalkpmanaaaa.P

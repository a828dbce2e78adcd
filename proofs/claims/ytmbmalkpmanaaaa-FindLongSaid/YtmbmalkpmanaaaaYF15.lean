/- Lemmas for laws of chapter 7: what the functions that they reach compute. No condition of its own. -/
import Derived.Test.YtmbmalkpmanaaaaYF2
import Derived.Deep.SlicePairs
import Derived.ChangeArms
import Derived.ProofKit
import Derived.Test.YtmbmalkpmanaaaaYF3
import Derived.Test.YtmbmalkpmanaaaaYF10
import Derived.Test.YtmbmalkpmanaaaaYF7
import Derived.Test.YtmbmalkpmanaaaaYF5
import Derived.Test.YtmbmalkpmanaaaaYF12
import Derived.Test.YtmbmalkpmanaaaaYF6
import Derived.Test.YtmbmalkpmanaaaaYF8
namespace Go.Proofs.Ytmbmalkpmanaaaa.P
set_option linter.unusedVariables false
set_option linter.unusedSimpArgs false
open Go.RowKit
def SL (lo hi : Int) : List Sp → Prop
  | [] => True
  | s :: r => lo ≤ s.f0 ∧ s.f0 ≤ s.f1 ∧ s.f1 ≤ hi ∧ SL (s.f1 + 2) hi r
def qE (l : List Sp) (x : Int) : Bool := l.any fun s => decide (s.f0 ≤ x) && decide (x ≤ s.f1)
theorem aai (x : Int) : qE [] x = false := rfl
theorem lC (s : Sp) (r : List Sp) (x : Int) : qE (s :: r) x = ((decide (s.f0 ≤ x) && decide (x ≤ s.f1)) || qE r x) := rfl
theorem aaj {l : List Sp} {x : Int} : qE l x = true ↔ ∃ s ∈ l, s.f0 ≤ x ∧ x ≤ s.f1 := by simp [qE]
theorem SL.mono {lo lo' hi : Int} (h : lo' ≤ lo) : ∀ {l : List Sp}, SL lo hi l → SL lo' hi l
  | [], _ => trivial
  | _ :: _, hs => ⟨by have := hs.1; omega, hs.2⟩
theorem SL.low {lo hi : Int} {l : List Sp} (hs : SL lo hi l) {x : Int} (hx : x < lo) : qE l x = false := by
  induction l generalizing lo with
  | nil => rfl
  | cons s r ih =>
    obtain ⟨h1, h2, h3, h4⟩ := hs
    rw [lC, ih h4 (by omega)]
    have : ¬ s.f0 ≤ x := by omega
    simp [this]
theorem SL.high {lo hi : Int} {l : List Sp} (hs : SL lo hi l) {x : Int} (hx : hi < x) : qE l x = false := by
  induction l generalizing lo with
  | nil => rfl
  | cons s r ih =>
    obtain ⟨h1, h2, h3, h4⟩ := hs
    rw [lC, ih h4]
    have : ¬ x ≤ s.f1 := by omega
    simp [this]
theorem SL.ticks {lo hi : Int} {l : List Sp} (hs : SL lo hi l) {s : Sp} (h : s ∈ l) : lo ≤ s.f0 ∧ s.f0 ≤ s.f1 ∧ s.f1 ≤ hi := by
  induction l generalizing lo with
  | nil => simp at h
  | cons t r ih =>
    obtain ⟨h1, h2, h3, h4⟩ := hs
    rcases List.mem_cons.1 h with rfl | h
    · exact ⟨h1, h2, h3⟩
    · obtain ⟨a, b, c⟩ := ih h4 h
      exact ⟨by omega, b, c⟩
theorem SL.uniq {hi hi' : Int} : ∀ {l m : List Sp} {lo lo' : Int}, SL lo hi l → SL lo' hi' m → (∀ x, qE l x = qE m x) → l = m
  | [], [], _, _, _, _, _ => rfl
  | [], t :: r, _, _, _, hm, h => by
    have := h t.f0
    rw [lC] at this
    have h2 := hm.2.1
    simp [aai, h2] at this
  | s :: r, [], _, _, hl, _, h => by
    have := h s.f0
    rw [lC] at this
    have h2 := hl.2.1
    simp [aai, h2] at this
  | s :: r, t :: q, lo, lo', hl, hm, h => by
    obtain ⟨a1, a2, a3, a4⟩ := hl
    obtain ⟨b1, b2, b3, b4⟩ := hm
    have key : ∀ {s t : Sp} {r q : List Sp} {hi hi' : Int}, s.f0 ≤ s.f1 → t.f0 ≤ t.f1 → SL (s.f1 + 2) hi r → SL (t.f1 + 2) hi' q → (∀ x, qE (s :: r) x = qE (t :: q) x) → t.f0 ≤ s.f0 := by
      intro s t r q hi hi' a2 b2 a4 b4 h
      by_cases hlt : t.f0 ≤ s.f0
      · exact hlt
      · have hx := h s.f0
        rw [lC, lC, b4.low (by omega)] at hx
        have : ¬ t.f0 ≤ s.f0 := hlt
        simp [this, a2] at hx
    have e0 : s.f0 = t.f0 := by
      have h1 := key a2 b2 a4 b4 h
      have h2 := key b2 a2 b4 a4 (fun x => (h x).symm)
      omega
    have key2 : ∀ {s t : Sp} {r q : List Sp} {hi hi' : Int}, s.f0 = t.f0 → s.f0 ≤ s.f1 → t.f0 ≤ t.f1 → SL (s.f1 + 2) hi r → SL (t.f1 + 2) hi' q → (∀ x, qE (s :: r) x = qE (t :: q) x) → t.f1 ≤ s.f1 := by
      intro s t r q hi hi' e0 a2 b2 a4 b4 h
      by_cases hlt : t.f1 ≤ s.f1
      · exact hlt
      · have hx := h (s.f1 + 1)
        rw [lC, lC, a4.low (by omega)] at hx
        have c1 : ¬ s.f1 + 1 ≤ s.f1 := by omega
        have c2 : t.f0 ≤ s.f1 + 1 := by omega
        have c3 : s.f1 + 1 ≤ t.f1 := by omega
        simp [c2, c3] at hx
        omega
    have e1 : s.f1 = t.f1 := by
      have h1 := key2 e0 a2 b2 a4 b4 h
      have h2 := key2 e0.symm b2 a2 b4 a4 (fun x => (h x).symm)
      omega
    have est : s = t := by cases s; cases t; simp only at e0 e1; rw [e0, e1]
    subst est
    have : r = q := SL.uniq a4 b4 (fun x => by
      have hx := h x
      rw [lC, lC] at hx
      by_cases hc : x < s.f1 + 2
      · rw [a4.low hc, b4.low hc]
      · have : ¬ x ≤ s.f1 := by omega
        simpa [this] using hx)
    rw [this]
def Inv (hi : Int) (a : List Sp) (i : Bool) (p : Int) : Prop :=
  match a, i with
  | [], i => i = false
  | s :: r, true => s.f0 ≤ p ∧ p ≤ s.f1 ∧ s.f1 ≤ hi ∧ SL (s.f1 + 2) hi r
  | s :: r, false => SL (p + 1) hi (s :: r)
theorem eH {n : Int} (h1 : -9223372036854775808 ≤ n) (h2 : n ≤ 9223372036854775807) : wrap64 n = n := by unfold wrap64; omega
theorem Inv.nxt {hi p : Int} {a : List Sp} {i : Bool} (h : Inv hi a i p) (hp : -4611686018427387904 ≤ p) (hh : hi ≤ 4611686018427387904) (hn : a ≠ []) : p < zl a i ∧ zl a i ≤ hi + 1 := by
  match a, i, hn with
  | s :: r, true, _ =>
    obtain ⟨h1, h2, h3, h4⟩ := h
    have hw : wrap64 (s.f1 + 1) = s.f1 + 1 := eH (by omega) (by omega)
    simp only [zl, hw]
    omega
  | s :: r, false, _ =>
    obtain ⟨h1, h2, h3, h4⟩ := h
    simp only [zl]
    omega
theorem Inv.step {hi p t : Int} {a : List Sp} {i : Bool} (h : Inv hi a i p) (hp : -4611686018427387904 ≤ p) (hh : hi ≤ 4611686018427387904) (hpt : p < t) (ht : a ≠ [] → t ≤ zl a i) :
    Inv hi (j5 a i t).1 (j5 a i t).2 t ∧ (∀ x, t ≤ x → qE (j5 a i t).1 x = qE a x) ∧ (∀ x, p ≤ x → x < t → qE a x = i) := by
  match a, i with
  | [], i =>
    have : i = false := h
    subst this
    exact ⟨rfl, fun _ _ => rfl, fun _ _ _ => rfl⟩
  | s :: r, true =>
    obtain ⟨h1, h2, h3, h4⟩ := h
    have hw : wrap64 (s.f1 + 1) = s.f1 + 1 := eH (by omega) (by omega)
    have ht' := ht (by simp)
    simp only [zl, hw] at ht'
    have hin : ∀ x, p ≤ x → x < t → qE (s :: r) x = true := fun x a b => by
      have c1 : s.f0 ≤ x := by omega
      have c2 : x ≤ s.f1 := by omega
      simp [lC, c1, c2]
    simp only [j5, hw]
    by_cases e : s.f1 + 1 = t
    · rw [if_pos e]
      refine ⟨?_, fun x hx => ?_, hin⟩
      · cases r with
        | nil => rfl
        | cons u r => exact SL.mono (by omega) h4
      · have : ¬ x ≤ s.f1 := by omega
        simp [lC, this]
    · rw [if_neg e]
      exact ⟨⟨by omega, by omega, h3, h4⟩, fun _ _ => rfl, hin⟩
  | s :: r, false =>
    obtain ⟨h1, h2, h3, h4⟩ := h
    have ht' := ht (by simp)
    simp only [zl] at ht'
    have hout : ∀ x, p ≤ x → x < t → qE (s :: r) x = false := fun x a b => by
      have c1 : ¬ s.f0 ≤ x := by omega
      rw [lC, h4.low (by omega)]
      simp [c1]
    simp only [j5]
    by_cases e : s.f0 = t
    · rw [if_pos e]
      exact ⟨⟨by omega, by omega, h3, h4⟩, fun _ _ => rfl, hout⟩
    · rw [if_neg e]
      exact ⟨⟨by omega, h2, h3, h4⟩, fun _ _ => rfl, hout⟩
theorem anh (yes : Bool → Bool → Bool) (xs : List Bd) : ∀ (i : Bool) (f : Int) (o : List Sp), (xs.foldl (tX yes) ⟨i, f, o⟩).out = o ++ (xs.foldl (tX yes) ⟨i, f, []⟩).out := by
  induction xs with
  | nil => intro i f o; simp
  | cons x xs ih =>
    intro i f o
    simp only [List.foldl_cons, tX]
    split
    · exact ih _ _ _
    · split
      · rw [ih _ _ (o ++ _), ih _ _ ([] ++ _)]; simp
      · exact ih _ _ _
theorem azD (yes : Bool → Bool → Bool) (hy : yes false false = false) (hi lo0 : Int) (hlo : -4611686018427387904 ≤ lo0) (hh : hi ≤ 4611686018427387904) (n : Nat) : ∀ (a : List Sp) (ia : Bool) (b : List Sp) (ib : Bool) (p from_ : Int),
    msr a ia + msr b ib ≤ n → Inv hi a ia p → Inv hi b ib p → lo0 ≤ p + 1 → -4611686018427387904 ≤ p → (yes ia ib = true → lo0 ≤ from_ ∧ from_ ≤ p) →
    SL (if yes ia ib then from_ else p + 1) hi ((uH a ia b ib).foldl (tX yes) ⟨yes ia ib, from_, []⟩).out ∧
    ∀ x, qE ((uH a ia b ib).foldl (tX yes) ⟨yes ia ib, from_, []⟩).out x = if x < p then (yes ia ib && decide (from_ ≤ x)) else yes (qE a x) (qE b x) := by
  induction n with
  | zero =>
    intro a ia b ib p from_ hm ha hb hp hp2 hf
    have e : a = [] ∧ b = [] := by
      by_cases e : a = [] ∧ b = []
      · exact e
      · have := aaA a ia b ib e; omega
    obtain ⟨rfl, rfl⟩ := e
    have h1 : ia = false := ha
    have h2 : ib = false := hb
    subst h1 h2
    rw [wU, hy]
    refine ⟨trivial, fun x => ?_⟩
    simp [aai, hy]
  | succ n ih =>
    intro a ia b ib p from_ hm ha hb hp hp2 hf
    by_cases e : a = [] ∧ b = []
    · obtain ⟨rfl, rfl⟩ := e
      have h1 : ia = false := ha
      have h2 : ib = false := hb
      subst h1 h2
      rw [wU, hy]
      refine ⟨trivial, fun x => ?_⟩
      simp [aai, hy]
    · have hlt := aaA a ia b ib e
      rw [aaB a ia b ib e]
      have ht : p < atL a ia b ib ∧ atL a ia b ib ≤ hi + 1 ∧ (a ≠ [] → atL a ia b ib ≤ zl a ia) ∧ (b ≠ [] → atL a ia b ib ≤ zl b ib) := by
        unfold atL
        by_cases h1 : a = []
        · have h2 : b ≠ [] := fun h => e ⟨h1, h⟩
          rw [if_pos h1]
          have := hb.nxt hp2 hh h2
          exact ⟨this.1, this.2, fun h => absurd h1 h, fun _ => Int.le_refl _⟩
        · rw [if_neg h1]
          have q1 := ha.nxt hp2 hh h1
          by_cases h2 : b = []
          · rw [if_pos h2]
            exact ⟨q1.1, q1.2, fun _ => Int.le_refl _, fun h => absurd h2 h⟩
          · rw [if_neg h2]
            have q2 := hb.nxt hp2 hh h2
            exact ⟨by omega, by omega, fun _ => by omega, fun _ => by omega⟩
      obtain ⟨t, hte⟩ : ∃ t, atL a ia b ib = t := ⟨_, rfl⟩
      rw [hte] at ht hlt ⊢
      obtain ⟨ht1, ht2, ht3, ht4⟩ := ht
      obtain ⟨ia2, ha2, ha3⟩ := ha.step hp2 hh ht1 ht3
      obtain ⟨ib2, hb2, hb3⟩ := hb.step hp2 hh ht1 ht4
      obtain ⟨a1, ia1, hpa⟩ : ∃ a1 ia1, j5 a ia t = (a1, ia1) := ⟨_, _, rfl⟩
      obtain ⟨b1, ib1, hpb⟩ : ∃ b1 ib1, j5 b ib t = (b1, ib1) := ⟨_, _, rfl⟩
      rw [hpa] at hlt ia2 ha2 ⊢
      rw [hpb] at hlt ib2 hb2 ⊢
      dsimp only at hlt ia2 ha2 ib2 hb2 ⊢
      have hw : wrap64 (t - 1) = t - 1 := eH (by omega) (by omega)
      have hval : ∀ x, p ≤ x → x < t → yes (qE a x) (qE b x) = yes ia ib := fun x h1 h2 => by rw [ha3 x h1 h2, hb3 x h1 h2]
      have ani : ∀ x, t ≤ x → yes (qE a1 x) (qE b1 x) = yes (qE a x) (qE b x) := fun x h1 => by rw [ha2 x h1, hb2 x h1]
      simp only [List.foldl_cons]
      cases hin : yes ia ib with
      | false =>
        cases afC : yes ia1 ib1 with
        | true =>
          have hk : tX yes ⟨false, from_, []⟩ ⟨t, ia1, ib1⟩ = ⟨yes ia1 ib1, t, []⟩ := by simp [tX, afC]
          rw [hk]
          obtain ⟨s1, s2⟩ := ih a1 ia1 b1 ib1 t t (by omega) ia2 ib2 (by omega) (by omega) (fun _ => ⟨by omega, Int.le_refl _⟩)
          rw [afC] at s1 s2 ⊢
          refine ⟨by simpa using SL.mono (by simp; omega) s1, fun x => ?_⟩
          rw [s2 x]
          by_cases c1 : x < p
          · have c2 : x < t := by omega
            have c3 : ¬ t ≤ x := by omega
            simp [c1, c2, c3]
          · by_cases c2 : x < t
            · have c3 : ¬ t ≤ x := by omega
              rw [if_neg c1, hval x (by omega) c2, hin]
              simp [c2, c3]
            · rw [if_neg c1, if_neg c2, ani x (by omega)]
        | false =>
          have hk : tX yes ⟨false, from_, []⟩ ⟨t, ia1, ib1⟩ = ⟨yes ia1 ib1, from_, []⟩ := by simp [tX, afC]
          rw [hk]
          obtain ⟨s1, s2⟩ := ih a1 ia1 b1 ib1 t from_ (by omega) ia2 ib2 (by omega) (by omega) (fun h => by rw [afC] at h; cases h)
          rw [afC] at s1 s2 ⊢
          refine ⟨by simpa using SL.mono (by simp; omega) s1, fun x => ?_⟩
          rw [s2 x]
          by_cases c1 : x < p
          · have c2 : x < t := by omega
            simp [c1, c2]
          · by_cases c2 : x < t
            · rw [if_neg c1, hval x (by omega) c2, hin]
              simp [c2]
            · rw [if_neg c1, if_neg c2, ani x (by omega)]
      | true =>
        obtain ⟨hf1, hf2⟩ := hf hin
        cases afC : yes ia1 ib1 with
        | true =>
          have hk : tX yes ⟨true, from_, []⟩ ⟨t, ia1, ib1⟩ = ⟨yes ia1 ib1, from_, []⟩ := by simp [tX, afC]
          rw [hk]
          obtain ⟨s1, s2⟩ := ih a1 ia1 b1 ib1 t from_ (by omega) ia2 ib2 (by omega) (by omega) (fun _ => ⟨hf1, by omega⟩)
          rw [afC] at s1 s2 ⊢
          refine ⟨by simpa using s1, fun x => ?_⟩
          rw [s2 x]
          by_cases c1 : x < p
          · have c2 : x < t := by omega
            simp [c1, c2]
          · by_cases c2 : x < t
            · have c3 : from_ ≤ x := by omega
              rw [if_neg c1, hval x (by omega) c2, hin]
              simp [c2, c3]
            · rw [if_neg c1, if_neg c2, ani x (by omega)]
        | false =>
          have hk : tX yes ⟨true, from_, []⟩ ⟨t, ia1, ib1⟩ = ⟨yes ia1 ib1, from_, [⟨from_, t - 1⟩]⟩ := by simp [tX, afC, hw]
          rw [hk, anh]
          obtain ⟨s1, s2⟩ := ih a1 ia1 b1 ib1 t from_ (by omega) ia2 ib2 (by omega) (by omega) (fun h => by rw [afC] at h; cases h)
          rw [afC] at s1 s2 ⊢
          refine ⟨⟨by simp, by show from_ ≤ t - 1; omega, by show t - 1 ≤ hi; omega, ?_⟩, fun x => ?_⟩
          · have : (t - 1 : Int) + 2 = t + 1 := by omega
            show SL (t - 1 + 2) hi _
            rw [this]
            simpa using s1
          · have azE : qE ([⟨from_, t - 1⟩] ++ (List.foldl (tX yes) ⟨false, from_, []⟩ (uH a1 ia1 b1 ib1)).out) x = ((decide (from_ ≤ x) && decide (x ≤ t - 1)) || qE (List.foldl (tX yes) ⟨false, from_, []⟩ (uH a1 ia1 b1 ib1)).out x) := rfl
            rw [azE, s2 x]
            by_cases c1 : x < p
            · have c2 : x < t := by omega
              have c3 : x ≤ t - 1 := by omega
              simp [c1, c2, c3]
            · by_cases c2 : x < t
              · have c3 : from_ ≤ x := by omega
                have c4 : x ≤ t - 1 := by omega
                rw [if_neg c1, hval x (by omega) c2, hin]
                simp [c2, c3, c4]
              · have c4 : ¬ x ≤ t - 1 := by omega
                rw [if_neg c1, if_neg c2, ani x (by omega)]
                simp [c4]
theorem aaM (yes : Bool → Bool → Bool) (hy : yes false false = false) {lo hi : Int} (hlo : -4611686018427387903 ≤ lo) (hh : hi ≤ 4611686018427387904) {a b : List Sp} (ha : SL lo hi a) (hb : SL lo hi b) :
    SL lo hi (yh yes a b) ∧ ∀ x, qE (yh yes a b) x = yes (qE a x) (qE b x) := by
  have inv : ∀ {a : List Sp}, SL lo hi a → Inv hi a false (lo - 1) := by
    intro a h
    cases a with
    | nil => rfl
    | cons s r => exact SL.mono (by omega) h
  obtain ⟨h1, h2⟩ := azD yes hy hi lo (by omega) hh _ a false b false (lo - 1) 0 (Nat.le_refl _) (inv ha) (inv hb) (by omega) (by omega) (fun h => by rw [hy] at h; cases h)
  rw [hy] at h1 h2
  refine ⟨by simpa [yh, wJ] using SL.mono (by simp) h1, fun x => ?_⟩
  have := h2 x
  unfold yh wJ
  rw [this]
  by_cases c : x < lo - 1
  · rw [if_pos c, ha.low (by omega), hb.low (by omega), hy]; simp
  · rw [if_neg c]
end Go.Proofs.Ytmbmalkpmanaaaa.P
namespace Go.Proofs.Ytmbmalkpmanaaaa.P
set_option linter.unusedVariables false
set_option linter.unusedSimpArgs false
open Go.RowKit Go.ChangeShapes Go.WideShapes Go.Deep Go.Proofs.YtmbmalkpmanaaaaW.aK
def fits (n : Int) : Prop := (Lit.int .i64 n).wf = true
def acv (s : Sp) : Prop := fits s.f0 ∧ fits s.f1
end Go.Proofs.Ytmbmalkpmanaaaa.P
namespace Go.Proofs.Ytmbmalkpmanaaaa.P
open Go.RowKit Go.Proofs.YtmbmalkpmanaaaaW.aK Go.Proofs.YtmbmalkpmanaaaaW.bK Go.Proofs.YtmbmalkpmanaaaaW.bM
attribute [local go_sem] dS dU fG fH dB dD dV dW   -- for this text's walks alone
set_option linter.unusedVariables false
set_option linter.unusedSimpArgs false
theorem aCZ (d : Nat) (w : World) (x0 y0 : Int) (x1 y1 : Int) :
 (Op.equalIn (d + 2) 23 (.agg #[.int .i64 x0, .int .i64 x1]) (.agg #[.int .i64 y0, .int .i64 y1])).run Try.prog w = .ok (x0 == y0 && (x1 == y1)) w := by
 refine asG Try.underlying23 (by kernel_rfl) ?_
 refine amm (by rfl) (by go_simp; rfl) (by go_simp; rfl) (by go_simp) ?_
 exact aml (by rfl) (by go_simp; rfl) (by go_simp; rfl) (by go_simp)
end Go.Proofs.Ytmbmalkpmanaaaa.P
namespace Go.Proofs.Ytmbmalkpmanaaaa.P
set_option linter.unusedVariables false
set_option linter.unusedSimpArgs false
open Go.RowKit Go.Proofs.YtmbmalkpmanaaaaW.aK
theorem aik (pre r : List Sp) (s : Sp) : aT (pre ++ s :: r) (pre.length : Int) = s := by simp [aT]
theorem ail {α : Type} (pre : List α) (s : α) (n : Nat) (h : pre.length + 1 ≤ n) (hn : n ≤ 9223372036854775807) : wrap64 ((pre.length : Int) + 1) = ((pre ++ [s]).length : Int) := by
  rw [eH (by omega) (by omega)]; simp
theorem aff {α : Type} (pre : List α) (s : α) (n : Nat) (h : pre.length + 1 ≤ n) (hn : n ≤ 9223372036854775807) : wrap64 (((pre ++ [s]).length : Int) - 1) = (pre.length : Int) := by
  rw [eH (by simp only [List.length_append, List.length_singleton]; omega) (by simp only [List.length_append, List.length_singleton]; omega)]; simp
def slB (lo : Int) : List Sp → Bool
  | [] => true
  | s :: r => decide (lo ≤ s.f0) && (decide (s.f0 ≤ s.f1) && (decide (s.f1 ≤ 1099511627776) && slB (s.f1 + 2) r))
theorem acw {lo : Int} {l : List Sp} : slB lo l = true ↔ SL lo 1099511627776 l := by
  induction l generalizing lo with
  | nil => simp [slB, SL]
  | cons s r ih => simp [slB, SL, ih]
theorem qW (a : Int) : gJ.f a = some (decide (-1099511627776 ≤ a) && decide (a ≤ 1099511627776)) := by
  unfold gJ.f
  by_cases h : a ≥ -1099511627776
  · have h2 : -1099511627776 ≤ a := h
    rw [if_pos h]; simp [h2]
  · have h2 : ¬ -1099511627776 ≤ a := h
    rw [if_neg h]; simp [h2]
theorem ael (l : List Sp) (hl : l.length ≤ 9223372036854775807) : Ev (fun k => bE.f k l) (slB (-1099511627776) l) := by
  have key : ∀ (rest pre : List Sp) (lo : Int), l = pre ++ rest → (pre = [] ∧ lo = -1099511627776 ∨ ∃ p q, pre = p ++ [q] ∧ lo = q.f1 + 2 ∧ -1099511627776 ≤ q.f1 ∧ q.f1 ≤ 1099511627776) →
      Ev (fun k => bE.l0 k l l (l.length : Int) (pre.length : Int)) (slB lo rest) := by
    intro rest
    induction rest with
    | nil =>
      intro pre lo hp hlo
      refine Ev.step (f := fun _ => some true) (fun k => ?_) (Ev.now _)
      rw [bE.l0, if_neg (by rw [hp]; simp)]
    | cons s r ih =>
      intro pre lo hp hlo
      have hlen : pre.length + 1 ≤ l.length := by rw [hp]; simp
      have hrd : aT l (pre.length : Int) = s := by rw [hp]; exact aik _ _ _
      have h0 : ∀ k, bE.l0 (k + 1) l l (l.length : Int) (pre.length : Int) = bE.l0 (k + 1) l l (l.length : Int) (pre.length : Int) := fun _ => rfl
      have hlow : -1099511627776 ≤ lo := by rcases hlo with ⟨_, rfl⟩ | ⟨p, q, _, rfl, h, _⟩ <;> omega
      have c1 : (pre.length : Int) < (l.length : Int) := by omega
      have c2 : (0 : Int) ≤ (pre.length : Int) := by omega
      by_cases t0 : -1099511627776 ≤ s.f0 ∧ s.f0 ≤ 1099511627776
      · by_cases t1 : -1099511627776 ≤ s.f1 ∧ s.f1 ≤ 1099511627776
        · by_cases t2 : s.f0 > s.f1
          · refine Ev.step (f := fun _ => some (slB lo (s :: r))) (fun k => ?_) (Ev.now _)
            have hn : ¬ s.f0 ≤ s.f1 := by omega
            rw [bE.l0, if_pos c1, if_pos c2, if_pos c1, hrd, qW, qW]
            simp [t0, t1, t2, slB, hn]
          · have hn : s.f0 ≤ s.f1 := by omega
            rcases hlo with ⟨rfl, rfl⟩ | ⟨p, q, rfl, rfl, hq1, hq2⟩
            · have hs : slB (-1099511627776) (s :: r) = slB (s.f1 + 2) r := by simp [slB, t0, t1, hn]
              rw [hs]
              refine Ev.step (fun k => ?_) (ih [s] (s.f1 + 2) hp (.inr ⟨[], s, rfl, rfl, t1.1, t1.2⟩))
              rw [bE.l0, if_pos c1, if_pos c2, if_pos c1, hrd, qW, qW]
              have hw : wrap64 (([] : List Sp).length + 1 : Int) = (([s] : List Sp).length : Int) := by simpa using eH (n := 1) (by omega) (by omega)
              simp only [t0, t1, decide_true, Bool.and_self, Option.bind_some, if_true]
              rw [if_neg t2, if_neg (by simp), hw]
            · have hw := ail (p ++ [q]) s l.length hlen hl
              have hwp := aff p q l.length (by simp at hlen; omega) hl
              have hrq : aT l (p.length : Int) = q := by rw [hp]; simp [aT]
              have hw2 : wrap64 (q.f1 + 2) = q.f1 + 2 := eH (by omega) (by omega)
              have c3 : (p.length : Int) < (l.length : Int) := by simp at hlen; omega
              by_cases t3 : s.f0 < q.f1 + 2
              · refine Ev.step (f := fun _ => some (slB (q.f1 + 2) (s :: r))) (fun k => ?_) (Ev.now _)
                have hn3 : ¬ q.f1 + 2 ≤ s.f0 := by omega
                rw [bE.l0, if_pos c1, if_pos c2, if_pos c1, hrd, qW, qW]
                simp only [t0, t1, decide_true, Bool.and_self, Option.bind_some, if_true]
                rw [if_neg t2, if_pos (by simp), hwp, if_pos (by omega), if_pos c3, hrq, hw2, if_pos t3]
                simp [slB, hn3]
              · have hn3 : q.f1 + 2 ≤ s.f0 := by omega
                have hs : slB (q.f1 + 2) (s :: r) = slB (s.f1 + 2) r := by simp [slB, t1, hn, hn3]
                rw [hs]
                refine Ev.step (fun k => ?_) (ih (p ++ [q] ++ [s]) (s.f1 + 2) (by rw [hp]; simp) (.inr ⟨p ++ [q], s, rfl, rfl, t1.1, t1.2⟩))
                rw [bE.l0, if_pos c1, if_pos c2, if_pos c1, hrd, qW, qW]
                simp only [t0, t1, decide_true, Bool.and_self, Option.bind_some, if_true]
                rw [if_neg t2, if_pos (by simp), hwp, if_pos (by omega), if_pos c3, hrq, hw2, if_neg t3, hw]
        · refine Ev.step (f := fun _ => some (slB lo (s :: r))) (fun k => ?_) (Ev.now _)
          rw [bE.l0, if_pos c1, if_pos c2, if_pos c1, hrd, qW, qW]
          have e1 : (decide (-1099511627776 ≤ s.f1) && decide (s.f1 ≤ 1099511627776)) = false := by
            rw [Bool.eq_false_iff]; intro h; simp at h; exact t1 h
          have e2 : slB lo (s :: r) = false := by
            rw [Bool.eq_false_iff]; intro h; rw [acw] at h; obtain ⟨h1, h2, h3, _⟩ := h; exact t1 ⟨by omega, h3⟩
          rw [e1, e2]
          simp [t0]
      · refine Ev.step (f := fun _ => some (slB lo (s :: r))) (fun k => ?_) (Ev.now _)
        rw [bE.l0, if_pos c1, if_pos c2, if_pos c1, hrd, qW]
        have e1 : (decide (-1099511627776 ≤ s.f0) && decide (s.f0 ≤ 1099511627776)) = false := by
          rw [Bool.eq_false_iff]; intro h; simp at h; exact t0 h
        have e2 : slB lo (s :: r) = false := by
          rw [Bool.eq_false_iff]; intro h; rw [acw] at h; obtain ⟨h1, h2, h3, _⟩ := h; exact t0 ⟨by omega, by omega⟩
        rw [e1, e2]
        simp
  exact key l [] (-1099511627776) rfl (.inl ⟨rfl, rfl⟩)
end Go.Proofs.Ytmbmalkpmanaaaa.P
namespace Go.Proofs.Ytmbmalkpmanaaaa.P
set_option linter.unusedVariables false
set_option linter.unusedSimpArgs false
open Go.RowKit Go.Proofs.YtmbmalkpmanaaaaW.aK
theorem Ev.yes {α : Type} {c : Prop} [Decidable c] {g f : Nat → Option α} {r : α} (h : c) (k : Ev g r) : Ev (fun n => if c then g n else f n) r := Ev.congr (fun n => if_pos h) k
theorem Ev.no {α : Type} {c : Prop} [Decidable c] {g f : Nat → Option α} {r : α} (h : ¬ c) (k : Ev f r) : Ev (fun n => if c then g n else f n) r := Ev.congr (fun n => if_neg h) k
theorem Ev.val {α : Type} {g : Option α} {r : α} (h : g = some r) : Ev (fun _ => g) r := ⟨0, fun _ _ => h⟩
theorem SL.len2 {hi : Int} : ∀ {l : List Sp} {lo : Int}, lo ≤ hi + 2 → SL lo hi l → 2 * (l.length : Int) ≤ hi + 2 - lo
  | [], lo, h, _ => by simp; omega
  | s :: r, lo, h, hs => by
    obtain ⟨h1, h2, h3, h4⟩ := hs
    have := SL.len2 (by omega) h4
    simp only [List.length_cons]; omega
theorem SL.aub {l : List Sp} (h : SL (-1099511627776) 1099511627776 l) : l.length ≤ 2199023255552 := by have := SL.len2 (by omega) h; omega
end Go.Proofs.Ytmbmalkpmanaaaa.P
namespace Go.Proofs.Ytmbmalkpmanaaaa.P
set_option linter.unusedVariables false
set_option linter.unusedSimpArgs false
open Go.RowKit Go.Proofs.YtmbmalkpmanaaaaW.aK
theorem an1 (l : List Sp) (j : Nat) (h : j < l.length) : aT l (j : Int) = l[j] := by simp [aT, h]
def ali (l : List Sp) : Int × Int × Bool :=
  match l.head?, l.getLast? with
  | some s, some z => (s.f0, z.f1, true)
  | _, _ => (0, 0, false)
def nG (a b : List Sp) : Bool :=
  match a.getLast?, b.head? with
  | some z, some s => decide (z.f1 < s.f0)
  | _, _ => true
theorem alj (p : List Sp) (z : Sp) (h : (p ++ [z]).length ≤ 4611686018427387904) : wrap64 (((p ++ [z]).length : Int) - 1) = (p.length : Int) ∧ aT (p ++ [z]) (p.length : Int) = z := by
  refine ⟨aff p z _ (by simp) (by omega : (p ++ [z]).length ≤ 9223372036854775807), aik p [] z⟩
theorem tN (l : List Sp) (h : l.length ≤ 4611686018427387904) : eD.f l = some (ali l) := by
  rcases List.eq_nil_or_concat l with rfl | ⟨p, z, rfl⟩
  · simp [eD.f, ali]
  · have e : p.concat z = p ++ [z] := by simp
    rw [e] at h ⊢
    obtain ⟨w, r⟩ := alj p z h
    unfold eD.f
    rw [if_neg (by simp only [List.length_append, List.length_singleton]; omega), if_pos (by simp only [List.length_append, List.length_singleton]; omega), w, if_pos (by omega), if_pos (by simp only [List.length_append, List.length_singleton]; omega), r]
    have hg : (p ++ [z]).getLast? = some z := by simp
    unfold ali; rw [hg]
    cases p <;> simp [aT]
theorem ahk (a b : List Sp) (h : a.length ≤ 4611686018427387904) : dF.f a b = some (nG a b) := by
  rcases List.eq_nil_or_concat a with rfl | ⟨p, z, rfl⟩
  · simp [dF.f, nG]
  · have e : p.concat z = p ++ [z] := by simp
    rw [e] at h ⊢
    obtain ⟨w, r⟩ := alj p z h
    unfold dF.f
    rw [if_neg (by simp only [List.length_append, List.length_singleton]; omega)]
    cases b with
    | nil => simp [nG]
    | cons s q =>
      rw [if_neg (by simp; omega), w, if_pos (by omega), if_pos (by simp only [List.length_append, List.length_singleton]; omega), if_pos (by simp), r]
      simp [nG, aT]
theorem SL.rise {hi : Int} : ∀ {l : List Sp} {lo : Int}, SL lo hi l → ∀ i j (hj : j < l.length) (hij : i < j), (l[i]'(by omega)).f1 + 2 ≤ l[j].f0
  | [], _, _, _, _, hj, _ => by simp at hj
  | s :: r, lo, h, 0, j + 1, hj, _ => by
    have := (SL.ticks h.2.2.2 (List.getElem_mem (by simpa using hj : j < r.length))).1
    simpa using this
  | s :: r, lo, h, i + 1, j + 1, hj, hij => by
    have := SL.rise h.2.2.2 i j (by simpa using hj) (by omega)
    simpa using this
theorem SL.get {lo hi : Int} {l : List Sp} (h : SL lo hi l) (j : Nat) (hj : j < l.length) : lo ≤ l[j].f0 ∧ l[j].f0 ≤ l[j].f1 ∧ l[j].f1 ≤ hi := SL.ticks h (List.getElem_mem hj)
theorem an2 (lo hi : Nat) (h : hi ≤ 4611686018427387903) (hl : lo ≤ hi) : wrap64 ((IntKind.u64.wrap (wrap64 ((lo : Int) + (hi : Int)))) / 2) = (((lo + hi) / 2 : Nat) : Int) := by
  rw [eH (n := (lo : Int) + hi) (by omega) (by omega)]
  have : IntKind.u64.wrap ((lo : Int) + hi) = (lo : Int) + hi := by
    simp only [IntKind.wrap, IntKind.bits, IntKind.signed]
    simp
    omega
  rw [this, eH (by omega) (by omega)]
  omega
theorem alk (a b x : Int) : lH.f a b x = some (if b < x then -1 else if a > x then 1 else 0) := by
  unfold lH.f
  split
  · rfl
  · split <;> rfl
theorem alm {lb ub : Int} (l : List Sp) (x : Int) (hs : SL lb ub l) (hn : l.length ≤ 4611686018427387903) : ∃ r, Ev (fun k => aG.f k l x) r ∧ (decide (r.1 < (l.length : Int)) && r.2) = qE l x := by
  have key : ∀ (d lo hi : Nat), hi - lo = d → lo ≤ hi → hi ≤ l.length → (∀ j (hj : j < l.length), j < lo → l[j].f1 < x) → (∀ j (hj : j < l.length), hi ≤ j → x ≤ l[j].f1) →
      ∃ r, Ev (fun k => aG.l0 k l x (l.length : Int) (lo : Int) (hi : Int)) r ∧ (decide (r.1 < (l.length : Int)) && r.2) = qE l x := by
    intro d
    induction d using Nat.strongRecOn with
    | ind d ih =>
      intro lo hi hd hle hhn hlow hhigh
      by_cases hlt : lo < hi
      · have c1 : (lo : Int) < (hi : Int) := by omega
        have hm := an2 lo hi (by omega) hle
        have hmid : (lo + hi) / 2 < l.length := by omega
        have hrd := an1 l ((lo + hi) / 2) hmid
        by_cases t : l[(lo + hi) / 2].f1 < x
        · obtain ⟨r, r1, r2⟩ := ih (hi - ((lo + hi) / 2 + 1)) (by omega) ((lo + hi) / 2 + 1) hi rfl (by omega) hhn (fun j hj h => by
            rcases Nat.lt_or_ge j ((lo + hi) / 2) with g | g
            · have := SL.rise hs j _ hmid g
              have := (SL.get hs _ hmid).2.1
              omega
            · have : j = (lo + hi) / 2 := by omega
              subst this; exact t) hhigh
          refine ⟨r, Ev.step (fun k => ?_) r1, r2⟩
          have hw : wrap64 ((((lo + hi) / 2 : Nat) : Int) + 1) = (((lo + hi) / 2 + 1 : Nat) : Int) := by rw [eH (by omega) (by omega)]; simp
          rw [aG.l0, if_pos c1, hm, if_pos (by omega), if_pos (by omega), hrd, alk, if_pos t, Option.bind_some, if_pos (by omega), hw]
        · obtain ⟨r, r1, r2⟩ := ih ((lo + hi) / 2 - lo) (by omega) lo ((lo + hi) / 2) rfl (by omega) (by omega) hlow (fun j hj h => by
            rcases Nat.lt_or_ge ((lo + hi) / 2) j with g | g
            · have := SL.rise hs _ j hj g
              have := (SL.get hs _ hj).2.1
              omega
            · have : j = (lo + hi) / 2 := by omega
              subst this; omega)
          refine ⟨r, Ev.step (fun k => ?_) r1, r2⟩
          have hneg : ¬ (if l[(lo + hi) / 2].f1 < x then (-1 : Int) else if l[(lo + hi) / 2].f0 > x then 1 else 0) < 0 := by rw [if_neg t]; split <;> omega
          rw [aG.l0, if_pos c1, hm, if_pos (by omega), if_pos (by omega), hrd, alk, Option.bind_some, if_neg hneg]
      · have he : lo = hi := by omega
        subst he
        by_cases hlast : lo < l.length
        · refine ⟨((lo : Int), decide (¬ (l[lo].f0 > x))), Ev.step (f := fun _ => some ((lo : Int), decide (¬ (l[lo].f0 > x)))) (fun k => ?_) (Ev.now _), ?_⟩
          · have hx := hhigh lo hlast (by omega)
            rw [aG.l0, if_neg (by omega), if_pos (by omega), if_pos (by omega), if_pos (by omega), an1 l lo hlast, alk, if_neg (by omega), Option.bind_some]
            by_cases g : l[lo].f0 > x
            · simp [g]
            · simp [g]
          · have hx := hhigh lo hlast (by omega)
            rw [Bool.eq_iff_iff]
            simp only [Bool.and_eq_true, decide_eq_true_eq, aaj]
            constructor
            · rintro ⟨_, h⟩
              exact ⟨l[lo], List.getElem_mem hlast, by omega, hx⟩
            · rintro ⟨s, hmem, h1, h2⟩
              obtain ⟨j, hj, rfl⟩ := List.getElem_of_mem hmem
              refine ⟨by omega, ?_⟩
              rcases Nat.lt_or_ge j lo with g | g
              · have := hlow j hj g; omega
              · rcases Nat.lt_or_ge lo j with g2 | g2
                · have := SL.rise hs _ j hj g2
                  have := (SL.get hs _ hlast).2.1
                  omega
                · have : j = lo := by omega
                  subst this; omega
        · have hl : lo = l.length := by omega
          refine ⟨((lo : Int), false), Ev.step (f := fun _ => some ((lo : Int), false)) (fun k => ?_) (Ev.now _), ?_⟩
          · rw [aG.l0, if_neg (by omega), if_neg (by omega)]
          · rw [Bool.and_false, eq_comm, Bool.eq_false_iff]
            intro h
            obtain ⟨s, hmem, h1, h2⟩ := aaj.1 h
            obtain ⟨j, hj, rfl⟩ := List.getElem_of_mem hmem
            have := hlow j hj (by omega)
            omega
  exact key _ 0 l.length rfl (by omega) (by omega) (by intro j _ h; omega) (by intro j hj h; omega)
theorem an3 {lb ub : Int} (l : List Sp) (x : Int) (hs : SL lb ub l) (hn : l.length ≤ 4611686018427387903) : Ev (fun k => jY.f k l x) (qE l x) := by
  obtain ⟨r, r1, r2⟩ := alm l x hs hn
  refine Ev.bind r1 ?_
  rw [← r2]
  by_cases h : r.2 = true
  · refine Ev.yes h ?_
    rw [h, Bool.and_true]; exact Ev.now _
  · refine Ev.no h ?_
    rw [Bool.eq_false_iff.2 h, Bool.and_false]; exact Ev.now _
theorem arq (yes : Bool → Bool → Bool) (hy : yes false false = false) {a b : List Sp} (ha : SL (-1099511627776) 1099511627776 a) (hb : SL (-1099511627776) 1099511627776 b) :
    SL (-1099511627776) 1099511627776 (yh yes a b) ∧ ∀ x, qE (yh yes a b) x = yes (qE a x) (qE b x) := aaM yes hy (by omega) (by omega) ha hb
end Go.Proofs.Ytmbmalkpmanaaaa.P
namespace Go.Proofs.Ytmbmalkpmanaaaa.P
set_option linter.unusedVariables false
set_option linter.unusedSimpArgs false
open Go.RowKit Go.Proofs.YtmbmalkpmanaaaaW.aK
theorem SL.front {lo hi : Int} {p r : List Sp} (h : SL lo hi (p ++ r)) : SL lo hi p := by
  induction p generalizing lo with
  | nil => trivial
  | cons s p ih => exact ⟨h.1, h.2.1, h.2.2.1, ih h.2.2.2⟩
theorem azF (a b : List Sp) (h : a.length + b.length ≤ 1000000) : mQ.f a b = some (yh (fun a b => a && b) a b) := by unfold mQ.f; rw [if_pos (by unfold many; omega)]
theorem ars (a b : List Sp) (h : a.length + b.length ≤ 1000000) : oO.f a b = some (decide ((yh (fun a b => a && b) a b) ≠ [])) := by
  unfold oO.f; rw [azF a b h, Option.bind_some]
  cases yh (fun a b => a && b) a b with
  | nil => rfl
  | cons x r => simp
end Go.Proofs.Ytmbmalkpmanaaaa.P
namespace Go.Proofs.Ytmbmalkpmanaaaa.P
set_option linter.unusedVariables false
set_option linter.unusedSimpArgs false
open Go.RowKit Go.Proofs.YtmbmalkpmanaaaaW.aK
def qX (n : Int) (s : Sp) : Sp := ⟨s.f0 + n, s.f1 + n⟩
def okT (x : Int) : Bool := decide (-1099511627776 ≤ x) && decide (x ≤ 1099511627776)
def okM (n : Int) (s : Sp) : Bool := okT (s.f0 + n) && okT (s.f1 + n)
def acy (n : Int) (l : List Sp) : List Sp × Int := if l.all (okM n) then (l.map (qX n), 0) else ([], 20)
theorem uE (a n : Int) (h1 : -9223372036854775808 ≤ a + n) (h2 : a + n ≤ 9223372036854775807) : kS.f a n = some (a + n, 0) := by
  unfold kS.f
  rw [eH h1 h2]
  have e : ((decide ((a + n) > a)) != (decide (n > 0))) = false := by
    by_cases h : n > 0
    · have : a < a + n := by omega
      simp [h, this]
    · have : a + n ≤ a := by omega
      simp [h, this]
  rw [e]; rfl
theorem add_not (a n : Int) (ha : -1099511627776 ≤ a ∧ a ≤ 1099511627776) (hn : -9223372036854775808 ≤ n ∧ n ≤ 9223372036854775807) (h : ¬ (-9223372036854775808 ≤ a + n ∧ a + n ≤ 9223372036854775807)) : kS.f a n = some (0, 10) := by
  unfold kS.f
  have e : ((decide (wrap64 (a + n) > a)) != (decide (n > 0))) = true := by
    by_cases g : n > 0
    · have : ¬ wrap64 (a + n) > a := by unfold wrap64; omega
      simp [g, this]
    · have : wrap64 (a + n) > a := by unfold wrap64; omega
      simp [g, this]
  rw [e, if_pos rfl, if_neg (by omega)]
theorem aru (l : List Sp) (n : Int) (hs : SL (-1099511627776) 1099511627776 l) (hn : -9223372036854775808 ≤ n ∧ n ≤ 9223372036854775807) : Ev (fun k => eU.f k l n) (acy n l) := by
  have hl := SL.aub hs
  have key : ∀ (rest pre : List Sp), l = pre ++ rest → pre.all (okM n) = true → Ev (fun k => eU.l0 k n (pre.map (qX n)) l (l.length : Int) (pre.length : Int)) (acy n l) := by
    intro rest
    induction rest with
    | nil =>
      intro pre hp hok
      have e : l = pre := by rw [hp]; simp
      refine Ev.step (f := fun _ => some (pre.map (qX n), 0)) (fun k => ?_) ?_
      · rw [eU.l0, if_neg (by rw [hp]; simp)]
      · rw [e]; unfold acy; rw [if_pos hok]; exact Ev.now _
    | cons s r ih =>
      intro pre hp hok
      have hlen : pre.length + 1 ≤ l.length := by rw [hp]; simp
      have hrd : aT l (pre.length : Int) = s := by rw [hp]; exact aik _ _ _
      have hw := ail pre s l.length hlen (by omega)
      have c1 : (pre.length : Int) < (l.length : Int) := by omega
      have c2 : (0 : Int) ≤ (pre.length : Int) := by omega
      have c3 : (pre.map (qX n)).length < 8796093022208 := by rw [List.length_map]; omega
      have ht := SL.ticks hs (s := s) (by rw [hp]; simp)
      have bad : okM n s = false → acy n l = ([], 20) := fun h => by
        unfold acy; rw [if_neg (by rw [hp, List.all_append, List.all_cons, h]; simp)]
      by_cases g0 : -9223372036854775808 ≤ s.f0 + n ∧ s.f0 + n ≤ 9223372036854775807
      · by_cases g1 : -9223372036854775808 ≤ s.f1 + n ∧ s.f1 + n ≤ 9223372036854775807
        · by_cases t0 : okT (s.f0 + n) = true
          · by_cases t1 : okT (s.f1 + n) = true
            · refine Ev.step (fun k => ?_) (ih (pre ++ [s]) (by rw [hp]; simp) (by rw [List.all_append, hok]; simp [okM, t0, t1]))
              rw [eU.l0, if_pos c1, if_pos c2, if_pos c1, hrd, uE _ _ g0.1 g0.2, uE _ _ g1.1 g1.2, Option.bind_some, Option.bind_some, if_pos rfl, if_pos rfl, qW, qW]
              unfold okT at t0 t1
              rw [Option.bind_some, if_pos t0, Option.bind_some, if_pos t1, if_pos c3, hw, List.map_append]
              rfl
            · have t1' : okT (s.f1 + n) = false := by simpa using t1
              rw [bad (by simp [okM, t1'])]
              refine Ev.step (f := fun _ => some ([], 20)) (fun k => ?_) (Ev.now _)
              rw [eU.l0, if_pos c1, if_pos c2, if_pos c1, hrd, uE _ _ g0.1 g0.2, uE _ _ g1.1 g1.2, Option.bind_some, Option.bind_some, if_pos rfl, if_pos rfl, qW, qW]
              unfold okT at t0 t1
              rw [Option.bind_some, if_pos t0, Option.bind_some, if_neg t1]
          · have t0' : okT (s.f0 + n) = false := by simpa using t0
            rw [bad (by simp [okM, t0'])]
            refine Ev.step (f := fun _ => some ([], 20)) (fun k => ?_) (Ev.now _)
            rw [eU.l0, if_pos c1, if_pos c2, if_pos c1, hrd, uE _ _ g0.1 g0.2, uE _ _ g1.1 g1.2, Option.bind_some, Option.bind_some, if_pos rfl, if_pos rfl, qW]
            unfold okT at t0
            rw [Option.bind_some, if_neg t0]
        · have : okT (s.f1 + n) = false := by unfold okT; simp; omega
          rw [bad (by simp [okM, this])]
          refine Ev.step (f := fun _ => some ([], 20)) (fun k => ?_) (Ev.now _)
          rw [eU.l0, if_pos c1, if_pos c2, if_pos c1, hrd, uE _ _ g0.1 g0.2, add_not _ _ (by omega) hn g1, Option.bind_some, Option.bind_some, if_pos rfl, if_neg (by simp)]
      · have : okT (s.f0 + n) = false := by unfold okT; simp; omega
        rw [bad (by simp [okM, this])]
        refine Ev.step (f := fun _ => some ([], 20)) (fun k => ?_) (Ev.now _)
        by_cases g1 : -9223372036854775808 ≤ s.f1 + n ∧ s.f1 + n ≤ 9223372036854775807
        · rw [eU.l0, if_pos c1, if_pos c2, if_pos c1, hrd, add_not _ _ (by omega) hn g0, uE _ _ g1.1 g1.2, Option.bind_some, Option.bind_some, if_neg (by simp)]
        · rw [eU.l0, if_pos c1, if_pos c2, if_pos c1, hrd, add_not _ _ (by omega) hn g0, add_not _ _ (by omega) hn g1, Option.bind_some, Option.bind_some, if_neg (by simp)]
  have := key l [] rfl rfl
  exact this
theorem arv {x : Int} : okT x = true ↔ -1099511627776 ≤ x ∧ x ≤ 1099511627776 := by simp [okT]
theorem aln {n : Int} {s : Sp} : okM n s = true ↔ (-1099511627776 ≤ s.f0 + n ∧ s.f0 + n ≤ 1099511627776) ∧ (-1099511627776 ≤ s.f1 + n ∧ s.f1 + n ≤ 1099511627776) := by simp [okM, arv]
theorem SL.shift {lo hi : Int} (n : Int) : ∀ {l : List Sp} {lo : Int}, SL lo hi l → SL (lo + n) (hi + n) (l.map (qX n))
  | [], _, _ => trivial
  | s :: r, lo, h => by
    obtain ⟨h1, h2, h3, h4⟩ := h
    refine ⟨by simp only [qX]; omega, by simp only [qX]; omega, by simp only [qX]; omega, ?_⟩
    have := SL.shift (lo := lo) n h4
    have e : (qX n s).f1 + 2 = s.f1 + 2 + n := by simp only [qX]; omega
    rw [e]; exact this
theorem SL.within {lo' hi' hi : Int} : ∀ {l : List Sp} {lo : Int}, SL lo hi l → (∀ s ∈ l, lo' ≤ s.f0 ∧ s.f1 ≤ hi') → SL lo' hi' l
  | [], _, _, _ => trivial
  | s :: r, lo, h, hb => by
    obtain ⟨h1, h2, h3, h4⟩ := h
    refine ⟨(hb s (by simp)).1, h2, (hb s (by simp)).2, ?_⟩
    refine SL.within h4 (fun t ht => ⟨?_, (hb t (by simp [ht])).2⟩)
    exact (SL.ticks h4 ht).1
theorem SL.moved {n : Int} {l : List Sp} (h : SL (-1099511627776) 1099511627776 l) (ho : l.all (okM n) = true) : SL (-1099511627776) 1099511627776 (l.map (qX n)) := by
  refine SL.within (SL.shift (lo := 0) n h) (fun s hs => ?_)
  obtain ⟨t, ht, rfl⟩ := List.mem_map.1 hs
  have := aln.1 (List.all_eq_true.1 ho t ht)
  simp only [qX]; omega
end Go.Proofs.Ytmbmalkpmanaaaa.P
namespace Go.Proofs.Ytmbmalkpmanaaaa.P
set_option linter.unusedVariables false
set_option linter.unusedSimpArgs false
open Go.RowKit
abbrev Gn := S70
def qF : List Sp → Int
  | [] => 0
  | s :: _ => s.f0
def qH : List Sp → Int
  | [] => 0
  | [s] => s.f1
  | _ :: t :: r => qH (t :: r)
theorem alo (l : List Sp) (s : Sp) : qH (l ++ [s]) = s.f1 := by
  induction l with
  | nil => rfl
  | cons a r ih => cases r with
    | nil => rfl
    | cons b r => exact ih
theorem SL.ends {lo hi : Int} : ∀ {l : List Sp}, SL lo hi l → l ≠ [] → lo ≤ qF l ∧ qF l ≤ qH l ∧ qH l ≤ hi
  | [], _, h => absurd rfl h
  | [s], ⟨a, b, c, _⟩, _ => ⟨a, b, c⟩
  | s :: t :: r, ⟨a, b, c, d⟩, _ => by
    obtain ⟨e1, e2, e3⟩ := SL.ends d (by simp)
    simp only [qF, qH] at *
    exact ⟨a, by omega, e3⟩
theorem SL.between {lo hi : Int} {l : List Sp} (h : SL lo hi l) {s : Sp} (hs : s ∈ l) : qF l ≤ s.f0 ∧ s.f1 ≤ qH l := by
  induction l generalizing lo with
  | nil => simp at hs
  | cons a r ih =>
    obtain ⟨h1, h2, h3, h4⟩ := h
    cases r with
    | nil => simp at hs; subst hs; exact ⟨Int.le_refl _, Int.le_refl _⟩
    | cons b r =>
      have e := h4.ends (by simp)
      rcases List.mem_cons.1 hs with rfl | hs
      · simp only [qF, qH] at *; omega
      · have := ih h4 hs; simp only [qF, qH] at *; omega
theorem SL.ahl {lo hi : Int} {l : List Sp} (h : SL lo hi l) {x : Int} (hx : qE l x = true) : qF l ≤ x ∧ x ≤ qH l := by
  obtain ⟨s, hs, h1, h2⟩ := aaj.1 hx
  have := h.between hs
  omega
theorem ade (n : Int) (l : List Sp) (h : l ≠ []) : qF (l.map (qX n)) = qF l + n := by
  cases l with
  | nil => exact absurd rfl h
  | cons s r => rfl
theorem aaN (n : Int) : ∀ (l : List Sp), l ≠ [] → qH (l.map (qX n)) = qH l + n
  | [], h => absurd rfl h
  | [s], _ => rfl
  | s :: t :: r, _ => aaN n (t :: r) (by simp)
theorem SL.aak {n : Int} {l : List Sp} (h : SL (-1099511627776) 1099511627776 l) (hn : l ≠ []) : l.all (okM n) = true ↔ (-1099511627776 ≤ qF l + n ∧ qH l + n ≤ 1099511627776) := by
  constructor
  · intro ha
    have hm := h.moved ha
    have := hm.ends (by simpa using hn)
    rw [ade n l hn, aaN n l hn] at this
    exact ⟨this.1, this.2.2⟩
  · intro ⟨h1, h2⟩
    rw [List.all_eq_true]
    intro s hs
    have := h.between hs
    have := h.ticks hs
    rw [aln]; omega
def lW : List Gn → Int → Option (List Sp)
  | [], _ => none
  | g :: r, i => if g.f0 = i then some g.f1 else lW r i
theorem vk {odd : List Gn} {i : Int} {l : List Sp} (h : lW odd i = some l) : ∃ g ∈ odd, g.f0 = i ∧ g.f1 = l := by
  induction odd with
  | nil => cases h
  | cons g r ih =>
    simp only [lW] at h
    split at h
    · cases h; exact ⟨g, by simp, ‹_›, rfl⟩
    · obtain ⟨g', h1, h2⟩ := ih h; exact ⟨g', by simp [h1], h2⟩
theorem xZ {odd : List Gn} {i : Int} : lW odd i = none ↔ ∀ g ∈ odd, g.f0 ≠ i := by
  induction odd with
  | nil => simp [lW]
  | cons g r ih =>
    simp only [lW, List.mem_cons, forall_eq_or_imp]
    by_cases h : g.f0 = i
    · simp [h]
    · simp [h, ih]
theorem acz {odd : List Gn} (hu : odd.Pairwise (fun a b => a.f0 < b.f0)) {g : Gn} (hg : g ∈ odd) : lW odd g.f0 = some g.f1 := by
  induction odd with
  | nil => simp at hg
  | cons a r ih =>
    obtain ⟨h1, h2⟩ := List.pairwise_cons.1 hu
    simp only [lW]
    rcases List.mem_cons.1 hg with rfl | hg
    · rw [if_pos rfl]
    · have := h1 g hg; rw [if_neg (by omega)]; exact ih h2 hg
def gG (c : Int) (core : List (List Sp)) (i : Int) : List Sp := if c = 0 then [] else core.getD (i % c).toNat []
def fs (c : Int) (core : List (List Sp)) (odd : List Gn) (i : Int) : List Sp := match lW odd i with | some l => l | none => gG c core i
def fb (p c : Int) (odd : List Gn) (i : Int) : Int := match lW odd i with | some _ => 0 | none => i / c * p
def gLo (p c : Int) (core : List (List Sp)) (odd : List Gn) (i : Int) : Int := qF (fs c core odd i) + fb p c odd i
def gHi (p c : Int) (core : List (List Sp)) (odd : List Gn) (i : Int) : Int := qH (fs c core odd i) + fb p c odd i
def inR (i : Int) : Prop := -1099511627776 ≤ i ∧ i ≤ 1099511627776
instance (i : Int) : Decidable (inR i) := by unfold inR; exact inferInstance
structure SF (p c : Int) (core : List (List Sp)) (odd : List Gn) : Prop where
  hc : c = core.length
  hp0 : 0 ≤ p
  hp1 : p ≤ 1099511627776
  hz : c = 0 ↔ p = 0
  hcore : ∀ l ∈ core, SL (-1099511627776) 1099511627776 l
  hodd : ∀ g ∈ odd, SL (-1099511627776) 1099511627776 g.f1
  hidx : ∀ g ∈ odd, inR g.f0
  hup : odd.Pairwise (fun a b => a.f0 < b.f0)
  hl : core.length ≤ 6000
  hlo : odd.length ≤ 6000
structure TF (p : Int) (core : List (List Sp)) : Prop where
  ta : core.Pairwise (fun a b => a ≠ [] → b ≠ [] → qH a < qF b)
  tb : ∀ a ∈ core, ∀ b ∈ core, a ≠ [] → b ≠ [] → qH a < qF b + p
variable {p c : Int} {core : List (List Sp)} {odd : List Gn}
theorem SF.tO (h : SF p c core odd) : SF p c core [] := ⟨h.hc, h.hp0, h.hp1, h.hz, h.hcore, by simp, by simp, List.Pairwise.nil, h.hl, by simp⟩
theorem SF.yc (h : SF p c core odd) (i : Int) (hc : c ≠ 0) : gG c core i ∈ core := by
  have h0 := h.hc
  have h1 : 0 ≤ i % c := Int.emod_nonneg _ hc
  have h2 : i % c < c := Int.emod_lt_of_pos _ (by omega)
  have h3 : (i % c).toNat < core.length := by omega
  unfold gG
  rw [if_neg hc, List.getD_eq_getElem?_getD, List.getElem?_eq_getElem h3]
  exact List.getElem_mem h3
theorem SF.alp (h : SF p c core odd) (i : Int) : SL (-1099511627776) 1099511627776 (gG c core i) := by
  by_cases hc : c = 0
  · unfold gG; rw [if_pos hc]; trivial
  · exact h.hcore _ (h.yc i hc)
theorem SF.ahm (h : SF p c core odd) (i : Int) : SL (-1099511627776) 1099511627776 (fs c core odd i) := by
  unfold fs
  cases ho : lW odd i with
  | none => exact h.alp i
  | some l => obtain ⟨g, hg, _, rfl⟩ := vk ho; exact h.hodd g hg
theorem SF.pV (h : SF p c core odd) {i : Int} (hn : fs c core odd i ≠ []) : gLo p c core odd i ≤ gHi p c core odd i := by
  have := (h.ahm i).ends hn
  unfold gLo gHi; omega
theorem ain (h : SF p c core odd) (t : TF p core) {i k : Int} (hik : i < k) (hi : gG c core i ≠ []) (hk : gG c core k ≠ []) : qH (gG c core i) + i / c * p < qF (gG c core k) + k / c * p := by
  have hc : c ≠ 0 := by intro e; apply hi; unfold gG; rw [if_pos e]
  have h0 := h.hc
  have hcp : 0 < c := by omega
  have mi := h.yc i hc
  have mk := h.yc k hc
  have i1 : 0 ≤ i % c := Int.emod_nonneg _ hc
  have i2 : i % c < c := Int.emod_lt_of_pos _ hcp
  have k1 : 0 ≤ k % c := Int.emod_nonneg _ hc
  have k2 : k % c < c := Int.emod_lt_of_pos _ hcp
  have ei := Int.mul_ediv_add_emod i c
  have ek := Int.mul_ediv_add_emod k c
  rcases Int.lt_trichotomy (i / c) (k / c) with hq | hq | hq
  · have hb := t.tb _ mi _ mk hi hk
    have : i / c * p + p ≤ k / c * p := by
      have h1 : (i / c + 1) * p ≤ (k / c) * p := Int.mul_le_mul_of_nonneg_right (by omega) h.hp0
      rw [Int.add_mul, Int.one_mul] at h1; exact h1
    omega
  · rw [hq] at ei ⊢
    have hr : i % c < k % c := by omega
    have hlt : (i % c).toNat < (k % c).toNat := by omega
    have hkl : (k % c).toNat < core.length := by omega
    have hil : (i % c).toNat < core.length := by omega
    have e1 : gG c core i = core[(i % c).toNat] := by unfold gG; rw [if_neg hc, List.getD_eq_getElem?_getD, List.getElem?_eq_getElem hil]; rfl
    have e2 : gG c core k = core[(k % c).toNat] := by unfold gG; rw [if_neg hc, List.getD_eq_getElem?_getD, List.getElem?_eq_getElem hkl]; rfl
    have := List.pairwise_iff_getElem.1 t.ta _ _ hil hkl hlt (by rw [← e1]; exact hi) (by rw [← e2]; exact hk)
    rw [← e1, ← e2] at this
    omega
  · exfalso
    have h1 : c * (k / c) + c ≤ c * (i / c) := by
      have : c * (k / c + 1) ≤ c * (i / c) := Int.mul_le_mul_of_nonneg_left (by omega) (by omega)
      rw [Int.mul_add, Int.mul_one] at this; exact this
    omega
def gap (c : Int) (core : List (List Sp)) (odd : List Gn) (i k : Int) : Prop := ∀ m, i < m → m < k → fs c core odd m = []
structure BF (p c : Int) (core : List (List Sp)) (odd : List Gn) : Prop where
  up : ∀ g ∈ odd, g.f1 ≠ [] → ∀ k, g.f0 < k → inR k → fs c core odd k ≠ [] → gap c core odd g.f0 k → gHi p c core odd g.f0 < gLo p c core odd k
  dn : ∀ g ∈ odd, g.f1 ≠ [] → ∀ k, k < g.f0 → inR k → fs c core odd k ≠ [] → gap c core odd k g.f0 → gHi p c core odd k < gLo p c core odd g.f0
theorem anj (h : SF p c core odd) (t : TF p core) (b : BF p c core odd) : ∀ (n : Nat) (i k : Int), (k - i).toNat ≤ n → i < k → inR i → inR k → fs c core odd i ≠ [] → fs c core odd k ≠ [] → gHi p c core odd i < gLo p c core odd k := by
  intro n
  induction n with
  | zero => intro i k hn hik; omega
  | succ n ih =>
    intro i k hn hik ri rk hi hk
    by_cases hg : gap c core odd i k
    · cases hoi : lW odd i with
      | some l =>
        obtain ⟨g, hg1, rfl, rfl⟩ := vk hoi
        exact b.up g hg1 (by unfold fs at hi; rw [hoi] at hi; exact hi) k hik rk hk hg
      | none =>
        cases hok : lW odd k with
        | some l =>
          obtain ⟨g, hg1, rfl, rfl⟩ := vk hok
          exact b.dn g hg1 (by unfold fs at hk; rw [hok] at hk; exact hk) i hik ri hi hg
        | none =>
          have := ain h t hik (by unfold fs at hi; rw [hoi] at hi; exact hi) (by unfold fs at hk; rw [hok] at hk; exact hk)
          unfold gHi gLo fs fb; rw [hoi, hok]; exact this
    · have : ∃ m, i < m ∧ m < k ∧ fs c core odd m ≠ [] := Classical.byContradiction fun hx => hg (fun m h1 h2 => Classical.byContradiction fun h3 => hx ⟨m, h1, h2, h3⟩)
      obtain ⟨m, h1, h2, h3⟩ := this
      unfold inR at ri rk
      have a1 := ih i m (by omega) h1 ri ⟨by omega, by omega⟩ hi h3
      have a2 := ih m k (by omega) h2 ⟨by omega, by omega⟩ rk h3 hk
      have a3 := h.pV h3
      omega
structure FOK (p c : Int) (core : List (List Sp)) (odd : List Gn) : Prop where
  s : SF p c core odd
  t : TF p core
  ord : ∀ i k, i < k → inR i → inR k → fs c core odd i ≠ [] → fs c core odd k ≠ [] → gHi p c core odd i < gLo p c core odd k
theorem FOK.of (h : SF p c core odd) (t : TF p core) (b : BF p c core odd) : FOK p c core odd := ⟨h, t, fun i k hik => anj h t b _ i k (Nat.le_refl _) hik⟩
end Go.Proofs.Ytmbmalkpmanaaaa.P
namespace Go.Proofs.Ytmbmalkpmanaaaa.P
set_option linter.unusedVariables false
set_option linter.unusedSimpArgs false
open Go.RowKit Go.Proofs.YtmbmalkpmanaaaaW.aK
variable {p c : Int} {core : List (List Sp)} {odd : List Gn}
theorem rdG (l : List Gn) (j : Nat) (hj : j < l.length) : aU l (j : Int) = l[j] := by simp [aU, hj]
theorem azG (a b : Int) : cmp_Compare_int.f a b = some (if a < b then -1 else if a > b then 1 else 0) := by
  unfold cmp_Compare_int.f
  by_cases h1 : a < b
  · rw [if_pos h1]; simp [cmp_isNaN_int.f, h1]
  · rw [if_neg h1]; by_cases h2 : a > b
    · rw [if_pos h2]; simp [cmp_isNaN_int.f, h1, h2]
    · rw [if_neg h2]; simp [cmp_isNaN_int.f, h1, h2]
theorem alq (a : Int) (l : List Sp) (b : Int) : mW.f a l b = some (if a < b then -1 else if a > b then 1 else 0) := by
  unfold mW.f; rw [azG]; rfl
structure auc (odd : List Gn) (i : Int) (r : Int × Bool) : Prop where
  low : 0 ≤ r.1
  high : r.1 ≤ odd.length
  below : ∀ j (hj : j < odd.length), (j : Int) < r.1 → odd[j].f0 < i
  above : ∀ j (hj : j < odd.length), r.1 ≤ (j : Int) → i ≤ odd[j].f0
  is : r.2 = true → ∃ (hj : r.1.toNat < odd.length), odd[r.1.toNat].f0 = i
  no : r.2 = false → lW odd i = none
theorem ahn {l : List Gn} (h : l.Pairwise (fun a b => a.f0 < b.f0)) {i j : Nat} (hj : j < l.length) (hij : i < j) : (l[i]'(by omega)).f0 < l[j].f0 := List.pairwise_iff_getElem.1 h i j (by omega) hj hij
theorem aem (h : SF p c core odd) (i : Int) : ∃ r, Ev (fun k => iH.f k p c core odd i) r ∧ auc odd i r := by
  have hn : odd.length ≤ 6000 := h.hlo
  have key : ∀ (d lo hi : Nat), hi - lo = d → lo ≤ hi → hi ≤ odd.length → (∀ j (hj : j < odd.length), j < lo → odd[j].f0 < i) → (∀ j (hj : j < odd.length), hi ≤ j → i ≤ odd[j].f0) →
      ∃ r, Ev (fun k => aD.l0 k odd i (odd.length : Int) (lo : Int) (hi : Int)) r ∧ auc odd i r := by
    intro d
    induction d using Nat.strongRecOn with
    | ind d ih =>
      intro lo hi hd hle hhn hlow hhigh
      by_cases hlt : lo < hi
      · have c1 : (lo : Int) < (hi : Int) := by omega
        have hm := an2 lo hi (by omega) hle
        have hmid : (lo + hi) / 2 < odd.length := by omega
        have hrd := rdG odd ((lo + hi) / 2) hmid
        by_cases t : odd[(lo + hi) / 2].f0 < i
        · obtain ⟨r, r1, r2⟩ := ih (hi - ((lo + hi) / 2 + 1)) (by omega) ((lo + hi) / 2 + 1) hi rfl (by omega) hhn (fun j hj h' => by
            rcases Nat.lt_or_ge j ((lo + hi) / 2) with g | g
            · have := ahn h.hup hmid g; omega
            · have : j = (lo + hi) / 2 := by omega
              subst this; exact t) hhigh
          refine ⟨r, Ev.step (fun k => ?_) r1, r2⟩
          have hw : wrap64 ((((lo + hi) / 2 : Nat) : Int) + 1) = (((lo + hi) / 2 + 1 : Nat) : Int) := by rw [eH (by omega) (by omega)]; simp
          rw [aD.l0, if_pos c1, hm, if_pos (by omega), if_pos (by omega), hrd, alq, if_pos t, Option.bind_some, if_pos (by omega), hw]
        · obtain ⟨r, r1, r2⟩ := ih ((lo + hi) / 2 - lo) (by omega) lo ((lo + hi) / 2) rfl (by omega) (by omega) hlow (fun j hj h' => by
            rcases Nat.lt_or_ge ((lo + hi) / 2) j with g | g
            · have := ahn h.hup hj g; omega
            · have : j = (lo + hi) / 2 := by omega
              subst this; omega)
          refine ⟨r, Ev.step (fun k => ?_) r1, r2⟩
          have hneg : ¬ (if odd[(lo + hi) / 2].f0 < i then (-1 : Int) else if odd[(lo + hi) / 2].f0 > i then 1 else 0) < 0 := by rw [if_neg t]; split <;> omega
          rw [aD.l0, if_pos c1, hm, if_pos (by omega), if_pos (by omega), hrd, alq, Option.bind_some, if_neg hneg]
      · have he : lo = hi := by omega
        subst he
        by_cases hlast : lo < odd.length
        · have hx := hhigh lo hlast (by omega)
          refine ⟨((lo : Int), decide (odd[lo].f0 = i)), Ev.step (f := fun _ => some ((lo : Int), decide (odd[lo].f0 = i))) (fun k => ?_) (Ev.now _), ?_⟩
          · rw [aD.l0, if_neg (by omega), if_pos (by omega), if_pos (by omega), if_pos (by omega), rdG odd lo hlast, alq, if_neg (by omega), Option.bind_some]
            by_cases g : odd[lo].f0 > i
            · have : ¬ odd[lo].f0 = i := by omega
              simp [g, this]
            · have : odd[lo].f0 = i := by omega
              simp [g, this]
          · refine ⟨by omega, by show (lo : Int) ≤ _; omega, fun j hj hl => hlow j hj (by simp only at hl; omega), fun j hj hl => hhigh j hj (by simp only at hl; omega), fun e => ⟨by simpa using hlast, by simpa using e⟩, fun e => ?_⟩
            rw [xZ]
            intro g hg
            obtain ⟨j, hj, rfl⟩ := List.getElem_of_mem hg
            have e' : ¬ odd[lo].f0 = i := by simpa using e
            rcases Nat.lt_or_ge j lo with g | g
            · have := hlow j hj g; omega
            · rcases Nat.lt_or_ge lo j with g2 | g2
              · have := ahn h.hup hj g2; omega
              · have : j = lo := by omega
                subst this; exact e'
        · refine ⟨((lo : Int), false), Ev.step (f := fun _ => some ((lo : Int), false)) (fun k => ?_) (Ev.now _), ?_⟩
          · rw [aD.l0, if_neg (by omega), if_neg (by omega)]
          · refine ⟨by omega, by show (lo : Int) ≤ _; omega, fun j hj hl => hlow j hj (by simp only at hl; omega), fun j hj hl => hhigh j hj (by simp only at hl; omega), (fun e => by cases e), fun e => ?_⟩
            rw [xZ]
            intro g hg
            obtain ⟨j, hj, rfl⟩ := List.getElem_of_mem hg
            have := hlow j hj (by omega); omega
  obtain ⟨r, r1, r2⟩ := key _ 0 odd.length rfl (by omega) (Nat.le_refl _) (fun j hj h => by omega) (fun j hj h => by omega)
  refine ⟨r, ?_, r2⟩
  refine Ev.congr (fun k => ?_) (Ev.bind (f := fun _ a => some (a.1, a.2)) r1 (Ev.now _))
  simp only [iH.f, aD.f]
  rfl
theorem iLt (a b : Int) : a < b ∨ b ≤ a := by omega
theorem aen (a b : Int) (ha : -4611686018427387904 ≤ a ∧ a ≤ 4611686018427387904) (hb : 0 < b ∧ b ≤ 4611686018427387904) : Ev (fun k => eF.f k a b) (a / b, a % b, 0) := by
  have h1 := Int.emod_nonneg a (show b ≠ 0 by omega)
  have h2 := Int.emod_lt_of_pos a hb.1
  have h3 := Int.mul_ediv_add_emod a b
  have hq : -4611686018427387904 ≤ a / b ∧ a / b ≤ 4611686018427387904 := by
    constructor
    · rcases iLt (a / b) (-4611686018427387904) with h | h
      · exfalso
        have : b * (a / b) ≤ 1 * (a / b) := Int.mul_le_mul_of_nonpos_right (by omega) (by omega)
        have e : (1 : Int) * (a / b) = a / b := Int.one_mul _
        rw [e] at this
        by_cases hb1 : b = 1
        · subst hb1; omega
        · have : b * (a / b) ≤ 2 * (a / b) := Int.mul_le_mul_of_nonpos_right (by omega) (by omega)
          omega
      · exact h
    · rcases iLt 4611686018427387904 (a / b) with h | h
      · exfalso
        have : 1 * (a / b) ≤ b * (a / b) := Int.mul_le_mul_of_nonneg_right (by omega) (by omega)
        have e : (1 : Int) * (a / b) = a / b := Int.one_mul _
        rw [e] at this
        omega
      · exact h
  refine Ev.congr (f := fun k => eF.j0 k a b false) (fun k => ?_) ?_
  · unfold eF.f; rw [if_neg (by omega), if_neg (by omega)]
  refine Ev.step (f := fun _ => some (a / b, a % b, 0)) (fun k => ?_) (Ev.now _)
  rw [eF.j0, if_neg (by simp), if_neg (by omega)]
  have ht := Int.tmod_add_mul_tdiv a b
  rcases iLt a 0 with hneg | hpos
  · -- below 0
    by_cases hz : Int.tmod a b = 0
    · rw [if_pos hz]
      have hdvd : b ∣ a := Int.dvd_of_tmod_eq_zero hz
      have e1 : a % b = 0 := Int.emod_eq_zero_of_dvd hdvd
      have e2 : Int.tdiv a b = a / b := by
        have : b * Int.tdiv a b = b * (a / b) := by rw [hz] at ht; omega
        exact Int.eq_of_mul_eq_mul_left (by omega) this
      rw [e2, hz, e1, eH (by omega) (by omega)]
    · have t1 : Int.tmod a b ≤ 0 := (by have h0 := Int.tmod_nonneg b (show 0 ≤ -a by omega); rw [Int.neg_tmod] at h0; omega)
      have t2 : -b < Int.tmod a b := by
        have := Int.lt_tmod_of_pos a hb.1; omega
      have e2 : Int.tdiv a b = a / b + 1 := by
        have k1 : b * (a / b - Int.tdiv a b) = Int.tmod a b - a % b := by rw [Int.mul_sub]; omega
        have k2 : a / b - Int.tdiv a b < 0 := by
          rcases iLt (a / b - Int.tdiv a b) 0 with g | g
          · exact g
          · have : 0 ≤ b * (a / b - Int.tdiv a b) := Int.mul_nonneg (by omega) g
            omega
        have k3 : -2 < a / b - Int.tdiv a b := by
          rcases iLt (-2) (a / b - Int.tdiv a b) with g | g
          · exact g
          · have : b * (a / b - Int.tdiv a b) ≤ b * (-2) := Int.mul_le_mul_of_nonneg_left g (by omega)
            omega
        omega
      have e1 : Int.tmod a b + b = a % b := by
        have : b * Int.tdiv a b = b * (a / b) + b := by rw [e2, Int.mul_add, Int.mul_one]
        omega
      rw [if_neg hz]
      have hx : ((decide ((Int.tmod a b) < 0)) != (decide (b < 0))) = true := by
        have a1 : Int.tmod a b < 0 := by omega
        have a2 : ¬ b < 0 := by omega
        simp [a1, a2]
      rw [if_pos hx, e2, e1, eH (n := a / b + 1) (by omega) (by omega), eH (n := a / b + 1 - 1) (by omega) (by omega), eH (n := a % b) (by omega) (by omega)]
      simp
  · have e1 : Int.tmod a b = a % b := Int.tmod_eq_emod_of_nonneg hpos
    have e2 : Int.tdiv a b = a / b := Int.tdiv_eq_ediv_of_nonneg hpos
    rw [e1, e2, eH (n := a / b) (by omega) (by omega)]
    by_cases hz : a % b = 0
    · rw [if_pos hz]
    · rw [if_neg hz]
      have hx : ¬ ((decide ((a % b) < 0)) != (decide (b < 0))) = true := by
        have a1 : ¬ a % b < 0 := by omega
        have a2 : ¬ b < 0 := by omega
        simp [a1, a2]
      rw [if_neg hx]
end Go.Proofs.Ytmbmalkpmanaaaa.P
namespace Go.Proofs.Ytmbmalkpmanaaaa.P
set_option linter.unusedVariables false
set_option linter.unusedSimpArgs false
open Go.RowKit Go.Proofs.YtmbmalkpmanaaaaW.aK
theorem wrap_u64 (n : Int) : IntKind.u64.wrap n = n % 18446744073709551616 := by simp [IntKind.wrap, IntKind.bits, IntKind.signed]
theorem wraps_u64 (n : Int) (h₀ : 0 ≤ n) (h₁ : n < 2 ^ 64) : IntKind.u64.wrap n = n := by rw [wrap_u64]; omega
theorem aho (x : Int) (h0 : 0 ≤ x) (h1 : x < 18446744073709551616) : Go.bits .and .u64 x 4294967295 = x % 4294967296 := bits_mask .u64 64 (by decide) wraps_u64 32 (by decide) x h0 h1
theorem aio (u v : Int) (hu : 0 ≤ u) (hu' : u ≤ 4294967295) (hv : 0 ≤ v) (hv' : v ≤ 4294967295) : 0 ≤ u * v ∧ u * v ≤ 18446744065119617025 := by
  refine ⟨Int.mul_nonneg hu hv, ?_⟩
  have := Int.mul_le_mul hu' hv' hv (show (0 : Int) ≤ 4294967295 by omega)
  omega
theorem arw (a b : Int) (ha : 0 ≤ a ∧ a < 18446744073709551616) (hb : 0 ≤ b ∧ b < 18446744073709551616) : bits_Mul64.f a b = some (a * b / 18446744073709551616, a * b % 18446744073709551616) := by
  obtain ⟨a1, ha1⟩ : ∃ a1, a / 4294967296 = a1 := ⟨_, rfl⟩
  obtain ⟨a0, ha0⟩ : ∃ a0, a % 4294967296 = a0 := ⟨_, rfl⟩
  obtain ⟨b1, hb1⟩ : ∃ b1, b / 4294967296 = b1 := ⟨_, rfl⟩
  obtain ⟨b0, hb0⟩ : ∃ b0, b % 4294967296 = b0 := ⟨_, rfl⟩
  have ea : a = a1 * 4294967296 + a0 := by omega
  have eb : b = b1 * 4294967296 + b0 := by omega
  have x1 := aio a0 b0 (by omega) (by omega) (by omega) (by omega)
  have y1 := aio a1 b0 (by omega) (by omega) (by omega) (by omega)
  have z1 := aio a0 b1 (by omega) (by omega) (by omega) (by omega)
  have v1 := aio a1 b1 (by omega) (by omega) (by omega) (by omega)
  have id : a * b = a1 * b1 * 18446744073709551616 + (a1 * b0 + a0 * b1) * 4294967296 + a0 * b0 := by rw [ea, eb]; grind
  have hN : a * b < 18446744073709551616 * 18446744073709551616 := by
    have := Int.mul_le_mul (show a ≤ 18446744073709551615 by omega) (show b ≤ 18446744073709551615 by omega) hb.1 (by omega)
    omega
  unfold bits_Mul64.f
  rw [aho a ha.1 ha.2, aho b hb.1 hb.2, ha1, ha0, hb1, hb0]
  rw [wrap_u64 (a * b), id]
  rw [id] at hN
  obtain ⟨x, hx⟩ : ∃ x, a0 * b0 = x := ⟨_, rfl⟩
  obtain ⟨y, hy⟩ : ∃ y, a1 * b0 = y := ⟨_, rfl⟩
  obtain ⟨z, hz⟩ : ∃ z, a0 * b1 = z := ⟨_, rfl⟩
  obtain ⟨v, hv⟩ : ∃ v, a1 * b1 = v := ⟨_, rfl⟩
  simp only [hx, hy, hz, hv] at x1 y1 z1 v1 hN ⊢
  rw [wraps_u64 x (by omega) (by omega), wraps_u64 y (by omega) (by omega), wraps_u64 z (by omega) (by omega), wraps_u64 v (by omega) (by omega)]
  rw [wraps_u64 (y + x / 4294967296) (by omega) (by omega)]
  rw [aho (y + x / 4294967296) (by omega) (by omega)]
  rw [wraps_u64 ((y + x / 4294967296) % 4294967296 + z) (by omega) (by omega)]
  rw [wraps_u64 (v + (y + x / 4294967296) / 4294967296) (by omega) (by omega)]
  rw [wraps_u64 (v + (y + x / 4294967296) / 4294967296 + ((y + x / 4294967296) % 4294967296 + z) / 4294967296) (by omega) (by omega)]
  congr 1
  refine Prod.ext ?_ rfl
  show v + (y + x / 4294967296) / 4294967296 + ((y + x / 4294967296) % 4294967296 + z) / 4294967296 = (v * 18446744073709551616 + (y + z) * 4294967296 + x) / 18446744073709551616
  omega
theorem an4 (a : Int) (h1 : -9223372036854775808 ≤ a) (h2 : a ≤ 9223372036854775807) : lq.f a = some (if a < 0 then -a else a) := by
  unfold lq.f
  by_cases h : a < 0
  · rw [if_pos h, if_pos h, wrap_u64, wrap_u64]
    congr 1
    omega
  · rw [if_neg h, if_neg h, wrap_u64]
    congr 1
    omega
def afu (a b : Int) : Int × Int := if -9223372036854775808 ≤ a * b ∧ a * b ≤ 9223372036854775807 then (a * b, 0) else (0, 10)
theorem aud (a b : Int) (ha : -9223372036854775808 ≤ a ∧ a ≤ 9223372036854775807) (hb : 0 ≤ b ∧ b ≤ 9223372036854775807) : Ev (fun k => nA.f k a b) (afu a b) := by
  have sb : lq.f b = some b := by rw [an4 b (by omega) (by omega), if_neg (by omega)]
  obtain ⟨n, hn⟩ : ∃ n, (if a < 0 then -a else a) = n := ⟨_, rfl⟩
  have sa : lq.f a = some n := by rw [an4 a (by omega) (by omega), hn]
  have hn0 : 0 ≤ n ∧ n ≤ 9223372036854775808 := by split at hn <;> omega
  have hm : n * b = if a < 0 then -(a * b) else a * b := by
    rw [← hn]; split
    · rw [Int.neg_mul]
    · rfl
  have hp : 0 ≤ n * b := Int.mul_nonneg hn0.1 hb.1
  have hbd : (decide (b < 0)) = false := by simp; omega
  unfold nA.f
  simp only [sa, sb, Option.bind_some, arw n b (by omega) (by omega), hbd]
  by_cases hhi : n * b / 18446744073709551616 = 0
  · have hlt : n * b < 18446744073709551616 := by omega
    have hmod : n * b % 18446744073709551616 = n * b := by omega
    simp only [hhi, hmod, if_true]
    by_cases hs : a < 0
    · have e1 : ((decide (a < 0)) != false) = true := by simp [hs]
      rw [if_pos hs] at hm
      simp only [e1, dR.f, if_true]
      by_cases hz : n * b ≤ 9223372036854775808
      · refine Ev.congr (f := fun k => (dR.j0 k (n * b) true true).bind fun bt => some (bt.1, bt.2)) (fun k => by simp [hz]) ?_
        refine Ev.bind (a := (a * b, 0)) (Ev.step (f := fun _ => some (a * b, 0)) (fun k => ?_) (Ev.now _)) ?_
        · rw [dR.j0, if_pos rfl, wrap_u64]
          congr 2
          unfold wrap64; omega
        · have : afu a b = (a * b, 0) := by unfold afu; rw [if_pos (by omega)]
          rw [this]; exact Ev.now _
      · refine Ev.congr (f := fun k => (dR.j0 k (n * b) true false).bind fun bt => some (bt.1, bt.2)) (fun k => by simp [hz]) ?_
        refine Ev.bind (a := (0, 10)) (Ev.step (f := fun _ => some (0, 10)) (fun k => ?_) (Ev.now _)) ?_
        · rw [dR.j0, if_neg (by simp), if_pos rfl]
        · have : afu a b = (0, 10) := by unfold afu; rw [if_neg (by omega)]
          rw [this]; exact Ev.now _
    · have e1 : ((decide (a < 0)) != false) = false := by simp [hs]
      rw [if_neg hs] at hm
      simp only [e1, dR.f]
      refine Ev.congr (f := fun k => (dR.j0 k (n * b) false false).bind fun bt => some (bt.1, bt.2)) (fun k => by simp) ?_
      by_cases hz : n * b ≤ 9223372036854775807
      · refine Ev.bind (a := (a * b, 0)) (Ev.step (f := fun _ => some (a * b, 0)) (fun k => ?_) (Ev.now _)) ?_
        · rw [dR.j0, if_neg (by simp), if_neg (by simp), if_pos hz]
          congr 2
          unfold wrap64; omega
        · have : afu a b = (a * b, 0) := by unfold afu; rw [if_pos (by omega)]
          rw [this]; exact Ev.now _
      · refine Ev.bind (a := (0, 10)) (Ev.step (f := fun _ => some (0, 10)) (fun k => ?_) (Ev.now _)) ?_
        · rw [dR.j0, if_neg (by simp), if_neg (by simp), if_neg hz]
        · have : afu a b = (0, 10) := by unfold afu; rw [if_neg (by omega)]
          rw [this]; exact Ev.now _
  · refine Ev.congr (f := fun _ => some (0, 10)) (fun k => by simp only [hhi, if_false]) ?_
    have : afu a b = (0, 10) := by
      unfold afu; rw [if_neg]
      split at hm <;> omega
    rw [this]; exact Ev.now _
end Go.Proofs.Ytmbmalkpmanaaaa.P
namespace Go.Proofs.Ytmbmalkpmanaaaa.P
set_option linter.unusedVariables false
set_option linter.unusedSimpArgs false
open Go.RowKit Go.Proofs.YtmbmalkpmanaaaaW.aK
variable {p c : Int} {core : List (List Sp)} {odd : List Gn}
theorem rdL (l : List (List Sp)) (j : Nat) (hj : j < l.length) : dZ l (j : Int) = l[j] := by simp [dZ, hj]
theorem aC0 (l : List Gn) (x : Int) (hj : x.toNat < l.length) : aU l x = l[x.toNat] := by simp [aU, hj]
theorem aC1 (l : List (List Sp)) (x : Int) (hj : x.toNat < l.length) : dZ l x = l[x.toNat] := by simp [dZ, hj]
def aaO (p c : Int) (core : List (List Sp)) (odd : List Gn) (i : Int) : List Sp × Int × Int :=
  match lW odd i with | some l => (l, 0, 0) | none => if c = 0 then ([], 0, 0) else (gG c core i, afu (i / c) p)
theorem afg (i : Int) : (aaO p c core odd i).1 = fs c core odd i := by
  unfold aaO fs
  cases lW odd i with
  | some l => rfl
  | none => by_cases hc : c = 0
            · simp [hc, gG]
            · simp [hc]
theorem alr (h : SF p c core odd) (i : Int) (hi : -4611686018427387904 ≤ i ∧ i ≤ 4611686018427387904) : Ev (fun k => jl.f k p c core odd i) (aaO p c core odd i) := by
  obtain ⟨r, r1, r2⟩ := aem h i
  have hc0 := h.hc
  have hl0 := h.hl
  refine Ev.congr (fun k => by unfold jl.f; rfl) (Ev.bind r1 ?_)
  by_cases hr : r.2 = true
  · obtain ⟨hj, he⟩ := r2.is hr
    have e1 : (r.1.toNat : Int) = r.1 := Int.toNat_of_nonneg r2.low
    have hv : aaO p c core odd i = (odd[r.1.toNat].f1, 0, 0) := by
      unfold aaO; rw [← he, acz h.hup (List.getElem_mem hj)]
    rw [hv]
    refine Ev.congr (f := fun _ => some (odd[r.1.toNat].f1, 0, 0)) (fun k => ?_) (Ev.now _)
    rw [if_pos hr, if_pos r2.low, if_pos (by omega), aC0 odd _ hj]
  · have hr' : r.2 = false := by simpa using hr
    have hno := r2.no hr'
    by_cases hc : c = 0
    · have hv : aaO p c core odd i = ([], 0, 0) := by unfold aaO; rw [hno]; simp [hc]
      rw [hv]
      refine Ev.congr (f := fun _ => some ([], 0, 0)) (fun k => ?_) (Ev.now _)
      rw [if_neg hr, if_pos hc]
    · have hv : aaO p c core odd i = (gG c core i, afu (i / c) p) := by unfold aaO; rw [hno]; simp [hc]
      rw [hv]
      refine Ev.congr (fun k => by rw [if_neg hr, if_neg hc]) (Ev.bind (aen i c hi (by omega)) ?_)
      have h1 := Int.emod_nonneg i hc
      have h2 := Int.emod_lt_of_pos i (show 0 < c by omega)
      have hq : -4611686018427387904 ≤ i / c ∧ i / c ≤ 4611686018427387904 := by
        have h3 := Int.mul_ediv_add_emod i c
        constructor
        · rcases iLt (i / c) (-4611686018427387904) with g | g
          · exfalso
            have : c * (i / c) ≤ 1 * (i / c) := Int.mul_le_mul_of_nonpos_right (by omega) (by omega)
            rw [Int.one_mul] at this
            by_cases hc1 : c = 1
            · subst hc1; omega
            · have : c * (i / c) ≤ 2 * (i / c) := Int.mul_le_mul_of_nonpos_right (by omega) (by omega)
              omega
          · exact g
        · rcases iLt 4611686018427387904 (i / c) with g | g
          · exfalso
            have : 1 * (i / c) ≤ c * (i / c) := Int.mul_le_mul_of_nonneg_right (by omega) (by omega)
            rw [Int.one_mul] at this; omega
          · exact g
      have hp0 := h.hp0
      have hp1 := h.hp1
      refine Ev.bind (aud (i / c) p (by omega) (by omega)) ?_
      refine Ev.congr (f := fun _ => some (gG c core i, afu (i / c) p)) (fun k => ?_) (Ev.now _)
      simp only
      have e1 : ((i % c).toNat : Int) = i % c := Int.toNat_of_nonneg h1
      have h4 : (i % c).toNat < core.length := by omega
      have e2 : gG c core i = core[(i % c).toNat] := by unfold gG; rw [if_neg hc, List.getD_eq_getElem?_getD, List.getElem?_eq_getElem h4]; rfl
      rw [if_pos h1, if_pos (by omega), e2, aC1 core _ h4]
def nu (p c : Int) (core : List (List Sp)) (odd : List Gn) (i : Int) : List Sp × Int :=
  if inR i then (if fs c core odd i = [] then ([], 0) else acy (fb p c odd i) (fs c core odd i)) else ([], 20)
theorem nQ (i : Int) : gI.f i = some (decide (inR i)) := by
  unfold gI.f inR
  by_cases h : i ≥ -1099511627776
  · have h2 : -1099511627776 ≤ i := h
    rw [if_pos h]; simp [h2]
  · have h2 : ¬ -1099511627776 ≤ i := h
    rw [if_neg h]; simp [h2]
theorem uF (h : SF p c core odd) (i : Int) : Ev (fun k => eO.f k p c core odd i) (nu p c core odd i) := by
  unfold eO.f nu
  by_cases hi : inR i
  · simp only [nQ, Option.bind_some, hi, decide_true, if_true]
    have hi' := hi
    unfold inR at hi'
    refine Ev.bind (alr h i (by omega)) ?_
    have hk := afg (p := p) (c := c) (core := core) (odd := odd) i
    have hSL := h.ahm i
    by_cases hz : fs c core odd i = []
    · rw [if_pos hz]
      refine Ev.congr (f := fun _ => some ([], 0)) (fun k => ?_) (Ev.now _)
      rw [hk, hz]; rfl
    · rw [if_neg hz]
      have hlen : ¬ ((fs c core odd i).length : Int) = 0 := by
        intro e; exact hz (List.eq_nil_of_length_eq_zero (by omega))
      simp only [hk, if_neg hlen]
      have ai0 := hSL.ends hz
      by_cases he : (aaO p c core odd i).2.2 = 0
      · simp only [if_pos he]
        have hb : (aaO p c core odd i).2.1 = fb p c odd i ∧ -9223372036854775808 ≤ fb p c odd i ∧ fb p c odd i ≤ 9223372036854775807 := by
          unfold aaO at he ⊢
          unfold fb
          cases ho : lW odd i with
          | some l => simp
          | none =>
            simp only [ho] at he ⊢
            by_cases hc : c = 0
            · subst hc; simp
            · simp only [if_neg hc, afu] at he ⊢
              split at he
              · rename_i hm; simp only [if_pos hm]; exact ⟨trivial, hm⟩
              · simp at he
        simp only [hb.1]
        refine Ev.congr (fun k => rfl) (Ev.bind (f := fun _ a => some (a.1, a.2)) (aru _ _ hSL hb.2) (Ev.now _))
      · simp only [if_neg he]
        have hb : fb p c odd i < -9223372036854775808 ∨ 9223372036854775807 < fb p c odd i := by
          unfold aaO at he
          unfold fb
          cases ho : lW odd i with
          | some l => simp [ho] at he
          | none =>
            simp only [ho] at he ⊢
            by_cases hc : c = 0
            · simp [hc] at he
            · simp only [if_neg hc, afu] at he
              split at he
              · simp at he
              · omega
        have hm : acy (fb p c odd i) (fs c core odd i) = ([], 20) := by
          unfold acy
          rw [if_neg]
          rw [hSL.aak hz]
          omega
        rw [hm]
        exact Ev.now _
  · simp only [nQ, Option.bind_some, hi, decide_false]
    exact Ev.now _
theorem aeo (h : SF p c core odd) (i : Int) (hi : inR i) : Ev (fun k => gZ.f k p c core odd i) (decide (fs c core odd i ≠ [])) := by
  unfold inR at hi
  refine Ev.congr (fun k => by unfold gZ.f; rfl) (Ev.bind (alr h i (by omega)) ?_)
  refine Ev.congr (f := fun _ => some (decide (fs c core odd i ≠ []))) (fun k => ?_) (Ev.now _)
  rw [afg]
  congr 1
  cases fs c core odd i with
  | nil => simp
  | cons s r => simp
theorem als (h : SF p c core odd) : ∃ b, Ev (fun k => iU.f k p c core odd) b ∧ (b = true ↔ ∀ l ∈ core, l = []) := by
  have hl0 := h.hl
  have key : ∀ (rest pre : List (List Sp)), core = pre ++ rest → (∀ l ∈ pre, l = []) → ∃ r : Int, Ev (fun k => bG.l0 k core (core.length : Int) (pre.length : Int)) r ∧ (r < 0 ↔ ∀ l ∈ core, l = []) := by
    intro rest
    induction rest with
    | nil =>
      intro pre hp he
      refine ⟨-1, Ev.step (f := fun _ => some (-1)) (fun k => ?_) (Ev.now _), ?_⟩
      · rw [bG.l0, if_neg (by rw [hp]; simp)]
      · simp only [List.append_nil] at hp
        subst hp
        exact ⟨fun _ => he, fun _ => by omega⟩
    | cons l r ih =>
      intro pre hp he
      have hlen : pre.length + 1 ≤ core.length := by rw [hp]; simp
      have hrd : dZ core (pre.length : Int) = l := by rw [hp]; simp [dZ]
      have c1 : (pre.length : Int) < (core.length : Int) := by omega
      by_cases hz : l = []
      · obtain ⟨x, x1, x2⟩ := ih (pre ++ [l]) (by rw [hp]; simp) (fun y hy => by rcases List.mem_append.1 hy with hy | hy; exact he y hy; simp at hy; rw [hy]; exact hz)
        refine ⟨x, Ev.step (fun k => ?_) x1, x2⟩
        have hw : wrap64 ((pre.length : Int) + 1) = ((pre ++ [l]).length : Int) := by rw [eH (by omega) (by omega)]; simp
        rw [bG.l0, if_pos c1, if_pos (by omega), if_pos c1, hrd, hw, hz]
        rfl
      · refine ⟨(pre.length : Int), Ev.step (f := fun _ => some (pre.length : Int)) (fun k => ?_) (Ev.now _), ?_⟩
        · rw [bG.l0, if_pos c1, if_pos (by omega), if_pos c1, hrd]
          cases l with
          | nil => exact absurd rfl hz
          | cons s t => simp [qp.f]
        · constructor
          · intro e; omega
          · intro e; exact absurd (e l (by rw [hp]; simp)) hz
  obtain ⟨r, r1, r2⟩ := key core [] rfl (by simp)
  refine ⟨decide (r < 0), ?_, by simpa using r2⟩
  unfold iU.f eX.f bG.f
  refine Ev.bind (a := decide (r ≥ 0)) (Ev.bind r1 (Ev.now _)) ?_
  have : (!decide (r ≥ 0)) = decide (r < 0) := by by_cases g : r < 0 <;> simp [g] <;> omega
  rw [this]; exact Ev.now _
def aip (c : Int) (core : List (List Sp)) (odd : List Gn) (a : Int) (r : Int × Bool) : Prop :=
  (r.2 = true → a ≤ r.1 ∧ inR r.1 ∧ fs c core odd r.1 ≠ [] ∧ ∀ m, a ≤ m → m < r.1 → fs c core odd m = []) ∧ (r.2 = false → r.1 = 0 ∧ ∀ m, a ≤ m → inR m → fs c core odd m = [])
def afh (c : Int) (core : List (List Sp)) (odd : List Gn) (a : Int) (r : Int × Bool) : Prop :=
  (r.2 = true → r.1 ≤ a ∧ inR r.1 ∧ fs c core odd r.1 ≠ [] ∧ ∀ m, m ≤ a → r.1 < m → fs c core odd m = []) ∧ (r.2 = false → r.1 = 0 ∧ ∀ m, m ≤ a → inR m → fs c core odd m = [])
theorem aep (h : SF p c core odd) (hb : ∀ l ∈ core, l = []) {m : Int} (hm : fs c core odd m ≠ []) : ∃ j, ∃ hj : j < odd.length, odd[j].f0 = m ∧ odd[j].f1 ≠ [] := by
  unfold fs at hm
  cases ho : lW odd m with
  | some l =>
    obtain ⟨g, hg, e1, e2⟩ := vk ho
    obtain ⟨j, hj, rfl⟩ := List.getElem_of_mem hg
    exact ⟨j, hj, e1, by rw [ho] at hm; rw [e2]; exact hm⟩
  | none =>
    rw [ho] at hm
    by_cases hc : c = 0
    · exact absurd (by simp [gG, hc]) hm
    · exact absurd (hb _ (h.yc m hc)) hm
theorem afi (h : SF p c core odd) {j : Nat} (hj : j < odd.length) : fs c core odd odd[j].f0 = odd[j].f1 := by
  unfold fs; rw [acz h.hup (List.getElem_mem hj)]
theorem ai1 (h : SF p c core odd) (a : Int) (ha : -1099511627776 ≤ a ∧ a ≤ 1099511627777) : ∃ r, Ev (fun k => aV.f k p c core odd a 1) r ∧ aip c core odd a r := by
  have hlo := h.hlo
  obtain ⟨b, b1, b2⟩ := als h
  by_cases hb : b = true
  · have hbare := b2.1 hb
    obtain ⟨r, r1, r2⟩ := aem h a
    have key : ∀ (d n : Nat), odd.length - n = d → n ≤ odd.length → (∀ j (hj : j < odd.length), j < n → odd[j].f0 < a ∨ odd[j].f1 = []) → (∀ j (hj : j < odd.length), n ≤ j → a ≤ odd[j].f0) →
        ∃ x, Ev (fun k => aV.l0 k 1 (n : Int) p c core odd) x ∧ aip c core odd a x := by
      intro d
      induction d with
      | zero =>
        intro n hd hn h1 h2
        have hnn : n = odd.length := by omega
        refine ⟨(0, false), Ev.step (f := fun k => aV.j3 k 1 (n : Int) false p c core odd) (fun k => ?_) (Ev.step (f := fun _ => some (0, false)) (fun k => ?_) (Ev.now _)), (fun e => by cases e), fun _ => ⟨rfl, fun m hm _ => ?_⟩⟩
        · rw [aV.l0, if_pos (by omega)]
          have : decide ((n : Int) < (odd.length : Int)) = false := by simp; omega
          rw [this]
        · rw [aV.j3, if_neg (by simp)]
        · refine Classical.byContradiction fun hne => ?_
          obtain ⟨j, hj, e1, e2⟩ := aep h hbare hne
          rcases h1 j hj (by omega) with g | g
          · omega
          · exact e2 g
      | succ d ih =>
        intro n hd hn h1 h2
        have hlt : n < odd.length := by omega
        have hdec : decide ((n : Int) < (odd.length : Int)) = true := by simp; omega
        by_cases hz : odd[n].f1 = []
        · obtain ⟨x, x1, x2⟩ := ih (n + 1) (by omega) (by omega) (fun j hj hjn => by
            rcases Nat.lt_or_ge j n with g | g
            · exact h1 j hj g
            · have : j = n := by omega
              subst this; exact .inr hz) (fun j hj hjn => h2 j hj (by omega))
          refine ⟨x, Ev.step (f := fun k => aV.j3 k 1 (n : Int) true p c core odd) (fun k => ?_) (Ev.step (fun k => ?_) x1), x2⟩
          · rw [aV.l0, if_pos (by omega), hdec]
          · have hw : wrap64 ((n : Int) + 1) = ((n + 1 : Nat) : Int) := by rw [eH (by omega) (by omega)]; simp
            rw [aV.j3, if_pos rfl, if_pos (by omega), if_pos (by omega), rdG odd n hlt, if_neg (by rw [hz]; simp), hw]
        · refine ⟨(odd[n].f0, true), Ev.step (f := fun k => aV.j3 k 1 (n : Int) true p c core odd) (fun k => ?_) (Ev.step (f := fun _ => some (odd[n].f0, true)) (fun k => ?_) (Ev.now _)), fun _ => ⟨h2 n hlt (Nat.le_refl _), h.hidx _ (List.getElem_mem hlt), by rw [afi h hlt]; exact hz, fun m hm1 hm2 => ?_⟩, (fun e => by cases e)⟩
          · rw [aV.l0, if_pos (by omega), hdec]
          · have : 0 < odd[n].f1.length := List.length_pos_iff.2 hz
            rw [aV.j3, if_pos rfl, if_pos (by omega), if_pos (by omega), rdG odd n hlt, if_pos (by omega)]
          · refine Classical.byContradiction fun hne => ?_
            obtain ⟨j, hj, e1, e2⟩ := aep h hbare hne
            rcases Nat.lt_or_ge j n with g | g
            · rcases h1 j hj g with g2 | g2
              · omega
              · exact e2 g2
            · rcases Nat.lt_or_ge n j with g2 | g2
              · have := ahn h.hup hj g2; simp only at hm2; omega
              · have : j = n := by omega
                subst this; simp only at hm2; omega
    have e1 : (r.1.toNat : Int) = r.1 := Int.toNat_of_nonneg r2.low
    have hhi := r2.high
    obtain ⟨x, x1, x2⟩ := key _ r.1.toNat rfl (by omega) (fun j hj hjn => .inl (r2.below j hj (by omega))) (fun j hj hjn => r2.above j hj (by omega))
    rw [e1] at x1
    refine ⟨x, ?_, x2⟩
    unfold aV.f
    refine Ev.bind b1 ?_
    refine Ev.congr (fun k => by rw [if_pos hb]) (Ev.bind r1 ?_)
    refine Ev.congr (fun k => by rw [if_neg (by omega)]) ?_
    refine Ev.step (f := fun k => aV.j1 k 1 r.1 p c core odd) (fun k => by rw [aV.j0, if_neg (by simp)]) ?_
    exact Ev.step (fun k => by rw [aV.j1]) x1
  · have key : ∀ (d : Nat) (i : Int), (1099511627777 - i).toNat = d → a ≤ i → i ≤ 1099511627777 → (∀ m, a ≤ m → m < i → fs c core odd m = []) → ∃ x, Ev (fun k => aV.l1 k 1 i p c core odd) x ∧ aip c core odd a x := by
      intro d
      induction d with
      | zero =>
        intro i hd h1 h2 h3
        have hi : ¬ inR i := by unfold inR; omega
        refine ⟨(0, false), Ev.step (f := fun _ => some (0, false)) (fun k => ?_) (Ev.now _), (fun e => by cases e), fun _ => ⟨rfl, fun m hm hr => h3 m hm (by unfold inR at hr; omega)⟩⟩
        rw [aV.l1, nQ]; simp [hi]
      | succ d ih =>
        intro i hd h1 h2 h3
        have hi : inR i := by unfold inR; omega
        by_cases hz : fs c core odd i = []
        · obtain ⟨x, x1, x2⟩ := ih (i + 1) (by omega) (by omega) (by omega) (fun m hm1 hm2 => by
            rcases iLt m i with g | g
            · exact h3 m hm1 g
            · have : m = i := by omega
              subst this; exact hz)
          refine ⟨x, ?_, x2⟩
          refine Ev.step (f := fun k => (gZ.f k p c core odd i).bind fun t => if t = true then some (i, true) else aV.l1 k 1 (wrap64 (i + 1)) p c core odd) (fun k => by rw [aV.l1, nQ]; simp [hi]) ?_
          refine Ev.bind (aeo h i hi) ?_
          refine Ev.congr (fun k => ?_) x1
          rw [if_neg (by simp [hz]), eH (by omega) (by omega)]
        · refine ⟨(i, true), ?_, fun _ => ⟨h1, hi, hz, h3⟩, (fun e => by cases e)⟩
          refine Ev.step (f := fun k => (gZ.f k p c core odd i).bind fun t => if t = true then some (i, true) else aV.l1 k 1 (wrap64 (i + 1)) p c core odd) (fun k => by rw [aV.l1, nQ]; simp [hi]) ?_
          refine Ev.bind (aeo h i hi) ?_
          exact Ev.congr (fun k => by rw [if_pos (by simp [hz])]) (Ev.now _)
    obtain ⟨x, x1, x2⟩ := key _ a rfl (Int.le_refl _) ha.2 (fun m h1 h2 => by omega)
    refine ⟨x, ?_, x2⟩
    unfold aV.f
    exact Ev.bind b1 (Ev.congr (fun k => by rw [if_neg hb]) x1)
end Go.Proofs.Ytmbmalkpmanaaaa.P
namespace Go.Proofs.Ytmbmalkpmanaaaa.P
set_option linter.unusedVariables false
set_option linter.unusedSimpArgs false
open Go.RowKit Go.Proofs.YtmbmalkpmanaaaaW.aK Go.Proofs.YtmbmalkpmanaaaaW.bM
variable {p c : Int} {core : List (List Sp)} {odd : List Gn}
theorem arx (a b : Int) : mn a b = min a b := by unfold mn; split <;> omega
theorem arz (a b : Int) : mx a b = max a b := by unfold mx; split <;> omega
theorem SL.len {lo hi : Int} : ∀ {l : List Sp} {lo : Int}, SL lo hi l → (l.length : Int) ≤ max 0 (hi - lo + 1)
  | [], _, _ => by simp; omega
  | s :: r, lo, ⟨h1, h2, h3, h4⟩ => by
    have := SL.len (lo := lo) h4
    simp only [List.length_cons]
    omega
theorem SL.ac3 {l : List Sp} (h : SL (-1099511627776) 1099511627776 l) : l.length ≤ 4611686018427387903 := by have := SL.len (lo := 0) h; omega
theorem aer : ∀ (l : List Sp), l ≠ [] → ∃ z, l.getLast? = some z ∧ z.f1 = qH l
  | [], h => absurd rfl h
  | [s], _ => ⟨s, rfl, rfl⟩
  | s :: t :: r, _ => by
    obtain ⟨z, h1, h2⟩ := aer (t :: r) (by simp)
    exact ⟨z, by rw [List.getLast?_cons_cons]; exact h1, h2⟩
theorem afj (a b : List Sp) : nG a b = true ↔ (a ≠ [] → b ≠ [] → qH a < qF b) := by
  by_cases ha : a = []
  · subst ha; simp [nG]
  · obtain ⟨z, h1, h2⟩ := aer a ha
    cases b with
    | nil => unfold nG; rw [h1]; simp
    | cons s r => unfold nG; rw [h1]; simp [qF, h2, ha]
theorem mO (l : List Sp) : ali l = if l = [] then (0, 0, false) else (qF l, qH l, true) := by
  by_cases ha : l = []
  · subst ha; rfl
  · obtain ⟨z, h1, h2⟩ := aer l ha
    rw [if_neg ha]
    cases l with
    | nil => exact absurd rfl ha
    | cons s r => unfold ali; rw [h1]; simp [qF, h2]
theorem ai2 (h : SF p c core odd) (a : Int) (ha : -1099511627777 ≤ a ∧ a ≤ 1099511627776) : ∃ r, Ev (fun k => aV.f k p c core odd a (-1)) r ∧ afh c core odd a r := by
  have hlo := h.hlo
  obtain ⟨b, b1, b2⟩ := als h
  by_cases hb : b = true
  · have hbare := b2.1 hb
    obtain ⟨r, r1, r2⟩ := aem h a
    have key : ∀ (n : Nat), n ≤ odd.length → (∀ j (hj : j < odd.length), n ≤ j → a < odd[j].f0 ∨ odd[j].f1 = []) → (∀ j (hj : j < odd.length), j < n → odd[j].f0 ≤ a) →
        ∃ x, Ev (fun k => aV.l0 k (-1) ((n : Int) - 1) p c core odd) x ∧ afh c core odd a x := by
      intro n
      induction n with
      | zero =>
        intro hn h1 h2
        refine ⟨(0, false), Ev.step (f := fun k => aV.j3 k (-1) ((0 : Nat) - 1 : Int) false p c core odd) (fun k => ?_) (Ev.step (f := fun _ => some (0, false)) (fun k => ?_) (Ev.now _)), (fun e => by cases e), fun _ => ⟨rfl, fun m hm _ => ?_⟩⟩
        · rw [aV.l0, if_neg (by omega)]
        · rw [aV.j3, if_neg (by simp)]
        · refine Classical.byContradiction fun hne => ?_
          obtain ⟨j, hj, e1, e2⟩ := aep h hbare hne
          rcases h1 j hj (by omega) with g | g
          · omega
          · exact e2 g
      | succ n ih =>
        intro hn h1 h2
        have hlt : n < odd.length := by omega
        have en : ((n + 1 : Nat) : Int) - 1 = (n : Int) := by omega
        have hdec : decide ((n : Int) < (odd.length : Int)) = true := by simp; omega
        rw [en]
        by_cases hz : odd[n].f1 = []
        · obtain ⟨x, x1, x2⟩ := ih (by omega) (fun j hj hjn => by
            rcases Nat.lt_or_ge n j with g | g
            · exact h1 j hj g
            · have : j = n := by omega
              subst this; exact .inr hz) (fun j hj hjn => h2 j hj (by omega))
          refine ⟨x, Ev.step (f := fun k => aV.j3 k (-1) (n : Int) true p c core odd) (fun k => ?_) (Ev.step (fun k => ?_) x1), x2⟩
          · rw [aV.l0, if_pos (by omega), hdec]
          · have hw : wrap64 ((n : Int) + -1) = (n : Int) - 1 := by rw [eH (by omega) (by omega)]; omega
            rw [aV.j3, if_pos rfl, if_pos (by omega), if_pos (by omega), rdG odd n hlt, if_neg (by rw [hz]; simp), hw]
        · refine ⟨(odd[n].f0, true), Ev.step (f := fun k => aV.j3 k (-1) (n : Int) true p c core odd) (fun k => ?_) (Ev.step (f := fun _ => some (odd[n].f0, true)) (fun k => ?_) (Ev.now _)), fun _ => ⟨h2 n hlt (by omega), h.hidx _ (List.getElem_mem hlt), by rw [afi h hlt]; exact hz, fun m hm1 hm2 => ?_⟩, (fun e => by cases e)⟩
          · rw [aV.l0, if_pos (by omega), hdec]
          · have : 0 < odd[n].f1.length := List.length_pos_iff.2 hz
            rw [aV.j3, if_pos rfl, if_pos (by omega), if_pos (by omega), rdG odd n hlt, if_pos (by omega)]
          · refine Classical.byContradiction fun hne => ?_
            obtain ⟨j, hj, e1, e2⟩ := aep h hbare hne
            rcases Nat.lt_or_ge n j with g | g
            · rcases h1 j hj g with g2 | g2
              · omega
              · exact e2 g2
            · rcases Nat.lt_or_ge j n with g2 | g2
              · have := ahn h.hup hlt g2; simp only at hm2; omega
              · have : j = n := by omega
                subst this; simp only at hm2; omega
    have e1 : (r.1.toNat : Int) = r.1 := Int.toNat_of_nonneg r2.low
    have hhi := r2.high
    have hend : ∃ x, Ev (fun k => aV.j0 k (-1) r.1 (!r.2) p c core odd) x ∧ afh c core odd a x := by
      by_cases hr : r.2 = true
      · obtain ⟨hj, he⟩ := r2.is hr
        obtain ⟨x, x1, x2⟩ := key (r.1.toNat + 1) (by omega) (fun j hj2 hjn => .inl (by have := ahn h.hup hj2 (show r.1.toNat < j by omega); omega)) (fun j hj2 hjn => by
          rcases Nat.lt_or_ge j r.1.toNat with g | g
          · have := ahn h.hup hj g; omega
          · have : j = r.1.toNat := by omega
            subst this; omega)
        have en : ((r.1.toNat + 1 : Nat) : Int) - 1 = r.1 := by omega
        rw [en] at x1
        refine ⟨x, Ev.step (f := fun k => aV.j1 k (-1) r.1 p c core odd) (fun k => ?_) (Ev.step (fun k => by rw [aV.j1]) x1), x2⟩
        rw [aV.j0, if_neg (by rw [hr]; simp)]
      · have hr' : r.2 = false := by simpa using hr
        have hno := xZ.1 (r2.no hr')
        obtain ⟨x, x1, x2⟩ := key r.1.toNat (by omega) (fun j hj2 hjn => .inl (by have := r2.above j hj2 (by omega); have := hno _ (List.getElem_mem hj2); omega)) (fun j hj2 hjn => by have := r2.below j hj2 (by omega); omega)
        have en : ((r.1.toNat : Nat) : Int) - 1 = r.1 - 1 := by omega
        rw [en] at x1
        refine ⟨x, Ev.step (f := fun k => aV.j1 k (-1) (r.1 - 1) p c core odd) (fun k => ?_) (Ev.step (fun k => by rw [aV.j1]) x1), x2⟩
        rw [aV.j0, if_pos (by rw [hr']; rfl), eH (by have := r2.low; omega) (by omega)]
    obtain ⟨x, x1, x2⟩ := hend
    refine ⟨x, ?_, x2⟩
    unfold aV.f
    refine Ev.bind b1 ?_
    refine Ev.congr (fun k => by rw [if_pos hb]) (Ev.bind r1 ?_)
    exact Ev.congr (fun k => by rw [if_pos (by omega)]) x1
  · have key : ∀ (d : Nat) (i : Int), (i + 1099511627777).toNat = d → i ≤ a → -1099511627777 ≤ i → (∀ m, m ≤ a → i < m → fs c core odd m = []) → ∃ x, Ev (fun k => aV.l1 k (-1) i p c core odd) x ∧ afh c core odd a x := by
      intro d
      induction d with
      | zero =>
        intro i hd h1 h2 h3
        have hi : ¬ inR i := by unfold inR; omega
        refine ⟨(0, false), Ev.step (f := fun _ => some (0, false)) (fun k => ?_) (Ev.now _), (fun e => by cases e), fun _ => ⟨rfl, fun m hm hr => h3 m hm (by unfold inR at hr; omega)⟩⟩
        rw [aV.l1, nQ]; simp [hi]
      | succ d ih =>
        intro i hd h1 h2 h3
        have hi : inR i := by unfold inR; omega
        by_cases hz : fs c core odd i = []
        · obtain ⟨x, x1, x2⟩ := ih (i - 1) (by omega) (by omega) (by omega) (fun m hm1 hm2 => by
            rcases iLt i m with g | g
            · exact h3 m hm1 g
            · have : m = i := by omega
              subst this; exact hz)
          refine ⟨x, ?_, x2⟩
          refine Ev.step (f := fun k => (gZ.f k p c core odd i).bind fun t => if t = true then some (i, true) else aV.l1 k (-1) (wrap64 (i + -1)) p c core odd) (fun k => by rw [aV.l1, nQ]; simp [hi]) ?_
          refine Ev.bind (aeo h i hi) ?_
          refine Ev.congr (fun k => ?_) x1
          rw [if_neg (by simp [hz]), eH (by omega) (by omega)]
          rfl
        · refine ⟨(i, true), ?_, fun _ => ⟨h1, hi, hz, h3⟩, (fun e => by cases e)⟩
          refine Ev.step (f := fun k => (gZ.f k p c core odd i).bind fun t => if t = true then some (i, true) else aV.l1 k (-1) (wrap64 (i + -1)) p c core odd) (fun k => by rw [aV.l1, nQ]; simp [hi]) ?_
          refine Ev.bind (aeo h i hi) ?_
          exact Ev.congr (fun k => by rw [if_pos (by simp [hz])]) (Ev.now _)
    obtain ⟨x, x1, x2⟩ := key _ a rfl (Int.le_refl _) ha.1 (fun m h1 h2 => by omega)
    refine ⟨x, ?_, x2⟩
    unfold aV.f
    exact Ev.bind b1 (Ev.congr (fun k => by rw [if_neg hb]) x1)
theorem xQ (h : SF p c core odd) (i : Int) (hi : -9223372036854775808 ≤ i ∧ i ≤ 9223372036854775807) : ∃ r, Ev (fun k => fT.f k p c core odd i) r ∧ aip c core odd (max (i + 1) (-1099511627776)) r := by
  unfold fT.f
  by_cases hm : i ≥ 1099511627776
  · refine ⟨(0, false), Ev.congr (f := fun _ => some (0, false)) (fun k => by rw [if_pos hm]) (Ev.now _), (fun e => by cases e), fun _ => ⟨rfl, fun m h1 h2 => by unfold inR at h2; omega⟩⟩
  · have hw : wrap64 (i + 1) = i + 1 := eH (by omega) (by omega)
    obtain ⟨r, r1, r2⟩ := ai1 h (max (i + 1) (-1099511627776)) (by omega)
    refine ⟨r, Ev.congr (fun k => by rw [if_neg hm, hw, arz]) (Ev.bind (f := fun _ a => some (a.1, a.2)) r1 (Ev.now _)), r2⟩
theorem acA (h : SF p c core odd) (i : Int) (hi : -9223372036854775808 ≤ i ∧ i ≤ 9223372036854775807) : ∃ r, Ev (fun k => iD.f k p c core odd i) r ∧ afh c core odd (min (i - 1) 1099511627776) r := by
  unfold iD.f
  by_cases hm : i ≤ -1099511627776
  · refine ⟨(0, false), Ev.congr (f := fun _ => some (0, false)) (fun k => by rw [if_pos hm]) (Ev.now _), (fun e => by cases e), fun _ => ⟨rfl, fun m h1 h2 => by unfold inR at h2; omega⟩⟩
  · have hw : wrap64 (i - 1) = i - 1 := eH (by omega) (by omega)
    obtain ⟨r, r1, r2⟩ := ai2 h (min (i - 1) 1099511627776) (by omega)
    refine ⟨r, Ev.congr (fun k => by rw [if_neg hm, hw, arx]) (Ev.bind (f := fun _ a => some (a.1, a.2)) r1 (Ev.now _)), r2⟩
end Go.Proofs.Ytmbmalkpmanaaaa.P

/- Lemmas for laws of chapter 7: what the functions that they reach compute. No condition of its own. -/
import Derived.Test.YtmbmalkpmanaaaaYG2
import Derived.Deep.SlicePairs
import Derived.ChangeArms
import Derived.ProofKit
import Derived.Test.YtmbmalkpmanaaaaYG4
import Derived.Test.YtmbmalkpmanaaaaYG11
import Derived.Test.YtmbmalkpmanaaaaYG8
import Derived.Test.YtmbmalkpmanaaaaYG17
import Derived.Test.YtmbmalkpmanaaaaYG6
import Derived.Test.YtmbmalkpmanaaaaYG14
import Derived.Test.YtmbmalkpmanaaaaYG7
import Derived.Test.YtmbmalkpmanaaaaYG9
namespace Go.Proofs.Ytmbmalkpmanaaaa.P
set_option linter.unusedVariables false
set_option linter.unusedSimpArgs false
open Go.RowKit
def SL (lo hi : Int) : List Sp → Prop
  | [] => True
  | s :: r => lo ≤ s.f0 ∧ s.f0 ≤ s.f1 ∧ s.f1 ≤ hi ∧ SL (s.f1 + 2) hi r
def qE (l : List Sp) (x : Int) : Bool := l.any fun s => decide (s.f0 ≤ x) && decide (x ≤ s.f1)
theorem aai (x : Int) : qE [] x = false := rfl
theorem lC (s : Sp) (r : List Sp) (x : Int) : qE (s :: r) x = ((decide (s.f0 ≤ x) && decide (x ≤ s.f1)) || qE r x) := rfl
theorem aFe (l m : List Sp) (x : Int) : qE (l ++ m) x = (qE l x || qE m x) := by simp [qE]
theorem aaj {l : List Sp} {x : Int} : qE l x = true ↔ ∃ s ∈ l, s.f0 ≤ x ∧ x ≤ s.f1 := by simp [qE]
theorem SL.mono {lo lo' hi : Int} (h : lo' ≤ lo) : ∀ {l : List Sp}, SL lo hi l → SL lo' hi l
  | [], _ => trivial
  | _ :: _, hs => ⟨by have := hs.1; omega, hs.2⟩
theorem SL.low {lo hi : Int} {l : List Sp} (hs : SL lo hi l) {x : Int} (hx : x < lo) : qE l x = false := by
  induction l generalizing lo with
  | nil => rfl
  | cons s r ih =>
    obtain ⟨h1, h2, h3, h4⟩ := hs
    rw [lC, ih h4 (by omega)]
    have : ¬ s.f0 ≤ x := by omega
    simp [this]
theorem SL.high {lo hi : Int} {l : List Sp} (hs : SL lo hi l) {x : Int} (hx : hi < x) : qE l x = false := by
  induction l generalizing lo with
  | nil => rfl
  | cons s r ih =>
    obtain ⟨h1, h2, h3, h4⟩ := hs
    rw [lC, ih h4]
    have : ¬ x ≤ s.f1 := by omega
    simp [this]
theorem SL.ticks {lo hi : Int} {l : List Sp} (hs : SL lo hi l) {s : Sp} (h : s ∈ l) : lo ≤ s.f0 ∧ s.f0 ≤ s.f1 ∧ s.f1 ≤ hi := by
  induction l generalizing lo with
  | nil => simp at h
  | cons t r ih =>
    obtain ⟨h1, h2, h3, h4⟩ := hs
    rcases List.mem_cons.1 h with rfl | h
    · exact ⟨h1, h2, h3⟩
    · obtain ⟨a, b, c⟩ := ih h4 h
      exact ⟨by omega, b, c⟩
theorem SL.uniq {hi hi' : Int} : ∀ {l m : List Sp} {lo lo' : Int}, SL lo hi l → SL lo' hi' m → (∀ x, qE l x = qE m x) → l = m
  | [], [], _, _, _, _, _ => rfl
  | [], t :: r, _, _, _, hm, h => by
    have := h t.f0
    rw [lC] at this
    have h2 := hm.2.1
    simp [aai, h2] at this
  | s :: r, [], _, _, hl, _, h => by
    have := h s.f0
    rw [lC] at this
    have h2 := hl.2.1
    simp [aai, h2] at this
  | s :: r, t :: q, lo, lo', hl, hm, h => by
    obtain ⟨a1, a2, a3, a4⟩ := hl
    obtain ⟨b1, b2, b3, b4⟩ := hm
    have key : ∀ {s t : Sp} {r q : List Sp} {hi hi' : Int}, s.f0 ≤ s.f1 → t.f0 ≤ t.f1 → SL (s.f1 + 2) hi r → SL (t.f1 + 2) hi' q → (∀ x, qE (s :: r) x = qE (t :: q) x) → t.f0 ≤ s.f0 := by
      intro s t r q hi hi' a2 b2 a4 b4 h
      by_cases hlt : t.f0 ≤ s.f0
      · exact hlt
      · have hx := h s.f0
        rw [lC, lC, b4.low (by omega)] at hx
        have : ¬ t.f0 ≤ s.f0 := hlt
        simp [this, a2] at hx
    have e0 : s.f0 = t.f0 := by
      have h1 := key a2 b2 a4 b4 h
      have h2 := key b2 a2 b4 a4 (fun x => (h x).symm)
      omega
    have key2 : ∀ {s t : Sp} {r q : List Sp} {hi hi' : Int}, s.f0 = t.f0 → s.f0 ≤ s.f1 → t.f0 ≤ t.f1 → SL (s.f1 + 2) hi r → SL (t.f1 + 2) hi' q → (∀ x, qE (s :: r) x = qE (t :: q) x) → t.f1 ≤ s.f1 := by
      intro s t r q hi hi' e0 a2 b2 a4 b4 h
      by_cases hlt : t.f1 ≤ s.f1
      · exact hlt
      · have hx := h (s.f1 + 1)
        rw [lC, lC, a4.low (by omega)] at hx
        have c1 : ¬ s.f1 + 1 ≤ s.f1 := by omega
        have c2 : t.f0 ≤ s.f1 + 1 := by omega
        have c3 : s.f1 + 1 ≤ t.f1 := by omega
        simp [c2, c3] at hx
        omega
    have e1 : s.f1 = t.f1 := by
      have h1 := key2 e0 a2 b2 a4 b4 h
      have h2 := key2 e0.symm b2 a2 b4 a4 (fun x => (h x).symm)
      omega
    have est : s = t := by cases s; cases t; simp only at e0 e1; rw [e0, e1]
    subst est
    have : r = q := SL.uniq a4 b4 (fun x => by
      have hx := h x
      rw [lC, lC] at hx
      by_cases hc : x < s.f1 + 2
      · rw [a4.low hc, b4.low hc]
      · have : ¬ x ≤ s.f1 := by omega
        simpa [this] using hx)
    rw [this]
def Inv (hi : Int) (a : List Sp) (i : Bool) (p : Int) : Prop :=
  match a, i with
  | [], i => i = false
  | s :: r, true => s.f0 ≤ p ∧ p ≤ s.f1 ∧ s.f1 ≤ hi ∧ SL (s.f1 + 2) hi r
  | s :: r, false => SL (p + 1) hi (s :: r)
theorem eH {n : Int} (h1 : -9223372036854775808 ≤ n) (h2 : n ≤ 9223372036854775807) : wrap64 n = n := by unfold wrap64; omega
theorem Inv.nxt {hi p : Int} {a : List Sp} {i : Bool} (h : Inv hi a i p) (hp : -4611686018427387904 ≤ p) (hh : hi ≤ 4611686018427387904) (hn : a ≠ []) : p < zl a i ∧ zl a i ≤ hi + 1 := by
  match a, i, hn with
  | s :: r, true, _ =>
    obtain ⟨h1, h2, h3, h4⟩ := h
    have hw : wrap64 (s.f1 + 1) = s.f1 + 1 := eH (by omega) (by omega)
    simp only [zl, hw]
    omega
  | s :: r, false, _ =>
    obtain ⟨h1, h2, h3, h4⟩ := h
    simp only [zl]
    omega
theorem Inv.step {hi p t : Int} {a : List Sp} {i : Bool} (h : Inv hi a i p) (hp : -4611686018427387904 ≤ p) (hh : hi ≤ 4611686018427387904) (hpt : p < t) (ht : a ≠ [] → t ≤ zl a i) :
    Inv hi (j5 a i t).1 (j5 a i t).2 t ∧ (∀ x, t ≤ x → qE (j5 a i t).1 x = qE a x) ∧ (∀ x, p ≤ x → x < t → qE a x = i) := by
  match a, i with
  | [], i =>
    have : i = false := h
    subst this
    exact ⟨rfl, fun _ _ => rfl, fun _ _ _ => rfl⟩
  | s :: r, true =>
    obtain ⟨h1, h2, h3, h4⟩ := h
    have hw : wrap64 (s.f1 + 1) = s.f1 + 1 := eH (by omega) (by omega)
    have ht' := ht (by simp)
    simp only [zl, hw] at ht'
    have hin : ∀ x, p ≤ x → x < t → qE (s :: r) x = true := fun x a b => by
      have c1 : s.f0 ≤ x := by omega
      have c2 : x ≤ s.f1 := by omega
      simp [lC, c1, c2]
    simp only [j5, hw]
    by_cases e : s.f1 + 1 = t
    · rw [if_pos e]
      refine ⟨?_, fun x hx => ?_, hin⟩
      · cases r with
        | nil => rfl
        | cons u r => exact SL.mono (by omega) h4
      · have : ¬ x ≤ s.f1 := by omega
        simp [lC, this]
    · rw [if_neg e]
      exact ⟨⟨by omega, by omega, h3, h4⟩, fun _ _ => rfl, hin⟩
  | s :: r, false =>
    obtain ⟨h1, h2, h3, h4⟩ := h
    have ht' := ht (by simp)
    simp only [zl] at ht'
    have hout : ∀ x, p ≤ x → x < t → qE (s :: r) x = false := fun x a b => by
      have c1 : ¬ s.f0 ≤ x := by omega
      rw [lC, h4.low (by omega)]
      simp [c1]
    simp only [j5]
    by_cases e : s.f0 = t
    · rw [if_pos e]
      exact ⟨⟨by omega, by omega, h3, h4⟩, fun _ _ => rfl, hout⟩
    · rw [if_neg e]
      exact ⟨⟨by omega, h2, h3, h4⟩, fun _ _ => rfl, hout⟩
theorem anh (yes : Bool → Bool → Bool) (xs : List Bd) : ∀ (i : Bool) (f : Int) (o : List Sp), (xs.foldl (tX yes) ⟨i, f, o⟩).out = o ++ (xs.foldl (tX yes) ⟨i, f, []⟩).out := by
  induction xs with
  | nil => intro i f o; simp
  | cons x xs ih =>
    intro i f o
    simp only [List.foldl_cons, tX]
    split
    · exact ih _ _ _
    · split
      · rw [ih _ _ (o ++ _), ih _ _ ([] ++ _)]; simp
      · exact ih _ _ _
theorem azD (yes : Bool → Bool → Bool) (hy : yes false false = false) (hi lo0 : Int) (hlo : -4611686018427387904 ≤ lo0) (hh : hi ≤ 4611686018427387904) (n : Nat) : ∀ (a : List Sp) (ia : Bool) (b : List Sp) (ib : Bool) (p from_ : Int),
    msr a ia + msr b ib ≤ n → Inv hi a ia p → Inv hi b ib p → lo0 ≤ p + 1 → -4611686018427387904 ≤ p → (yes ia ib = true → lo0 ≤ from_ ∧ from_ ≤ p) →
    SL (if yes ia ib then from_ else p + 1) hi ((uH a ia b ib).foldl (tX yes) ⟨yes ia ib, from_, []⟩).out ∧
    ∀ x, qE ((uH a ia b ib).foldl (tX yes) ⟨yes ia ib, from_, []⟩).out x = if x < p then (yes ia ib && decide (from_ ≤ x)) else yes (qE a x) (qE b x) := by
  induction n with
  | zero =>
    intro a ia b ib p from_ hm ha hb hp hp2 hf
    have e : a = [] ∧ b = [] := by
      by_cases e : a = [] ∧ b = []
      · exact e
      · have := aaA a ia b ib e; omega
    obtain ⟨rfl, rfl⟩ := e
    have h1 : ia = false := ha
    have h2 : ib = false := hb
    subst h1 h2
    rw [wU, hy]
    refine ⟨trivial, fun x => ?_⟩
    simp [aai, hy]
  | succ n ih =>
    intro a ia b ib p from_ hm ha hb hp hp2 hf
    by_cases e : a = [] ∧ b = []
    · obtain ⟨rfl, rfl⟩ := e
      have h1 : ia = false := ha
      have h2 : ib = false := hb
      subst h1 h2
      rw [wU, hy]
      refine ⟨trivial, fun x => ?_⟩
      simp [aai, hy]
    · have hlt := aaA a ia b ib e
      rw [aaB a ia b ib e]
      have ht : p < atL a ia b ib ∧ atL a ia b ib ≤ hi + 1 ∧ (a ≠ [] → atL a ia b ib ≤ zl a ia) ∧ (b ≠ [] → atL a ia b ib ≤ zl b ib) := by
        unfold atL
        by_cases h1 : a = []
        · have h2 : b ≠ [] := fun h => e ⟨h1, h⟩
          rw [if_pos h1]
          have := hb.nxt hp2 hh h2
          exact ⟨this.1, this.2, fun h => absurd h1 h, fun _ => Int.le_refl _⟩
        · rw [if_neg h1]
          have q1 := ha.nxt hp2 hh h1
          by_cases h2 : b = []
          · rw [if_pos h2]
            exact ⟨q1.1, q1.2, fun _ => Int.le_refl _, fun h => absurd h2 h⟩
          · rw [if_neg h2]
            have q2 := hb.nxt hp2 hh h2
            exact ⟨by omega, by omega, fun _ => by omega, fun _ => by omega⟩
      obtain ⟨t, hte⟩ : ∃ t, atL a ia b ib = t := ⟨_, rfl⟩
      rw [hte] at ht hlt ⊢
      obtain ⟨ht1, ht2, ht3, ht4⟩ := ht
      obtain ⟨ia2, ha2, ha3⟩ := ha.step hp2 hh ht1 ht3
      obtain ⟨ib2, hb2, hb3⟩ := hb.step hp2 hh ht1 ht4
      obtain ⟨a1, ia1, hpa⟩ : ∃ a1 ia1, j5 a ia t = (a1, ia1) := ⟨_, _, rfl⟩
      obtain ⟨b1, ib1, hpb⟩ : ∃ b1 ib1, j5 b ib t = (b1, ib1) := ⟨_, _, rfl⟩
      rw [hpa] at hlt ia2 ha2 ⊢
      rw [hpb] at hlt ib2 hb2 ⊢
      dsimp only at hlt ia2 ha2 ib2 hb2 ⊢
      have hw : wrap64 (t - 1) = t - 1 := eH (by omega) (by omega)
      have hval : ∀ x, p ≤ x → x < t → yes (qE a x) (qE b x) = yes ia ib := fun x h1 h2 => by rw [ha3 x h1 h2, hb3 x h1 h2]
      have ani : ∀ x, t ≤ x → yes (qE a1 x) (qE b1 x) = yes (qE a x) (qE b x) := fun x h1 => by rw [ha2 x h1, hb2 x h1]
      simp only [List.foldl_cons]
      cases hin : yes ia ib with
      | false =>
        cases afC : yes ia1 ib1 with
        | true =>
          have hk : tX yes ⟨false, from_, []⟩ ⟨t, ia1, ib1⟩ = ⟨yes ia1 ib1, t, []⟩ := by simp [tX, afC]
          rw [hk]
          obtain ⟨s1, s2⟩ := ih a1 ia1 b1 ib1 t t (by omega) ia2 ib2 (by omega) (by omega) (fun _ => ⟨by omega, Int.le_refl _⟩)
          rw [afC] at s1 s2 ⊢
          refine ⟨by simpa using SL.mono (by simp; omega) s1, fun x => ?_⟩
          rw [s2 x]
          by_cases c1 : x < p
          · have c2 : x < t := by omega
            have c3 : ¬ t ≤ x := by omega
            simp [c1, c2, c3]
          · by_cases c2 : x < t
            · have c3 : ¬ t ≤ x := by omega
              rw [if_neg c1, hval x (by omega) c2, hin]
              simp [c2, c3]
            · rw [if_neg c1, if_neg c2, ani x (by omega)]
        | false =>
          have hk : tX yes ⟨false, from_, []⟩ ⟨t, ia1, ib1⟩ = ⟨yes ia1 ib1, from_, []⟩ := by simp [tX, afC]
          rw [hk]
          obtain ⟨s1, s2⟩ := ih a1 ia1 b1 ib1 t from_ (by omega) ia2 ib2 (by omega) (by omega) (fun h => by rw [afC] at h; cases h)
          rw [afC] at s1 s2 ⊢
          refine ⟨by simpa using SL.mono (by simp; omega) s1, fun x => ?_⟩
          rw [s2 x]
          by_cases c1 : x < p
          · have c2 : x < t := by omega
            simp [c1, c2]
          · by_cases c2 : x < t
            · rw [if_neg c1, hval x (by omega) c2, hin]
              simp [c2]
            · rw [if_neg c1, if_neg c2, ani x (by omega)]
      | true =>
        obtain ⟨hf1, hf2⟩ := hf hin
        cases afC : yes ia1 ib1 with
        | true =>
          have hk : tX yes ⟨true, from_, []⟩ ⟨t, ia1, ib1⟩ = ⟨yes ia1 ib1, from_, []⟩ := by simp [tX, afC]
          rw [hk]
          obtain ⟨s1, s2⟩ := ih a1 ia1 b1 ib1 t from_ (by omega) ia2 ib2 (by omega) (by omega) (fun _ => ⟨hf1, by omega⟩)
          rw [afC] at s1 s2 ⊢
          refine ⟨by simpa using s1, fun x => ?_⟩
          rw [s2 x]
          by_cases c1 : x < p
          · have c2 : x < t := by omega
            simp [c1, c2]
          · by_cases c2 : x < t
            · have c3 : from_ ≤ x := by omega
              rw [if_neg c1, hval x (by omega) c2, hin]
              simp [c2, c3]
            · rw [if_neg c1, if_neg c2, ani x (by omega)]
        | false =>
          have hk : tX yes ⟨true, from_, []⟩ ⟨t, ia1, ib1⟩ = ⟨yes ia1 ib1, from_, [⟨from_, t - 1⟩]⟩ := by simp [tX, afC, hw]
          rw [hk, anh]
          obtain ⟨s1, s2⟩ := ih a1 ia1 b1 ib1 t from_ (by omega) ia2 ib2 (by omega) (by omega) (fun h => by rw [afC] at h; cases h)
          rw [afC] at s1 s2 ⊢
          refine ⟨⟨by simp, by show from_ ≤ t - 1; omega, by show t - 1 ≤ hi; omega, ?_⟩, fun x => ?_⟩
          · have : (t - 1 : Int) + 2 = t + 1 := by omega
            show SL (t - 1 + 2) hi _
            rw [this]
            simpa using s1
          · have azE : qE ([⟨from_, t - 1⟩] ++ (List.foldl (tX yes) ⟨false, from_, []⟩ (uH a1 ia1 b1 ib1)).out) x = ((decide (from_ ≤ x) && decide (x ≤ t - 1)) || qE (List.foldl (tX yes) ⟨false, from_, []⟩ (uH a1 ia1 b1 ib1)).out x) := rfl
            rw [azE, s2 x]
            by_cases c1 : x < p
            · have c2 : x < t := by omega
              have c3 : x ≤ t - 1 := by omega
              simp [c1, c2, c3]
            · by_cases c2 : x < t
              · have c3 : from_ ≤ x := by omega
                have c4 : x ≤ t - 1 := by omega
                rw [if_neg c1, hval x (by omega) c2, hin]
                simp [c2, c3, c4]
              · have c4 : ¬ x ≤ t - 1 := by omega
                rw [if_neg c1, if_neg c2, ani x (by omega)]
                simp [c4]
theorem aaM (yes : Bool → Bool → Bool) (hy : yes false false = false) {lo hi : Int} (hlo : -4611686018427387903 ≤ lo) (hh : hi ≤ 4611686018427387904) {a b : List Sp} (ha : SL lo hi a) (hb : SL lo hi b) :
    SL lo hi (yh yes a b) ∧ ∀ x, qE (yh yes a b) x = yes (qE a x) (qE b x) := by
  have inv : ∀ {a : List Sp}, SL lo hi a → Inv hi a false (lo - 1) := by
    intro a h
    cases a with
    | nil => rfl
    | cons s r => exact SL.mono (by omega) h
  obtain ⟨h1, h2⟩ := azD yes hy hi lo (by omega) hh _ a false b false (lo - 1) 0 (Nat.le_refl _) (inv ha) (inv hb) (by omega) (by omega) (fun h => by rw [hy] at h; cases h)
  rw [hy] at h1 h2
  refine ⟨by simpa [yh, wJ] using SL.mono (by simp) h1, fun x => ?_⟩
  have := h2 x
  unfold yh wJ
  rw [this]
  by_cases c : x < lo - 1
  · rw [if_pos c, ha.low (by omega), hb.low (by omega), hy]; simp
  · rw [if_neg c]
theorem aGk {lo hi : Int} {o : List Sp} {z : Sp} : SL lo hi (o ++ [z]) ↔ SL lo hi o ∧ (∀ s ∈ o, s.f1 + 2 ≤ z.f0) ∧ lo ≤ z.f0 ∧ z.f0 ≤ z.f1 ∧ z.f1 ≤ hi := by
  induction o generalizing lo with
  | nil => simp [SL]
  | cons t o ih =>
    simp only [List.cons_append, SL, ih, List.mem_cons]
    constructor
    · rintro ⟨h1, h2, h3, h4, h5, h6, h7, h8⟩
      exact ⟨⟨h1, h2, h3, h4⟩, fun s hs => by rcases hs with rfl | hs; exact h6; exact h5 s hs, by omega, h7, h8⟩
    · rintro ⟨⟨h1, h2, h3, h4⟩, h5, h6, h7, h8⟩
      exact ⟨h1, h2, h3, h4, fun s hs => h5 s (.inr hs), h5 t (.inl rfl), h7, h8⟩
def glue (out : List Sp) (s : Sp) : List Sp :=
  match out.reverse with
  | [] => [s]
  | z :: o => if s.f0 ≤ z.f1 + 1 then o.reverse ++ [⟨z.f0, max z.f1 s.f1⟩] else out ++ [s]
theorem aFX (s : Sp) : glue [] s = [s] := rfl
theorem aFm (o : List Sp) (z s : Sp) : glue (o ++ [z]) s = if s.f0 ≤ z.f1 + 1 then o ++ [⟨z.f0, max z.f1 s.f1⟩] else o ++ [z] ++ [s] := by simp [glue]
theorem aGY {lo hi : Int} {out : List Sp} {s : Sp} (hs : SL lo hi out) (hb : ∀ z ∈ out, z.f0 ≤ s.f0) (h0 : lo ≤ s.f0) (h1 : s.f0 ≤ s.f1) (h2 : s.f1 ≤ hi) :
    SL lo hi (glue out s) ∧ (∀ z ∈ glue out s, z.f0 ≤ s.f0) ∧ ∀ t, qE (glue out s) t = (qE out t || (decide (s.f0 ≤ t) && decide (t ≤ s.f1))) := by
  rcases List.eq_nil_or_concat out with rfl | ⟨o, z, rfl⟩
  · rw [aFX]
    exact ⟨⟨h0, h1, h2, trivial⟩, fun z h => by simp at h; subst h; exact Int.le_refl _, fun t => by simp [qE]⟩
  · rw [List.concat_eq_append] at *
    obtain ⟨a1, a2, a3, a4, a5⟩ := aGk.1 hs
    have hz := hb z (by simp)
    rw [aFm]
    by_cases e : s.f0 ≤ z.f1 + 1
    · rw [if_pos e]
      refine ⟨aGk.2 ⟨a1, a2, a3, by show z.f0 ≤ max z.f1 s.f1; omega, by show max z.f1 s.f1 ≤ hi; omega⟩, fun u h => ?_, fun t => ?_⟩
      · simp at h
        rcases h with h | rfl
        · exact hb u (by simp [h])
        · exact hz
      · rw [aFe, aFe]
        simp only [lC, aai, Bool.or_false]
        rw [Bool.or_assoc]
        congr 1
        rw [Bool.eq_iff_iff]
        simp only [Bool.and_eq_true, Bool.or_eq_true, decide_eq_true_eq]
        omega
    · rw [if_neg e]
      refine ⟨aGk.2 ⟨hs, fun u h => ?_, h0, h1, h2⟩, fun u h => ?_, fun t => ?_⟩
      · simp at h
        rcases h with h | rfl
        · have := a2 u h; omega
        · omega
      · simp at h
        rcases h with h | rfl | rfl
        · exact hb u (by simp [h])
        · exact hz
        · exact Int.le_refl _
      · rw [aFe]; simp [lC, aai]
theorem aF2 {lo hi : Int} : ∀ (l out : List Sp), SL lo hi out → (∀ s ∈ l, lo ≤ s.f0 ∧ s.f0 ≤ s.f1 ∧ s.f1 ≤ hi) → (∀ z ∈ out, ∀ s ∈ l, z.f0 ≤ s.f0) → l.Pairwise (fun x y => x.f0 ≤ y.f0) →
    SL lo hi (l.foldl glue out) ∧ ∀ t, qE (l.foldl glue out) t = (qE out t || qE l t) := by
  intro l
  induction l with
  | nil => intro out hs _ _ _; exact ⟨hs, fun t => by simp [aai]⟩
  | cons s r ih =>
    intro out hs hl hb hp
    obtain ⟨p1, p2⟩ := List.pairwise_cons.1 hp
    obtain ⟨b0, b1, b2⟩ := hl s (by simp)
    obtain ⟨g1, g2, g3⟩ := aGY hs (fun z hz => hb z hz s (by simp)) b0 b1 b2
    obtain ⟨i1, i2⟩ := ih (glue out s) g1 (fun u hu => hl u (by simp [hu])) (fun z hz u hu => Int.le_trans (g2 z hz) (p1 u hu)) p2
    refine ⟨i1, fun t => ?_⟩
    simp only [List.foldl_cons]
    rw [i2, g3, lC, Bool.or_assoc]
theorem aGq (out : List Sp) (s : Sp) : (glue out s).length ≤ out.length + 1 := by
  rcases List.eq_nil_or_concat out with rfl | ⟨o, z, rfl⟩
  · simp [aFX]
  · rw [List.concat_eq_append, aFm]; split <;> simp
theorem aGZ {l m : List Sp} (h : l.Perm m) (x : Int) : qE l x = qE m x := by
  rw [Bool.eq_iff_iff, aaj, aaj]
  exact ⟨fun ⟨s, h1, h2⟩ => ⟨s, h.mem_iff.1 h1, h2⟩, fun ⟨s, h1, h2⟩ => ⟨s, h.mem_iff.2 h1, h2⟩⟩
end Go.Proofs.Ytmbmalkpmanaaaa.P
namespace Go.Proofs.Ytmbmalkpmanaaaa.P
set_option linter.unusedVariables false
set_option linter.unusedSimpArgs false
open Go.RowKit Go.ChangeShapes Go.WideShapes Go.Deep Go.Proofs.YtmbmalkpmanaaaaW.aK
def fits (n : Int) : Prop := (Lit.int .i64 n).wf = true
def acv (s : Sp) : Prop := fits s.f0 ∧ fits s.f1
theorem aFM {H : Type} {enc : TypeId × Value → H} {w : World} {base : Nat} {held : Bool} {a : Option Addr} {len cap : Nat} {d : DataW H} {p : List MemPlace}
    (h : DataW.Trod enc Try.prog w base (fun _ => true) held 24 (.slice a len cap) d p) :
    ∃ l : List Sp, len = l.length ∧ l.length ≤ cap ∧ Kd.C k23 w a l.length l ∧ (∀ s ∈ l, acv s) ∧ l.length ≤ 9223372036854775807 := by
  obtain ⟨fuel, hf⟩ := h
  rcases open_slice_pairs Try.underlying24 Try.underlying23 (by kernel_rfl) rfl rfl (by kernel_rfl) (by kernel_rfl) hf with ⟨hc, _⟩ | ⟨ad, len', cap', m, n, V0, V1, D0, D1, P0, P1, hc, hb, hl, hm, hmm, hx, hi⟩
  · simp [Value.cells] at hc
    obtain ⟨rfl, rfl, rfl⟩ := hc
    exact ⟨[], rfl, Nat.le_refl _, ⟨rfl, by simp, fun h => absurd h (by simp)⟩, by simp, by simp⟩
  · simp [Value.cells] at hc
    obtain ⟨rfl, rfl, rfl⟩ := hc
    have hlm : len ≤ m := by rw [hmm]; simpa using hl
    have hk : ∀ i, i < len → ∃ s : Sp, w.cell? (ad.add (i * 2)) = some (.int .i64 s.f0) ∧ w.cell? (ad.add (i * 2 + 1)) = some (.int .i64 s.f1) ∧ acv s := by
      intro i hi'
      obtain ⟨c0, c1, t0, t1⟩ := hi i (by omega)
      obtain ⟨x, e0, _, w0⟩ := DataW.trod_int Try.underlying3 t0
      obtain ⟨y, e1, _, w1⟩ := DataW.trod_int Try.underlying3 t1
      simp only [List.cons.injEq, and_true] at e0 e1
      exact ⟨⟨x, y⟩, by rw [c0, e0], by rw [c1, e1], w0, w1⟩
    have hmax : len ≤ 9223372036854775807 := by unfold maxLen at hm; omega
    suffices key : ∀ k, k ≤ len → ∃ l : List Sp, l.length = k ∧ (∀ j s, l[j]? = some s → w.cell? (ad.add (j * 2)) = some (.int .i64 s.f0) ∧ w.cell? (ad.add (j * 2 + 1)) = some (.int .i64 s.f1)) ∧ ∀ s ∈ l, acv s by
      obtain ⟨l, rfl, hl2, hfit⟩ := key len (Nat.le_refl _)
      refine ⟨l, rfl, hl, ⟨rfl, hmax, fun _ => ⟨ad, rfl, fun j s hj => ⟨[.int .i64 s.f0, .int .i64 s.f1], rfl, asL w s, fun i u hu => ?_⟩⟩⟩, hfit, hmax⟩
      have := hl2 j s hj
      match i, hu with
      | 0, hu => simp at hu; subst hu; exact this.1
      | 1, hu => simp at hu; subst hu; exact this.2
    intro k
    induction k with
    | zero => exact fun _ => ⟨[], rfl, fun j s h => by simp at h, by simp⟩
    | succ k ih =>
      intro hk'
      obtain ⟨l, hl1, hl2, hl3⟩ := ih (by omega)
      obtain ⟨s, h0, h1, h2⟩ := hk k (by omega)
      refine ⟨l ++ [s], by simp [hl1], fun j t hj => ?_, fun t ht => ?_⟩
      · by_cases hjk : j < l.length
        · rw [List.getElem?_append_left hjk] at hj; exact hl2 j t hj
        · rw [List.getElem?_append_right (by omega)] at hj
          have : j - l.length = 0 := by
            by_cases e : j - l.length = 0
            · exact e
            · rw [List.getElem?_eq_none (by simp; omega)] at hj; cases hj
          rw [this] at hj
          simp at hj
          subst hj
          have : j = k := by omega
          subst this
          exact ⟨h0, h1⟩
      · simp at ht
        rcases ht with ht | rfl
        · exact hl3 t ht
        · exact h2
end Go.Proofs.Ytmbmalkpmanaaaa.P
namespace Go.Proofs.Ytmbmalkpmanaaaa.P
open Go.RowKit Go.Proofs.YtmbmalkpmanaaaaW.aK Go.Proofs.YtmbmalkpmanaaaaW.bK Go.Proofs.YtmbmalkpmanaaaaW.bM
attribute [local go_sem] dS dU fG fH dB dD dV dW   -- for this text's walks alone
set_option linter.unusedVariables false
set_option linter.unusedSimpArgs false
theorem aCZ (d : Nat) (w : World) (x0 y0 : Int) (x1 y1 : Int) :
 (Op.equalIn (d + 2) 23 (.agg #[.int .i64 x0, .int .i64 x1]) (.agg #[.int .i64 y0, .int .i64 y1])).run Try.prog w = .ok (x0 == y0 && (x1 == y1)) w := by
 refine asG Try.underlying23 (by kernel_rfl) ?_
 refine amm (by rfl) (by go_simp; rfl) (by go_simp; rfl) (by go_simp) ?_
 exact aml (by rfl) (by go_simp; rfl) (by go_simp; rfl) (by go_simp)
end Go.Proofs.Ytmbmalkpmanaaaa.P
namespace Go.Proofs.Ytmbmalkpmanaaaa.P
set_option linter.unusedVariables false
set_option linter.unusedSimpArgs false
open Go.RowKit Go.Proofs.YtmbmalkpmanaaaaW.aK
theorem aik (pre r : List Sp) (s : Sp) : aT (pre ++ s :: r) (pre.length : Int) = s := by simp [aT]
theorem ail {α : Type} (pre : List α) (s : α) (n : Nat) (h : pre.length + 1 ≤ n) (hn : n ≤ 9223372036854775807) : wrap64 ((pre.length : Int) + 1) = ((pre ++ [s]).length : Int) := by
  rw [eH (by omega) (by omega)]; simp
theorem aff {α : Type} (pre : List α) (s : α) (n : Nat) (h : pre.length + 1 ≤ n) (hn : n ≤ 9223372036854775807) : wrap64 (((pre ++ [s]).length : Int) - 1) = (pre.length : Int) := by
  rw [eH (by simp only [List.length_append, List.length_singleton]; omega) (by simp only [List.length_append, List.length_singleton]; omega)]; simp
def slB (lo : Int) : List Sp → Bool
  | [] => true
  | s :: r => decide (lo ≤ s.f0) && (decide (s.f0 ≤ s.f1) && (decide (s.f1 ≤ 1099511627776) && slB (s.f1 + 2) r))
theorem acw {lo : Int} {l : List Sp} : slB lo l = true ↔ SL lo 1099511627776 l := by
  induction l generalizing lo with
  | nil => simp [slB, SL]
  | cons s r ih => simp [slB, SL, ih]
theorem qW (a : Int) : gJ.f a = some (decide (-1099511627776 ≤ a) && decide (a ≤ 1099511627776)) := by
  unfold gJ.f
  by_cases h : a ≥ -1099511627776
  · have h2 : -1099511627776 ≤ a := h
    rw [if_pos h]; simp [h2]
  · have h2 : ¬ -1099511627776 ≤ a := h
    rw [if_neg h]; simp [h2]
theorem ael (l : List Sp) (hl : l.length ≤ 9223372036854775807) : Ev (fun k => bE.f k l) (slB (-1099511627776) l) := by
  have key : ∀ (rest pre : List Sp) (lo : Int), l = pre ++ rest → (pre = [] ∧ lo = -1099511627776 ∨ ∃ p q, pre = p ++ [q] ∧ lo = q.f1 + 2 ∧ -1099511627776 ≤ q.f1 ∧ q.f1 ≤ 1099511627776) →
      Ev (fun k => bE.l0 k l l (l.length : Int) (pre.length : Int)) (slB lo rest) := by
    intro rest
    induction rest with
    | nil =>
      intro pre lo hp hlo
      refine Ev.step (f := fun _ => some true) (fun k => ?_) (Ev.now _)
      rw [bE.l0, if_neg (by rw [hp]; simp)]
    | cons s r ih =>
      intro pre lo hp hlo
      have hlen : pre.length + 1 ≤ l.length := by rw [hp]; simp
      have hrd : aT l (pre.length : Int) = s := by rw [hp]; exact aik _ _ _
      have h0 : ∀ k, bE.l0 (k + 1) l l (l.length : Int) (pre.length : Int) = bE.l0 (k + 1) l l (l.length : Int) (pre.length : Int) := fun _ => rfl
      have hlow : -1099511627776 ≤ lo := by rcases hlo with ⟨_, rfl⟩ | ⟨p, q, _, rfl, h, _⟩ <;> omega
      have c1 : (pre.length : Int) < (l.length : Int) := by omega
      have c2 : (0 : Int) ≤ (pre.length : Int) := by omega
      by_cases t0 : -1099511627776 ≤ s.f0 ∧ s.f0 ≤ 1099511627776
      · by_cases t1 : -1099511627776 ≤ s.f1 ∧ s.f1 ≤ 1099511627776
        · by_cases t2 : s.f0 > s.f1
          · refine Ev.step (f := fun _ => some (slB lo (s :: r))) (fun k => ?_) (Ev.now _)
            have hn : ¬ s.f0 ≤ s.f1 := by omega
            rw [bE.l0, if_pos c1, if_pos c2, if_pos c1, hrd, qW, qW]
            simp [t0, t1, t2, slB, hn]
          · have hn : s.f0 ≤ s.f1 := by omega
            rcases hlo with ⟨rfl, rfl⟩ | ⟨p, q, rfl, rfl, hq1, hq2⟩
            · have hs : slB (-1099511627776) (s :: r) = slB (s.f1 + 2) r := by simp [slB, t0, t1, hn]
              rw [hs]
              refine Ev.step (fun k => ?_) (ih [s] (s.f1 + 2) hp (.inr ⟨[], s, rfl, rfl, t1.1, t1.2⟩))
              rw [bE.l0, if_pos c1, if_pos c2, if_pos c1, hrd, qW, qW]
              have hw : wrap64 (([] : List Sp).length + 1 : Int) = (([s] : List Sp).length : Int) := by simpa using eH (n := 1) (by omega) (by omega)
              simp only [t0, t1, decide_true, Bool.and_self, Option.bind_some, if_true]
              rw [if_neg t2, if_neg (by simp), hw]
            · have hw := ail (p ++ [q]) s l.length hlen hl
              have hwp := aff p q l.length (by simp at hlen; omega) hl
              have hrq : aT l (p.length : Int) = q := by rw [hp]; simp [aT]
              have hw2 : wrap64 (q.f1 + 2) = q.f1 + 2 := eH (by omega) (by omega)
              have c3 : (p.length : Int) < (l.length : Int) := by simp at hlen; omega
              by_cases t3 : s.f0 < q.f1 + 2
              · refine Ev.step (f := fun _ => some (slB (q.f1 + 2) (s :: r))) (fun k => ?_) (Ev.now _)
                have hn3 : ¬ q.f1 + 2 ≤ s.f0 := by omega
                rw [bE.l0, if_pos c1, if_pos c2, if_pos c1, hrd, qW, qW]
                simp only [t0, t1, decide_true, Bool.and_self, Option.bind_some, if_true]
                rw [if_neg t2, if_pos (by simp), hwp, if_pos (by omega), if_pos c3, hrq, hw2, if_pos t3]
                simp [slB, hn3]
              · have hn3 : q.f1 + 2 ≤ s.f0 := by omega
                have hs : slB (q.f1 + 2) (s :: r) = slB (s.f1 + 2) r := by simp [slB, t1, hn, hn3]
                rw [hs]
                refine Ev.step (fun k => ?_) (ih (p ++ [q] ++ [s]) (s.f1 + 2) (by rw [hp]; simp) (.inr ⟨p ++ [q], s, rfl, rfl, t1.1, t1.2⟩))
                rw [bE.l0, if_pos c1, if_pos c2, if_pos c1, hrd, qW, qW]
                simp only [t0, t1, decide_true, Bool.and_self, Option.bind_some, if_true]
                rw [if_neg t2, if_pos (by simp), hwp, if_pos (by omega), if_pos c3, hrq, hw2, if_neg t3, hw]
        · refine Ev.step (f := fun _ => some (slB lo (s :: r))) (fun k => ?_) (Ev.now _)
          rw [bE.l0, if_pos c1, if_pos c2, if_pos c1, hrd, qW, qW]
          have e1 : (decide (-1099511627776 ≤ s.f1) && decide (s.f1 ≤ 1099511627776)) = false := by
            rw [Bool.eq_false_iff]; intro h; simp at h; exact t1 h
          have e2 : slB lo (s :: r) = false := by
            rw [Bool.eq_false_iff]; intro h; rw [acw] at h; obtain ⟨h1, h2, h3, _⟩ := h; exact t1 ⟨by omega, h3⟩
          rw [e1, e2]
          simp [t0]
      · refine Ev.step (f := fun _ => some (slB lo (s :: r))) (fun k => ?_) (Ev.now _)
        rw [bE.l0, if_pos c1, if_pos c2, if_pos c1, hrd, qW]
        have e1 : (decide (-1099511627776 ≤ s.f0) && decide (s.f0 ≤ 1099511627776)) = false := by
          rw [Bool.eq_false_iff]; intro h; simp at h; exact t0 h
        have e2 : slB lo (s :: r) = false := by
          rw [Bool.eq_false_iff]; intro h; rw [acw] at h; obtain ⟨h1, h2, h3, _⟩ := h; exact t0 ⟨by omega, by omega⟩
        rw [e1, e2]
        simp
  exact key l [] (-1099511627776) rfl (.inl ⟨rfl, rfl⟩)
end Go.Proofs.Ytmbmalkpmanaaaa.P
namespace Go.Proofs.Ytmbmalkpmanaaaa.P
set_option linter.unusedVariables false
set_option linter.unusedSimpArgs false
open Go.RowKit Go.Proofs.YtmbmalkpmanaaaaW.aK Go.Proofs.YtmbmalkpmanaaaaW.bM
def aHc (l : List Sp) : Bool := l.any fun s => decide (s.f0 > s.f1)
def aFx (a : Int) : Bool := decide (-1099511627776 ≤ a) && decide (a ≤ 1099511627776)
def aHr (l : List Sp) : Bool := l.any fun s => !(aFx s.f0 && aFx s.f1)
def aE2 (l : List Sp) : List Sp × Int := if aHc l then ([], 2) else if aHr l then ([], 20) else ((aEH l).foldl glue [], 0)
theorem aG0 {l : List Sp} (h1 : aHc l = false) (h2 : aHr l = false) : ∀ s ∈ l, -1099511627776 ≤ s.f0 ∧ s.f0 ≤ s.f1 ∧ s.f1 ≤ 1099511627776 := by
  intro s hs
  have a := List.any_eq_false.1 h1 s hs
  have b := List.any_eq_false.1 h2 s hs
  simp [aFx] at a b
  omega
theorem aI3 (a b : Int) : mx a b = max a b := by unfold mx; split <;> omega
theorem aIf (S : List Sp) (n : Nat) (hS : S.length ≤ 100000000) (hb : ∀ s ∈ S, -4611686018427387904 ≤ s.f1 ∧ s.f1 ≤ 4611686018427387904) :
    ∀ (rest pre out : List Sp), S = pre ++ rest → out.length ≤ pre.length → (∀ s ∈ out, -4611686018427387904 ≤ s.f1 ∧ s.f1 ≤ 4611686018427387904) → Ev (fun k => yX.l2 k out S (S.length : Int) (pre.length : Int)) (rest.foldl glue out, 0) := by
  intro rest
  induction rest with
  | nil =>
    intro pre out h hn ho
    refine Ev.step (f := fun _ => some (out, 0)) (fun k => ?_) (Ev.now _)
    rw [yX.l2, if_neg (by rw [h]; simp)]
  | cons s r ih =>
    intro pre out h hn ho
    have hlen : pre.length + 1 ≤ S.length := by rw [h]; simp
    have hrd : aT S (pre.length : Int) = s := by rw [h]; exact aik _ _ _
    have hw := ail pre s S.length hlen (by omega)
    have c1 : (pre.length : Int) < (S.length : Int) := by omega
    have c2 : (0 : Int) ≤ (pre.length : Int) := by omega
    have c3 : out.length < 8796093022208 := by omega
    have h2 : S = (pre ++ [s]) ++ r := by rw [h]; simp
    have hs := hb s (by rw [h]; simp)
    have hg : ∀ t ∈ glue out s, -4611686018427387904 ≤ t.f1 ∧ t.f1 ≤ 4611686018427387904 := by
      intro t ht
      rcases List.eq_nil_or_concat out with rfl | ⟨o, z, rfl⟩
      · rw [aFX] at ht; simp at ht; subst ht; exact hs
      · rw [List.concat_eq_append] at *
        rw [aFm] at ht
        have hz := ho z (by simp)
        split at ht
        · simp at ht
          rcases ht with ht | rfl
          · exact ho t (by simp [ht])
          · show _ ≤ max z.f1 s.f1 ∧ max z.f1 s.f1 ≤ _; omega
        · simp at ht
          rcases ht with ht | rfl | rfl
          · exact ho t (by simp [ht])
          · exact hz
          · exact hs
    refine Ev.step (fun k => ?_) (ih (pre ++ [s]) (glue out s) h2 (by have := aGq out s; simp; omega) hg)
    rw [yX.l2, if_pos c1, if_pos c2, if_pos c1, hrd]
    rcases List.eq_nil_or_concat out with rfl | ⟨o, z, rfl⟩
    · have hwm : wrap64 ((([] : List Sp).length : Int) - 1) = -1 := by simpa using eH (n := -1) (by omega) (by omega)
      rw [hwm, if_neg (by omega), if_pos c3, hw]
      rfl
    · rw [List.concat_eq_append] at *
      have hwp := aff o z (o.length + 1) (Nat.le_refl _) (by simp at c3; omega)
      have hz : aT (o ++ [z]) (o.length : Int) = z := aik _ _ _
      have hzb := ho z (by simp)
      have hz1 : wrap64 (z.f1 + 1) = z.f1 + 1 := eH (by omega) (by omega)
      rw [hwp, if_pos (by omega), if_pos (by omega), if_pos (by simp only [List.length_append, List.length_singleton]; omega), hz, hz1, aFm]
      by_cases e : s.f0 ≤ z.f1 + 1
      · rw [if_pos e, if_pos e, hw, aI3]
        congr 1
        simp
      · rw [if_neg e, if_neg e, if_pos c3, hw]
theorem aG1 (l : List Sp) (hl : l.length ≤ 100000000) : Ev (fun k => yX.f k l) (aE2 l) := by
  have k1 : aHc l = false → ∀ (rest pre : List Sp), l = pre ++ rest → aHr pre = false → Ev (fun k => yX.l1 k l l (l.length : Int) (pre.length : Int)) (aE2 l) := by
    intro hA rest
    induction rest with
    | nil =>
      intro pre h hB
      have hlp : l = pre := by rw [h]; simp
      rw [← hlp] at hB
      have hms : aE2 l = ((aEH l).foldl glue [], 0) := by simp [aE2, hA, hB]
      rw [hms]
      have hgood := aG0 hA hB
      have hg := aIf (aEH l) l.length (by rw [aEM]; exact hl) (fun s hs => by have := hgood s ((aE1 l).mem_iff.1 hs); omega) (aEH l) [] [] rfl (by simp) (by simp)
      rw [aEM] at hg
      refine Ev.step (fun k => ?_) hg
      rw [yX.l1, if_neg (by rw [h]; simp)]
      simp only [aE4.f, aFo.f]
      rw [if_pos (by unfold many; omega)]
      simp only [Option.bind_some]
      rw [if_pos (by unfold many; omega)]
      rfl
    | cons s r ih =>
      intro pre h hB
      have hlen : pre.length + 1 ≤ l.length := by rw [h]; simp
      have hrd : aT l (pre.length : Int) = s := by rw [h]; exact aik _ _ _
      have hw := ail pre s l.length hlen (by omega)
      have c1 : (pre.length : Int) < (l.length : Int) := by omega
      have c2 : (0 : Int) ≤ (pre.length : Int) := by omega
      have bad : (aFx s.f0 && aFx s.f1) = false → aE2 l = ([], 20) := by
        intro hb
        have : aHr l = true := by rw [h]; simp only [aHr, List.any_append, List.any_cons, hb]; simp
        simp [aE2, hA, this]
      by_cases t0 : aFx s.f0 = true
      · by_cases t1 : aFx s.f1 = true
        · refine Ev.step (fun k => ?_) (ih (pre ++ [s]) (by rw [h]; simp) (by simp only [aHr, List.any_append, List.any_cons, List.any_nil, t0, t1] at hB ⊢; simpa using hB))
          rw [yX.l1, if_pos c1, if_pos c2, if_pos c1, hrd, qW, qW]
          unfold aFx at t0 t1
          simp only [t0, t1, Option.bind_some, if_true, hw]
        · have t1' : aFx s.f1 = false := by simpa using t1
          rw [bad (by simp [t1'])]
          refine Ev.step (f := fun _ => some ([], 20)) (fun k => ?_) (Ev.now _)
          rw [yX.l1, if_pos c1, if_pos c2, if_pos c1, hrd, qW, qW]
          unfold aFx at t0 t1'
          simp [t0, t1']
      · have t0' : aFx s.f0 = false := by simpa using t0
        rw [bad (by simp [t0'])]
        refine Ev.step (f := fun _ => some ([], 20)) (fun k => ?_) (Ev.now _)
        rw [yX.l1, if_pos c1, if_pos c2, if_pos c1, hrd, qW]
        unfold aFx at t0'
        simp [t0']
  have k0 : ∀ (rest pre : List Sp), l = pre ++ rest → aHc pre = false → Ev (fun k => yX.l0 k l l (l.length : Int) (pre.length : Int)) (aE2 l) := by
    intro rest
    induction rest with
    | nil =>
      intro pre h hA
      have hlp : l = pre := by rw [h]; simp
      rw [← hlp] at hA
      refine Ev.step (fun k => ?_) (k1 hA l [] rfl rfl)
      rw [yX.l0, if_neg (by rw [h]; simp)]
      rfl
    | cons s r ih =>
      intro pre h hA
      have hlen : pre.length + 1 ≤ l.length := by rw [h]; simp
      have hrd : aT l (pre.length : Int) = s := by rw [h]; exact aik _ _ _
      have hw := ail pre s l.length hlen (by omega)
      have c1 : (pre.length : Int) < (l.length : Int) := by omega
      have c2 : (0 : Int) ≤ (pre.length : Int) := by omega
      by_cases e : s.f0 > s.f1
      · have : aHc l = true := by rw [h]; simp [aHc]; exact .inr (.inl e)
        have hms : aE2 l = ([], 2) := by simp [aE2, this]
        rw [hms]
        refine Ev.step (f := fun _ => some ([], 2)) (fun k => ?_) (Ev.now _)
        rw [yX.l0, if_pos c1, if_pos c2, if_pos c1, hrd, if_pos e]
      · refine Ev.step (fun k => ?_) (ih (pre ++ [s]) (by rw [h]; simp) (by have e2 : s.f0 ≤ s.f1 := by omega
                                                                            simp only [aHc, List.any_append, List.any_cons, List.any_nil] at hA ⊢; simp [hA, e2]))
        rw [yX.l0, if_pos c1, if_pos c2, if_pos c1, hrd, if_neg e, hw]
  exact k0 l [] rfl rfl
theorem aFN (l : List Sp) : SL (-1099511627776) 1099511627776 (aE2 l).1 ∧ ((aE2 l).2 = 0 → ∀ x, qE (aE2 l).1 x = qE l x) := by
  unfold aE2
  by_cases hA : aHc l = true
  · rw [if_pos hA]; exact ⟨trivial, fun h => by simp at h⟩
  · rw [if_neg hA]
    have hA' : aHc l = false := by simpa using hA
    by_cases hB : aHr l = true
    · rw [if_pos hB]; exact ⟨trivial, fun h => by simp at h⟩
    · rw [if_neg hB]
      have hB' : aHr l = false := by simpa using hB
      have hgood := aG0 hA' hB'
      obtain ⟨h1, h2⟩ := aF2 (lo := -1099511627776) (hi := 1099511627776) (aEH l) [] trivial (fun s hs => hgood s ((aE1 l).mem_iff.1 hs)) (by simp) (aFP l)
      exact ⟨h1, fun _ x => by rw [h2, aGZ (aE1 l)]; simp [aai]⟩
end Go.Proofs.Ytmbmalkpmanaaaa.P
namespace Go.Proofs.Ytmbmalkpmanaaaa.P
set_option linter.unusedVariables false
set_option linter.unusedSimpArgs false
open Go.RowKit Go.Proofs.YtmbmalkpmanaaaaW.aK
theorem Ev.yes {α : Type} {c : Prop} [Decidable c] {g f : Nat → Option α} {r : α} (h : c) (k : Ev g r) : Ev (fun n => if c then g n else f n) r := Ev.congr (fun n => if_pos h) k
theorem Ev.no {α : Type} {c : Prop} [Decidable c] {g f : Nat → Option α} {r : α} (h : ¬ c) (k : Ev f r) : Ev (fun n => if c then g n else f n) r := Ev.congr (fun n => if_neg h) k
theorem Ev.val {α : Type} {g : Option α} {r : α} (h : g = some r) : Ev (fun _ => g) r := ⟨0, fun _ _ => h⟩
theorem SL.len2 {hi : Int} : ∀ {l : List Sp} {lo : Int}, lo ≤ hi + 2 → SL lo hi l → 2 * (l.length : Int) ≤ hi + 2 - lo
  | [], lo, h, _ => by simp; omega
  | s :: r, lo, h, hs => by
    obtain ⟨h1, h2, h3, h4⟩ := hs
    have := SL.len2 (by omega) h4
    simp only [List.length_cons]; omega
theorem SL.aub {l : List Sp} (h : SL (-1099511627776) 1099511627776 l) : l.length ≤ 2199023255552 := by have := SL.len2 (by omega) h; omega
def ali (l : List Sp) : Int × Int × Bool :=
  match l.head?, l.getLast? with
  | some s, some z => (s.f0, z.f1, true)
  | _, _ => (0, 0, false)
def nG (a b : List Sp) : Bool :=
  match a.getLast?, b.head? with
  | some z, some s => decide (z.f1 < s.f0)
  | _, _ => true
theorem alj (p : List Sp) (z : Sp) (h : (p ++ [z]).length ≤ 4611686018427387904) : wrap64 (((p ++ [z]).length : Int) - 1) = (p.length : Int) ∧ aT (p ++ [z]) (p.length : Int) = z := by
  refine ⟨aff p z _ (by simp) (by omega : (p ++ [z]).length ≤ 9223372036854775807), aik p [] z⟩
theorem tN (l : List Sp) (h : l.length ≤ 4611686018427387904) : eD.f l = some (ali l) := by
  rcases List.eq_nil_or_concat l with rfl | ⟨p, z, rfl⟩
  · simp [eD.f, ali]
  · have e : p.concat z = p ++ [z] := by simp
    rw [e] at h ⊢
    obtain ⟨w, r⟩ := alj p z h
    unfold eD.f
    rw [if_neg (by simp only [List.length_append, List.length_singleton]; omega), if_pos (by simp only [List.length_append, List.length_singleton]; omega), w, if_pos (by omega), if_pos (by simp only [List.length_append, List.length_singleton]; omega), r]
    have hg : (p ++ [z]).getLast? = some z := by simp
    unfold ali; rw [hg]
    cases p <;> simp [aT]
theorem ahk (a b : List Sp) (h : a.length ≤ 4611686018427387904) : dF.f a b = some (nG a b) := by
  rcases List.eq_nil_or_concat a with rfl | ⟨p, z, rfl⟩
  · simp [dF.f, nG]
  · have e : p.concat z = p ++ [z] := by simp
    rw [e] at h ⊢
    obtain ⟨w, r⟩ := alj p z h
    unfold dF.f
    rw [if_neg (by simp only [List.length_append, List.length_singleton]; omega)]
    cases b with
    | nil => simp [nG]
    | cons s q =>
      rw [if_neg (by simp; omega), w, if_pos (by omega), if_pos (by simp only [List.length_append, List.length_singleton]; omega), if_pos (by simp), r]
      simp [nG, aT]
theorem an2 (lo hi : Nat) (h : hi ≤ 4611686018427387903) (hl : lo ≤ hi) : wrap64 ((IntKind.u64.wrap (wrap64 ((lo : Int) + (hi : Int)))) / 2) = (((lo + hi) / 2 : Nat) : Int) := by
  rw [eH (n := (lo : Int) + hi) (by omega) (by omega)]
  have : IntKind.u64.wrap ((lo : Int) + hi) = (lo : Int) + hi := by
    simp only [IntKind.wrap, IntKind.bits, IntKind.signed]
    simp
    omega
  rw [this, eH (by omega) (by omega)]
  omega
theorem aFD : ∀ (l out : List Sp), (l.foldl glue out).length ≤ out.length + l.length
  | [], out => by simp
  | s :: r, out => by
    have h1 := aFD r (glue out s)
    have h2 := aGq out s
    simp only [List.foldl_cons, List.length_cons]; omega
theorem aF3 (l : List Sp) : (aE2 l).1.length ≤ l.length := by
  unfold aE2
  split
  · simp
  · split
    · simp
    · have := aFD (aEH l) []
      rw [aEM] at this; simpa using this
theorem arq (yes : Bool → Bool → Bool) (hy : yes false false = false) {a b : List Sp} (ha : SL (-1099511627776) 1099511627776 a) (hb : SL (-1099511627776) 1099511627776 b) :
    SL (-1099511627776) 1099511627776 (yh yes a b) ∧ ∀ x, qE (yh yes a b) x = yes (qE a x) (qE b x) := aaM yes hy (by omega) (by omega) ha hb
theorem SL.front {lo hi : Int} {p r : List Sp} (h : SL lo hi (p ++ r)) : SL lo hi p := by
  induction p generalizing lo with
  | nil => trivial
  | cons s p ih => exact ⟨h.1, h.2.1, h.2.2.1, ih h.2.2.2⟩
theorem aGr (yes : Bool → Bool → Bool) (a b : List Sp) : (yh yes a b).length ≤ 2 * a.length + 2 * b.length := by
  have h1 := ajv yes (uH a false b false)
  have h2 := ajt _ a false b false (Nat.le_refl _)
  unfold yh
  have h3 : msr a false + msr b false ≤ 2 * a.length + 2 * b.length := by unfold msr; simp
  omega
theorem aIg (a b : List Sp) (h : a.length + b.length ≤ 1000000) : aEE.f a b = some (yh (fun a b => a || b) a b) := by unfold aEE.f; rw [if_pos (by unfold many; omega)]
theorem azF (a b : List Sp) (h : a.length + b.length ≤ 1000000) : mQ.f a b = some (yh (fun a b => a && b) a b) := by unfold mQ.f; rw [if_pos (by unfold many; omega)]
theorem ars (a b : List Sp) (h : a.length + b.length ≤ 1000000) : oO.f a b = some (decide ((yh (fun a b => a && b) a b) ≠ [])) := by
  unfold oO.f; rw [azF a b h, Option.bind_some]
  cases yh (fun a b => a && b) a b with
  | nil => rfl
  | cons x r => simp
def qX (n : Int) (s : Sp) : Sp := ⟨s.f0 + n, s.f1 + n⟩
def okT (x : Int) : Bool := decide (-1099511627776 ≤ x) && decide (x ≤ 1099511627776)
def okM (n : Int) (s : Sp) : Bool := okT (s.f0 + n) && okT (s.f1 + n)
def acy (n : Int) (l : List Sp) : List Sp × Int := if l.all (okM n) then (l.map (qX n), 0) else ([], 20)
theorem uE (a n : Int) (h1 : -9223372036854775808 ≤ a + n) (h2 : a + n ≤ 9223372036854775807) : kS.f a n = some (a + n, 0) := by
  unfold kS.f
  rw [eH h1 h2]
  have e : ((decide ((a + n) > a)) != (decide (n > 0))) = false := by
    by_cases h : n > 0
    · have : a < a + n := by omega
      simp [h, this]
    · have : a + n ≤ a := by omega
      simp [h, this]
  rw [e]; rfl
theorem add_not (a n : Int) (ha : -1099511627776 ≤ a ∧ a ≤ 1099511627776) (hn : -9223372036854775808 ≤ n ∧ n ≤ 9223372036854775807) (h : ¬ (-9223372036854775808 ≤ a + n ∧ a + n ≤ 9223372036854775807)) : kS.f a n = some (0, 10) := by
  unfold kS.f
  have e : ((decide (wrap64 (a + n) > a)) != (decide (n > 0))) = true := by
    by_cases g : n > 0
    · have : ¬ wrap64 (a + n) > a := by unfold wrap64; omega
      simp [g, this]
    · have : wrap64 (a + n) > a := by unfold wrap64; omega
      simp [g, this]
  rw [e, if_pos rfl, if_neg (by omega)]
theorem aru (l : List Sp) (n : Int) (hs : SL (-1099511627776) 1099511627776 l) (hn : -9223372036854775808 ≤ n ∧ n ≤ 9223372036854775807) : Ev (fun k => eU.f k l n) (acy n l) := by
  have hl := SL.aub hs
  have key : ∀ (rest pre : List Sp), l = pre ++ rest → pre.all (okM n) = true → Ev (fun k => eU.l0 k n (pre.map (qX n)) l (l.length : Int) (pre.length : Int)) (acy n l) := by
    intro rest
    induction rest with
    | nil =>
      intro pre hp hok
      have e : l = pre := by rw [hp]; simp
      refine Ev.step (f := fun _ => some (pre.map (qX n), 0)) (fun k => ?_) ?_
      · rw [eU.l0, if_neg (by rw [hp]; simp)]
      · rw [e]; unfold acy; rw [if_pos hok]; exact Ev.now _
    | cons s r ih =>
      intro pre hp hok
      have hlen : pre.length + 1 ≤ l.length := by rw [hp]; simp
      have hrd : aT l (pre.length : Int) = s := by rw [hp]; exact aik _ _ _
      have hw := ail pre s l.length hlen (by omega)
      have c1 : (pre.length : Int) < (l.length : Int) := by omega
      have c2 : (0 : Int) ≤ (pre.length : Int) := by omega
      have c3 : (pre.map (qX n)).length < 8796093022208 := by rw [List.length_map]; omega
      have ht := SL.ticks hs (s := s) (by rw [hp]; simp)
      have bad : okM n s = false → acy n l = ([], 20) := fun h => by
        unfold acy; rw [if_neg (by rw [hp, List.all_append, List.all_cons, h]; simp)]
      by_cases g0 : -9223372036854775808 ≤ s.f0 + n ∧ s.f0 + n ≤ 9223372036854775807
      · by_cases g1 : -9223372036854775808 ≤ s.f1 + n ∧ s.f1 + n ≤ 9223372036854775807
        · by_cases t0 : okT (s.f0 + n) = true
          · by_cases t1 : okT (s.f1 + n) = true
            · refine Ev.step (fun k => ?_) (ih (pre ++ [s]) (by rw [hp]; simp) (by rw [List.all_append, hok]; simp [okM, t0, t1]))
              rw [eU.l0, if_pos c1, if_pos c2, if_pos c1, hrd, uE _ _ g0.1 g0.2, uE _ _ g1.1 g1.2, Option.bind_some, Option.bind_some, if_pos rfl, if_pos rfl, qW, qW]
              unfold okT at t0 t1
              rw [Option.bind_some, if_pos t0, Option.bind_some, if_pos t1, if_pos c3, hw, List.map_append]
              rfl
            · have t1' : okT (s.f1 + n) = false := by simpa using t1
              rw [bad (by simp [okM, t1'])]
              refine Ev.step (f := fun _ => some ([], 20)) (fun k => ?_) (Ev.now _)
              rw [eU.l0, if_pos c1, if_pos c2, if_pos c1, hrd, uE _ _ g0.1 g0.2, uE _ _ g1.1 g1.2, Option.bind_some, Option.bind_some, if_pos rfl, if_pos rfl, qW, qW]
              unfold okT at t0 t1
              rw [Option.bind_some, if_pos t0, Option.bind_some, if_neg t1]
          · have t0' : okT (s.f0 + n) = false := by simpa using t0
            rw [bad (by simp [okM, t0'])]
            refine Ev.step (f := fun _ => some ([], 20)) (fun k => ?_) (Ev.now _)
            rw [eU.l0, if_pos c1, if_pos c2, if_pos c1, hrd, uE _ _ g0.1 g0.2, uE _ _ g1.1 g1.2, Option.bind_some, Option.bind_some, if_pos rfl, if_pos rfl, qW]
            unfold okT at t0
            rw [Option.bind_some, if_neg t0]
        · have : okT (s.f1 + n) = false := by unfold okT; simp; omega
          rw [bad (by simp [okM, this])]
          refine Ev.step (f := fun _ => some ([], 20)) (fun k => ?_) (Ev.now _)
          rw [eU.l0, if_pos c1, if_pos c2, if_pos c1, hrd, uE _ _ g0.1 g0.2, add_not _ _ (by omega) hn g1, Option.bind_some, Option.bind_some, if_pos rfl, if_neg (by simp)]
      · have : okT (s.f0 + n) = false := by unfold okT; simp; omega
        rw [bad (by simp [okM, this])]
        refine Ev.step (f := fun _ => some ([], 20)) (fun k => ?_) (Ev.now _)
        by_cases g1 : -9223372036854775808 ≤ s.f1 + n ∧ s.f1 + n ≤ 9223372036854775807
        · rw [eU.l0, if_pos c1, if_pos c2, if_pos c1, hrd, add_not _ _ (by omega) hn g0, uE _ _ g1.1 g1.2, Option.bind_some, Option.bind_some, if_neg (by simp)]
        · rw [eU.l0, if_pos c1, if_pos c2, if_pos c1, hrd, add_not _ _ (by omega) hn g0, add_not _ _ (by omega) hn g1, Option.bind_some, Option.bind_some, if_neg (by simp)]
  have := key l [] rfl rfl
  exact this
theorem arv {x : Int} : okT x = true ↔ -1099511627776 ≤ x ∧ x ≤ 1099511627776 := by simp [okT]
theorem aln {n : Int} {s : Sp} : okM n s = true ↔ (-1099511627776 ≤ s.f0 + n ∧ s.f0 + n ≤ 1099511627776) ∧ (-1099511627776 ≤ s.f1 + n ∧ s.f1 + n ≤ 1099511627776) := by simp [okM, arv]
theorem SL.shift {lo hi : Int} (n : Int) : ∀ {l : List Sp} {lo : Int}, SL lo hi l → SL (lo + n) (hi + n) (l.map (qX n))
  | [], _, _ => trivial
  | s :: r, lo, h => by
    obtain ⟨h1, h2, h3, h4⟩ := h
    refine ⟨by simp only [qX]; omega, by simp only [qX]; omega, by simp only [qX]; omega, ?_⟩
    have := SL.shift (lo := lo) n h4
    have e : (qX n s).f1 + 2 = s.f1 + 2 + n := by simp only [qX]; omega
    rw [e]; exact this
theorem SL.within {lo' hi' hi : Int} : ∀ {l : List Sp} {lo : Int}, SL lo hi l → (∀ s ∈ l, lo' ≤ s.f0 ∧ s.f1 ≤ hi') → SL lo' hi' l
  | [], _, _, _ => trivial
  | s :: r, lo, h, hb => by
    obtain ⟨h1, h2, h3, h4⟩ := h
    refine ⟨(hb s (by simp)).1, h2, (hb s (by simp)).2, ?_⟩
    refine SL.within h4 (fun t ht => ⟨?_, (hb t (by simp [ht])).2⟩)
    exact (SL.ticks h4 ht).1
theorem SL.moved {n : Int} {l : List Sp} (h : SL (-1099511627776) 1099511627776 l) (ho : l.all (okM n) = true) : SL (-1099511627776) 1099511627776 (l.map (qX n)) := by
  refine SL.within (SL.shift (lo := 0) n h) (fun s hs => ?_)
  obtain ⟨t, ht, rfl⟩ := List.mem_map.1 hs
  have := aln.1 (List.all_eq_true.1 ho t ht)
  simp only [qX]; omega
end Go.Proofs.Ytmbmalkpmanaaaa.P
namespace Go.Proofs.Ytmbmalkpmanaaaa.P
set_option linter.unusedVariables false
set_option linter.unusedSimpArgs false
open Go.RowKit
abbrev Gn := S70
def qF : List Sp → Int
  | [] => 0
  | s :: _ => s.f0
def qH : List Sp → Int
  | [] => 0
  | [s] => s.f1
  | _ :: t :: r => qH (t :: r)
theorem alo (l : List Sp) (s : Sp) : qH (l ++ [s]) = s.f1 := by
  induction l with
  | nil => rfl
  | cons a r ih => cases r with
    | nil => rfl
    | cons b r => exact ih
theorem SL.ends {lo hi : Int} : ∀ {l : List Sp}, SL lo hi l → l ≠ [] → lo ≤ qF l ∧ qF l ≤ qH l ∧ qH l ≤ hi
  | [], _, h => absurd rfl h
  | [s], ⟨a, b, c, _⟩, _ => ⟨a, b, c⟩
  | s :: t :: r, ⟨a, b, c, d⟩, _ => by
    obtain ⟨e1, e2, e3⟩ := SL.ends d (by simp)
    simp only [qF, qH] at *
    exact ⟨a, by omega, e3⟩
theorem SL.between {lo hi : Int} {l : List Sp} (h : SL lo hi l) {s : Sp} (hs : s ∈ l) : qF l ≤ s.f0 ∧ s.f1 ≤ qH l := by
  induction l generalizing lo with
  | nil => simp at hs
  | cons a r ih =>
    obtain ⟨h1, h2, h3, h4⟩ := h
    cases r with
    | nil => simp at hs; subst hs; exact ⟨Int.le_refl _, Int.le_refl _⟩
    | cons b r =>
      have e := h4.ends (by simp)
      rcases List.mem_cons.1 hs with rfl | hs
      · simp only [qF, qH] at *; omega
      · have := ih h4 hs; simp only [qF, qH] at *; omega
theorem SL.ahl {lo hi : Int} {l : List Sp} (h : SL lo hi l) {x : Int} (hx : qE l x = true) : qF l ≤ x ∧ x ≤ qH l := by
  obtain ⟨s, hs, h1, h2⟩ := aaj.1 hx
  have := h.between hs
  omega
theorem ade (n : Int) (l : List Sp) (h : l ≠ []) : qF (l.map (qX n)) = qF l + n := by
  cases l with
  | nil => exact absurd rfl h
  | cons s r => rfl
theorem aaN (n : Int) : ∀ (l : List Sp), l ≠ [] → qH (l.map (qX n)) = qH l + n
  | [], h => absurd rfl h
  | [s], _ => rfl
  | s :: t :: r, _ => aaN n (t :: r) (by simp)
theorem SL.aak {n : Int} {l : List Sp} (h : SL (-1099511627776) 1099511627776 l) (hn : l ≠ []) : l.all (okM n) = true ↔ (-1099511627776 ≤ qF l + n ∧ qH l + n ≤ 1099511627776) := by
  constructor
  · intro ha
    have hm := h.moved ha
    have := hm.ends (by simpa using hn)
    rw [ade n l hn, aaN n l hn] at this
    exact ⟨this.1, this.2.2⟩
  · intro ⟨h1, h2⟩
    rw [List.all_eq_true]
    intro s hs
    have := h.between hs
    have := h.ticks hs
    rw [aln]; omega
def lW : List Gn → Int → Option (List Sp)
  | [], _ => none
  | g :: r, i => if g.f0 = i then some g.f1 else lW r i
theorem vk {odd : List Gn} {i : Int} {l : List Sp} (h : lW odd i = some l) : ∃ g ∈ odd, g.f0 = i ∧ g.f1 = l := by
  induction odd with
  | nil => cases h
  | cons g r ih =>
    simp only [lW] at h
    split at h
    · cases h; exact ⟨g, by simp, ‹_›, rfl⟩
    · obtain ⟨g', h1, h2⟩ := ih h; exact ⟨g', by simp [h1], h2⟩
theorem xZ {odd : List Gn} {i : Int} : lW odd i = none ↔ ∀ g ∈ odd, g.f0 ≠ i := by
  induction odd with
  | nil => simp [lW]
  | cons g r ih =>
    simp only [lW, List.mem_cons, forall_eq_or_imp]
    by_cases h : g.f0 = i
    · simp [h]
    · simp [h, ih]
theorem acz {odd : List Gn} (hu : odd.Pairwise (fun a b => a.f0 < b.f0)) {g : Gn} (hg : g ∈ odd) : lW odd g.f0 = some g.f1 := by
  induction odd with
  | nil => simp at hg
  | cons a r ih =>
    obtain ⟨h1, h2⟩ := List.pairwise_cons.1 hu
    simp only [lW]
    rcases List.mem_cons.1 hg with rfl | hg
    · rw [if_pos rfl]
    · have := h1 g hg; rw [if_neg (by omega)]; exact ih h2 hg
def gG (c : Int) (core : List (List Sp)) (i : Int) : List Sp := if c = 0 then [] else core.getD (i % c).toNat []
def fs (c : Int) (core : List (List Sp)) (odd : List Gn) (i : Int) : List Sp := match lW odd i with | some l => l | none => gG c core i
def fb (p c : Int) (odd : List Gn) (i : Int) : Int := match lW odd i with | some _ => 0 | none => i / c * p
def gLo (p c : Int) (core : List (List Sp)) (odd : List Gn) (i : Int) : Int := qF (fs c core odd i) + fb p c odd i
def gHi (p c : Int) (core : List (List Sp)) (odd : List Gn) (i : Int) : Int := qH (fs c core odd i) + fb p c odd i
def inR (i : Int) : Prop := -1099511627776 ≤ i ∧ i ≤ 1099511627776
instance (i : Int) : Decidable (inR i) := by unfold inR; exact inferInstance
structure SF (p c : Int) (core : List (List Sp)) (odd : List Gn) : Prop where
  hc : c = core.length
  hp0 : 0 ≤ p
  hp1 : p ≤ 1099511627776
  hz : c = 0 ↔ p = 0
  hcore : ∀ l ∈ core, SL (-1099511627776) 1099511627776 l
  hodd : ∀ g ∈ odd, SL (-1099511627776) 1099511627776 g.f1
  hidx : ∀ g ∈ odd, inR g.f0
  hup : odd.Pairwise (fun a b => a.f0 < b.f0)
  hl : core.length ≤ 6000
  hlo : odd.length ≤ 6000
structure TF (p : Int) (core : List (List Sp)) : Prop where
  ta : core.Pairwise (fun a b => a ≠ [] → b ≠ [] → qH a < qF b)
  tb : ∀ a ∈ core, ∀ b ∈ core, a ≠ [] → b ≠ [] → qH a < qF b + p
variable {p c : Int} {core : List (List Sp)} {odd : List Gn}
theorem SF.tO (h : SF p c core odd) : SF p c core [] := ⟨h.hc, h.hp0, h.hp1, h.hz, h.hcore, by simp, by simp, List.Pairwise.nil, h.hl, by simp⟩
theorem SF.yc (h : SF p c core odd) (i : Int) (hc : c ≠ 0) : gG c core i ∈ core := by
  have h0 := h.hc
  have h1 : 0 ≤ i % c := Int.emod_nonneg _ hc
  have h2 : i % c < c := Int.emod_lt_of_pos _ (by omega)
  have h3 : (i % c).toNat < core.length := by omega
  unfold gG
  rw [if_neg hc, List.getD_eq_getElem?_getD, List.getElem?_eq_getElem h3]
  exact List.getElem_mem h3
theorem SF.alp (h : SF p c core odd) (i : Int) : SL (-1099511627776) 1099511627776 (gG c core i) := by
  by_cases hc : c = 0
  · unfold gG; rw [if_pos hc]; trivial
  · exact h.hcore _ (h.yc i hc)
theorem SF.ahm (h : SF p c core odd) (i : Int) : SL (-1099511627776) 1099511627776 (fs c core odd i) := by
  unfold fs
  cases ho : lW odd i with
  | none => exact h.alp i
  | some l => obtain ⟨g, hg, _, rfl⟩ := vk ho; exact h.hodd g hg
theorem SF.pV (h : SF p c core odd) {i : Int} (hn : fs c core odd i ≠ []) : gLo p c core odd i ≤ gHi p c core odd i := by
  have := (h.ahm i).ends hn
  unfold gLo gHi; omega
theorem ain (h : SF p c core odd) (t : TF p core) {i k : Int} (hik : i < k) (hi : gG c core i ≠ []) (hk : gG c core k ≠ []) : qH (gG c core i) + i / c * p < qF (gG c core k) + k / c * p := by
  have hc : c ≠ 0 := by intro e; apply hi; unfold gG; rw [if_pos e]
  have h0 := h.hc
  have hcp : 0 < c := by omega
  have mi := h.yc i hc
  have mk := h.yc k hc
  have i1 : 0 ≤ i % c := Int.emod_nonneg _ hc
  have i2 : i % c < c := Int.emod_lt_of_pos _ hcp
  have k1 : 0 ≤ k % c := Int.emod_nonneg _ hc
  have k2 : k % c < c := Int.emod_lt_of_pos _ hcp
  have ei := Int.mul_ediv_add_emod i c
  have ek := Int.mul_ediv_add_emod k c
  rcases Int.lt_trichotomy (i / c) (k / c) with hq | hq | hq
  · have hb := t.tb _ mi _ mk hi hk
    have : i / c * p + p ≤ k / c * p := by
      have h1 : (i / c + 1) * p ≤ (k / c) * p := Int.mul_le_mul_of_nonneg_right (by omega) h.hp0
      rw [Int.add_mul, Int.one_mul] at h1; exact h1
    omega
  · rw [hq] at ei ⊢
    have hr : i % c < k % c := by omega
    have hlt : (i % c).toNat < (k % c).toNat := by omega
    have hkl : (k % c).toNat < core.length := by omega
    have hil : (i % c).toNat < core.length := by omega
    have e1 : gG c core i = core[(i % c).toNat] := by unfold gG; rw [if_neg hc, List.getD_eq_getElem?_getD, List.getElem?_eq_getElem hil]; rfl
    have e2 : gG c core k = core[(k % c).toNat] := by unfold gG; rw [if_neg hc, List.getD_eq_getElem?_getD, List.getElem?_eq_getElem hkl]; rfl
    have := List.pairwise_iff_getElem.1 t.ta _ _ hil hkl hlt (by rw [← e1]; exact hi) (by rw [← e2]; exact hk)
    rw [← e1, ← e2] at this
    omega
  · exfalso
    have h1 : c * (k / c) + c ≤ c * (i / c) := by
      have : c * (k / c + 1) ≤ c * (i / c) := Int.mul_le_mul_of_nonneg_left (by omega) (by omega)
      rw [Int.mul_add, Int.mul_one] at this; exact this
    omega
def gap (c : Int) (core : List (List Sp)) (odd : List Gn) (i k : Int) : Prop := ∀ m, i < m → m < k → fs c core odd m = []
structure BF (p c : Int) (core : List (List Sp)) (odd : List Gn) : Prop where
  up : ∀ g ∈ odd, g.f1 ≠ [] → ∀ k, g.f0 < k → inR k → fs c core odd k ≠ [] → gap c core odd g.f0 k → gHi p c core odd g.f0 < gLo p c core odd k
  dn : ∀ g ∈ odd, g.f1 ≠ [] → ∀ k, k < g.f0 → inR k → fs c core odd k ≠ [] → gap c core odd k g.f0 → gHi p c core odd k < gLo p c core odd g.f0
theorem anj (h : SF p c core odd) (t : TF p core) (b : BF p c core odd) : ∀ (n : Nat) (i k : Int), (k - i).toNat ≤ n → i < k → inR i → inR k → fs c core odd i ≠ [] → fs c core odd k ≠ [] → gHi p c core odd i < gLo p c core odd k := by
  intro n
  induction n with
  | zero => intro i k hn hik; omega
  | succ n ih =>
    intro i k hn hik ri rk hi hk
    by_cases hg : gap c core odd i k
    · cases hoi : lW odd i with
      | some l =>
        obtain ⟨g, hg1, rfl, rfl⟩ := vk hoi
        exact b.up g hg1 (by unfold fs at hi; rw [hoi] at hi; exact hi) k hik rk hk hg
      | none =>
        cases hok : lW odd k with
        | some l =>
          obtain ⟨g, hg1, rfl, rfl⟩ := vk hok
          exact b.dn g hg1 (by unfold fs at hk; rw [hok] at hk; exact hk) i hik ri hi hg
        | none =>
          have := ain h t hik (by unfold fs at hi; rw [hoi] at hi; exact hi) (by unfold fs at hk; rw [hok] at hk; exact hk)
          unfold gHi gLo fs fb; rw [hoi, hok]; exact this
    · have : ∃ m, i < m ∧ m < k ∧ fs c core odd m ≠ [] := Classical.byContradiction fun hx => hg (fun m h1 h2 => Classical.byContradiction fun h3 => hx ⟨m, h1, h2, h3⟩)
      obtain ⟨m, h1, h2, h3⟩ := this
      unfold inR at ri rk
      have a1 := ih i m (by omega) h1 ri ⟨by omega, by omega⟩ hi h3
      have a2 := ih m k (by omega) h2 ⟨by omega, by omega⟩ rk h3 hk
      have a3 := h.pV h3
      omega
structure FOK (p c : Int) (core : List (List Sp)) (odd : List Gn) : Prop where
  s : SF p c core odd
  t : TF p core
  ord : ∀ i k, i < k → inR i → inR k → fs c core odd i ≠ [] → fs c core odd k ≠ [] → gHi p c core odd i < gLo p c core odd k
theorem FOK.of (h : SF p c core odd) (t : TF p core) (b : BF p c core odd) : FOK p c core odd := ⟨h, t, fun i k hik => anj h t b _ i k (Nat.le_refl _) hik⟩
end Go.Proofs.Ytmbmalkpmanaaaa.P
namespace Go.Proofs.Ytmbmalkpmanaaaa.P
set_option linter.unusedVariables false
set_option linter.unusedSimpArgs false
open Go.RowKit Go.Proofs.YtmbmalkpmanaaaaW.aK
variable {p c : Int} {core : List (List Sp)} {odd : List Gn}
theorem rdG (l : List Gn) (j : Nat) (hj : j < l.length) : aU l (j : Int) = l[j] := by simp [aU, hj]
theorem azG (a b : Int) : cmp_Compare_int.f a b = some (if a < b then -1 else if a > b then 1 else 0) := by
  unfold cmp_Compare_int.f
  by_cases h1 : a < b
  · rw [if_pos h1]; simp [cmp_isNaN_int.f, h1]
  · rw [if_neg h1]; by_cases h2 : a > b
    · rw [if_pos h2]; simp [cmp_isNaN_int.f, h1, h2]
    · rw [if_neg h2]; simp [cmp_isNaN_int.f, h1, h2]
theorem alq (a : Int) (l : List Sp) (b : Int) : mW.f a l b = some (if a < b then -1 else if a > b then 1 else 0) := by
  unfold mW.f; rw [azG]; rfl
structure auc (odd : List Gn) (i : Int) (r : Int × Bool) : Prop where
  low : 0 ≤ r.1
  high : r.1 ≤ odd.length
  below : ∀ j (hj : j < odd.length), (j : Int) < r.1 → odd[j].f0 < i
  above : ∀ j (hj : j < odd.length), r.1 ≤ (j : Int) → i ≤ odd[j].f0
  is : r.2 = true → ∃ (hj : r.1.toNat < odd.length), odd[r.1.toNat].f0 = i
  no : r.2 = false → lW odd i = none
theorem ahn {l : List Gn} (h : l.Pairwise (fun a b => a.f0 < b.f0)) {i j : Nat} (hj : j < l.length) (hij : i < j) : (l[i]'(by omega)).f0 < l[j].f0 := List.pairwise_iff_getElem.1 h i j (by omega) hj hij
theorem aem (h : SF p c core odd) (i : Int) : ∃ r, Ev (fun k => iH.f k p c core odd i) r ∧ auc odd i r := by
  have hn : odd.length ≤ 6000 := h.hlo
  have key : ∀ (d lo hi : Nat), hi - lo = d → lo ≤ hi → hi ≤ odd.length → (∀ j (hj : j < odd.length), j < lo → odd[j].f0 < i) → (∀ j (hj : j < odd.length), hi ≤ j → i ≤ odd[j].f0) →
      ∃ r, Ev (fun k => aD.l0 k odd i (odd.length : Int) (lo : Int) (hi : Int)) r ∧ auc odd i r := by
    intro d
    induction d using Nat.strongRecOn with
    | ind d ih =>
      intro lo hi hd hle hhn hlow hhigh
      by_cases hlt : lo < hi
      · have c1 : (lo : Int) < (hi : Int) := by omega
        have hm := an2 lo hi (by omega) hle
        have hmid : (lo + hi) / 2 < odd.length := by omega
        have hrd := rdG odd ((lo + hi) / 2) hmid
        by_cases t : odd[(lo + hi) / 2].f0 < i
        · obtain ⟨r, r1, r2⟩ := ih (hi - ((lo + hi) / 2 + 1)) (by omega) ((lo + hi) / 2 + 1) hi rfl (by omega) hhn (fun j hj h' => by
            rcases Nat.lt_or_ge j ((lo + hi) / 2) with g | g
            · have := ahn h.hup hmid g; omega
            · have : j = (lo + hi) / 2 := by omega
              subst this; exact t) hhigh
          refine ⟨r, Ev.step (fun k => ?_) r1, r2⟩
          have hw : wrap64 ((((lo + hi) / 2 : Nat) : Int) + 1) = (((lo + hi) / 2 + 1 : Nat) : Int) := by rw [eH (by omega) (by omega)]; simp
          rw [aD.l0, if_pos c1, hm, if_pos (by omega), if_pos (by omega), hrd, alq, if_pos t, Option.bind_some, if_pos (by omega), hw]
        · obtain ⟨r, r1, r2⟩ := ih ((lo + hi) / 2 - lo) (by omega) lo ((lo + hi) / 2) rfl (by omega) (by omega) hlow (fun j hj h' => by
            rcases Nat.lt_or_ge ((lo + hi) / 2) j with g | g
            · have := ahn h.hup hj g; omega
            · have : j = (lo + hi) / 2 := by omega
              subst this; omega)
          refine ⟨r, Ev.step (fun k => ?_) r1, r2⟩
          have hneg : ¬ (if odd[(lo + hi) / 2].f0 < i then (-1 : Int) else if odd[(lo + hi) / 2].f0 > i then 1 else 0) < 0 := by rw [if_neg t]; split <;> omega
          rw [aD.l0, if_pos c1, hm, if_pos (by omega), if_pos (by omega), hrd, alq, Option.bind_some, if_neg hneg]
      · have he : lo = hi := by omega
        subst he
        by_cases hlast : lo < odd.length
        · have hx := hhigh lo hlast (by omega)
          refine ⟨((lo : Int), decide (odd[lo].f0 = i)), Ev.step (f := fun _ => some ((lo : Int), decide (odd[lo].f0 = i))) (fun k => ?_) (Ev.now _), ?_⟩
          · rw [aD.l0, if_neg (by omega), if_pos (by omega), if_pos (by omega), if_pos (by omega), rdG odd lo hlast, alq, if_neg (by omega), Option.bind_some]
            by_cases g : odd[lo].f0 > i
            · have : ¬ odd[lo].f0 = i := by omega
              simp [g, this]
            · have : odd[lo].f0 = i := by omega
              simp [g, this]
          · refine ⟨by omega, by show (lo : Int) ≤ _; omega, fun j hj hl => hlow j hj (by simp only at hl; omega), fun j hj hl => hhigh j hj (by simp only at hl; omega), fun e => ⟨by simpa using hlast, by simpa using e⟩, fun e => ?_⟩
            rw [xZ]
            intro g hg
            obtain ⟨j, hj, rfl⟩ := List.getElem_of_mem hg
            have e' : ¬ odd[lo].f0 = i := by simpa using e
            rcases Nat.lt_or_ge j lo with g | g
            · have := hlow j hj g; omega
            · rcases Nat.lt_or_ge lo j with g2 | g2
              · have := ahn h.hup hj g2; omega
              · have : j = lo := by omega
                subst this; exact e'
        · refine ⟨((lo : Int), false), Ev.step (f := fun _ => some ((lo : Int), false)) (fun k => ?_) (Ev.now _), ?_⟩
          · rw [aD.l0, if_neg (by omega), if_neg (by omega)]
          · refine ⟨by omega, by show (lo : Int) ≤ _; omega, fun j hj hl => hlow j hj (by simp only at hl; omega), fun j hj hl => hhigh j hj (by simp only at hl; omega), (fun e => by cases e), fun e => ?_⟩
            rw [xZ]
            intro g hg
            obtain ⟨j, hj, rfl⟩ := List.getElem_of_mem hg
            have := hlow j hj (by omega); omega
  obtain ⟨r, r1, r2⟩ := key _ 0 odd.length rfl (by omega) (Nat.le_refl _) (fun j hj h => by omega) (fun j hj h => by omega)
  refine ⟨r, ?_, r2⟩
  refine Ev.congr (fun k => ?_) (Ev.bind (f := fun _ a => some (a.1, a.2)) r1 (Ev.now _))
  simp only [iH.f, aD.f]
  rfl
theorem iLt (a b : Int) : a < b ∨ b ≤ a := by omega
theorem aen (a b : Int) (ha : -4611686018427387904 ≤ a ∧ a ≤ 4611686018427387904) (hb : 0 < b ∧ b ≤ 4611686018427387904) : Ev (fun k => eF.f k a b) (a / b, a % b, 0) := by
  have h1 := Int.emod_nonneg a (show b ≠ 0 by omega)
  have h2 := Int.emod_lt_of_pos a hb.1
  have h3 := Int.mul_ediv_add_emod a b
  have hq : -4611686018427387904 ≤ a / b ∧ a / b ≤ 4611686018427387904 := by
    constructor
    · rcases iLt (a / b) (-4611686018427387904) with h | h
      · exfalso
        have : b * (a / b) ≤ 1 * (a / b) := Int.mul_le_mul_of_nonpos_right (by omega) (by omega)
        have e : (1 : Int) * (a / b) = a / b := Int.one_mul _
        rw [e] at this
        by_cases hb1 : b = 1
        · subst hb1; omega
        · have : b * (a / b) ≤ 2 * (a / b) := Int.mul_le_mul_of_nonpos_right (by omega) (by omega)
          omega
      · exact h
    · rcases iLt 4611686018427387904 (a / b) with h | h
      · exfalso
        have : 1 * (a / b) ≤ b * (a / b) := Int.mul_le_mul_of_nonneg_right (by omega) (by omega)
        have e : (1 : Int) * (a / b) = a / b := Int.one_mul _
        rw [e] at this
        omega
      · exact h
  refine Ev.congr (f := fun k => eF.j0 k a b false) (fun k => ?_) ?_
  · unfold eF.f; rw [if_neg (by omega), if_neg (by omega)]
  refine Ev.step (f := fun _ => some (a / b, a % b, 0)) (fun k => ?_) (Ev.now _)
  rw [eF.j0, if_neg (by simp), if_neg (by omega)]
  have ht := Int.tmod_add_mul_tdiv a b
  rcases iLt a 0 with hneg | hpos
  · -- below 0
    by_cases hz : Int.tmod a b = 0
    · rw [if_pos hz]
      have hdvd : b ∣ a := Int.dvd_of_tmod_eq_zero hz
      have e1 : a % b = 0 := Int.emod_eq_zero_of_dvd hdvd
      have e2 : Int.tdiv a b = a / b := by
        have : b * Int.tdiv a b = b * (a / b) := by rw [hz] at ht; omega
        exact Int.eq_of_mul_eq_mul_left (by omega) this
      rw [e2, hz, e1, eH (by omega) (by omega)]
    · have t1 : Int.tmod a b ≤ 0 := (by have h0 := Int.tmod_nonneg b (show 0 ≤ -a by omega); rw [Int.neg_tmod] at h0; omega)
      have t2 : -b < Int.tmod a b := by
        have := Int.lt_tmod_of_pos a hb.1; omega
      have e2 : Int.tdiv a b = a / b + 1 := by
        have k1 : b * (a / b - Int.tdiv a b) = Int.tmod a b - a % b := by rw [Int.mul_sub]; omega
        have k2 : a / b - Int.tdiv a b < 0 := by
          rcases iLt (a / b - Int.tdiv a b) 0 with g | g
          · exact g
          · have : 0 ≤ b * (a / b - Int.tdiv a b) := Int.mul_nonneg (by omega) g
            omega
        have k3 : -2 < a / b - Int.tdiv a b := by
          rcases iLt (-2) (a / b - Int.tdiv a b) with g | g
          · exact g
          · have : b * (a / b - Int.tdiv a b) ≤ b * (-2) := Int.mul_le_mul_of_nonneg_left g (by omega)
            omega
        omega
      have e1 : Int.tmod a b + b = a % b := by
        have : b * Int.tdiv a b = b * (a / b) + b := by rw [e2, Int.mul_add, Int.mul_one]
        omega
      rw [if_neg hz]
      have hx : ((decide ((Int.tmod a b) < 0)) != (decide (b < 0))) = true := by
        have a1 : Int.tmod a b < 0 := by omega
        have a2 : ¬ b < 0 := by omega
        simp [a1, a2]
      rw [if_pos hx, e2, e1, eH (n := a / b + 1) (by omega) (by omega), eH (n := a / b + 1 - 1) (by omega) (by omega), eH (n := a % b) (by omega) (by omega)]
      simp
  · have e1 : Int.tmod a b = a % b := Int.tmod_eq_emod_of_nonneg hpos
    have e2 : Int.tdiv a b = a / b := Int.tdiv_eq_ediv_of_nonneg hpos
    rw [e1, e2, eH (n := a / b) (by omega) (by omega)]
    by_cases hz : a % b = 0
    · rw [if_pos hz]
    · rw [if_neg hz]
      have hx : ¬ ((decide ((a % b) < 0)) != (decide (b < 0))) = true := by
        have a1 : ¬ a % b < 0 := by omega
        have a2 : ¬ b < 0 := by omega
        simp [a1, a2]
      rw [if_neg hx]
end Go.Proofs.Ytmbmalkpmanaaaa.P
namespace Go.Proofs.Ytmbmalkpmanaaaa.P
set_option linter.unusedVariables false
set_option linter.unusedSimpArgs false
open Go.RowKit Go.Proofs.YtmbmalkpmanaaaaW.aK
theorem wrap_u64 (n : Int) : IntKind.u64.wrap n = n % 18446744073709551616 := by simp [IntKind.wrap, IntKind.bits, IntKind.signed]
theorem wraps_u64 (n : Int) (h₀ : 0 ≤ n) (h₁ : n < 2 ^ 64) : IntKind.u64.wrap n = n := by rw [wrap_u64]; omega
theorem aho (x : Int) (h0 : 0 ≤ x) (h1 : x < 18446744073709551616) : Go.bits .and .u64 x 4294967295 = x % 4294967296 := bits_mask .u64 64 (by decide) wraps_u64 32 (by decide) x h0 h1
theorem aio (u v : Int) (hu : 0 ≤ u) (hu' : u ≤ 4294967295) (hv : 0 ≤ v) (hv' : v ≤ 4294967295) : 0 ≤ u * v ∧ u * v ≤ 18446744065119617025 := by
  refine ⟨Int.mul_nonneg hu hv, ?_⟩
  have := Int.mul_le_mul hu' hv' hv (show (0 : Int) ≤ 4294967295 by omega)
  omega
theorem arw (a b : Int) (ha : 0 ≤ a ∧ a < 18446744073709551616) (hb : 0 ≤ b ∧ b < 18446744073709551616) : bits_Mul64.f a b = some (a * b / 18446744073709551616, a * b % 18446744073709551616) := by
  obtain ⟨a1, ha1⟩ : ∃ a1, a / 4294967296 = a1 := ⟨_, rfl⟩
  obtain ⟨a0, ha0⟩ : ∃ a0, a % 4294967296 = a0 := ⟨_, rfl⟩
  obtain ⟨b1, hb1⟩ : ∃ b1, b / 4294967296 = b1 := ⟨_, rfl⟩
  obtain ⟨b0, hb0⟩ : ∃ b0, b % 4294967296 = b0 := ⟨_, rfl⟩
  have ea : a = a1 * 4294967296 + a0 := by omega
  have eb : b = b1 * 4294967296 + b0 := by omega
  have x1 := aio a0 b0 (by omega) (by omega) (by omega) (by omega)
  have y1 := aio a1 b0 (by omega) (by omega) (by omega) (by omega)
  have z1 := aio a0 b1 (by omega) (by omega) (by omega) (by omega)
  have v1 := aio a1 b1 (by omega) (by omega) (by omega) (by omega)
  have id : a * b = a1 * b1 * 18446744073709551616 + (a1 * b0 + a0 * b1) * 4294967296 + a0 * b0 := by rw [ea, eb]; grind
  have hN : a * b < 18446744073709551616 * 18446744073709551616 := by
    have := Int.mul_le_mul (show a ≤ 18446744073709551615 by omega) (show b ≤ 18446744073709551615 by omega) hb.1 (by omega)
    omega
  unfold bits_Mul64.f
  rw [aho a ha.1 ha.2, aho b hb.1 hb.2, ha1, ha0, hb1, hb0]
  rw [wrap_u64 (a * b), id]
  rw [id] at hN
  obtain ⟨x, hx⟩ : ∃ x, a0 * b0 = x := ⟨_, rfl⟩
  obtain ⟨y, hy⟩ : ∃ y, a1 * b0 = y := ⟨_, rfl⟩
  obtain ⟨z, hz⟩ : ∃ z, a0 * b1 = z := ⟨_, rfl⟩
  obtain ⟨v, hv⟩ : ∃ v, a1 * b1 = v := ⟨_, rfl⟩
  simp only [hx, hy, hz, hv] at x1 y1 z1 v1 hN ⊢
  rw [wraps_u64 x (by omega) (by omega), wraps_u64 y (by omega) (by omega), wraps_u64 z (by omega) (by omega), wraps_u64 v (by omega) (by omega)]
  rw [wraps_u64 (y + x / 4294967296) (by omega) (by omega)]
  rw [aho (y + x / 4294967296) (by omega) (by omega)]
  rw [wraps_u64 ((y + x / 4294967296) % 4294967296 + z) (by omega) (by omega)]
  rw [wraps_u64 (v + (y + x / 4294967296) / 4294967296) (by omega) (by omega)]
  rw [wraps_u64 (v + (y + x / 4294967296) / 4294967296 + ((y + x / 4294967296) % 4294967296 + z) / 4294967296) (by omega) (by omega)]
  congr 1
  refine Prod.ext ?_ rfl
  show v + (y + x / 4294967296) / 4294967296 + ((y + x / 4294967296) % 4294967296 + z) / 4294967296 = (v * 18446744073709551616 + (y + z) * 4294967296 + x) / 18446744073709551616
  omega
theorem an4 (a : Int) (h1 : -9223372036854775808 ≤ a) (h2 : a ≤ 9223372036854775807) : lq.f a = some (if a < 0 then -a else a) := by
  unfold lq.f
  by_cases h : a < 0
  · rw [if_pos h, if_pos h, wrap_u64, wrap_u64]
    congr 1
    omega
  · rw [if_neg h, if_neg h, wrap_u64]
    congr 1
    omega
def afu (a b : Int) : Int × Int := if -9223372036854775808 ≤ a * b ∧ a * b ≤ 9223372036854775807 then (a * b, 0) else (0, 10)
theorem aud (a b : Int) (ha : -9223372036854775808 ≤ a ∧ a ≤ 9223372036854775807) (hb : 0 ≤ b ∧ b ≤ 9223372036854775807) : Ev (fun k => nA.f k a b) (afu a b) := by
  have sb : lq.f b = some b := by rw [an4 b (by omega) (by omega), if_neg (by omega)]
  obtain ⟨n, hn⟩ : ∃ n, (if a < 0 then -a else a) = n := ⟨_, rfl⟩
  have sa : lq.f a = some n := by rw [an4 a (by omega) (by omega), hn]
  have hn0 : 0 ≤ n ∧ n ≤ 9223372036854775808 := by split at hn <;> omega
  have hm : n * b = if a < 0 then -(a * b) else a * b := by
    rw [← hn]; split
    · rw [Int.neg_mul]
    · rfl
  have hp : 0 ≤ n * b := Int.mul_nonneg hn0.1 hb.1
  have hbd : (decide (b < 0)) = false := by simp; omega
  unfold nA.f
  simp only [sa, sb, Option.bind_some, arw n b (by omega) (by omega), hbd]
  by_cases hhi : n * b / 18446744073709551616 = 0
  · have hlt : n * b < 18446744073709551616 := by omega
    have hmod : n * b % 18446744073709551616 = n * b := by omega
    simp only [hhi, hmod, if_true]
    by_cases hs : a < 0
    · have e1 : ((decide (a < 0)) != false) = true := by simp [hs]
      rw [if_pos hs] at hm
      simp only [e1, dR.f, if_true]
      by_cases hz : n * b ≤ 9223372036854775808
      · refine Ev.congr (f := fun k => (dR.j0 k (n * b) true true).bind fun bt => some (bt.1, bt.2)) (fun k => by simp [hz]) ?_
        refine Ev.bind (a := (a * b, 0)) (Ev.step (f := fun _ => some (a * b, 0)) (fun k => ?_) (Ev.now _)) ?_
        · rw [dR.j0, if_pos rfl, wrap_u64]
          congr 2
          unfold wrap64; omega
        · have : afu a b = (a * b, 0) := by unfold afu; rw [if_pos (by omega)]
          rw [this]; exact Ev.now _
      · refine Ev.congr (f := fun k => (dR.j0 k (n * b) true false).bind fun bt => some (bt.1, bt.2)) (fun k => by simp [hz]) ?_
        refine Ev.bind (a := (0, 10)) (Ev.step (f := fun _ => some (0, 10)) (fun k => ?_) (Ev.now _)) ?_
        · rw [dR.j0, if_neg (by simp), if_pos rfl]
        · have : afu a b = (0, 10) := by unfold afu; rw [if_neg (by omega)]
          rw [this]; exact Ev.now _
    · have e1 : ((decide (a < 0)) != false) = false := by simp [hs]
      rw [if_neg hs] at hm
      simp only [e1, dR.f]
      refine Ev.congr (f := fun k => (dR.j0 k (n * b) false false).bind fun bt => some (bt.1, bt.2)) (fun k => by simp) ?_
      by_cases hz : n * b ≤ 9223372036854775807
      · refine Ev.bind (a := (a * b, 0)) (Ev.step (f := fun _ => some (a * b, 0)) (fun k => ?_) (Ev.now _)) ?_
        · rw [dR.j0, if_neg (by simp), if_neg (by simp), if_pos hz]
          congr 2
          unfold wrap64; omega
        · have : afu a b = (a * b, 0) := by unfold afu; rw [if_pos (by omega)]
          rw [this]; exact Ev.now _
      · refine Ev.bind (a := (0, 10)) (Ev.step (f := fun _ => some (0, 10)) (fun k => ?_) (Ev.now _)) ?_
        · rw [dR.j0, if_neg (by simp), if_neg (by simp), if_neg hz]
        · have : afu a b = (0, 10) := by unfold afu; rw [if_neg (by omega)]
          rw [this]; exact Ev.now _
  · refine Ev.congr (f := fun _ => some (0, 10)) (fun k => by simp only [hhi, if_false]) ?_
    have : afu a b = (0, 10) := by
      unfold afu; rw [if_neg]
      split at hm <;> omega
    rw [this]; exact Ev.now _
end Go.Proofs.Ytmbmalkpmanaaaa.P
